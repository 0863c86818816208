import PyProof.Rows.All
import Wide.All
import OpenK.AllK
import Wide.FinOn
import HandS.ForMost
import HandS.AnyAll
import PySem.Challenge.RW_sewnwhole_k32_whole_plans_place_the_patc
import HandS.Conv
import HandS.TupSets
import HandS.Codes
import HandS.EndTab
import KE.KNest
set_option Elab.async false
set_option linter.all false
set_option maxRecDepth 100000
set_option maxHeartbeats 8000000
/-! The mathematics of the law, with no program in sight. -/
namespace Sw

/-- a patch: top, left, height, width -/
structure P4 where
  t : Int
  l : Int
  h : Int
  w : Int
deriving DecidableEq

instance : Inhabited P4 := ⟨⟨0, 0, 0, 0⟩⟩

/-- a straight seam: vertical or not, its place -/
structure Sm where
  v : Bool
  at_ : Int

def lo (v : Bool) (p : P4) : Int := if v then p.l else p.t
def ln (v : Bool) (p : P4) : Int := if v then p.w else p.h
def ahead (s : Sm) (p : P4) : Bool := decide (lo s.v p < s.at_)

structure IsSm (ps : List P4) (s : Sm) : Prop where
  free : ∀ p ∈ ps, s.at_ ≤ lo s.v p ∨ lo s.v p + ln s.v p ≤ s.at_
  fst : ∃ p ∈ ps, lo s.v p < s.at_
  snd : ∃ p ∈ ps, s.at_ ≤ lo s.v p

/-- a step of a plan -/
inductive Step where
  | num (n : Nat)
  | dir (v : Bool)
deriving DecidableEq

inductive PlanFor (g : Nat → P4) : List Nat → List Step → Prop
  | one (n : Nat) : PlanFor g [n] [.num n]
  | cut {N : List Nat} {p q : List Step} (s : Sm) : IsSm (N.map g) s → PlanFor g (N.filter fun n => ahead s (g n)) p → PlanFor g (N.filter fun n => !ahead s (g n)) q → PlanFor g N (p ++ q ++ [.dir s.v])

inductive Sewable (g : Nat → P4) : List Nat → Prop
  | one (n : Nat) : Sewable g [n]
  | cut {N : List Nat} (s : Sm) : IsSm (N.map g) s → Sewable g (N.filter fun n => ahead s (g n)) → Sewable g (N.filter fun n => !ahead s (g n)) → Sewable g N

theorem PlanFor.sewable {g : Nat → P4} {N : List Nat} {p : List Step} (h : PlanFor g N p) : Sewable g N := by
  induction h with
  | one n => exact .one n
  | cut s hs _ _ i1 i2 => exact .cut s hs i1 i2

theorem filter_comm {α : Type} (l : List α) (a b : α → Bool) : (l.filter a).filter b = (l.filter b).filter a := by
  rw [List.filter_filter, List.filter_filter]
  congr 1
  funext x
  exact Bool.and_comm _ _

/-- any part of what can be sewn can be sewn -/
theorem Sewable.part {g : Nat → P4} {N : List Nat} (h : Sewable g N) : ∀ f : Nat → Bool, N.filter f = [] ∨ Sewable g (N.filter f) := by
  induction h with
  | one n =>
    intro f
    by_cases hf : f n = true
    · right
      rw [List.filter_cons_of_pos hf]
      exact .one n
    · left
      rw [List.filter_cons_of_neg hf]
      rfl
  | @cut N s hs _ _ i1 i2 =>
    intro f
    have e1 := i1 f
    have e2 := i2 f
    rw [filter_comm] at e1 e2
    rcases e1 with e1 | e1
    · rcases e2 with e2 | e2
      · left
        refine List.eq_nil_iff_forall_not_mem.mpr fun x hx => ?_
        by_cases ha : ahead s (g x) = true
        · have : x ∈ (N.filter f).filter fun n => ahead s (g n) := List.mem_filter.mpr ⟨hx, ha⟩
          rw [e1] at this
          cases this
        · have : x ∈ (N.filter f).filter fun n => !ahead s (g n) := List.mem_filter.mpr ⟨hx, by simp [ha]⟩
          rw [e2] at this
          cases this
      · right
        have : (N.filter f).filter (fun n => !ahead s (g n)) = N.filter f := by
          refine List.filter_eq_self.mpr fun x hx => ?_
          by_cases ha : ahead s (g x) = true
          · have : x ∈ (N.filter f).filter fun n => ahead s (g n) := List.mem_filter.mpr ⟨hx, ha⟩
            rw [e1] at this
            cases this
          · simp [ha]
        rw [this] at e2
        exact e2
    · rcases e2 with e2 | e2
      · right
        have : (N.filter f).filter (fun n => ahead s (g n)) = N.filter f := by
          refine List.filter_eq_self.mpr fun x hx => ?_
          by_cases ha : ahead s (g x) = true
          · exact ha
          · have : x ∈ (N.filter f).filter fun n => !ahead s (g n) := List.mem_filter.mpr ⟨hx, by simp [ha]⟩
            rw [e2] at this
            cases this
        rw [this] at e1
        exact e1
      · right
        refine .cut s ⟨fun p hp => ?_, ?_, ?_⟩ e1 e2
        · obtain ⟨n, hn, rfl⟩ := List.mem_map.mp hp
          exact hs.free _ (List.mem_map.mpr ⟨n, (List.mem_filter.mp hn).1, rfl⟩)
        · have ne : ∃ x, x ∈ (N.filter f).filter fun n => ahead s (g n) := by
            cases q : (N.filter f).filter fun n => ahead s (g n) with
            | nil => rw [q] at e1; cases e1 with
              | cut s' hs' => obtain ⟨p, hp, _⟩ := hs'.fst; cases hp
            | cons x r => exact ⟨x, List.mem_cons_self⟩
          obtain ⟨x, hx⟩ := ne
          obtain ⟨h1, h2⟩ := List.mem_filter.mp hx
          exact ⟨g x, List.mem_map.mpr ⟨x, h1, rfl⟩, of_decide_eq_true h2⟩
        · have ne : ∃ x, x ∈ (N.filter f).filter fun n => !ahead s (g n) := by
            cases q : (N.filter f).filter fun n => !ahead s (g n) with
            | nil => rw [q] at e2; cases e2 with
              | cut s' hs' => obtain ⟨p, hp, _⟩ := hs'.fst; cases hp
            | cons x r => exact ⟨x, List.mem_cons_self⟩
          obtain ⟨x, hx⟩ := ne
          obtain ⟨h1, h2⟩ := List.mem_filter.mp hx
          refine ⟨g x, List.mem_map.mpr ⟨x, h1, rfl⟩, ?_⟩
          have h3 : ahead s (g x) = false := by simpa using h2
          have := of_decide_eq_false h3
          omega

theorem Sewable.ne {g : Nat → P4} {N : List Nat} (h : Sewable g N) : N ≠ [] := by
  intro e
  subst e
  cases h with
  | cut s hs => obtain ⟨p, hp, _⟩ := hs.fst; cases hp

theorem IsSm.fst_ne {g : Nat → P4} {N : List Nat} {s : Sm} (h : IsSm (N.map g) s) : N.filter (fun n => ahead s (g n)) ≠ [] := by
  obtain ⟨p, hp, hl⟩ := h.fst
  obtain ⟨n, hn, rfl⟩ := List.mem_map.mp hp
  intro e
  have : n ∈ N.filter fun n => ahead s (g n) := List.mem_filter.mpr ⟨hn, decide_eq_true hl⟩
  rw [e] at this
  cases this
theorem IsSm.snd_ne {g : Nat → P4} {N : List Nat} {s : Sm} (h : IsSm (N.map g) s) : N.filter (fun n => !ahead s (g n)) ≠ [] := by
  obtain ⟨p, hp, hl⟩ := h.snd
  obtain ⟨n, hn, rfl⟩ := List.mem_map.mp hp
  intro e
  have : n ∈ N.filter fun n => !ahead s (g n) := by
    refine List.mem_filter.mpr ⟨hn, ?_⟩
    have : ahead s (g n) = false := decide_eq_false (by omega)
    simp [this]
  rw [e] at this
  cases this
theorem filter_lt {N : List Nat} {f : Nat → Bool} (h : N.filter (fun n => !f n) ≠ []) : (N.filter f).length < N.length := by
  obtain ⟨x, hx⟩ := List.exists_mem_of_ne_nil _ h
  obtain ⟨h1, h2⟩ := List.mem_filter.mp hx
  have h3 : f x = false := by simpa using h2
  refine Nat.lt_of_le_of_ne (List.length_filter_le _ _) fun e => ?_
  have := List.length_filter_eq_length_iff.mp e x h1
  rw [h3] at this
  cases this
theorem IsSm.fst_lt {g : Nat → P4} {N : List Nat} {s : Sm} (h : IsSm (N.map g) s) : (N.filter fun n => ahead s (g n)).length < N.length := filter_lt (f := fun n => ahead s (g n)) h.snd_ne
theorem IsSm.snd_lt {g : Nat → P4} {N : List Nat} {s : Sm} (h : IsSm (N.map g) s) : (N.filter fun n => !ahead s (g n)).length < N.length := by
  refine filter_lt (f := fun n => !ahead s (g n)) ?_
  have := h.fst_ne
  simpa using this
theorem Sewable.fst {g : Nat → P4} {N : List Nat} {s : Sm} (h : Sewable g N) (hs : IsSm (N.map g) s) : Sewable g (N.filter fun n => ahead s (g n)) := (h.part _).resolve_left hs.fst_ne
theorem Sewable.snd {g : Nat → P4} {N : List Nat} {s : Sm} (h : Sewable g N) (hs : IsSm (N.map g) s) : Sewable g (N.filter fun n => !ahead s (g n)) := (h.part _).resolve_left hs.snd_ne
theorem Sewable.seam {g : Nat → P4} {N : List Nat} (h : Sewable g N) (h1 : N.length ≠ 1) : ∃ s, IsSm (N.map g) s := by
  cases h with
  | one n => exact absurd rfl h1
  | cut s hs _ _ => exact ⟨s, hs⟩
theorem PlanFor.ne {g : Nat → P4} {N : List Nat} {p : List Step} (h : PlanFor g N p) : N ≠ [] := h.sewable.ne

/-! ### the rectangle that patches cover -/
structure Cover (ps : List P4) (T L H W : Int) : Prop where
  inn : ∀ p ∈ ps, T ≤ p.t ∧ p.t + p.h ≤ T + H ∧ L ≤ p.l ∧ p.l + p.w ≤ L + W ∧ 1 ≤ p.h ∧ 1 ≤ p.w
  all : ∀ r c, T ≤ r → r < T + H → L ≤ c → c < L + W → ∃ p ∈ ps, p.t ≤ r ∧ r < p.t + p.h ∧ p.l ≤ c ∧ c < p.l + p.w

theorem Cover.pos {ps : List P4} {T L H W : Int} (h : Cover ps T L H W) (hne : ps ≠ []) : 1 ≤ H ∧ 1 ≤ W := by
  obtain ⟨p, hp⟩ := List.exists_mem_of_ne_nil _ hne
  have := h.inn p hp
  omega
theorem Cover.single {p : P4} {T L H W : Int} (h : Cover [p] T L H W) : p = ⟨T, L, H, W⟩ := by
  obtain ⟨t, l, hh, w⟩ := p
  have a := h.inn _ List.mem_cons_self
  simp only at a
  obtain ⟨p1, m1, b1⟩ := h.all T L (by omega) (by omega) (by omega) (by omega)
  obtain ⟨p2, m2, b2⟩ := h.all (T + H - 1) (L + W - 1) (by omega) (by omega) (by omega) (by omega)
  have e1 := List.mem_singleton.mp m1
  have e2 := List.mem_singleton.mp m2
  subst e1 e2
  simp only at b1 b2
  have h1 : t = T := by omega
  have h2 : l = L := by omega
  have h3 : hh = H := by omega
  have h4 : w = W := by omega
  subst h1 h2 h3 h4
  rfl
theorem Cover.vert {ps : List P4} {T L H W x : Int} (h : Cover ps T L H W) (hs : IsSm ps ⟨true, x⟩) :
    Cover (ps.filter (ahead ⟨true, x⟩)) T L H (x - L) ∧ Cover (ps.filter fun p => !ahead ⟨true, x⟩ p) T x H (L + W - x) := by
  obtain ⟨hf, ⟨p1, m1, b1⟩, ⟨p2, m2, b2⟩⟩ := hs
  simp only [lo, ln, if_true] at hf b1 b2
  have a1 := h.inn p1 m1
  have a2 := h.inn p2 m2
  refine ⟨⟨fun p hp => ?_, fun r c h1 h2 h3 h4 => ?_⟩, ⟨fun p hp => ?_, fun r c h1 h2 h3 h4 => ?_⟩⟩
  · obtain ⟨hp, ha⟩ := List.mem_filter.mp hp
    have ha : p.l < x := of_decide_eq_true ha
    have a := h.inn p hp
    have f := hf p hp
    omega
  · obtain ⟨p, hp, b⟩ := h.all r c h1 h2 h3 (by omega)
    exact ⟨p, List.mem_filter.mpr ⟨hp, decide_eq_true (show p.l < x by omega)⟩, b⟩
  · obtain ⟨hp, ha⟩ := List.mem_filter.mp hp
    have ha : ahead ⟨true, x⟩ p = false := by simpa using ha
    have ha : ¬ p.l < x := of_decide_eq_false ha
    have a := h.inn p hp
    omega
  · obtain ⟨p, hp, b⟩ := h.all r c h1 h2 (by omega) (by omega)
    refine ⟨p, List.mem_filter.mpr ⟨hp, ?_⟩, b⟩
    have f := hf p hp
    have : ahead ⟨true, x⟩ p = false := decide_eq_false (show ¬ p.l < x by omega)
    simp [this]
theorem Cover.horz {ps : List P4} {T L H W x : Int} (h : Cover ps T L H W) (hs : IsSm ps ⟨false, x⟩) :
    Cover (ps.filter (ahead ⟨false, x⟩)) T L (x - T) W ∧ Cover (ps.filter fun p => !ahead ⟨false, x⟩ p) x L (T + H - x) W := by
  obtain ⟨hf, ⟨p1, m1, b1⟩, ⟨p2, m2, b2⟩⟩ := hs
  simp only [lo, ln, Bool.false_eq_true, if_false] at hf b1 b2
  have a1 := h.inn p1 m1
  have a2 := h.inn p2 m2
  refine ⟨⟨fun p hp => ?_, fun r c h1 h2 h3 h4 => ?_⟩, ⟨fun p hp => ?_, fun r c h1 h2 h3 h4 => ?_⟩⟩
  · obtain ⟨hp, ha⟩ := List.mem_filter.mp hp
    have ha : p.t < x := of_decide_eq_true ha
    have a := h.inn p hp
    have f := hf p hp
    omega
  · obtain ⟨p, hp, b⟩ := h.all r c h1 (by omega) h3 h4
    exact ⟨p, List.mem_filter.mpr ⟨hp, decide_eq_true (show p.t < x by omega)⟩, b⟩
  · obtain ⟨hp, ha⟩ := List.mem_filter.mp hp
    have ha : ahead ⟨false, x⟩ p = false := by simpa using ha
    have ha : ¬ p.t < x := of_decide_eq_false ha
    have a := h.inn p hp
    omega
  · obtain ⟨p, hp, b⟩ := h.all r c (by omega) (by omega) h3 h4
    refine ⟨p, List.mem_filter.mpr ⟨hp, ?_⟩, b⟩
    have f := hf p hp
    have : ahead ⟨false, x⟩ p = false := decide_eq_false (show ¬ p.t < x by omega)
    simp [this]

/-! ### the stack machine -/
structure Part where
  h : Int
  w : Int
  pl : List (Nat × Int × Int)
structure Mc where
  stack : List Part
  used : List Nat

def put (a b : Part) : Bool → Part
  | true => ⟨a.h, a.w + b.w, a.pl ++ b.pl.map fun x => (x.1, x.2.1, x.2.2 + a.w)⟩
  | false => ⟨a.h + b.h, a.w, a.pl ++ b.pl.map fun x => (x.1, x.2.1 + a.h, x.2.2)⟩
/-- the join may be made -/
def fitsJ (a b : Part) : Bool → Prop
  | true => a.h = b.h ∧ a.w + b.w ≤ 10
  | false => a.w = b.w ∧ a.h + b.h ≤ 10
/-- one step of a plan, g the patches, n their number -/
inductive Turn (g : Nat → P4) (n : Nat) : Step → Mc → Mc → Prop
  | num {S : List Part} {U : List Nat} (k : Nat) : k < n → k ∉ U → Turn g n (.num k) ⟨S, U⟩ ⟨S ++ [⟨(g k).h, (g k).w, [(k, 0, 0)]⟩], U ++ [k]⟩
  | dir {S : List Part} {U : List Nat} (a b : Part) (v : Bool) : fitsJ a b v → Turn g n (.dir v) ⟨S ++ [a, b], U⟩ ⟨S ++ [put a b v], U⟩
inductive Runs (g : Nat → P4) (n : Nat) : List Step → Mc → Mc → Prop
  | nil {m : Mc} : Runs g n [] m m
  | cons {st : Step} {r : List Step} {m m1 m2 : Mc} : Turn g n st m m1 → Runs g n r m1 m2 → Runs g n (st :: r) m m2
theorem Runs.app {g : Nat → P4} {n : Nat} {p q : List Step} {m m1 m2 : Mc} (h1 : Runs g n p m m1) (h2 : Runs g n q m1 m2) : Runs g n (p ++ q) m m2 := by
  induction h1 with
  | nil => exact h2
  | cons t _ ih => exact .cons t (ih h2)

/-- the numbers of a plan, in its order -/
def nums : List Step → List Nat
  | [] => []
  | .num n :: r => n :: nums r
  | .dir _ :: r => nums r
theorem nums_app : ∀ p q : List Step, nums (p ++ q) = nums p ++ nums q
  | [], _ => rfl
  | .num n :: r, q => by
    show n :: nums (r ++ q) = n :: (nums r ++ nums q)
    rw [nums_app r q]
  | .dir _ :: r, q => nums_app r q
theorem filter_perm {α : Type} (f : α → Bool) : ∀ l : List α, (l.filter f ++ l.filter fun x => !f x).Perm l
  | [] => .nil
  | x :: r => by
    have ih := filter_perm f r
    by_cases h : f x = true
    · have h2 : ¬ (!f x) = true := by simp [h]
      rw [List.filter_cons_of_pos h, List.filter_cons_of_neg (p := fun x => !f x) h2]
      exact ih.cons x
    · have h2 : (!f x) = true := by simp [h]
      rw [List.filter_cons_of_neg h, List.filter_cons_of_pos (p := fun x => !f x) h2]
      exact List.perm_middle.trans (ih.cons x)
theorem PlanFor.perm {g : Nat → P4} {N : List Nat} {p : List Step} (h : PlanFor g N p) : (nums p).Perm N := by
  induction h with
  | one n => exact .refl _
  | @cut N p q s _ _ _ i1 i2 =>
    rw [nums_app, nums_app]
    show ((nums p ++ nums q) ++ []).Perm N
    rw [List.append_nil]
    exact (i1.append i2).trans (filter_perm _ N)
theorem map_filter' (g : Nat → P4) (f : P4 → Bool) (N : List Nat) : (N.filter fun n => f (g n)).map g = (N.map g).filter f := by
  rw [List.filter_map]
  rfl
/-- a plan, carried out -/
theorem PlanFor.runs {g : Nat → P4} {n : Nat} {N : List Nat} {p : List Step} (h : PlanFor g N p) : ∀ (T L H W : Int) (S : List Part) (U : List Nat), Cover (N.map g) T L H W → H ≤ 10 → W ≤ 10 → N.Nodup → (∀ k ∈ N, k < n ∧ k ∉ U) →
    Runs g n p ⟨S, U⟩ ⟨S ++ [⟨H, W, (nums p).map fun k => (k, (g k).t - T, (g k).l - L)⟩], U ++ nums p⟩ := by
  induction h with
  | one k =>
    intro T L H W S U hc h1 h2 nd hk
    have e := hc.single
    have := Turn.num (g := g) (n := n) (S := S) (U := U) k (hk k List.mem_cons_self).1 (hk k List.mem_cons_self).2
    rw [e] at this
    refine .cons this ?_
    show Runs g n [] _ ⟨S ++ [⟨H, W, [(k, (g k).t - T, (g k).l - L)]⟩], U ++ [k]⟩
    rw [e]
    simp only [Int.sub_self]
    exact .nil
  | @cut N p q s hs hp hq i1 i2 =>
    intro T L H W S U hc h1 h2 nd hk
    obtain ⟨v, x⟩ := s
    have nd1 : (N.filter fun n => ahead ⟨v, x⟩ (g n)).Nodup := nd.filter _
    have nd2 : (N.filter fun n => !ahead ⟨v, x⟩ (g n)).Nodup := nd.filter _
    have k1 : ∀ k ∈ N.filter (fun n => ahead ⟨v, x⟩ (g n)), k < n ∧ k ∉ U := fun k hm => hk k (List.mem_filter.mp hm).1
    have k2 : ∀ k ∈ N.filter (fun n => !ahead ⟨v, x⟩ (g n)), k < n ∧ k ∉ U ++ nums p := fun k hm => by
      obtain ⟨a, b⟩ := List.mem_filter.mp hm
      refine ⟨(hk k a).1, fun z => ?_⟩
      rcases List.mem_append.mp z with z | z
      · exact (hk k a).2 z
      · have := (List.mem_filter.mp (hp.perm.mem_iff.mp z)).2
        rw [this] at b
        cases b
    have ne1 := hp.ne
    have ne2 := hq.ne
    cases v with
    | true =>
      obtain ⟨c1, c2⟩ := hc.vert hs
      rw [← map_filter' g (ahead ⟨true, x⟩)] at c1
      rw [← map_filter' g (fun p => !ahead ⟨true, x⟩ p)] at c2
      have q1 := c1.pos (by simpa using ne1)
      have q2 := c2.pos (by simpa using ne2)
      have r1 := i1 T L H (x - L) S U c1 h1 (by omega) nd1 k1
      have r2 := i2 T x H (L + W - x) (S ++ [⟨H, x - L, (nums p).map fun k => (k, (g k).t - T, (g k).l - L)⟩]) (U ++ nums p) c2 h1 (by omega) nd2 k2
      refine (r1.app r2).app (.cons (m1 := ⟨S ++ [⟨H, W, (nums (p ++ q ++ [.dir true])).map fun k => (k, (g k).t - T, (g k).l - L)⟩], U ++ nums (p ++ q ++ [.dir true])⟩) ?_ .nil)
      have t := Turn.dir (g := g) (n := n) (S := S) (U := U ++ nums p ++ nums q) ⟨H, x - L, (nums p).map fun k => (k, (g k).t - T, (g k).l - L)⟩ ⟨H, L + W - x, (nums q).map fun k => (k, (g k).t - T, (g k).l - x)⟩ true ⟨rfl, by show x - L + (L + W - x) ≤ 10; omega⟩
      have e1 : nums (p ++ q ++ [.dir true]) = nums p ++ nums q := by
        rw [nums_app, nums_app]
        show (nums p ++ nums q) ++ [] = _
        rw [List.append_nil]
      have e2 : put ⟨H, x - L, (nums p).map fun k => (k, (g k).t - T, (g k).l - L)⟩ ⟨H, L + W - x, (nums q).map fun k => (k, (g k).t - T, (g k).l - x)⟩ true = ⟨H, W, (nums p ++ nums q).map fun k => (k, (g k).t - T, (g k).l - L)⟩ := by
        have ew : x - L + (L + W - x) = W := by omega
        simp only [put, List.map_map, List.map_append, ew, Part.mk.injEq, true_and]
        congr 1
        refine List.map_congr_left fun k _ => ?_
        simp only [Function.comp, Prod.mk.injEq, true_and]
        omega
      rw [e1, ← List.append_assoc]
      rw [e2] at t
      rw [List.append_assoc S]
      exact t
    | false =>
      obtain ⟨c1, c2⟩ := hc.horz hs
      rw [← map_filter' g (ahead ⟨false, x⟩)] at c1
      rw [← map_filter' g (fun p => !ahead ⟨false, x⟩ p)] at c2
      have q1 := c1.pos (by simpa using ne1)
      have q2 := c2.pos (by simpa using ne2)
      have r1 := i1 T L (x - T) W S U c1 (by omega) h2 nd1 k1
      have r2 := i2 x L (T + H - x) W (S ++ [⟨x - T, W, (nums p).map fun k => (k, (g k).t - T, (g k).l - L)⟩]) (U ++ nums p) c2 (by omega) h2 nd2 k2
      refine (r1.app r2).app (.cons (m1 := ⟨S ++ [⟨H, W, (nums (p ++ q ++ [.dir false])).map fun k => (k, (g k).t - T, (g k).l - L)⟩], U ++ nums (p ++ q ++ [.dir false])⟩) ?_ .nil)
      have t := Turn.dir (g := g) (n := n) (S := S) (U := U ++ nums p ++ nums q) ⟨x - T, W, (nums p).map fun k => (k, (g k).t - T, (g k).l - L)⟩ ⟨T + H - x, W, (nums q).map fun k => (k, (g k).t - x, (g k).l - L)⟩ false ⟨rfl, by show x - T + (T + H - x) ≤ 10; omega⟩
      have e1 : nums (p ++ q ++ [.dir false]) = nums p ++ nums q := by
        rw [nums_app, nums_app]
        show (nums p ++ nums q) ++ [] = _
        rw [List.append_nil]
      have e2 : put ⟨x - T, W, (nums p).map fun k => (k, (g k).t - T, (g k).l - L)⟩ ⟨T + H - x, W, (nums q).map fun k => (k, (g k).t - x, (g k).l - L)⟩ false = ⟨H, W, (nums p ++ nums q).map fun k => (k, (g k).t - T, (g k).l - L)⟩ := by
        have ew : x - T + (T + H - x) = H := by omega
        simp only [put, List.map_map, List.map_append, ew, Part.mk.injEq, true_and]
        congr 1
        refine List.map_congr_left fun k _ => ?_
        simp only [Function.comp, Prod.mk.injEq, true_and, and_true]
        omega
      rw [e1, ← List.append_assoc]
      rw [e2] at t
      rw [List.append_assoc S]
      exact t
end Sw
/-! all(test of a patch and a captured int for patch in a list of tuples) -/
namespace Sw
open PySem PySem.Spec PyProof.Rows L2 GxR
/-- a patch's tuple -/
def pv4 (p : P4) : List V := [.int p.t, .int p.l, .int p.h, .int p.w]
/-- patches at addresses -/
def Pats (K : PySem.W.Frag) (H : Hp) (as : List Addr) (ps : List P4) : Prop := as.length = ps.length ∧ ∀ (i : Nat) (a : Addr) (p : P4), as[i]? = some a → ps[i]? = some p → SqT K H a (pv4 p)

section
variable {prog : Program} {w : World} {A : Around} {E : Value → Shared → Prop} {s : Shared} {cenv : Env} {m : Str → Option Value} {x y : Str}
theorem sub_item {k : Nat} {j : Nat} {px pk pos : Pos} {a : Addr} {its : List Value} {u : Value} {Q : Value → Shared → Prop} (hk : cenv.scope.kind = .function) (hl : cenv.scope.names.lookup x = some .local) (hn : s.heap.Ns cenv.locals m) (hm : m x = some (.ref a))
    (ht : IsTup s.heap a its.toArray) (hz : its.length ≤ 100) (hi : its[k]? = some u) (hd : (x == ("__debug__" : Str)) = false) (h : Q u { s with toks := s.toks + 1 }) :
    wpAny (model prog w) A (eval (.Subscript (.Name x px) (.Constant (.int (k : Int)) j pk) pos) cenv) Q E s := by
  refine Subscript_ (wpAny_Name (wpAny_loadName_local hk hl hn hm ?_) hd)
  refine wpAny_Constant_int ?_
  have hkl : k < its.length := (List.getElem?_eq_some_iff.mp hi).1
  have ht9 : IsTup ({ s with toks := s.toks + 1 } : Shared).heap a its.toArray := ht
  have hj : seqIndex? (k : Int) its.toArray.size = some k := by
    rw [List.size_toArray, seqIndex_of (by omega) (by omega)]
    simp
  refine subscriptTail_builtinR (x := u) (T := "tuple") ht9.typeIs slot_tuple_getitem.lookup ?_ (by with_unfolding_all rfl)
  exact PyProof.Rows.getItem_tuple (k := (k : Int)) (j := k) ht9 (by omega) (by omega) hj (by simpa using hi) ⟨rfl, h⟩
theorem name_free {py : Pos} {c : Addr} {u : Value} {Q : Value → Shared → Prop} (hk : cenv.scope.kind = .function) (hl : cenv.scope.names.lookup y = some .free) (hc : cenv.cells.lookup y = some c) (hv : s.heap.IsCell c (some u)) (hd : (y == ("__debug__" : Str)) = false)
    (hcd : (y == ("__classdict__" : Str)) = false) (h : Q u s) : wpAny (model prog w) A (eval (.Name y py) cenv) Q E s :=
  wpAny_Name (wpAny_loadName_free hk hl hc hv h hcd) hd
/-- the element: a test of the patch p at x and of the int z captured at y -/
def EltP4 (prog : Program) (w : World) (scope : Scope) (x y : Str) (elt : Expr) (f : P4 → Int → Bool) : Prop :=
  ∀ (cenv : Env) (A' : Around) (E' : Value → Shared → Prop) (a c : Addr) (p : P4) (z : Int) (tz : Tok) (its : List Value) (s₂ : Shared) (m₂ : Str → Option Value), cenv.scope = scope → cenv.cells.lookup y = some c → s₂.heap.IsCell c (some (.int z tz)) →
    IsTup s₂.heap a its.toArray → Vals (pv4 p) its → s₂.heap.Ns cenv.locals m₂ → m₂ x = some (.ref a) → wpAny (model prog w) A' (eval elt cenv) (fun y s₃ => y = .bool (f p z) ∧ Keeps s₂ s₃) E' s₂
theorem vals4 {p : P4} {its : List Value} (h : Vals (pv4 p) its) : ∃ t1 t2 t3 t4, its = [.int p.t t1, .int p.l t2, .int p.h t3, .int p.w t4] := by
  unfold pv4 at h
  cases h with
  | cons r1 h =>
    cases h with
    | cons r2 h =>
      cases h with
      | cons r3 h =>
        cases h with
        | cons r4 h =>
          cases h
          obtain ⟨t1, rfl⟩ := r1
          obtain ⟨t2, rfl⟩ := r2
          obtain ⟨t3, rfl⟩ := r3
          obtain ⟨t4, rfl⟩ := r4
          exact ⟨t1, t2, t3, t4, rfl⟩
/-- x[i] >= y or x[i] + x[j] <= y -/
theorem elt_side {scope : Scope} {i j : Nat} {n1 n2 n3 : Nat} {p1 p2 p3 p4 p5 p6 p7 p8 p9 pa pb pc pd pe' pf : Pos} {fi fj : P4 → Int} (hk : scope.kind = .function) (hl : scope.names.lookup x = some .local) (hf : scope.names.lookup y = some .free)
    (hd : (x == ("__debug__" : Str)) = false) (hdy : (y == ("__debug__" : Str)) = false) (hcd : (y == ("__classdict__" : Str)) = false)
    (hi : ∀ p its, Vals (pv4 p) its → ∃ t, its[i]? = some (.int (fi p) t)) (hj : ∀ p its, Vals (pv4 p) its → ∃ t, its[j]? = some (.int (fj p) t)) :
    EltP4 prog w scope x y (.BoolOp .Or [.Compare (.Subscript (.Name x p1) (.Constant (.int (i : Int)) n1 p2) p3) [.GtE] [.Name y p4] p5,
      .Compare (.BinOp (.Subscript (.Name x p6) (.Constant (.int (i : Int)) n2 p7) p8) .Add (.Subscript (.Name x p9) (.Constant (.int (j : Int)) n3 pa) pb) pc) [.LtE] [.Name y pd] pe'] pf)
      (fun p z => decide (z ≤ fi p) || decide (fi p + fj p ≤ z)) := by
  intro cenv A' E' a c p z tz its s₂ m₂ hs hc hcell ht hv hn hm
  have hz : its.length ≤ 100 := by
    rw [← hv.length]
    show 4 ≤ 100
    decide
  obtain ⟨ti, ei⟩ := hi p its hv
  obtain ⟨tj, ej⟩ := hj p its hv
  have hk' : cenv.scope.kind = .function := by rw [hs]; exact hk
  have hl' : cenv.scope.names.lookup x = some .local := by rw [hs]; exact hl
  have hf' : cenv.scope.names.lookup y = some .free := by rw [hs]; exact hf
  refine BoolOp_or (wpAny_Compare1 (sub_item hk' hl' hn hm ht hz ei hd (name_free hk' hf' hc hcell hdy hcd (ge_int (wpAny_truthy_bool ?_)))))
  by_cases h1 : z ≤ fi p
  · rw [if_pos (decide_eq_true h1)]
    refine ⟨?_, ?_⟩
    · show Value.bool (decide (z ≤ fi p)) = Value.bool (decide (z ≤ fi p) || decide (fi p + fj p ≤ z))
      rw [decide_eq_true h1, Bool.true_or]
    · exact keeps_tok _ _
  · rw [if_neg (by simp [h1])]
    refine BoolOp_one (wpAny_Compare1 (wpAny_BinOp (sub_item (s := { s₂ with toks := s₂.toks + 1 }) hk' hl' hn hm ht hz ei hd (sub_item (s := { s₂ with toks := s₂.toks + 1 + 1 }) hk' hl' hn hm ht hz ej hd (add_int ?_)))))
    refine name_free hk' hf' hc hcell hdy hcd (le_int ⟨?_, keeps_tok _ _⟩)
    show Value.bool (decide (fi p + fj p ≤ z)) = Value.bool (decide (z ≤ fi p) || decide (fi p + fj p ≤ z))
    rw [decide_eq_false h1, Bool.false_or]
end

end Sw
/-! all(test of a patch and a captured int for patch in a list of tuples) -/
namespace Sw
open PySem PySem.Spec PyProof.Rows L2 GxR
/-- the test at place j -/
def trP (f : P4 → Bool) (l : List P4) (j : Nat) : Bool := match l[j]? with
  | some p => f p
  | none => false
theorem trP_some {f : P4 → Bool} {l : List P4} {j : Nat} {p : P4} (h : l[j]? = some p) : trP f l j = f p := by
  unfold trP
  rw [h]
theorem all_trP (l : List P4) (f : P4 → Bool) : (List.range l.length).all (trP f l) = l.all f := by
  rw [Bool.eq_iff_iff, List.all_eq_true, List.all_eq_true]
  constructor
  · intro h b hb
    obtain ⟨j, hj, e⟩ := List.getElem_of_mem hb
    have q := h j (List.mem_range.mpr hj)
    rw [trP_some (List.getElem?_eq_getElem hj), e] at q
    exact q
  · intro h j hj
    have hj' := List.mem_range.mp hj
    rw [trP_some (List.getElem?_eq_getElem hj')]
    exact h _ (List.getElem_mem hj')
section
variable {X : Cx} {pins : List (Addr × Obj)} {σ : L2.St} {H : Hp} {s : Shared}
/-- the generator g over n patches, ready to be walked, in the state s5; H1: what was held before -/
def ReadyL (X : Cx) (pins : List (Addr × Obj)) (σ : L2.St) (H1 : Hp) (P : Addr) (n : Nat) (tr : Nat → Bool) (g : Addr) (s5 : Shared) : Prop :=
  ∃ (fp wr : List Addr) (G : Array GenState → Array GenState → Prop) (F : Nat → Value → Prop) (St : Nat → Shared → Prop),
    WalksS X.prog X.w X.A.in1 g fp wr G n F St ∧ St 0 s5 ∧ TruthOf X.prog X.w X.A.in1 F tr ∧ ∀ s', Moved wr G s5 s' → ∃ H2, Tabbed P H1 H2 ∧ Inv X pins σ H2 s'

theorem gen_pats {c P : Addr} {elt iter : Expr} {x y : Str} {px gpos : Pos} {scope : Scope} {f : P4 → Int → Bool} {te : TE} {k iy : Nat} {Q' : Value → Shared → Prop} {R : List P4 → Int → Hp → Prop}
    (hr : Room k X.A) (TB : TabB X.base X.mg c P) (hcode : X.env.code = .ref c) (S : GenS X.env scope x) (hi : PE X iter te) (hel : EltP4 X.prog X.w scope x y elt f)
    (hNy : X.N[iy]? = some y) (hky : X.env.scope.names.lookup y = some .cell) (hcy : ∀ (cells : List (Str × Addr)) (c : Addr), cells.lookup y = some c → (cloFrom cells scope.names []).lookup y = some c)
    (hs : ∀ v, genFold iter X.env v = pure v) (I : Inv X pins σ H s)
    (h : te σ H fun v H1 => ∃ (yl : Addr) (as : List Addr) (ps : List P4) (z : Int), v = .ref yl ∧ SqL X.K H1 yl (as.map V.ref) ∧ Pats X.K H1 as ps ∧ σ[iy]? = some (some (.int z)) ∧ TabG H1 P ∧ R ps z H1)
    (hQ : ∀ ps z H1 g s5, R ps z H1 → ReadyL X pins σ H1 P ps.length (trP (fun p => f p z) ps) g s5 → Q' (.ref g) s5) :
    wpAny (model X.prog X.w) X.A (eval (.GeneratorExp elt [⟨.Name x px, iter, [], 0⟩] scope gpos) X.env) Q' X.xe s := by
  refine wpAny_GeneratorExp_walksQ hr.hd S.co (closure_ok S.free) S.cell S.dot S.loc S.kind (by have := hr.dp; omega) ?_ hs
  refine thn (hi.run pins s σ H _ I h) fun xv s1 ⟨v, H1, I1, r1, q1⟩ => ?_
  obtain ⟨yl, as, ps, z, rfl, hyl, hP4, hσ, ⟨pt, hP, ht⟩, q1⟩ := q1
  obtain rfl : xv = Value.ref yl := r1
  obtain ⟨its, rv, hl, hz⟩ := I1.list hyl
  have hIL := hl.isList
  have hlen : its.length = ps.length := by rw [← rv.length, List.length_map]; exact hP4.1
  have hPs : s1.heap.get? P = some { cls := .none, data := .fields pt } := I1.hok P _ hP
  -- the items: tuples of the patches
  have hat : ∀ (i : Nat) (v : Value), its.toArray[i]? = some v → ∃ (a : Addr) (p : P4) (ts : List Value), ps[i]? = some p ∧ v = .ref a ∧ Vals (pv4 p) ts ∧ IsTup s1.heap a ts.toArray ∧ a ≠ P := fun i v hv => by
    have hv2 : its[i]? = some v := by simpa using hv
    have hi2 : i < its.length := (List.getElem?_eq_some_iff.mp hv2).1
    obtain ⟨p, hp⟩ : ∃ p, ps[i]? = some p := ⟨ps[i]'(by omega), List.getElem?_eq_getElem _⟩
    obtain ⟨a, ha⟩ : ∃ a, as[i]? = some a := ⟨as[i]'(by rw [hP4.1]; omega), List.getElem?_eq_getElem _⟩
    have hb : (as.map V.ref)[i]? = some (V.ref a) := by rw [List.getElem?_map, ha] <;> rfl
    obtain ⟨u, hu, ru⟩ := rv.get hb
    rw [hv2] at hu
    cases hu
    obtain rfl : v = Value.ref a := ru
    obtain ⟨ts, rt, hT, _⟩ := I1.tuple (hP4.2 i a p ha hp)
    refine ⟨a, p, ts, hp, rfl, rt, hT, fun z => ?_⟩
    obtain ⟨o, eo, hc, _⟩ := hT
    rw [z, hPs] at eo
    cases eo
    cases hc
  -- the captured int's cell
  obtain ⟨cy, tz, hcl, hcell⟩ : ∃ cy tz, X.env.cells.lookup y = some cy ∧ s1.heap.IsCell cy (some (.int z tz)) := by
    obtain ⟨m, hn, hlk⟩ := I1.loc
    obtain ⟨u, ru, lk⟩ := hlk iy y (.int z) hNy hσ (.inr (.inl hky))
    obtain ⟨tz, rfl⟩ := (show ∃ t, u = Value.int z t from ru)
    rcases lk with ⟨hk, _⟩ | ⟨_, cc, h1, h2⟩
    · have hk2 : X.env.scope.names.lookup y = some .local := hk
      rw [hky] at hk2
      cases hk2
    · exact ⟨cc, tz, h1, h2⟩
  have hcyP : cy ≠ P := fun z => by
    obtain ⟨o, eo, hd⟩ := hcell
    rw [z, hPs] at eo
    cases eo
    cases hd
  refine wpAny_pyIter_list hIL ?_
  generalize ho : ({ cls := .type "list_iterator", data := .fields #[.ref yl, .int 0 0] } : Obj) = o
  have hitr : (s1.heap.push o).IsListIter s1.heap.objs.size yl 0 := by
    subst ho
    exact ⟨_, Heap.get?_push_size _ rfl, rfl, rfl⟩
  have hylt : yl < s1.heap.objs.size := by
    obtain ⟨_, e, _⟩ := _root_.id hIL
    exact Heap.lt_size e
  have hPlt : P < s1.heap.objs.size := Heap.lt_size hPs
  have hP2 : (s1.heap.push o).get? P = some { cls := .none, data := .fields pt } := Heap.get?_push_of_some _ hPs
  have cd : PySem.W.CodeHd (s1.heap.push o) c P := TB.code.keeps fun b u e => Heap.get?_push_of_some _ (I1.bk b u e)
  have lim2 : (s1.heap.push o).NoLimit := I1.nolimit.push o
  have cont : ∀ (code : Value) (h3 : Heap) (tk : Nat) (ps' : Array Value), Heap.ExtBut P (s1.heap.push o) h3 → (s1.heap.push o).objs.size ≤ h3.objs.size → h3.get? P = some { cls := .none, data := .fields ps' } → (∃ more, ps' = pt ++ more) → TriplesOk ps'.toList →
      wpAny (model X.prog X.w) X.A (builtinsFor X.env.globals X.env.builtins) (fun bi s₄ =>
        ∃ Ia fp wr n₀ Pf St₀ pz F, Value.ref s1.heap.objs.size = .ref Ia ∧ (∀ A' : Around, A'.handled = none → Walks X.prog X.w A' Ia fp wr n₀ Pf St₀) ∧ St₀ 0 s₄.heap ∧ (∀ b ∈ fp, b < s₄.heap.objs.size) ∧ s₄.heap.NoLimit ∧ cStatics ∉ wr ∧
          (∀ href : Heap, (∀ b o, s₄.heap.get? b = some o → href.get? b = some o) →
            QuietGen X.prog X.w (genEnv scope (cloFrom X.env.cells scope.names []) s₄.heap.objs.size code bi X.env) x [] elt (List.range s₄.heap.objs.size) wr Pf pz F href) ∧
          (∀ a h₅ tk gs, gs.bare = true → s₄.heap.objs.size < a → h₅.objs.size = a + 1 → (∀ b o, s₄.heap.get? b = some o → h₅.get? b = some o) →
            WalksS X.prog X.w X.A.in4 a (a :: s₄.heap.objs.size :: List.range s₄.heap.objs.size) (s₄.heap.objs.size :: wr) (GenOnlyQ s₄.gens.size) (passing pz n₀ 0).length
              (fun j y => ∃ i, (passing pz n₀ 0)[j]? = some i ∧ F i y) (GenAt X.prog X.w X.A.in4 a s₄.gens.size s₄.heap.objs.size (List.range s₄.heap.objs.size) wr pz n₀ F) →
            GenAt X.prog X.w X.A.in4 a s₄.gens.size s₄.heap.objs.size (List.range s₄.heap.objs.size) wr pz n₀ F 0 { s₄ with gens := s₄.gens.push gs, toks := tk, heap := h₅ } →
            Q' (.ref a) { s₄ with gens := s₄.gens.push gs, toks := tk, heap := h₅ })) X.xe { s1 with heap := h3, toks := tk } := by
    intro code h3 tk ps' hx hsz hP3 hmore ht3
    obtain ⟨bm, ob, e1, e2, e3, e4, e5, e6, e7, e8⟩ := TB.bm
    have hcP : cStatics ≠ P := fun e => by
      obtain ⟨_, hns, _⟩ := I1.nolimit
      obtain ⟨o', es, ep, ho, hd, _⟩ := hns
      rw [e, hPs] at ho
      cases ho
      cases hd
    have hcl9 : cStatics < s1.heap.objs.size := let ⟨_, hns, _⟩ := I1.nolimit; hns.lt
    have sz2 : (s1.heap.push o).objs.size = s1.heap.objs.size + 1 := Heap.size_push ..
    have keep3 : ∀ b u, b ≠ P → s1.heap.get? b = some u → h3.get? b = some u := fun b u hb e => hx b u hb (Heap.get?_push_of_some _ e)
    refine wpAny_builtinsFor (m := X.mg) (by rw [I1.ok.glob]; exact ((I1.mod.glob.keeps I1.bk).push o).extBut hx TB.gP) e1 e2 (keep3 _ _ e4 (I1.bk _ _ e5)) e6 e7 e8 ?_
    have hylP : yl ≠ P := fun z => by
      obtain ⟨_, e, hc1, _, hd1⟩ := _root_.id hIL
      rw [z, hPs] at e
      cases e
      cases hd1
    have hIL3 : h3.IsList yl its.toArray := by
      obtain ⟨ob, e, r⟩ := _root_.id hIL
      exact ⟨ob, keep3 _ _ hylP e, r⟩
    have hItr3 : h3.IsListIter s1.heap.objs.size yl 0 := hitr.at fun u e => hx _ u (Nat.ne_of_gt hPlt) e
    refine ⟨s1.heap.objs.size, [s1.heap.objs.size, yl], [s1.heap.objs.size], its.toArray.size, (fun i v => its.toArray[i]? = some v), (fun i h => h.IsListIter s1.heap.objs.size yl i ∧ h.IsList yl its.toArray), (fun _ => true),
      (fun i y => ∃ p : P4, ps[i]? = some p ∧ y = .bool (f p z)), rfl, (fun A' hA => Walks.list hA _ _ (Nat.ne_of_lt hylt) _), ⟨hItr3, hIL3⟩, ?_, lim2.extBut hx hcP, ?_, ?_, ?_⟩
    · intro b hb
      rcases List.mem_cons.mp hb with z | z
      · rw [z]
        show s1.heap.objs.size < h3.objs.size
        omega
      · rcases List.mem_cons.mp z with z | z
        · rw [z]
          have e9 : s1.heap.objs.size ≤ h3.objs.size := by omega
          exact Nat.lt_of_lt_of_le hylt e9
        · cases z
    · intro z
      rcases List.mem_cons.mp z with z | z
      · exact Nat.ne_of_lt hcl9 z
      · cases z
    · intro href hhref
      refine ⟨fun A' E' i v s₂ m₂ hA hPv hn hm hk => ?_, fun A' E' i v s₂ m₂ hA hPv hp hn hm hk => ?_⟩
      · simp only [List.forIn_nil]
        exact wpAny_pure ⟨rfl, GxR.keeps_refl _⟩
      · obtain ⟨a, p, ts, hpi, rfl, rt, ⟨ot, eot, rT⟩, hne⟩ := hat i v hPv
        -- what stood in s1 stands in s₂
        have up : ∀ b u, b ≠ P → s1.heap.get? b = some u → s₂.heap.get? b = some u := fun b u hb e => by
          have hbl : b < s1.heap.objs.size := Heap.lt_size e
          refine hk b (List.mem_range.mpr ?_) (fun z => ?_) u (hhref b u (keep3 b u hb e))
          · show b < h3.objs.size
            have : s1.heap.objs.size ≤ h3.objs.size := by omega
            exact Nat.lt_of_lt_of_le hbl this
          · rcases List.mem_cons.mp z with z | z
            · rw [z] at hbl
              exact Nat.lt_irrefl _ hbl
            · cases z
        have hc2 : s₂.heap.IsCell cy (some (.int z tz)) := by
          obtain ⟨oc, e, d⟩ := hcell
          exact ⟨oc, up _ _ hcyP e, d⟩
        refine wpAny_mono (hel _ A' E' a cy p z tz ts s₂ m₂ rfl (hcy _ _ hcl) hc2 ⟨ot, up _ _ hne eot, rT⟩ rt hn hm) (fun y s3 r => ?_) fun _ _ e => e
        obtain ⟨e, kp⟩ := r
        exact ⟨⟨p, hpi, e⟩, kp⟩
    · intro g h5 tk5 gs hgb hag hsz5 hk5 W5 hgat
      simp only [GxR.passing_true, List.length_range] at W5
      have hn5 : its.toArray.size = ps.length := by rw [List.size_toArray, hlen]
      rw [hn5] at W5 hgat
      refine hQ ps z H1 g _ q1 ⟨_, _, _, _, _, W5.in4_1, hgat, ?_, fun s' hm => ?_⟩
      · intro j y sj Qj Ej hy hQj
        obtain ⟨i, hij, p, hpi, rfl⟩ := hy
        obtain ⟨hj, ej⟩ := List.getElem?_eq_some_iff.mp hij
        rw [List.getElem_range] at ej
        subst ej
        have hQ2 : Qj (trP (fun p => f p z) ps j) sj := hQj
        rw [trP_some hpi] at hQ2
        exact wpAny_truthy_bool hQ2
      · obtain ⟨more, em⟩ := hmore
        have nwr : ∀ b u, s1.heap.get? b = some u → b ∉ h3.objs.size :: [s1.heap.objs.size] := fun b u e hb => by
          have hl := Heap.lt_size e
          rcases List.mem_cons.mp hb with z | z
          · rw [z] at hl
            have h9 : (h3.objs.size : Nat) < s1.heap.objs.size := hl
            omega
          · rcases List.mem_cons.mp z with z | z
            · rw [z] at hl
              exact Nat.lt_irrefl _ hl
            · cases z
        have J := GxR.inv_tab (more := more) (h' := s'.heap) (g' := s'.gens) (d' := s'.drawn) (t' := s'.toks) I1 hP (fun b u hb e => hm.heap b u (nwr b u e) (hk5 b u (keep3 b u hb e)))
          (by rw [← em]; exact hm.heap P _ (nwr P _ hPs) (hk5 P _ hP3)) (AllBare.movedS (I1.bare.push hgb) hm)
        rw [GxR.sh_eta s1 s' hm.os] at J
        refine ⟨upd H1 P (.tbl (pt ++ more)), ⟨⟨pt ++ more, upd_same, by rw [← em]; exact ht3⟩, fun b hb => upd_ne hb⟩, J⟩
  refine ⟨lim2, ?_⟩
  cases hf : codeAmong gpos pt.toList with
  | none =>
    refine wpAny_genexprCodeX hcode (cd.code hP2 ht) (cd.tab hP2) hf fun c' h' tk hx hge hlt hco' _ htab' _ => ?_
    obtain ⟨o1, vs, f1, tf, fl, tg, inF, tx, tt, op, _, _, _, _, _, _, _, _, _, htr, _⟩ := hco'
    exact cont _ h' tk _ hx (Nat.le_trans hge (Nat.le_of_lt hlt)) htab'.2 ⟨_, rfl⟩ htr
  | some cv =>
    refine wpAny_genexprCode_hit hcode (cd.code hP2 ht) hf ?_
    exact cont cv (s1.heap.push o) s1.toks pt (Heap.ExtBut.refl _ _) (Nat.le_refl _) hP2 ⟨#[], by simp⟩ ht
/-- all(test for x in e), e a list of patches, the test with the captured int at slot iy -/
def tAllP (K : PySem.W.Frag) (P : Addr) (iy : Nat) (f : P4 → Int → Bool) (te : TE) : TE := fun σ H Q => te σ H fun v H1 => ∃ (yl : Addr) (as : List Addr) (ps : List P4) (z : Int), v = .ref yl ∧ SqL K H1 yl (as.map V.ref) ∧ Pats K H1 as ps ∧ σ[iy]? = some (some (.int z)) ∧ TabG H1 P ∧
  ∀ H2, Tabbed P H1 H2 → Q (.bl (ps.all fun p => f p z)) H2
theorem pe_allP {c P : Addr} {elt iter : Expr} {x y : Str} {px p pos gpos : Pos} {scope : Scope} {f : P4 → Int → Bool} {te : TE} {k iy : Nat}
    (hr : Room k X.A) (hg : Gl X "all") (hm : X.mg "all" = none) (hb : bootBuiltins "all" = some (.builtin "all")) (TB : TabB X.base X.mg c P) (hcode : X.env.code = .ref c) (S : GenS X.env scope x) (hi : PE X iter te) (hel : EltP4 X.prog X.w scope x y elt f)
    (hNy : X.N[iy]? = some y) (hky : X.env.scope.names.lookup y = some .cell) (hcy : ∀ (cells : List (Str × Addr)) (c : Addr), cells.lookup y = some c → (cloFrom cells scope.names []).lookup y = some c)
    (hs : ∀ v, genFold iter X.env v = pure v)
    (he : starEach [.GeneratorExp elt [⟨.Name x px, iter, [], 0⟩] scope gpos] X.env = (false, eval (.GeneratorExp elt [⟨.Name x px, iter, [], 0⟩] scope gpos) X.env) :: starEach [] X.env := by rfl) :
    PE X (.Call (.Name "all" p) [.GeneratorExp elt [⟨.Name x px, iter, [], 0⟩] scope gpos] [] pos) (tAllP X.K P iy f te) := by
  refine ⟨fun pins s σ H Q I h => ?_⟩
  refine wpAny_Call_Name_kw (ld_blt I hg hm hb ?_)
  refine PyProof.Rows.callWith_builtin1 ?_ he (by rfl)
  rw [he]
  show wpAny _ _ (spliced ((false, eval (.GeneratorExp elt [⟨.Name x px, iter, [], 0⟩] scope gpos) X.env) :: backTo pos (starEach [] X.env))) _ _ s
  refine Calls.spliced_cons (gen_pats (R := fun ps z H1 => ∀ H2, Tabbed P H1 H2 → Q (.bl (ps.all fun p => f p z)) H2) hr TB hcode S hi hel hNy hky hcy hs I h fun ps z H1 g s5 hR hG => ?_)
  obtain ⟨fp, wr, G, F, St, W, hst, htr, hI⟩ := hG
  refine Calls.spliced_nil ?_
  refine call_all_walkS (W.self 0 _ _ _ hst ⟨g, fp, wr, G, _, F, St, _, rfl, W, hst, htr, fun s' hmv => ?_⟩)
  obtain ⟨H2, hT, J⟩ := hI s' hmv
  refine ⟨.bl _, H2, J, rfl, ?_⟩
  rw [all_trP ps fun p => f p z]
  exact hR H2 hT
end
end Sw
namespace Sw
open PySem PySem.Spec PyProof.Rows L2 GxR
/-! ### the text by places -/
def topS (i : Nat) : Stmt := PySem.Challenge.pw_sewnwhole_k32_whole_plans_place_the_patc.main.body.getD i (.Pass ⟨0, 0, 0, 0⟩)
abbrev sAround : Stmt := topS 5
abbrev sSeams : Stmt := topS 6
abbrev sAhead : Stmt := topS 7
abbrev sSplit : Stmt := topS 8
abbrev sFault : Stmt := topS 10
abbrev sPut : Stmt := topS 11
abbrev sPlaced : Stmt := topS 12
abbrev sPlanOf : Stmt := topS 13
abbrev sSewing : Stmt := topS 14
abbrev sCell : Stmt := topS 16
abbrev sDraw : Stmt := topS 17
abbrev sPieces : Stmt := topS 18
abbrev sLSeams : Stmt := topS 19
abbrev sSome : Stmt := topS 20
abbrev sLaw : Stmt := topS 21

/-! ### heaps: all that stood is kept, the one table may grow -/
structure Kp (P : Addr) (H H' : Hp) : Prop where
  keep : ∀ b o, (∀ ps, o ≠ HO.tbl ps) → H b = some o → H' b = some o
  there : ∀ b, H' b = none → H b = none
  tab : TabG H P → TabG H' P
section
variable {P : Addr} {H H' H1 H2 : Hp} {K : PySem.W.Frag} {a l : Addr} {o : HO} {xs : List V}
theorem Kp.refl : Kp P H H := ⟨fun _ _ _ h => h, fun _ h => h, fun h => h⟩
theorem Kp.trans (a : Kp P H H1) (b : Kp P H1 H2) : Kp P H H2 := ⟨fun c o h e => b.keep c o h (a.keep c o h e), fun c h => a.there c (b.there c h), fun h => b.tab (a.tab h)⟩
theorem tab_upd (h : TabG H P) (hn : a ≠ P) : TabG (upd H a o) P := by
  obtain ⟨ps, e, t⟩ := h
  exact ⟨ps, by rw [upd_ne (Ne.symm hn)]; exact e, t⟩
theorem tab_ne (h : TabG H P) (hn : H a = none) : a ≠ P := fun z => by
  obtain ⟨ps, e, _⟩ := h
  rw [z, e] at hn
  cases hn
theorem tab_neL (h : TabG H P) (hn : H a = some (.lst xs)) : a ≠ P := fun z => by
  obtain ⟨ps, e, _⟩ := h
  rw [z, e] at hn
  cases hn
/-- a new object -/
theorem Kp.new (hn : H a = none) : Kp P H (upd H a o) :=
  ⟨fun b u _ e => by rw [upd_ne (ne_of_none e hn)]; exact e, fun b e => by
    by_cases hb : b = a
    · rw [hb, upd_same] at e
      cases e
    · rw [upd_ne hb] at e
      exact e, fun h => tab_upd h (tab_ne h hn)⟩
/-- an object that is newer than H is written -/
theorem Kp.put (k : Kp P H H1) (hn : H a = none) : Kp P H (upd H1 a o) :=
  ⟨fun b u h e => by rw [upd_ne (ne_of_none e hn)]; exact k.keep b u h e, fun b e => by
    by_cases hb : b = a
    · rw [hb]
      exact hn
    · rw [upd_ne hb] at e
      exact k.there b e, fun h => tab_upd (k.tab h) (tab_ne h hn)⟩
theorem Kp.tabbed (h : TabG H P) (t : Tabbed P H H') : Kp P H H' :=
  ⟨fun b u hu e => by
    rw [t.2 b fun z => ?_]
    · exact e
    · obtain ⟨ps, e2, _⟩ := h
      rw [z, e2] at e
      exact hu ps (Option.some.inj e).symm, fun b e => by
    by_cases hb : b = P
    · obtain ⟨ps, e2, _⟩ := t.1
      rw [hb, e2] at e
      cases e
    · rw [← t.2 b hb]
      exact e, fun _ => t.1⟩
theorem Kp.lst (k : Kp P H H') (h : H a = some (.lst xs)) : H' a = some (.lst xs) := k.keep a _ (fun _ z => by cases z) h
theorem Kp.tup (k : Kp P H H') (h : H a = some (.tup xs)) : H' a = some (.tup xs) := k.keep a _ (fun _ z => by cases z) h
theorem Kp.rd (k : Kp P H H') (ho : ∀ ps, o ≠ HO.tbl ps) (h : Rd H a o) : Rd H' a o := by
  rcases h with h | ⟨ob, h⟩
  · exact .inl (k.keep a _ ho h)
  · exact .inr ⟨ob, k.keep a _ (fun _ z => by cases z) h⟩
theorem Kp.seqL (k : Kp P H H') (h : SqL K H a xs) : SqL K H' a xs := by
  rcases h with h | h
  · exact .inl (k.rd (fun _ z => by cases z) h)
  · exact .inr h
theorem Kp.seqT (k : Kp P H H') (h : SqT K H a xs) : SqT K H' a xs := by
  rcases h with h | h
  · exact .inl (k.rd (fun _ z => by cases z) h)
  · exact .inr h
theorem Kp.pats (k : Kp P H H') {as : List Addr} {ps : List P4} (h : Pats K H as ps) : Pats K H' as ps := ⟨h.1, fun i a p e1 e2 => k.seqT (h.2 i a p e1 e2)⟩
/-- a list is written: tuples stand -/
theorem seqT_put {lst : List V} (h : SqT K H a xs) (hl : H l = some (.lst lst)) : SqT K (upd H l o) a xs := by
  rcases h with (h | ⟨ob, h⟩) | h
  · exact .inl (.inl (by rw [upd_ne (ne_of h hl (fun z => by cases z))]; exact h))
  · exact .inl (.inr ⟨ob, by rw [upd_ne (ne_of h hl (fun z => by cases z))]; exact h⟩)
  · exact .inr h
end
theorem small1000' {n : Nat} (h : n ≤ 1000) : n ≤ sizeLine := Nat.le_of_lt (Nat.lt_of_le_of_lt h (by decide))
theorem small100 {n : Nat} (h : n ≤ 100) : n < sizeLine := Nat.lt_of_le_of_lt h (by decide)
theorem small100' {n : Nat} (h : n ≤ 100) : n ≤ sizeLine := Nat.le_of_lt (small100 h)

/-! ### a comprehension [e of p for p in a list of patches] whose element leaves the heap -/
theorem take_map_succ {α β : Type} {l : List α} {i : Nat} {x : α} (f : α → β) (h : l[i]? = some x) : (l.take (i + 1)).map f = (l.take i).map f ++ [f x] := by
  rw [List.take_add_one, h, List.map_append]
  rfl
theorem getP {α β : Type} {as : List α} {ps : List β} (h : as.length = ps.length) {i : Nat} {a : α} (e : as[i]? = some a) : ∃ p, ps[i]? = some p := by
  have hi := (List.getElem?_eq_some_iff.mp e).1
  exact ⟨ps[i]'(by omega), List.getElem?_eq_getElem _⟩
theorem lc_mapP {K : PySem.W.Frag} {a P : Addr} {as : List Addr} {ps : List P4} {slot : Nat} {te : TE} {vs : List Nat} {σ : L2.St} {H1 : Hp} {D : Addr} {Qd : Hp → Prop} (f : P4 → V) (nD : H1 D = none) (hS : SqL K H1 a (as.map V.ref)) (hP : Pats K H1 as ps) (hlen : ps.length ≤ 100)
    (hw : ∀ v, wipe ((wipe σ vs).set slot (some v)) vs = wipe σ vs)
    (step : ∀ ad p H (Qv : VK), Kp P H1 H → p ∈ ps → SqT K H ad (pv4 p) → Qv (f p) H → te ((wipe σ vs).set slot (some (.ref ad))) H Qv)
    (hd : ∀ H, Kp P H1 H → H D = some (.lst (ps.map f)) → Qd H) :
    ∃ W : Nat → Nat → Hp → Prop, (∃ m, W 0 m (upd H1 D (.lst []))) ∧ ∀ i m H, W i m H →
      ((Itl K a).stop i H ∧ Qd H) ∨ ((Itl K a).go i H ∧ ∃ Nx : Hp → Prop, (∀ H', Nx H' → ∃ m', m' < m ∧ W (i + 1) m' H') ∧ ∀ x H', (Itl K a).yld i H x H' → gName slot x (wipe σ vs) H' fun σ2 H2 => wipe σ2 vs = wipe σ vs ∧ tYes σ2 H2 fun b H3 =>
        if b = true then te σ2 H3 fun y H4 => ∃ acc, H4 D = some (.lst acc) ∧ acc.length < sizeLine ∧ Nx (upd H4 D (.lst (acc ++ [y]))) else Nx H3) := by
  have hl : (as.map V.ref).length = ps.length := by rw [List.length_map]; exact hP.1
  refine lc_list (K := K) (a := a) (xs := as.map V.ref) (fun i H => Kp P H1 H ∧ H D = some (.lst ((ps.take i).map f))) ⟨Kp.new nD, upd_same⟩ (fun i H _ h => h.1.seqL hS) (fun i x H hx h => ?_) (fun H h => ?_)
  · obtain ⟨k, hD⟩ := h
    rw [List.getElem?_map] at hx
    obtain ⟨ad, had, rfl⟩ := Option.map_eq_some_iff.mp hx
    obtain ⟨p, hp⟩ := getP hP.1 had
    refine ⟨hw _, ?_⟩
    refine iteT (B := Kp P H1 H ∧ H D = some (HO.lst (List.map f (List.take (i + 1) ps)))) ?_
    refine step ad p H _ k (List.mem_of_getElem? hp) (k.seqT (hP.2 i ad p had hp)) ⟨_, hD, ?_, k.put nD, ?_⟩
    · rw [List.length_map, List.length_take]
      exact small100 (by omega)
    · rw [upd_same, take_map_succ f hp]
  · rw [hl] at h
    obtain ⟨k, hD⟩ := h
    rw [List.take_length] at hD
    exact hd H k hD
/-! ### rules whose written part is named (a comprehension's block has the same) -/
section
variable {X : Cx} {a b : Expr} {ta tb : TE} {pos : Pos}
theorem pe_ixT (K : PySem.W.Frag) (hK : X.K = K) (ha : PE X a ta) (hb : PE X b tb) (hs : PlainIx b := by intro _ _; rfl) : PE X (.Subscript a b pos) (tOp (rIxT K) ta tb) := by
  subst hK
  exact pe_ix ix_tup ha hb hs
theorem pe_ixL (K : PySem.W.Frag) (hK : X.K = K) (ha : PE X a ta) (hb : PE X b tb) (hs : PlainIx b := by intro _ _; rfl) : PE X (.Subscript a b pos) (tOp (rIxL K) ta tb) := by
  subst hK
  exact pe_ix ix_list ha hb hs
end
/-- an item of a patch's tuple -/
theorem at4 (p : P4) : atI (pv4 p) 0 = some (.int p.t) ∧ atI (pv4 p) 1 = some (.int p.l) ∧ atI (pv4 p) 2 = some (.int p.h) ∧ atI (pv4 p) 3 = some (.int p.w) :=
  ⟨atI_nat (j := 0) rfl, atI_nat (j := 1) rfl, atI_nat (j := 2) rfl, atI_nat (j := 3) rfl⟩
end Sw
namespace Sw
open PySem PySem.Spec PyProof.Rows L2 GxR
/-! ### around(patches) -/
structure Around4 (ps : List P4) (t l b r : Int) : Prop where
  t1 : t ∈ ps.map (·.t)
  t2 : ∀ p ∈ ps, t ≤ p.t
  l1 : l ∈ ps.map (·.l)
  l2 : ∀ p ∈ ps, l ≤ p.l
  b1 : b ∈ ps.map fun p => p.t + p.h
  b2 : ∀ p ∈ ps, p.t + p.h ≤ b
  r1 : r ∈ ps.map fun p => p.l + p.w
  r2 : ∀ p ∈ ps, p.l + p.w ≤ r
def spAround (Pt : Addr) (K : PySem.W.Frag) : Sp := fun vs H Q _ => ∃ (a : Addr) (as : List Addr) (ps : List P4), vs = [.ref a] ∧ SqL K H a (as.map V.ref) ∧ Pats K H as ps ∧ ps ≠ [] ∧ ps.length ≤ 100 ∧
  ∀ H' x t l b r, Kp Pt H H' → Around4 ps t l b r → H' x = some (.tup [.int t, .int l, .int (b - t), .int (r - l)]) → Q (.ref x) H'
theorem scAround : FnScope ["patches", "top", "left", "bottom", "right", "patch"] ["patches"] (defScope sAround) := ⟨rfl, rfl, rfl, by decide +kernel, rfl, by decide +kernel, by decide +kernel⟩
section
variable {P : Program} {w : World} {K : PySem.W.Frag} {mg : Str → Option Value} {base : Heap} {Pt : Addr}
theorem ok_around {f : Addr} {fd : FuncData} (F : Fun K "around" "around" sAround f fd) (mmin : mg "min" = none) (mmax : mg "max" = none) : FnOk P w K mg base CX0 1 f fd ["patches"] (spAround Pt K) := by
  refine F.ok scAround (fun vs H Q E h => ?_) (fun cdv A outer s H vs Q E hr h => ?_)
  · obtain ⟨a, as, ps, rfl, _⟩ := h
    rfl
  · obtain ⟨a, as, ps, rfl, hS, hP, hne, hlen, q⟩ := h
    refine ⟨_, pss_cons (ps_set (i := 1) scAround.nd rfl (.inl rfl) (pe_callB (cr_min rfl) (by rfl) mmin (by decide +kernel) (pa_cons
        (pe_lc (own := [("patch", 5)]) (g := gName 5) (tt := tYes) rfl scAround.nd (pi_list (pv 0)) (blkOk_by (N := ["patches", "top", "left", "bottom", "right", "patch"]) (sc := defScope sAround) (by decide +kernel)) (fun _ _ _ _ _ => pg_name (i := 5) scAround.nd rfl (Or.inl rfl)) (fun _ _ _ _ _ => pts_nil)
          (fun _ _ _ _ _ => pe_ixT K rfl (pv 5) pe_int)) pa_nil)))
      (pss_cons (ps_set (i := 2) scAround.nd rfl (.inl rfl) (pe_callB (cr_min rfl) (by rfl) mmin (by decide +kernel) (pa_cons
        (pe_lc (own := [("patch", 5)]) (g := gName 5) (tt := tYes) rfl scAround.nd (pi_list (pv 0)) (blkOk_by (N := ["patches", "top", "left", "bottom", "right", "patch"]) (sc := defScope sAround) (by decide +kernel)) (fun _ _ _ _ _ => pg_name (i := 5) scAround.nd rfl (Or.inl rfl)) (fun _ _ _ _ _ => pts_nil)
          (fun _ _ _ _ _ => pe_ixT K rfl (pv 5) pe_int)) pa_nil)))
      (pss_cons (ps_set (i := 3) scAround.nd rfl (.inl rfl) (pe_callB (cr_max rfl) (by rfl) mmax (by decide +kernel) (pa_cons
        (pe_lc (own := [("patch", 5)]) (g := gName 5) (tt := tYes) rfl scAround.nd (pi_list (pv 0)) (blkOk_by (N := ["patches", "top", "left", "bottom", "right", "patch"]) (sc := defScope sAround) (by decide +kernel)) (fun _ _ _ _ _ => pg_name (i := 5) scAround.nd rfl (Or.inl rfl)) (fun _ _ _ _ _ => pts_nil)
          (fun _ _ _ _ _ => pe_op op_add (pe_ixT K rfl (pv 5) pe_int) (pe_ixT K rfl (pv 5) pe_int))) pa_nil)))
      (pss_cons (ps_set (i := 4) scAround.nd rfl (.inl rfl) (pe_callB (cr_max rfl) (by rfl) mmax (by decide +kernel) (pa_cons
        (pe_lc (own := [("patch", 5)]) (g := gName 5) (tt := tYes) rfl scAround.nd (pi_list (pv 0)) (blkOk_by (N := ["patches", "top", "left", "bottom", "right", "patch"]) (sc := defScope sAround) (by decide +kernel)) (fun _ _ _ _ _ => pg_name (i := 5) scAround.nd rfl (Or.inl rfl)) (fun _ _ _ _ _ => pts_nil)
          (fun _ _ _ _ _ => pe_op op_add (pe_ixT K rfl (pv 5) pe_int) (pe_ixT K rfl (pv 5) pe_int))) pa_nil)))
      (pss_one (ps_ret (pe_tup (pa_cons (pv 1) (pa_cons (pv 2) (pa_cons (pe_op op_sub (pv 3) (pv 1)) (pa_cons (pe_op op_sub (pv 4) (pv 2)) pa_nil)))))))))), ?_⟩
    have pos : 0 < ps.length := List.length_pos_iff.mpr hne
    -- top
    refine ⟨_, rfl, a, rfl, ⟨_, hS⟩, fun D1 n1 => lc_mapP (P := Pt) (fun p => .int p.t) n1 hS hP hlen (fun _ => rfl) (fun ad p H' Qv _ _ hT hq => ?_) (fun H1 k1 e1 => ?_)⟩
    · exact ⟨_, rfl, ad, _, _, _, rfl, rfl, hT, (at4 p).1, hq⟩
    refine ⟨D1, ps.map (·.t), rfl, SqL.of (by rw [List.map_map]; exact e1), by rw [List.length_map]; exact pos, fun t t1 t2 => ?_⟩
    -- left
    refine ⟨_, rfl, a, rfl, ⟨_, k1.seqL hS⟩, fun D2 n2 => lc_mapP (P := Pt) (fun p => .int p.l) n2 (k1.seqL hS) (k1.pats hP) hlen (fun _ => rfl) (fun ad p H' Qv _ _ hT hq => ?_) (fun H2 k2 e2 => ?_)⟩
    · exact ⟨_, rfl, ad, _, _, _, rfl, rfl, hT, (at4 p).2.1, hq⟩
    have k2 := k1.trans k2
    refine ⟨D2, ps.map (·.l), rfl, SqL.of (by rw [List.map_map]; exact e2), by rw [List.length_map]; exact pos, fun l l1 l2 => ?_⟩
    -- bottom
    refine ⟨_, rfl, a, rfl, ⟨_, k2.seqL hS⟩, fun D3 n3 => lc_mapP (P := Pt) (fun p => .int (p.t + p.h)) n3 (k2.seqL hS) (k2.pats hP) hlen (fun _ => rfl) (fun ad p H' Qv _ _ hT hq => ?_) (fun H3 k3 e3 => ?_)⟩
    · exact ⟨_, rfl, ad, _, _, _, rfl, rfl, hT, (at4 p).1, _, rfl, ad, _, _, _, rfl, rfl, hT, (at4 p).2.2.1, _, _, rfl, rfl, hq⟩
    have k3 := k2.trans k3
    refine ⟨D3, ps.map (fun p => p.t + p.h), rfl, SqL.of (by rw [List.map_map]; exact e3), by rw [List.length_map]; exact pos, fun b b1 b2 => ?_⟩
    -- right
    refine ⟨_, rfl, a, rfl, ⟨_, k3.seqL hS⟩, fun D4 n4 => lc_mapP (P := Pt) (fun p => .int (p.l + p.w)) n4 (k3.seqL hS) (k3.pats hP) hlen (fun _ => rfl) (fun ad p H' Qv _ _ hT hq => ?_) (fun H4 k4 e4 => ?_)⟩
    · exact ⟨_, rfl, ad, _, _, _, rfl, rfl, hT, (at4 p).2.1, _, rfl, ad, _, _, _, rfl, rfl, hT, (at4 p).2.2.2, _, _, rfl, rfl, hq⟩
    have k4 := k3.trans k4
    refine ⟨D4, ps.map (fun p => p.l + p.w), rfl, SqL.of (by rw [List.map_map]; exact e4), by rw [List.length_map]; exact pos, fun r r1 r2 => ?_⟩
    -- return
    refine ⟨_, rfl, _, rfl, _, rfl, _, rfl, _, _, rfl, rfl, _, rfl, _, rfl, _, _, rfl, rfl, by show 4 ≤ sizeLine; decide, fun x nx => ?_⟩
    exact q _ x t l b r (k4.trans (Kp.new nx)) ⟨t1, fun p hp => t2 _ (List.mem_map.mpr ⟨p, hp, rfl⟩), l1, fun p hp => l2 _ (List.mem_map.mpr ⟨p, hp, rfl⟩), b1, fun p hp => b2 _ (List.mem_map.mpr ⟨p, hp, rfl⟩), r1, fun p hp => r2 _ (List.mem_map.mpr ⟨p, hp, rfl⟩)⟩ upd_same
end
end Sw
namespace Sw
open PySem PySem.Spec PyProof.Rows L2 GxR
/-! ### a def whose code object is known -/
structure FunC (K : PySem.W.Frag) (x qual : Str) (st : Stmt) (f : Addr) (fd : FuncData) (c : Addr) : Prop where
  ex : ∃ (oc : Value) (od : Option Addr) (kV doc pm : Value) (an : Option Addr) (ct : Value) (osl : Array (Option Value)),
    fd = PySem.W.fnOf x qual (defArgs st) (defBody st) (defScope st) .none kV doc pm an (.ref c) ct ∧ K.lookup f = some ⟨oc, od, .func fd, osl⟩ ∧ PySem.W.codeIn K (.ref c) qual = true
  kp : PySem.W.keepIn K (.ref f) = true
theorem FunC.ok {P : Program} {w : World} {K : PySem.W.Frag} {mg : Str → Option Value} {base : Heap} {x qual : Str} {st : Stmt} {f c : Addr} {fd : FuncData} {N ps : List Str} {k : Nat} {sp : Sp} (F : FunC K x qual st f fd c) (S : FnScope N ps (defScope st)) (len : ∀ vs H Q E, sp vs H Q E → vs.length = ps.length)
    (hbody : ∀ (A : Around) (outer : List Env) (s : Shared) (H : Hp) (vs : List V) (Q : VK) (E : XK), Room k (A.deeper (envOfC qual (defScope st) s.heap.objs.size f (.ref c))) → sp vs H Q E →
      ∃ t, PSs (cxOf CX0 P w K mg base N qual (defScope st) f (.ref c) A outer s H E).nox (defBody st) t ∧ t { nx := fun _ H' => Q .non H', rt := Q } (start N vs) H) : FnOk P w K mg base CX0 (k + 1) f fd ps sp := by
  obtain ⟨oc, od, kV, doc, pm, an, ct, osl, rfl, lk, hcd⟩ := F.ex
  refine fn_of lk hcd S len fun A outer s H vs Q E hr hsp => ?_
  obtain ⟨t, h, q⟩ := hbody A outer s H vs Q E hr hsp
  exact ⟨t, h.nox, q⟩
theorem FunC.binds {K : PySem.W.Frag} {x qual : Str} {st : Stmt} {f c : Addr} {fd : FuncData} {ps : List Str} (F : FunC K x qual st f fd c)
    (h : ∀ (kV doc pm : Value) (an : Option Addr) (ct : Value) (us : List Value), us.length = ps.length → bindArgs (PySem.W.fnOf x qual (defArgs st) (defBody st) (defScope st) .none kV doc pm an (.ref c) ct) ⟨us, []⟩ = pure (ps.zip us)) : Binds K fd ps [] := by
  obtain ⟨oc, od, kV, doc, pm, an, ct, osl, rfl, lk, hcd⟩ := F.ex
  exact .all (h kV doc pm an ct)
/-! ### seams in the heap -/
def dirS : Bool → Str
  | true => "|"
  | false => "-"
def SmAt (K : PySem.W.Frag) (H : Hp) (b : Addr) (s : Sm) : Prop := SqT K H b [.str (dirS s.v), .int s.at_]
def Sms (K : PySem.W.Frag) (H : Hp) (bs : List Addr) (ss : List Sm) : Prop := bs.length = ss.length ∧ ∀ (i : Nat) (b : Addr) (s : Sm), bs[i]? = some b → ss[i]? = some s → SmAt K H b s
theorem Kp.sms {P : Addr} {H H' : Hp} {K : PySem.W.Frag} {bs : List Addr} {ss : List Sm} (k : Kp P H H') (h : Sms K H bs ss) : Sms K H' bs ss := ⟨h.1, fun i a p e1 e2 => k.seqT (h.2 i a p e1 e2)⟩
theorem Sms.push {K : PySem.W.Frag} {H : Hp} {bs : List Addr} {ss : List Sm} {b : Addr} {s : Sm} (h : Sms K H bs ss) (hb : SmAt K H b s) : Sms K H (bs ++ [b]) (ss ++ [s]) := by
  refine ⟨by rw [List.length_append, List.length_append, h.1] <;> rfl, fun i x y e1 e2 => ?_⟩
  by_cases hi : i < bs.length
  · rw [List.getElem?_append_left hi] at e1
    rw [List.getElem?_append_left (by rw [← h.1]; exact hi)] at e2
    exact h.2 i x y e1 e2
  · have q := (List.getElem?_eq_some_iff.mp e1).1
    rw [List.length_append] at q
    have hi2 : i = bs.length := by
      have : ([b] : List Addr).length = 1 := rfl
      omega
    rw [hi2, List.getElem?_append_right (Nat.le_refl _), Nat.sub_self] at e1
    rw [hi2, h.1, List.getElem?_append_right (Nat.le_refl _), Nat.sub_self] at e2
    have e3 : b = x := Option.some.inj e1
    have e4 : s = y := Option.some.inj e2
    subst e3 e4
    exact hb
/-- a patch within the ten rows and columns -/
structure Bnd (p : P4) : Prop where
  t : 0 ≤ p.t
  l : 0 ≤ p.l
  h : 1 ≤ p.h
  w : 1 ≤ p.w
  b : p.t + p.h ≤ 10
  r : p.l + p.w ≤ 10
/-! ### straight_seams(patches) -/
def spSeams (Pt : Addr) (K : PySem.W.Frag) : Sp := fun vs H Q _ => ∃ (a : Addr) (as : List Addr) (ps : List P4), vs = [.ref a] ∧ SqL K H a (as.map V.ref) ∧ Pats K H as ps ∧ ps ≠ [] ∧ ps.length ≤ 100 ∧ (∀ p ∈ ps, Bnd p) ∧ TabG H Pt ∧
  ∀ H' x bs ss, Kp Pt H H' → H x = none → (∀ s ∈ ss, IsSm ps s) → ss.length ≤ 100 → H' x = some (.lst (bs.map V.ref)) → Sms K H' bs ss → Q (.ref x) H'
abbrev nSeams : List Str := ["patches", "top", "left", "height", "width", "seams", "place"]
theorem scSeams : FnScope nSeams ["patches"] (defScope sSeams) := ⟨rfl, rfl, rfl, by decide +kernel, rfl, by decide +kernel, by decide +kernel⟩
theorem gfree {env : Env} {c : Addr} (h : env.cells.lookup ("place" : Str) = some c) : ∀ y ∈ ([((".0" : Str), NameKind.local), ("patch", NameKind.local), ("place", NameKind.free)] : List (Str × NameKind)), y.2 = .free → ∃ c, env.cells.lookup y.1 = some c := by
  intro y hy e
  rcases List.mem_cons.mp hy with rfl | hy
  · cases e
  rcases List.mem_cons.mp hy with rfl | hy
  · cases e
  rcases List.mem_cons.mp hy with rfl | hy
  · exact ⟨c, h⟩
  · cases hy
theorem gcy (cells : List (Str × Addr)) (c : Addr) (h : cells.lookup ("place" : Str) = some c) : (cloFrom cells ([((".0" : Str), NameKind.local), ("patch", NameKind.local), ("place", NameKind.free)] : List (Str × NameKind)) []).lookup ("place" : Str) = some c := by
  show some ((cells.lookup ("place" : Str)).getD 0) = some c
  rw [h]
  rfl
theorem its4 {p : P4} {its : List Value} (h : Vals (pv4 p) its) : (∃ t, its[0]? = some (.int p.t t)) ∧ (∃ t, its[1]? = some (.int p.l t)) ∧ (∃ t, its[2]? = some (.int p.h t)) ∧ ∃ t, its[3]? = some (.int p.w t) := by
  obtain ⟨t1, t2, t3, t4, rfl⟩ := vals4 h
  exact ⟨⟨_, rfl⟩, ⟨_, rfl⟩, ⟨_, rfl⟩, ⟨_, rfl⟩⟩
theorem sm_vert {ps : List P4} {t l b r z : Int} (A : Around4 ps t l b r) (h1 : l < z) (h2 : z < r) (h : (ps.all fun p => decide (z ≤ p.l) || decide (p.l + p.w ≤ z)) = true) : IsSm ps ⟨true, z⟩ := by
  have h := List.all_eq_true.mp h
  have h3 : ∀ p ∈ ps, z ≤ p.l ∨ p.l + p.w ≤ z := fun p hp => by
    have := h p hp
    simpa using this
  refine ⟨fun p hp => h3 p hp, ?_, ?_⟩
  · obtain ⟨p, hp, e⟩ := List.mem_map.mp A.l1
    exact ⟨p, hp, show p.l < z by omega⟩
  · obtain ⟨p, hp, e⟩ := List.mem_map.mp A.r1
    refine ⟨p, hp, show z ≤ p.l from ?_⟩
    have := h3 p hp
    omega
theorem sm_horz {ps : List P4} {t l b r z : Int} (A : Around4 ps t l b r) (h1 : t < z) (h2 : z < b) (h : (ps.all fun p => decide (z ≤ p.t) || decide (p.t + p.h ≤ z)) = true) : IsSm ps ⟨false, z⟩ := by
  have h := List.all_eq_true.mp h
  have h3 : ∀ p ∈ ps, z ≤ p.t ∨ p.t + p.h ≤ z := fun p hp => by
    have := h p hp
    simpa using this
  refine ⟨fun p hp => h3 p hp, ?_, ?_⟩
  · obtain ⟨p, hp, e⟩ := List.mem_map.mp A.t1
    exact ⟨p, hp, show p.t < z by omega⟩
  · obtain ⟨p, hp, e⟩ := List.mem_map.mp A.b1
    refine ⟨p, hp, show z ≤ p.t from ?_⟩
    have := h3 p hp
    omega
section
variable {P : Program} {w : World} {K : PySem.W.Frag} {mg : Str → Option Value} {base : Heap} {Pt : Addr}
theorem ok_seams {f fA c : Addr} {fd fdA : FuncData} (F : FunC K "straight_seams" "straight_seams" sSeams f fd c) (TB : TabB base mg c Pt) (FA : Fun K "around" "around" sAround fA fdA) (bA : Binds K fdA ["patches"] []) (gA : mg "around" = some (.ref fA))
    (mmin : mg "min" = none) (mmax : mg "max" = none) (mrange : mg "range" = none) (mall : mg "all" = none) : FnOk P w K mg base CX0 2 f fd ["patches"] (spSeams Pt K) := by
  have GA : FnOk P w K mg base CX0 1 fA fdA ["patches"] (spAround Pt K) := ok_around FA mmin mmax
  refine F.ok scSeams (fun vs H Q E h => ?_) (fun A outer s H vs Q E hr h => ?_)
  · obtain ⟨a, as, ps, rfl, _⟩ := h
    rfl
  · obtain ⟨a, as, ps, rfl, hS, hP, hne, hlen, hB, hT, q⟩ := h
    refine ⟨_, pss_cons (ps_asg (pe_call GA hr (by rfl) gA FA.kp bA .nil pass0 (pa_cons (pv 0) pa_nil))
        (pg_tup rfl (pgs_cons (pg_name (i := 1) scSeams.nd rfl (.inl rfl)) (pgs_cons (pg_name (i := 2) scSeams.nd rfl (.inl rfl)) (pgs_cons (pg_name (i := 3) scSeams.nd rfl (.inl rfl)) (pgs_cons (pg_name (i := 4) scSeams.nd rfl (.inl rfl)) pgs_nil))))))
      (pss_cons (ps_set (i := 5) scSeams.nd rfl (.inl rfl) (pe_lst pa_nil))
      (pss_cons (ps_for PassesOwn.never rfl (pi_range2 (by rfl) mrange (pa_cons (pe_op op_add (pv 2) pe_int) (pa_cons (pe_op op_add (pv 2) (pv 4)) pa_nil))) (pg_name (i := 6) scSeams.nd rfl (.inr rfl))
        (pss_one (ps_if (pt_val (pe_allP (c := c) (P := Pt) (iy := 6) hr (by rfl) mall (by decide +kernel) TB rfl ⟨rfl, rfl, by decide +kernel, by decide +kernel, by decide +kernel, gfree (c := s.heap.objs.size + 1) rfl⟩ (pv 0)
            (elt_side (i := 1) (j := 3) (fi := fun p => p.l) (fj := fun p => p.w) rfl rfl rfl (by decide +kernel) (by decide +kernel) (by decide +kernel) (fun p its h => (its4 h).2.1) (fun p its h => (its4 h).2.2.2)) rfl rfl gcy (fun _ => rfl)))
          (pss_one (ps_expr (pe_bm PySem.F.plainAttrs_list PySem.F.slot_list_append PySem.F.type_list_append mt_append (pv 5) (pa_cons (pe_tup (pa_cons pe_str (pa_cons (pv 6) pa_nil))) pa_nil)))) pss_nil)))
      (pss_cons (ps_for PassesOwn.never rfl (pi_range2 (by rfl) mrange (pa_cons (pe_op op_add (pv 1) pe_int) (pa_cons (pe_op op_add (pv 1) (pv 3)) pa_nil))) (pg_name (i := 6) scSeams.nd rfl (.inr rfl))
        (pss_one (ps_if (pt_val (pe_allP (c := c) (P := Pt) (iy := 6) hr (by rfl) mall (by decide +kernel) TB rfl ⟨rfl, rfl, by decide +kernel, by decide +kernel, by decide +kernel, gfree (c := s.heap.objs.size + 1) rfl⟩ (pv 0)
            (elt_side (i := 0) (j := 2) (fi := fun p => p.t) (fj := fun p => p.h) rfl rfl rfl (by decide +kernel) (by decide +kernel) (by decide +kernel) (fun p its h => (its4 h).1) (fun p its h => (its4 h).2.2.1)) rfl rfl gcy (fun _ => rfl)))
          (pss_one (ps_expr (pe_bm PySem.F.plainAttrs_list PySem.F.slot_list_append PySem.F.type_list_append mt_append (pv 5) (pa_cons (pe_tup (pa_cons pe_str (pa_cons (pv 6) pa_nil))) pa_nil)))) pss_nil)))
      (pss_one (ps_ret (pv 5)))))), ?_⟩
    -- top, left, height, width = around(patches)
    refine ⟨_, rfl, a, as, ps, rfl, hS, hP, hne, hlen, fun H1 x t l b r k1 A4 ex => ?_⟩
    refine ⟨x, _, rfl, SqT.of ex, rfl, _, _, rfl, _, _, rfl, _, _, rfl, _, _, rfl, rfl, ?_⟩
    -- bounds
    have bt : 0 ≤ t ∧ t ≤ 10 := by
      obtain ⟨p, hp, e⟩ := List.mem_map.mp A4.t1
      have := hB p hp
      have h1 := this.t
      have h2 := this.h
      have h3 := this.b
      omega
    have bl : 0 ≤ l ∧ l ≤ 10 := by
      obtain ⟨p, hp, e⟩ := List.mem_map.mp A4.l1
      have := hB p hp
      have h1 := this.l
      have h2 := this.w
      have h3 := this.r
      omega
    have bb : 0 ≤ b ∧ b ≤ 10 := by
      obtain ⟨p, hp, e⟩ := List.mem_map.mp A4.b1
      have := hB p hp
      have h1 := this.t
      have h2 := this.h
      have h3 := this.b
      omega
    have br : 0 ≤ r ∧ r ≤ 10 := by
      obtain ⟨p, hp, e⟩ := List.mem_map.mp A4.r1
      have := hB p hp
      have h1 := this.l
      have h2 := this.w
      have h3 := this.r
      omega
    -- seams = []
    refine ⟨Nat.zero_le _, fun D nD => ?_⟩
    have nD0 : H D = none := k1.there D nD
    have k2 : Kp Pt H (upd H1 D (.lst [])) := k1.trans (Kp.new nD)
    -- the vertical ones
    refine ⟨_, rfl, _, _, rfl, rfl, _, rfl, _, rfl, _, _, rfl, rfl, l + 1, l + (r - l), rfl, ⟨by omega, by omega, by omega, by omega⟩, ?_⟩
    refine for_range (lo := l + 1) (n := (l + (r - l) - (l + 1)).toNat) (fun i σ' H' => ∃ (pl : Option V) (bs : List Addr) (ss : List Sm), σ' = [some (.ref a), some (.int t), some (.int l), some (.int (b - t)), some (.int (r - l)), some (.ref D), pl] ∧ Kp Pt H H' ∧ H' D = some (.lst (bs.map V.ref)) ∧ Sms K H' bs ss ∧ ss.length ≤ i ∧ ∀ s ∈ ss, IsSm ps s)
      ⟨none, [], [], rfl, k2, upd_same, ⟨rfl, fun i b s e => by cases e⟩, Nat.le_refl _, fun s hs => by cases hs⟩ (fun i σ' H' hi hPv => ?_) (fun σ' H' hPv => ?_)
    · obtain ⟨pl, bs, ss, rfl, k, hD, hSm, hl, hIs⟩ := hPv
      refine ⟨_, rfl, a, as, ps, l + 1 + i, rfl, k.seqL hS, k.pats hP, rfl, k.tab hT, fun H2 tb => ⟨_, rfl, ?_⟩⟩
      have k3 := k.trans (Kp.tabbed (k.tab hT) tb)
      have hD2 : H2 D = some (.lst (bs.map V.ref)) := (Kp.tabbed (k.tab hT) tb).lst hD
      have hSm2 := (Kp.tabbed (k.tab hT) tb).sms hSm
      refine ite2 (fun hc => ?_) (fun hc => ?_)
      · have his := sm_vert A4 (z := l + 1 + i) (by omega) (by omega) hc
        refine ⟨_, rfl, .inl ⟨rfl, _, SqL.of hD2⟩, _, rfl, by show 2 ≤ sizeLine; decide, fun T nT => ?_⟩
        have k4 : Kp Pt H2 (upd H2 T (.tup [.str "|", .int (l + 1 + i)])) := Kp.new nT
        refine ⟨D, _, _, rfl, rfl, k4.lst hD2, ?_, ?_⟩
        · rw [List.length_map, hSm.1]
          exact small100 (by omega)
        · refine ⟨_, bs ++ [T], ss ++ [⟨true, l + 1 + i⟩], rfl, (k3.trans k4).put nD0, ?_, ?_, ?_, ?_⟩
          · rw [upd_same, List.map_append] <;> rfl
          · have nTD : T ≠ D := (ne_of_none hD2 nT).symm
            have kk : Sms K (upd H2 T (.tup [.str "|", .int (l + 1 + i)])) (bs ++ [T]) (ss ++ [⟨true, l + 1 + i⟩]) := (k4.sms hSm2).push (SqT.of upd_same)
            refine ⟨kk.1, fun j b s e1 e2 => ?_⟩
            have q1 := kk.2 j b s e1 e2
            rcases q1 with (q1 | ⟨o, q1⟩) | q1
            · refine .inl (.inl ?_)
              rw [upd_ne (ne_of q1 (k4.lst hD2) (fun z => by cases z))]
              exact q1
            · refine .inl (.inr ⟨o, ?_⟩)
              rw [upd_ne (ne_of q1 (k4.lst hD2) (fun z => by cases z))]
              exact q1
            · exact .inr q1
          · rw [List.length_append]
            show ss.length + 1 ≤ i + 1
            omega
          · intro s hs
            rcases List.mem_append.mp hs with hs | hs
            · exact hIs s hs
            · rw [List.mem_singleton.mp hs]
              exact his
      · exact ⟨_, bs, ss, rfl, k3, hD2, hSm2, by omega, hIs⟩
    · obtain ⟨pl, bs, ss, rfl, k, hD, hSm, hl, hIs⟩ := hPv
      have hl0 : ss.length ≤ 10 := by omega
      -- the horizontal ones
      refine ⟨_, rfl, _, _, rfl, rfl, _, rfl, _, rfl, _, _, rfl, rfl, t + 1, t + (b - t), rfl, ⟨by omega, by omega, by omega, by omega⟩, ?_⟩
      refine for_range (lo := t + 1) (n := (t + (b - t) - (t + 1)).toNat) (fun i σ' H' => ∃ (pl : Option V) (bs : List Addr) (ss : List Sm), σ' = [some (.ref a), some (.int t), some (.int l), some (.int (b - t)), some (.int (r - l)), some (.ref D), pl] ∧ Kp Pt H H' ∧ H' D = some (.lst (bs.map V.ref)) ∧ Sms K H' bs ss ∧ ss.length ≤ i + 10 ∧ ∀ s ∈ ss, IsSm ps s)
        ⟨pl, bs, ss, rfl, k, hD, hSm, by omega, hIs⟩ (fun i σ' H' hi hPv => ?_) (fun σ' H' hPv => ?_)
      · obtain ⟨pl, bs, ss, rfl, k, hD, hSm, hl, hIs⟩ := hPv
        refine ⟨_, rfl, a, as, ps, t + 1 + i, rfl, k.seqL hS, k.pats hP, rfl, k.tab hT, fun H2 tb => ⟨_, rfl, ?_⟩⟩
        have k3 := k.trans (Kp.tabbed (k.tab hT) tb)
        have hD2 : H2 D = some (.lst (bs.map V.ref)) := (Kp.tabbed (k.tab hT) tb).lst hD
        have hSm2 := (Kp.tabbed (k.tab hT) tb).sms hSm
        refine ite2 (fun hc => ?_) (fun hc => ?_)
        · have his := sm_horz A4 (z := t + 1 + i) (by omega) (by omega) hc
          refine ⟨_, rfl, .inl ⟨rfl, _, SqL.of hD2⟩, _, rfl, by show 2 ≤ sizeLine; decide, fun T nT => ?_⟩
          have k4 : Kp Pt H2 (upd H2 T (.tup [.str "-", .int (t + 1 + i)])) := Kp.new nT
          refine ⟨D, _, _, rfl, rfl, k4.lst hD2, ?_, ?_⟩
          · rw [List.length_map, hSm.1]
            exact small100 (by omega)
          · refine ⟨_, bs ++ [T], ss ++ [⟨false, t + 1 + i⟩], rfl, (k3.trans k4).put nD0, ?_, ?_, ?_, ?_⟩
            · rw [upd_same, List.map_append] <;> rfl
            · have kk : Sms K (upd H2 T (.tup [.str "-", .int (t + 1 + i)])) (bs ++ [T]) (ss ++ [⟨false, t + 1 + i⟩]) := (k4.sms hSm2).push (SqT.of upd_same)
              refine ⟨kk.1, fun j b s e1 e2 => ?_⟩
              have q1 := kk.2 j b s e1 e2
              rcases q1 with (q1 | ⟨o, q1⟩) | q1
              · refine .inl (.inl ?_)
                rw [upd_ne (ne_of q1 (k4.lst hD2) (fun z => by cases z))]
                exact q1
              · refine .inl (.inr ⟨o, ?_⟩)
                rw [upd_ne (ne_of q1 (k4.lst hD2) (fun z => by cases z))]
                exact q1
              · exact .inr q1
            · rw [List.length_append]
              show ss.length + 1 ≤ i + 1 + 10
              omega
            · intro s hs
              rcases List.mem_append.mp hs with hs | hs
              · exact hIs s hs
              · rw [List.mem_singleton.mp hs]
                exact his
        · exact ⟨_, bs, ss, rfl, k3, hD2, hSm2, by omega, hIs⟩
      · obtain ⟨pl, bs, ss, rfl, k, hD, hSm, hl, hIs⟩ := hPv
        exact ⟨_, rfl, q _ D bs ss k nD0 hIs (by omega) hD hSm⟩
end
end Sw
namespace Sw
open PySem PySem.Spec PyProof.Rows L2 GxR
/-! ### is_ahead(patch, seam) -/
def spAhead (K : PySem.W.Frag) : Sp := fun vs H Q _ => ∃ (a b : Addr) (p : P4) (s : Sm), vs = [.ref a, .ref b] ∧ SqT K H a (pv4 p) ∧ SmAt K H b s ∧ Q (.bl (ahead s p)) H
theorem scAhead : FnScope ["patch", "seam", "direction", "place"] ["patch", "seam"] (defScope sAhead) := ⟨rfl, rfl, rfl, by decide +kernel, rfl, by decide +kernel, by decide +kernel⟩
theorem dir_eq (v : Bool) : decide (V.str (dirS v) = V.str "|") = v := by cases v <;> decide +kernel
section
variable {P : Program} {w : World} {K : PySem.W.Frag} {mg : Str → Option Value} {base : Heap} {Pt : Addr}
theorem ok_ahead {f : Addr} {fd : FuncData} (F : Fun K "is_ahead" "is_ahead" sAhead f fd) : FnOk P w K mg base CX0 1 f fd ["patch", "seam"] (spAhead K) := by
  refine F.ok scAhead (fun vs H Q E h => ?_) (fun cdv A outer s H vs Q E hr h => ?_)
  · obtain ⟨a, b, p, s, rfl, _⟩ := h
    rfl
  · obtain ⟨a, b, p, sm, rfl, hp, hs, q⟩ := h
    refine ⟨_, pss_cons (ps_asg (pv 1) (pg_tup rfl (pgs_cons (pg_name (i := 2) scAhead.nd rfl (.inl rfl)) (pgs_cons (pg_name (i := 3) scAhead.nd rfl (.inl rfl)) pgs_nil))))
      (pss_cons (ps_if (pt_cmpR op_eq (pv 2) pe_str (nomark _)) (pss_one (ps_ret (pe_cmpR op_lt (pe_ixT K rfl (pv 0) pe_int) (pv 3) (nomark _)))) pss_nil)
      (pss_one (ps_ret (pe_cmpR op_lt (pe_ixT K rfl (pv 0) pe_int) (pv 3) (nomark _))))), ?_⟩
    refine ⟨_, rfl, b, _, rfl, hs, rfl, _, _, rfl, _, _, rfl, rfl, ?_⟩
    refine ⟨_, rfl, rfl, _, rfl, ?_⟩
    obtain ⟨v, z⟩ := sm
    cases v with
    | true =>
      refine ite2 (fun _ => ?_) (fun c => absurd (dir_eq true) c)
      exact ⟨_, rfl, a, _, _, _, rfl, rfl, hp, (at4 p).2.1, _, rfl, _, _, rfl, rfl, q⟩
    | false =>
      refine ite2 (fun c => absurd c (by rw [dir_eq false]; decide)) (fun _ => ?_)
      exact ⟨_, rfl, a, _, _, _, rfl, rfl, hp, (at4 p).1, _, rfl, _, _, rfl, rfl, q⟩
/-! ### split(patches, seam) -/
/-- the places of a list where f holds -/
def idx (f : P4 → Bool) (ps : List P4) : List Nat := (List.range ps.length).filter fun k => f (ps.getD k default)
def nVs (N : List Nat) : List V := N.map fun k => V.int (k : Nat)
def spSplit (Pt : Addr) (K : PySem.W.Frag) : Sp := fun vs H Q _ => ∃ (a b : Addr) (as : List Addr) (ps : List P4) (s : Sm), vs = [.ref a, .ref b] ∧ SqL K H a (as.map V.ref) ∧ Pats K H as ps ∧ ps.length ≤ 100 ∧ SmAt K H b s ∧
  ∀ H' x y z, Kp Pt H H' → H' y = some (.lst (nVs (idx (ahead s) ps))) → H' z = some (.lst (nVs (idx (fun p => !ahead s p) ps))) → H' x = some (.tup [.ref y, .ref z]) → Q (.ref x) H'
abbrev nSplit : List Str := ["patches", "seam", "first", "second", "k"]
theorem scSplit : FnScope nSplit ["patches", "seam"] (defScope sSplit) := ⟨rfl, rfl, rfl, by decide +kernel, rfl, by decide +kernel, by decide +kernel⟩
theorem range_filter_succ (n : Nat) (f : Nat → Bool) : (List.range (n + 1)).filter f = (List.range n).filter f ++ (if f n = true then [n] else []) := by
  rw [List.range_succ, List.filter_append]
  congr 1
  by_cases h : f n = true
  · rw [if_pos h, List.filter_cons_of_pos h]
    rfl
  · rw [if_neg h, List.filter_cons_of_neg h]
    rfl
theorem nVs_app (a b : List Nat) : nVs (a ++ b) = nVs a ++ nVs b := List.map_append
theorem nVs_len (a : List Nat) : (nVs a).length = a.length := List.length_map _
theorem idx_len (f : P4 → Bool) (ps : List P4) : (idx f ps).length ≤ ps.length := by
  have := List.length_filter_le (fun k => f (ps.getD k default)) (List.range ps.length)
  rw [List.length_range] at this
  exact this
theorem ok_split {f fA : Addr} {fd fdA : FuncData} (F : Fun K "split" "split" sSplit f fd) (FA : Fun K "is_ahead" "is_ahead" sAhead fA fdA) (bA : Binds K fdA ["patch", "seam"] []) (gA : mg "is_ahead" = some (.ref fA)) (mrange : mg "range" = none) (mlen : mg "len" = none) :
    FnOk P w K mg base CX0 2 f fd ["patches", "seam"] (spSplit Pt K) := by
  have GA : FnOk P w K mg base CX0 1 fA fdA ["patch", "seam"] (spAhead K) := ok_ahead FA
  refine F.ok scSplit (fun vs H Q E h => ?_) (fun cdv A outer s H vs Q E hr h => ?_)
  · obtain ⟨a, b, as, ps, s, rfl, _⟩ := h
    rfl
  · obtain ⟨a, b, as, ps, sm, rfl, hS, hP, hlen, hs, q⟩ := h
    refine ⟨_, pss_cons (ps_setLc (i := 2) (own := [("k", 4)]) (g := gName 4) rfl scSplit.nd rfl rfl (sw_true rfl rfl rfl (by decide +kernel)) (pi_range1 (by rfl) mrange (pa_cons (pe_callB call_len_seq (by rfl) mlen PySem.boot_len (pa_cons (pv 0) pa_nil)) pa_nil))
          (blkOk_by (N := nSplit) (sc := defScope sSplit) (by decide +kernel)) (fun _ _ _ _ _ => pg_name (i := 4) scSplit.nd rfl (Or.inl rfl))
          (fun _ _ _ _ _ => pts_one (pt_val (pe_call GA hr (by rfl) gA FA.kp bA .nil pass0 (pa_cons (pe_ixL K rfl (pv 0) (pv 4)) (pa_cons (pv 1) pa_nil))))) (fun _ _ _ _ _ => pv 4))
      (pss_cons (ps_setLc (i := 3) (own := [("k", 4)]) (g := gName 4) rfl scSplit.nd rfl rfl (sw_true rfl rfl rfl (by decide +kernel)) (pi_range1 (by rfl) mrange (pa_cons (pe_callB call_len_seq (by rfl) mlen PySem.boot_len (pa_cons (pv 0) pa_nil)) pa_nil))
          (blkOk_by (N := nSplit) (sc := defScope sSplit) (by decide +kernel)) (fun _ _ _ _ _ => pg_name (i := 4) scSplit.nd rfl (Or.inl rfl))
          (fun _ _ _ _ _ => pts_one (pt_not (pt_val (pe_call GA hr (by rfl) gA FA.kp bA .nil pass0 (pa_cons (pe_ixL K rfl (pv 0) (pv 4)) (pa_cons (pv 1) pa_nil)))))) (fun _ _ _ _ _ => pv 4))
      (pss_one (ps_ret (pe_tup (pa_cons (pv 2) (pa_cons (pv 3) pa_nil)))))), ?_⟩
    have hl : (as.map V.ref).length = ps.length := by rw [List.length_map]; exact hP.1
    -- the patch at a place
    have at_ : ∀ i, i < ps.length → ∃ ad, (as.map V.ref)[i]? = some (V.ref ad) ∧ as[i]? = some ad ∧ ps[i]? = some (ps.getD i default) := fun i hi => by
      have ha : i < as.length := by rw [hP.1]; exact hi
      refine ⟨as[i], ?_, List.getElem?_eq_getElem ha, ?_⟩
      · rw [List.getElem?_map, List.getElem?_eq_getElem ha] <;> rfl
      · rw [List.getD_eq_getElem?_getD, List.getElem?_eq_getElem hi] <;> rfl
    -- first
    refine ⟨_, rfl, a, _, rfl, .inl hS, _, rfl, by rw [hl]; omega, by rw [hl]; omega, fun D1 n1 => lc_range (lo := 0) (n := ((as.map V.ref).length : Int).toNat) (fun i H' => Kp Pt H H' ∧ H' D1 = some (.lst (nVs ((List.range i).filter fun k => ahead sm (ps.getD k default)))))
      ⟨Kp.new n1, upd_same⟩ (fun i H' hi h => ?_) (fun H1 h1 => ?_)⟩
    · obtain ⟨k, hD⟩ := h
      rw [Int.toNat_natCast, hl] at hi
      obtain ⟨ad, e1, e2, e3⟩ := at_ i hi
      have e4 : atI (as.map V.ref) (0 + (i : Int)) = some (V.ref ad) := by rw [Int.zero_add]; exact atI_nat e1
      refine ⟨rfl, _, rfl, _, rfl, a, _, _, _, rfl, rfl, k.seqL hS, e4, _, rfl, ad, b, _, sm, rfl, k.seqT (hP.2 i ad _ e2 e3), k.seqT hs, _, rfl, ?_⟩
      refine ite2 (fun hc => ?_) (fun hc => ?_)
      · refine ⟨_, rfl, _, hD, ?_, k.put n1, ?_⟩
        · rw [nVs_len]
          have := List.length_filter_le (fun k => ahead sm (ps.getD k default)) (List.range i)
          rw [List.length_range] at this
          exact small100 (by omega)
        · rw [upd_same, range_filter_succ, if_pos hc, nVs_app, Int.zero_add] <;> rfl
      · refine ⟨k, ?_⟩
        rw [range_filter_succ, if_neg hc, List.append_nil]
        exact hD
    obtain ⟨k1, hD1⟩ := h1
    rw [Int.toNat_natCast, hl] at hD1
    -- second
    refine ⟨_, rfl, a, _, rfl, .inl (k1.seqL hS), _, rfl, by rw [hl]; omega, by rw [hl]; omega, fun D2 n2 => lc_range (lo := 0) (n := ((as.map V.ref).length : Int).toNat) (fun i H' => Kp Pt H1 H' ∧ H' D2 = some (.lst (nVs ((List.range i).filter fun k => !ahead sm (ps.getD k default)))))
      ⟨Kp.new n2, upd_same⟩ (fun i H' hi h => ?_) (fun H2 h2 => ?_)⟩
    · obtain ⟨k, hD⟩ := h
      have k0 := k1.trans k
      rw [Int.toNat_natCast, hl] at hi
      obtain ⟨ad, e1, e2, e3⟩ := at_ i hi
      have e4 : atI (as.map V.ref) (0 + (i : Int)) = some (V.ref ad) := by rw [Int.zero_add]; exact atI_nat e1
      refine ⟨rfl, _, rfl, _, rfl, a, _, _, _, rfl, rfl, k0.seqL hS, e4, _, rfl, ad, b, _, sm, rfl, k0.seqT (hP.2 i ad _ e2 e3), k0.seqT hs, _, rfl, ?_⟩
      refine ite2 (fun hc => ?_) (fun hc => ?_)
      · refine ⟨_, rfl, _, hD, ?_, k.put n2, ?_⟩
        · rw [nVs_len]
          have := List.length_filter_le (fun k => !ahead sm (ps.getD k default)) (List.range i)
          rw [List.length_range] at this
          exact small100 (by omega)
        · rw [upd_same, range_filter_succ, if_pos hc, nVs_app, Int.zero_add] <;> rfl
      · refine ⟨k, ?_⟩
        rw [range_filter_succ, if_neg hc, List.append_nil]
        exact hD
    obtain ⟨k2, hD2⟩ := h2
    rw [Int.toNat_natCast, hl] at hD2
    refine ⟨_, rfl, _, rfl, by show 2 ≤ sizeLine; decide, fun x nx => ?_⟩
    have k3 : Kp Pt H2 (upd H2 x (.tup [.ref D1, .ref D2])) := Kp.new nx
    exact q _ x D1 D2 ((k1.trans k2).trans k3) (k3.lst (k2.lst hD1)) (k3.lst hD2) upd_same
end
end Sw
namespace Sw
theorem PlanFor.len {g : Nat → P4} {N : List Nat} {p : List Step} (h : PlanFor g N p) : p.length + 1 = 2 * N.length := by
  induction h with
  | one n => rfl
  | @cut N p q s _ _ _ i1 i2 =>
    have := (filter_perm (fun n => ahead s (g n)) N).length_eq
    rw [List.length_append] at this
    rw [List.length_append, List.length_append]
    show p.length + q.length + 1 + 1 = _
    omega
theorem range_getD (N : List Nat) : (List.range N.length).map (fun k => N.getD k 0) = N := by
  refine List.ext_getElem (by rw [List.length_map, List.length_range]) fun i h1 h2 => ?_
  rw [List.getElem_map, List.getElem_range, List.getD_eq_getElem?_getD, List.getElem?_eq_getElem h2]
  rfl
theorem getD_map (g : Nat → P4) (N : List Nat) {k : Nat} (h : k < N.length) : (N.map g).getD k default = g (N.getD k 0) := by
  rw [List.getD_eq_getElem?_getD, List.getD_eq_getElem?_getD, List.getElem?_map, List.getElem?_eq_getElem h]
  rfl
theorem idx_map (f : P4 → Bool) (g : Nat → P4) (N : List Nat) : ((List.range (N.map g).length).filter fun k => f ((N.map g).getD k default)).map (fun k => N.getD k 0) = N.filter fun n => f (g n) := by
  have e : N.filter (fun n => f (g n)) = ((List.range N.length).map (fun k => N.getD k 0)).filter fun n => f (g n) := by rw [range_getD]
  rw [e, List.filter_map, List.length_map]
  congr 1
  refine List.filter_congr fun k hk => ?_
  have hk := List.mem_range.mp hk
  show f ((N.map g).getD k default) = f (g (N.getD k 0))
  rw [getD_map g N hk]
end Sw
namespace Sw
open PySem PySem.Spec PyProof.Rows L2 GxR
/-! ### plans in the heap -/
def stV : Step → V
  | .num n => .int (n : Nat)
  | .dir v => .str (dirS v)
def gP (ps : List P4) (k : Nat) : P4 := ps.getD k default
/-- a comprehension [e of n for n in a list of numbers] whose element leaves the heap -/
theorem lc_mapN {K : PySem.W.Frag} {a P : Addr} {N : List Nat} {slot : Nat} {te : TE} {vs : List Nat} {σ : L2.St} {H1 : Hp} {D : Addr} {Qd : Hp → Prop} (f : Nat → V) (nD : H1 D = none) (hS : SqL K H1 a (nVs N)) (hlen : N.length ≤ 100)
    (hw : ∀ v, wipe ((wipe σ vs).set slot (some v)) vs = wipe σ vs)
    (step : ∀ n H (Qv : VK), Kp P H1 H → n ∈ N → Qv (f n) H → te ((wipe σ vs).set slot (some (.int (n : Nat)))) H Qv)
    (hd : ∀ H, Kp P H1 H → H D = some (.lst (N.map f)) → Qd H) :
    ∃ W : Nat → Nat → Hp → Prop, (∃ m, W 0 m (upd H1 D (.lst []))) ∧ ∀ i m H, W i m H →
      ((Itl K a).stop i H ∧ Qd H) ∨ ((Itl K a).go i H ∧ ∃ Nx : Hp → Prop, (∀ H', Nx H' → ∃ m', m' < m ∧ W (i + 1) m' H') ∧ ∀ x H', (Itl K a).yld i H x H' → gName slot x (wipe σ vs) H' fun σ2 H2 => wipe σ2 vs = wipe σ vs ∧ tYes σ2 H2 fun b H3 =>
        if b = true then te σ2 H3 fun y H4 => ∃ acc, H4 D = some (.lst acc) ∧ acc.length < sizeLine ∧ Nx (upd H4 D (.lst (acc ++ [y]))) else Nx H3) := by
  refine lc_list (K := K) (a := a) (xs := nVs N) (fun i H => Kp P H1 H ∧ H D = some (.lst ((N.take i).map f))) ⟨Kp.new nD, upd_same⟩ (fun i H _ h => h.1.seqL hS) (fun i x H hx h => ?_) (fun H h => ?_)
  · obtain ⟨k, hD⟩ := h
    unfold nVs at hx
    rw [List.getElem?_map] at hx
    obtain ⟨n, hn, rfl⟩ := Option.map_eq_some_iff.mp hx
    refine ⟨hw _, ?_⟩
    refine iteT (B := Kp P H1 H ∧ H D = some (HO.lst (List.map f (List.take (i + 1) N)))) ?_
    refine step n H _ k (List.mem_of_getElem? hn) ⟨_, hD, ?_, k.put nD, ?_⟩
    · rw [List.length_map, List.length_take]
      exact small100 (by omega)
    · rw [upd_same, take_map_succ f hn]
  · rw [nVs_len] at h
    obtain ⟨k, hD⟩ := h
    rw [List.take_length] at hD
    exact hd H k hD
theorem at_nVs {N : List Nat} {k : Nat} (h : k < N.length) : atI (nVs N) (k : Int) = some (.int ((N.getD k 0 : Nat) : Int)) := by
  refine atI_nat ?_
  unfold nVs
  rw [List.getElem?_map, List.getD_eq_getElem?_getD, List.getElem?_eq_getElem h] <;> rfl
theorem at_refs {as : List Addr} {k : Nat} (h : k < as.length) : atI (as.map V.ref) (k : Int) = some (.ref (as.getD k 0)) := by
  refine atI_nat ?_
  rw [List.getElem?_map, List.getD_eq_getElem?_getD, List.getElem?_eq_getElem h] <;> rfl
/-- some of the patches, by their numbers -/
theorem Pats.pick {K : PySem.W.Frag} {H : Hp} {as : List Addr} {ps : List P4} {N : List Nat} (h : Pats K H as ps) (hN : ∀ k ∈ N, k < ps.length) : Pats K H (N.map fun n => as.getD n 0) (N.map (gP ps)) := by
  refine ⟨by rw [List.length_map, List.length_map], fun i a p e1 e2 => ?_⟩
  rw [List.getElem?_map] at e1 e2
  obtain ⟨n, hn, rfl⟩ := Option.map_eq_some_iff.mp e1
  rw [hn] at e2
  have e3 : gP ps n = p := Option.some.inj e2
  subst e3
  have hl := hN n (List.mem_of_getElem? hn)
  have ha : n < as.length := by rw [h.1]; exact hl
  refine h.2 n _ _ ?_ ?_
  · rw [List.getD_eq_getElem?_getD, List.getElem?_eq_getElem ha] <;> rfl
  · unfold gP
    rw [List.getD_eq_getElem?_getD, List.getElem?_eq_getElem hl] <;> rfl
theorem gP_bnd {ps : List P4} (h : ∀ p ∈ ps, Bnd p) {k : Nat} (hk : k < ps.length) : Bnd (gP ps k) := by
  unfold gP
  rw [List.getD_eq_getElem?_getD, List.getElem?_eq_getElem hk]
  exact h _ (List.getElem_mem hk)
theorem bnd_pick {ps : List P4} (h : ∀ p ∈ ps, Bnd p) {N : List Nat} (hN : ∀ k ∈ N, k < ps.length) : ∀ p ∈ N.map (gP ps), Bnd p := fun p hp => by
  obtain ⟨k, hk, rfl⟩ := List.mem_map.mp hp
  exact gP_bnd h (hN k hk)
/-- what plan_of gives: None, or a new list that is a plan -/
def PlanV (H0 H : Hp) (g : Nat → P4) (N : List Nat) (v : V) : Prop := v = .non ∨ ∃ (x : Addr) (plan : List Step), v = .ref x ∧ H0 x = none ∧ H x = some (.lst (plan.map stV)) ∧ PlanFor g N plan
theorem PlanV.keep {P : Addr} {H0 H H' : Hp} {g : Nat → P4} {N : List Nat} {v : V} (h : PlanV H0 H g N v) (k : Kp P H H') : PlanV H0 H' g N v := by
  rcases h with h | ⟨x, plan, e, n, hx, p⟩
  · exact .inl h
  · exact .inr ⟨x, plan, e, n, k.lst hx, p⟩
/-! ### plan_of(patches, numbers): n calls are allowed -/
def spPlan (Pt : Addr) (K : PySem.W.Frag) (n : Nat) : Sp := fun vs H Q _ => ∃ (a b : Addr) (as : List Addr) (ps : List P4) (N : List Nat), vs = [.ref a, .ref b] ∧ SqT K H a (as.map V.ref) ∧ Pats K H as ps ∧ (∀ p ∈ ps, Bnd p) ∧ SqL K H b (nVs N) ∧ N ≠ [] ∧ (∀ k ∈ N, k < ps.length) ∧
  N.length ≤ 30 ∧ N.length ≤ n ∧ TabG H Pt ∧ ∀ H' v, Kp Pt H H' → PlanV H H' (gP ps) N v → Q v H'
abbrev nPlan : List Str := ["patches", "numbers", "part", "seams", "first", "second", "ahead", "behind", "number", "k"]
theorem scPlan : FnScope nPlan ["patches", "numbers"] (defScope sPlanOf) := ⟨rfl, rfl, rfl, by decide +kernel, rfl, by decide +kernel, by decide +kernel⟩
theorem len1 {N : List Nat} (h : decide (V.int ((nVs N).length : Int) = V.int 1) = true) : ∃ n, N = [n] := by
  have e := V.int.inj (of_decide_eq_true h)
  rw [nVs_len] at e
  match N, e with
  | [n], _ => exact ⟨n, rfl⟩
  | [], e => exact absurd e (by decide)
  | _ :: _ :: r, e =>
    have : (r.length + 2 : Int) = 1 := e
    omega
section
variable {P : Program} {w : World} {K : PySem.W.Frag} {mg : Str → Option Value} {base : Heap} {Pt : Addr}
theorem ok_plan {f fS fP : Addr} {fd fdS fdP : FuncData} {n : Nat} (F : Fun K "plan_of" "plan_of" sPlanOf f fd) (b0 : Binds K fd ["patches", "numbers"] []) (g0 : mg "plan_of" = some (.ref f)) (GR : FnOk P w K mg base CX0 (n + 2) f fd ["patches", "numbers"] (spPlan Pt K n))
    (GS : FnOk P w K mg base CX0 2 fS fdS ["patches"] (spSeams Pt K)) (kS : PySem.W.keepIn K (.ref fS) = true) (bS : Binds K fdS ["patches"] []) (gS : mg "straight_seams" = some (.ref fS))
    (GP : FnOk P w K mg base CX0 2 fP fdP ["patches", "seam"] (spSplit Pt K)) (kP : PySem.W.keepIn K (.ref fP) = true) (bP : Binds K fdP ["patches", "seam"] []) (gSp : mg "split" = some (.ref fP)) (mlen : mg "len" = none) :
    FnOk P w K mg base CX0 (n + 1 + 2) f fd ["patches", "numbers"] (spPlan Pt K (n + 1)) := by
  refine F.ok scPlan (fun vs H Q E h => ?_) (fun cdv A outer s H vs Q E hr h => ?_)
  · obtain ⟨a, b, as, ps, N, rfl, _⟩ := h
    rfl
  · obtain ⟨a, b, as, ps, N, rfl, hA, hP, hB, hN, hne, hk, h30, hn, hT, q⟩ := h
    have hr2 : Room 2 _ := hr.mono (by omega)
    refine ⟨_, pss_cons (ps_if (pt_cmpR op_eq (pe_callB call_len_seq (by rfl) mlen PySem.boot_len (pa_cons (pv 1) pa_nil)) pe_int (nomark _)) (pss_one (ps_ret (pe_lst (pa_cons (pe_ixL K rfl (pv 1) pe_int) pa_nil)))) pss_nil)
      (pss_cons (ps_setLc (i := 2) (own := [("number", 8)]) (g := gName 8) (tt := tYes) rfl scPlan.nd rfl rfl (sw_true rfl rfl rfl (by decide +kernel)) (pi_list (pv 1)) (blkOk_by (N := nPlan) (sc := defScope sPlanOf) (by decide +kernel)) (fun _ _ _ _ _ => pg_name (i := 8) scPlan.nd rfl (Or.inl rfl)) (fun _ _ _ _ _ => pts_nil)
          (fun _ _ _ _ _ => pe_ixT K rfl (pv 0) (pv 8)))
      (pss_cons (ps_set (i := 3) scPlan.nd rfl (.inl rfl) (pe_call GS hr2 (by rfl) gS kS bS .nil pass0 (pa_cons (pv 2) pa_nil)))
      (pss_cons (ps_if (pt_cmpR op_eq (pe_callB call_len_seq (by rfl) mlen PySem.boot_len (pa_cons (pv 3) pa_nil)) pe_int (nomark _)) (pss_one (ps_ret pe_non)) pss_nil)
      (pss_cons (ps_asg (pe_call GP hr2 (by rfl) gSp kP bP .nil pass0 (pa_cons (pv 2) (pa_cons (pe_ixL K rfl (pv 3) pe_int) pa_nil))) (pg_tup rfl (pgs_cons (pg_name (i := 4) scPlan.nd rfl (.inl rfl)) (pgs_cons (pg_name (i := 5) scPlan.nd rfl (.inl rfl)) pgs_nil))))
      (pss_cons (ps_set (i := 6) scPlan.nd rfl (.inl rfl) (pe_call GR hr (by rfl) g0 F.kp b0 .nil pass0 (pa_cons (pv 0) (pa_cons
          (pe_lc (own := [("k", 9)]) (g := gName 9) (tt := tYes) rfl scPlan.nd (pi_list (pv 4)) (blkOk_by (N := nPlan) (sc := defScope sPlanOf) (by decide +kernel)) (fun _ _ _ _ _ => pg_name (i := 9) scPlan.nd rfl (Or.inl rfl)) (fun _ _ _ _ _ => pts_nil)
            (fun _ _ _ _ _ => pe_ixL K rfl (pv 1) (pv 9))) pa_nil))))
      (pss_cons (ps_set (i := 7) scPlan.nd rfl (.inl rfl) (pe_call GR hr (by rfl) g0 F.kp b0 .nil pass0 (pa_cons (pv 0) (pa_cons
          (pe_lc (own := [("k", 9)]) (g := gName 9) (tt := tYes) rfl scPlan.nd (pi_list (pv 5)) (blkOk_by (N := nPlan) (sc := defScope sPlanOf) (by decide +kernel)) (fun _ _ _ _ _ => pg_name (i := 9) scPlan.nd rfl (Or.inl rfl)) (fun _ _ _ _ _ => pts_nil)
            (fun _ _ _ _ _ => pe_ixL K rfl (pv 1) (pv 9))) pa_nil))))
      (pss_cons (ps_if (PW.pt (pw_or (pt_cmp (pc_isN (pv 6))) (pw_or1 (pt_cmp (pc_isN (pv 7)))))) (pss_one (ps_ret pe_non)) pss_nil)
      (pss_one (ps_ret (pe_op op_cat (pe_op op_cat (pv 6) (pv 7)) (pe_lst (pa_cons (pe_ixT K rfl (pe_ixL K rfl (pv 3) pe_int) pe_int) pa_nil)))))))))))), ?_⟩
    -- if len(numbers) == 1
    refine ⟨_, rfl, b, _, rfl, .inl hN, rfl, _, rfl, ite2 (fun c => ?_) (fun c => ?_)⟩
    · obtain ⟨m, rfl⟩ := len1 c
      refine ⟨_, rfl, b, _, _, _, rfl, rfl, hN, at_nVs (k := 0) (Nat.zero_lt_one), by show 1 ≤ sizeLine; decide, fun x nx => ?_⟩
      exact q _ _ (Kp.new nx) (.inr ⟨x, [.num m], rfl, nx, upd_same, .one m⟩)
    -- part
    have hal : ∀ k ∈ N, k < as.length := fun k hkm => by rw [hP.1]; exact hk k hkm
    refine ⟨_, rfl, b, rfl, ⟨_, hN⟩, fun D1 n1 => lc_mapN (P := Pt) (fun k => .ref (as.getD k 0)) n1 hN (by omega) (fun _ => rfl) (fun m H' Qv k' hm hq => ?_) (fun H1 k1 e1 => ?_)⟩
    · exact ⟨_, rfl, _, rfl, a, _, _, _, rfl, rfl, k'.seqT hA, at_refs (hal m hm), hq⟩
    -- seams
    have hpart : Pats K H1 (N.map fun n => as.getD n 0) (N.map (gP ps)) := (k1.pats hP).pick hk
    have e1 : H1 D1 = some (.lst ((N.map fun n => as.getD n 0).map V.ref)) := by rw [List.map_map]; exact e1
    refine ⟨_, rfl, D1, _, _, rfl, SqL.of e1, hpart, by simpa using hne, by rw [List.length_map]; omega, bnd_pick hB hk, k1.tab hT, fun H2 S bs ss k2 nS hIs hsl eS hSm => ?_⟩
    have k2' := k1.trans k2
    -- if len(seams) == 0
    refine ⟨_, rfl, S, _, rfl, .inl (SqL.of eS), rfl, _, rfl, ite2 (fun c2 => ?_) (fun c2 => ?_)⟩
    · exact q _ _ k2' (.inl rfl)
    obtain ⟨s0, ss', rfl⟩ : ∃ s0 ss', ss = s0 :: ss' := by
      cases ss with
      | nil =>
        refine absurd ?_ c2
        have : bs = [] := List.length_eq_zero_iff.mp hSm.1
        rw [this]
        exact decide_eq_true rfl
      | cons x r => exact ⟨x, r, rfl⟩
    obtain ⟨b0', bs', rfl⟩ : ∃ b0' bs', bs = b0' :: bs' := by
      cases bs with
      | nil => exact absurd hSm.1 (by simp)
      | cons x r => exact ⟨x, r, rfl⟩
    have hs0 : SmAt K H2 b0' s0 := hSm.2 0 _ _ rfl rfl
    have his := hIs s0 List.mem_cons_self
    -- first, second = split(part, seams[0])
    refine ⟨_, rfl, _, rfl, S, _, 0, _, rfl, rfl, SqL.of eS, atI_nat (j := 0) rfl, D1, b0', _, _, s0, rfl, SqL.of (k2.lst e1), k2.pats hpart, by rw [List.length_map]; omega, hs0, fun H3 X2 Y Z k3 eY eZ eX => ?_⟩
    have k3' := k2'.trans k3
    refine ⟨X2, _, rfl, SqT.of eX, rfl, _, _, rfl, _, _, rfl, rfl, ?_⟩
    have hlI : ∀ (f : P4 → Bool) (k : Nat), k ∈ idx f (N.map (gP ps)) → k < N.length := fun f k hm => by
      have := List.mem_range.mp (List.mem_filter.mp hm).1
      rw [List.length_map] at this
      exact this
    have hli : ∀ f : P4 → Bool, (idx f (N.map (gP ps))).length ≤ 100 := fun f => by
      have := idx_len f (N.map (gP ps))
      rw [List.length_map] at this
      omega
    have emap : ∀ f : P4 → Bool, (idx f (N.map (gP ps))).map (fun k => V.int ((N.getD k 0 : Nat) : Int)) = nVs (N.filter fun m => f (gP ps m)) := fun f => by
      have := idx_map f (gP ps) N
      unfold nVs
      rw [← this, List.map_map]
      rfl
    -- ahead
    refine ⟨_, rfl, _, rfl, Y, rfl, ⟨_, SqL.of eY⟩, fun D4 n4 => lc_mapN (P := Pt) (fun k => .int ((N.getD k 0 : Nat) : Int)) n4 (SqL.of eY) (hli _) (fun _ => rfl) (fun m H' Qv k' hm hq => ?_) (fun H4 k4 e4 => ?_)⟩
    · exact ⟨_, rfl, _, rfl, b, _, _, _, rfl, rfl, (k3'.trans k').seqL hN, at_nVs (hlI _ m hm), hq⟩
    have k4' := k3'.trans k4
    rw [emap] at e4
    have l4 := his.fst_lt
    refine ⟨a, D4, as, ps, _, rfl, k4'.seqT hA, k4'.pats hP, hB, SqL.of e4, his.fst_ne, fun k hm => hk k (List.mem_filter.mp hm).1, by omega, by omega, k4'.tab hT, fun H5 va k5 hva => ?_⟩
    have k5' := k4'.trans k5
    -- behind
    have eZ5 : H5 Z = some (.lst (nVs (idx (fun p => !ahead s0 p) (N.map (gP ps))))) := k5.lst (k4.lst eZ)
    refine ⟨_, rfl, _, rfl, Z, rfl, ⟨_, SqL.of eZ5⟩, fun D6 n6 => lc_mapN (P := Pt) (fun k => .int ((N.getD k 0 : Nat) : Int)) n6 (SqL.of eZ5) (hli _) (fun _ => rfl) (fun m H' Qv k' hm hq => ?_) (fun H6 k6 e6 => ?_)⟩
    · exact ⟨_, rfl, _, rfl, b, _, _, _, rfl, rfl, (k5'.trans k').seqL hN, at_nVs (hlI _ m hm), hq⟩
    have k6' := k5'.trans k6
    rw [emap] at e6
    have l6 := his.snd_lt
    refine ⟨a, D6, as, ps, _, rfl, k6'.seqT hA, k6'.pats hP, hB, SqL.of e6, his.snd_ne, fun k hm => hk k (List.mem_filter.mp hm).1, by omega, by omega, k6'.tab hT, fun H7 vb k7 hvb => ?_⟩
    have k7' := k6'.trans k7
    have hva7 := hva.keep (k6.trans k7)
    -- if ahead is None or behind is None
    refine ⟨_, rfl, _, rfl, ?_⟩
    rcases hva7 with rfl | ⟨xa, pa, rfl, na, ea, pfa⟩
    · exact q _ _ k7' (.inl rfl)
    · refine ⟨_, rfl, _, rfl, ?_⟩
      rcases hvb with rfl | ⟨xb, pb, rfl, nb, eb, pfb⟩
      · exact q _ _ k7' (.inl rfl)
      · -- return ahead + behind + [seams[0][0]]
        have la := pfa.len
        have lb := pfb.len
        have l0 := (filter_perm (fun m => ahead s0 (gP ps m)) N).length_eq
        rw [List.length_append] at l0
        have la2 : pa.length ≤ 60 := by omega
        have lb2 : pb.length ≤ 60 := by omega
        refine ⟨_, rfl, _, rfl, xa, xb, _, _, rfl, rfl, ea, eb, by rw [List.length_map, List.length_map]; exact small1000' (by omega), fun p1 np1 => ?_⟩
        have k8 : Kp Pt H7 (upd H7 p1 (.lst (pa.map stV ++ pb.map stV))) := Kp.new np1
        have k78 : Kp Pt H2 (upd H7 p1 (.lst (pa.map stV ++ pb.map stV))) := ((((k3.trans k4).trans k5).trans k6).trans k7).trans k8
        refine ⟨_, rfl, S, _, 0, _, rfl, rfl, SqL.of (k78.lst eS), atI_nat (j := 0) rfl, b0', _, 0, _, rfl, rfl, k78.seqT hs0, atI_nat (j := 0) rfl, by show 1 ≤ sizeLine; decide, fun p2 np2 => ?_⟩
        have np21 : p1 ≠ p2 := ne_of_none upd_same np2
        refine ⟨p1, p2, _, _, rfl, rfl, (by rw [upd_ne np21]; exact upd_same), upd_same, ?_, fun p3 np3 => ?_⟩
        · rw [List.length_append, List.length_map, List.length_map]
          show _ + 1 ≤ _
          exact small1000' (by omega)
        · have k9 := (k8.trans (Kp.new np2)).trans (Kp.new (o := .lst ((pa.map stV ++ pb.map stV) ++ [.str (dirS s0.v)])) np3)
          refine q _ _ (k7'.trans k9) (.inr ⟨p3, pa ++ pb ++ [.dir s0.v], rfl, (k7'.trans (k8.trans (Kp.new np2))).there _ np3, ?_, .cut s0 his pfa pfb⟩)
          rw [upd_same, List.map_append, List.map_append] <;> rfl
/-- with no call left nothing can be asked -/
theorem plan_zero {f : Addr} {fd : FuncData} : FnOk P w K mg base CX0 (0 + 2) f fd ["patches", "numbers"] (spPlan Pt K 0) := by
  have no : ∀ vs H Q E, ¬ spPlan Pt K 0 vs H Q E := fun vs H Q E h => by
    obtain ⟨a, b, as, ps, N, _, _, _, _, _, hne, _, _, hn, _⟩ := h
    exact hne (List.length_eq_zero_iff.mp (by omega))
  exact ⟨fun vs H Q E h => absurd h (no vs H Q E), fun A outer s H args us vs Q E _ _ _ _ h => absurd h (no vs H Q E)⟩
theorem plan_all {f fS fP : Addr} {fd fdS fdP : FuncData} (F : Fun K "plan_of" "plan_of" sPlanOf f fd) (b0 : Binds K fd ["patches", "numbers"] []) (g0 : mg "plan_of" = some (.ref f))
    (GS : FnOk P w K mg base CX0 2 fS fdS ["patches"] (spSeams Pt K)) (kS : PySem.W.keepIn K (.ref fS) = true) (bS : Binds K fdS ["patches"] []) (gS : mg "straight_seams" = some (.ref fS))
    (GP : FnOk P w K mg base CX0 2 fP fdP ["patches", "seam"] (spSplit Pt K)) (kP : PySem.W.keepIn K (.ref fP) = true) (bP : Binds K fdP ["patches", "seam"] []) (gSp : mg "split" = some (.ref fP)) (mlen : mg "len" = none) :
    ∀ n : Nat, FnOk P w K mg base CX0 (n + 2) f fd ["patches", "numbers"] (spPlan Pt K n)
  | 0 => plan_zero
  | n + 1 => ok_plan F b0 g0 (plan_all F b0 g0 GS kS bS gS GP kP bP gSp mlen n) GS kS bS gS GP kP bP gSp mlen
/-! ### sewing_plan(patches) -/
def spSewing (Pt : Addr) (K : PySem.W.Frag) : Sp := fun vs H Q _ => ∃ (a : Addr) (as : List Addr) (ps : List P4), vs = [.ref a] ∧ SqT K H a (as.map V.ref) ∧ Pats K H as ps ∧ (∀ p ∈ ps, Bnd p) ∧ ps ≠ [] ∧ ps.length ≤ 20 ∧ TabG H Pt ∧
  ∀ H' v, Kp Pt H H' → PlanV H H' (gP ps) (List.range ps.length) v → Q v H'
theorem scSewing : FnScope ["patches"] ["patches"] (defScope sSewing) := ⟨rfl, rfl, rfl, by decide +kernel, rfl, by decide +kernel, by decide +kernel⟩
theorem rgV_nVs (n : Nat) : rgV 0 (n : Int) = nVs (List.range n) := by
  unfold rgV nVs
  rw [show ((n : Int) - 0).toNat = n by omega]
  refine List.map_congr_left fun k _ => ?_
  rw [Int.zero_add]
theorem PlanV.older {P : Addr} {H0 H1 H : Hp} {g : Nat → P4} {N : List Nat} {v : V} (h : PlanV H1 H g N v) (k : Kp P H0 H1) : PlanV H0 H g N v := by
  rcases h with h | ⟨x, plan, e, n, hx, p⟩
  · exact .inl h
  · exact .inr ⟨x, plan, e, k.there _ n, hx, p⟩
theorem ok_sewing {f fR : Addr} {fd fdR : FuncData} (F : Fun K "sewing_plan" "sewing_plan" sSewing f fd) (GR : FnOk P w K mg base CX0 (20 + 2) fR fdR ["patches", "numbers"] (spPlan Pt K 20)) (kR : PySem.W.keepIn K (.ref fR) = true) (bR : Binds K fdR ["patches", "numbers"] []) (gR : mg "plan_of" = some (.ref fR))
    (mlen : mg "len" = none) (mlist : mg "list" = none) (mrange : mg "range" = none) : FnOk P w K mg base CX0 23 f fd ["patches"] (spSewing Pt K) := by
  refine F.ok scSewing (fun vs H Q E h => ?_) (fun cdv A outer s H vs Q E hr h => ?_)
  · obtain ⟨a, as, ps, rfl, _⟩ := h
    rfl
  · obtain ⟨a, as, ps, rfl, hA, hP, hB, hne, hl, hT, q⟩ := h
    refine ⟨_, pss_one (ps_ret (pe_call GR hr (by rfl) gR kR bR .nil pass0 (pa_cons (pv 0) (pa_cons (pe_listRg rfl (by rfl) mlist (prg_1 (by rfl) mrange (pe_callB call_len_seq (by rfl) mlen PySem.boot_len (pa_cons (pv 0) pa_nil)))) pa_nil)))), ?_⟩
    have el : (as.map V.ref).length = ps.length := by rw [List.length_map]; exact hP.1
    refine ⟨_, rfl, _, rfl, a, _, rfl, .inr hA, _, rfl, RgOk.of_le (by omega) (by rw [el]; omega) (by omega) (by omega), fun D nD => ?_⟩
    have k1 : Kp Pt H (upd H D (.lst (rgV 0 ((as.map V.ref).length : Int)))) := Kp.new nD
    have e1 : (upd H D (.lst (rgV 0 ((as.map V.ref).length : Int)))) D = some (.lst (nVs (List.range ps.length))) := by rw [upd_same, el, rgV_nVs]
    refine ⟨a, D, as, ps, List.range ps.length, rfl, k1.seqT hA, k1.pats hP, hB, SqL.of e1, ?_, fun k hk => List.mem_range.mp hk, by rw [List.length_range]; omega, by rw [List.length_range]; omega, k1.tab hT, fun H2 v k2 hv => ?_⟩
    · intro z
      have := congrArg List.length z
      rw [List.length_range] at this
      exact hne (List.length_eq_zero_iff.mp this)
    · exact q H2 v (k1.trans k2) (hv.older k1)
end
end Sw
namespace Sw
open PySem PySem.Spec PyProof.Rows L2 GxR
/-! ### parts in the heap -/
def tr3 (x : Nat × Int × Int) : List V := [.int (x.1 : Nat), .int x.2.1, .int x.2.2]
def Trs (K : PySem.W.Frag) (H : Hp) (cs : List Addr) (pl : List (Nat × Int × Int)) : Prop := cs.length = pl.length ∧ ∀ (i : Nat) (c : Addr) (x : Nat × Int × Int), cs[i]? = some c → pl[i]? = some x → SqT K H c (tr3 x)
def PartAt (K : PySem.W.Frag) (H : Hp) (ok : Addr → Prop) (a : Addr) (p : Part) : Prop := ∃ (b : Addr) (cs : List Addr), ok b ∧ SqT K H a [.int p.h, .int p.w, .ref b] ∧ H b = some (.lst (cs.map V.ref)) ∧ Trs K H cs p.pl
def PartsAt (K : PySem.W.Frag) (H : Hp) (ok : Addr → Prop) (as : List Addr) (S : List Part) : Prop := as.length = S.length ∧ ∀ (i : Nat) (a : Addr) (p : Part), as[i]? = some a → S[i]? = some p → PartAt K H ok a p
section
variable {P : Addr} {H H' : Hp} {K : PySem.W.Frag} {a : Addr} {as cs : List Addr} {S : List Part} {ok ok' : Addr → Prop}
theorem Kp.trs {pl : List (Nat × Int × Int)} (k : Kp P H H') (h : Trs K H cs pl) : Trs K H' cs pl := ⟨h.1, fun i a p e1 e2 => k.seqT (h.2 i a p e1 e2)⟩
theorem Kp.part {p : Part} (k : Kp P H H') (h : PartAt K H ok a p) : PartAt K H' ok a p := by
  obtain ⟨b, cs, h0, h1, h2, h3⟩ := h
  exact ⟨b, cs, h0, k.seqT h1, k.lst h2, k.trs h3⟩
theorem PartAt.imp {p : Part} (h : PartAt K H ok a p) (f : ∀ b, ok b → ok' b) : PartAt K H ok' a p := by
  obtain ⟨b, cs, h0, h1⟩ := h
  exact ⟨b, cs, f b h0, h1⟩
theorem PartAt.any {p : Part} (h : PartAt K H ok a p) : PartAt K H (fun _ => True) a p := h.imp fun _ _ => trivial
theorem PartAt.put {p : Part} {l : Addr} {lst : List V} {o : HO} (h : PartAt K H ok a p) (hl : H l = some (.lst lst)) (hn : ∀ b, ok b → b ≠ l) : PartAt K (upd H l o) ok a p := by
  obtain ⟨b, cs, h0, h1, h2, h3⟩ := h
  exact ⟨b, cs, h0, seqT_put h1 hl, by rw [upd_ne (hn b h0)]; exact h2, h3.1, fun i c x e1 e2 => seqT_put (h3.2 i c x e1 e2) hl⟩
theorem PartsAt.put {l : Addr} {lst : List V} {o : HO} (h : PartsAt K H ok as S) (hl : H l = some (.lst lst)) (hn : ∀ b, ok b → b ≠ l) : PartsAt K (upd H l o) ok as S := ⟨h.1, fun i a p e1 e2 => (h.2 i a p e1 e2).put hl hn⟩
theorem Kp.parts (k : Kp P H H') (h : PartsAt K H ok as S) : PartsAt K H' ok as S := ⟨h.1, fun i a p e1 e2 => k.part (h.2 i a p e1 e2)⟩
end
/-- a relation item by item, one more at the end -/
theorem pair_push {α β : Type} {R : α → β → Prop} {as : List α} {bs : List β} {a : α} {b : β} (h : as.length = bs.length ∧ ∀ (i : Nat) (x : α) (y : β), as[i]? = some x → bs[i]? = some y → R x y) (hb : R a b) :
    (as ++ [a]).length = (bs ++ [b]).length ∧ ∀ (i : Nat) (x : α) (y : β), (as ++ [a])[i]? = some x → (bs ++ [b])[i]? = some y → R x y := by
  refine ⟨by rw [List.length_append, List.length_append, h.1] <;> rfl, fun i x y e1 e2 => ?_⟩
  by_cases hi : i < as.length
  · rw [List.getElem?_append_left hi] at e1
    rw [List.getElem?_append_left (by rw [← h.1]; exact hi)] at e2
    exact h.2 i x y e1 e2
  · have q := (List.getElem?_eq_some_iff.mp e1).1
    rw [List.length_append] at q
    have hi2 : i = as.length := by
      have : ([a] : List α).length = 1 := rfl
      omega
    rw [hi2, List.getElem?_append_right (Nat.le_refl _), Nat.sub_self] at e1
    rw [hi2, h.1, List.getElem?_append_right (Nat.le_refl _), Nat.sub_self] at e2
    have e3 : a = x := Option.some.inj e1
    have e4 : b = y := Option.some.inj e2
    subst e3 e4
    exact hb
theorem pair_app {α β : Type} {R : α → β → Prop} {as as' : List α} {bs bs' : List β} (h : as.length = bs.length ∧ ∀ (i : Nat) (x : α) (y : β), as[i]? = some x → bs[i]? = some y → R x y) (h' : as'.length = bs'.length ∧ ∀ (i : Nat) (x : α) (y : β), as'[i]? = some x → bs'[i]? = some y → R x y) :
    (as ++ as').length = (bs ++ bs').length ∧ ∀ (i : Nat) (x : α) (y : β), (as ++ as')[i]? = some x → (bs ++ bs')[i]? = some y → R x y := by
  refine ⟨by rw [List.length_append, List.length_append, h.1, h'.1], fun i x y e1 e2 => ?_⟩
  by_cases hi : i < as.length
  · rw [List.getElem?_append_left hi] at e1
    rw [List.getElem?_append_left (by rw [← h.1]; exact hi)] at e2
    exact h.2 i x y e1 e2
  · rw [List.getElem?_append_right (by omega)] at e1
    rw [List.getElem?_append_right (by rw [← h.1]; omega), ← h.1] at e2
    exact h'.2 _ x y e1 e2
/-- the last two -/
theorem two_last {α : Type} (xs : List α) (a b : α) : atI (xs ++ [a, b]) (-2) = some a ∧ atI (xs ++ [a, b]) (-1) = some b := by
  have hl : (xs ++ [a, b]).length = xs.length + 2 := by simp
  refine ⟨?_, ?_⟩
  · have e : ixN (xs ++ [a, b]).length (-2) = some xs.length := by
      unfold ixN
      rw [hl, if_neg (by decide), if_pos (by omega)]
      congr 1
      omega
    unfold atI
    rw [e]
    show (xs ++ [a, b])[xs.length]? = some a
    simp
  · have e : ixN (xs ++ [a, b]).length (-1) = some (xs.length + 1) := by
      unfold ixN
      rw [hl, if_neg (by decide), if_pos (by omega)]
      congr 1
      omega
    unfold atI
    rw [e]
    show (xs ++ [a, b])[xs.length + 1]? = some b
    rw [List.getElem?_append_right (Nat.le_succ _)]
    simp
theorem flat_nVs (N : List Nat) : (nVs N).all flatV = true := by
  unfold nVs
  rw [List.all_map]
  exact List.all_eq_true.mpr fun _ _ => rfl
theorem notin_nVs {N : List Nat} {k : Nat} (h : k ∉ N) : inV (.int (k : Int)) (nVs N) = false := by
  unfold inV nVs
  rw [List.any_map, List.any_eq_false]
  intro x hx
  show ¬ ((x : Int) == (k : Int)) = true
  intro z
  have : (x : Int) = (k : Int) := eq_of_beq z
  have : x = k := by omega
  exact h (this ▸ hx)
theorem dir_in (v : Bool) : inV (.str (dirS v)) [.str "|", .str "-"] = true := by cases v <;> decide +kernel
theorem num_in (k : Nat) : inV (.int (k : Int)) [.str "|", .str "-"] = false := rfl
/-! ### step_fault(step, stack, used, sizes) -/
/-- the step may be made -/
def StepOk (K : PySem.W.Frag) (H : Hp) (ss us : List V) (n : Nat) : Step → Prop
  | .num k => k < n ∧ ∃ U : List Nat, us = nVs U ∧ k ∉ U
  | .dir v => ∃ (xs : List V) (a b : Addr) (p q : Part), ss = xs ++ [.ref a, .ref b] ∧ PartAt K H (fun _ => True) a p ∧ PartAt K H (fun _ => True) b q ∧ fitsJ p q v
def spFault (Pt : Addr) (K : PySem.W.Frag) : Sp := fun vs H Q _ => ∃ (S U Z : Addr) (ss us zs : List V) (st : Step), vs = [stV st, .ref S, .ref U, .ref Z] ∧ SqL K H S ss ∧ SqL K H U us ∧ SqL K H Z zs ∧ StepOk K H ss us zs.length st ∧ ss.length ≤ 100 ∧ ∀ H', Kp Pt H H' → Q .non H'
abbrev nFault : List Str := ["step", "stack", "used", "sizes", "first", "second"]
theorem scFault : FnScope nFault ["step", "stack", "used", "sizes"] (defScope sFault) := ⟨rfl, rfl, rfl, by decide +kernel, rfl, by decide +kernel, by decide +kernel⟩
section
variable {P : Program} {w : World} {K : PySem.W.Frag} {mg : Str → Option Value} {base : Heap} {Pt : Addr}
theorem ok_fault {f : Addr} {fd : FuncData} {tS : Tok} (F : Fun K "step_fault" "step_fault" sFault f fd) (mlen : mg "len" = none) (mSIDE : mg "SIDE" = some (.int 10 tS)) : FnOk P w K mg base CX0 1 f fd ["step", "stack", "used", "sizes"] (spFault Pt K) := by
  refine F.ok scFault (fun vs H Q E h => ?_) (fun cdv A outer s H vs Q E hr h => ?_)
  · obtain ⟨S, U, Z, ss, us, zs, st, rfl, _⟩ := h
    rfl
  · obtain ⟨S, U, Z, ss, us, zs, st, rfl, hS, hU, hZ, hok, hss, q⟩ := h
    refine ⟨_, pss_cons (ps_if (pt_cmpR op_notIn_seq (pv 0) (pe_tup (pa_cons pe_str (pa_cons pe_str pa_nil))) (by rfl))
        (pss_cons (ps_if (pt_not (pt_chain op_le op_lt pe_int (pv 0) (pe_callB call_len_seq (by rfl) mlen PySem.boot_len (pa_cons (pv 3) pa_nil)))) (pss_one (ps_ret pe_str)) pss_nil)
        (pss_cons (ps_if (pt_cmpR op_in_seq (pv 0) (pv 2) (by rfl)) (pss_one (ps_ret pe_str)) pss_nil)
        (pss_one (ps_ret pe_non)))) pss_nil)
      (pss_cons (ps_if (pt_cmpR op_lt (pe_callB call_len_seq (by rfl) mlen PySem.boot_len (pa_cons (pv 1) pa_nil)) pe_int (nomark _)) (pss_one (ps_ret pe_str)) pss_nil)
      (pss_cons (ps_set (i := 4) scFault.nd rfl (.inl rfl) (pe_ixL K rfl (pv 1) (pe_un un_neg pe_int)))
      (pss_cons (ps_set (i := 5) scFault.nd rfl (.inl rfl) (pe_ixL K rfl (pv 1) (pe_un un_neg pe_int)))
      (pss_cons (ps_if (pt_cmpR op_eq (pv 0) pe_str (nomark _))
        (pss_cons (ps_if (pt_cmpR op_ne (pe_ixT K rfl (pv 4) pe_int) (pe_ixT K rfl (pv 5) pe_int) (nomark _)) (pss_one (ps_ret pe_str)) pss_nil)
        (pss_cons (ps_if (pt_cmpR op_gt (pe_op op_add (pe_ixT K rfl (pv 4) pe_int) (pe_ixT K rfl (pv 5) pe_int)) (pe_glob (v := .int 10) (by rfl) mSIDE ⟨_, rfl⟩) (nomark _)) (pss_one (ps_ret pe_str)) pss_nil)
        (pss_one (ps_ret pe_non)))) pss_nil)
      (pss_cons (ps_if (pt_cmpR op_ne (pe_ixT K rfl (pv 4) pe_int) (pe_ixT K rfl (pv 5) pe_int) (nomark _)) (pss_one (ps_ret pe_str)) pss_nil)
      (pss_cons (ps_if (pt_cmpR op_gt (pe_op op_add (pe_ixT K rfl (pv 4) pe_int) (pe_ixT K rfl (pv 5) pe_int)) (pe_glob (v := .int 10) (by rfl) mSIDE ⟨_, rfl⟩) (nomark _)) (pss_one (ps_ret pe_str)) pss_nil)
      (pss_one (ps_ret pe_non)))))))), ?_⟩
    refine ⟨_, rfl, by show 2 ≤ sizeLine; decide, fun T nT => ?_⟩
    have k1 : Kp Pt H (upd H T (.tup [.str "|", .str "-"])) := Kp.new nT
    cases st with
    | num k =>
      obtain ⟨hk, N, rfl, hn⟩ := hok
      refine ⟨T, _, rfl, .inr (SqT.of upd_same), rfl, rfl, _, rfl, ?_⟩
      refine ite2 (fun _ => ?_) (fun c => absurd (congrArg (!·) (num_in k)) c)
      -- not 0 <= step < len(sizes)
      refine ⟨_, rfl, _, _, rfl, rfl, _, rfl, ?_⟩
      rw [decide_eq_true (show (0 : Int) ≤ (k : Int) by omega)]
      refine iteT ⟨_, rfl, Z, _, rfl, .inl (k1.seqL hZ), _, _, rfl, rfl, _, rfl, ?_⟩
      rw [decide_eq_true (show (k : Int) < (zs.length : Int) by omega)]
      refine iteF ?_
      -- step in used
      refine ⟨_, rfl, _, rfl, U, _, rfl, .inl (k1.seqL hU), rfl, flat_nVs N, _, rfl, ?_⟩
      exact ite2 (fun c => absurd c (by show ¬ inV (V.int (k : Int)) (nVs N) = true; rw [notin_nVs hn]; decide)) (fun _ => q _ k1)
    | dir v =>
      obtain ⟨xs, a, b, p, r, rfl, hp, hr', hf⟩ := hok
      refine ⟨T, _, rfl, .inr (SqT.of upd_same), rfl, rfl, _, rfl, ?_⟩
      refine ite2 (fun c => absurd c (by show ¬ (!inV (V.str (dirS v)) [V.str "|", V.str "-"]) = true; rw [dir_in v]; decide)) (fun _ => ?_)
      -- len(stack) < 2
      refine ⟨_, rfl, S, _, rfl, .inl (k1.seqL hS), _, _, rfl, rfl, _, rfl, ?_⟩
      rw [decide_eq_false (show ¬ (((xs ++ [V.ref a, V.ref b]).length : Nat) : Int) < 2 by rw [List.length_append]; show ¬ ((xs.length + 2 : Nat) : Int) < 2; omega)]
      refine iteF ?_
      -- first, second
      refine ⟨_, rfl, _, rfl, S, _, _, _, rfl, rfl, k1.seqL hS, (two_last xs _ _).1, ?_⟩
      refine ⟨_, rfl, _, rfl, S, _, _, _, rfl, rfl, k1.seqL hS, (two_last xs _ _).2, ?_⟩
      obtain ⟨b1, cs1, _, ht1, _, _⟩ := k1.part hp
      obtain ⟨b2, cs2, _, ht2, _, _⟩ := k1.part hr'
      have i0 : ∀ (p : Part) (b : Addr), atI ([.int p.h, .int p.w, .ref b] : List V) 0 = some (.int p.h) := fun p b => atI_nat (j := 0) rfl
      have i1 : ∀ (p : Part) (b : Addr), atI ([.int p.h, .int p.w, .ref b] : List V) 1 = some (.int p.w) := fun p b => atI_nat (j := 1) rfl
      refine ⟨_, rfl, by cases v <;> rfl, _, rfl, ?_⟩
      cases v with
      | true =>
        obtain ⟨f1, f2⟩ := hf
        refine ite2 (fun _ => ?_) (fun c => absurd (dir_eq true) c)
        refine ⟨_, rfl, a, _, _, _, rfl, rfl, ht1, i0 _ _, _, rfl, b, _, _, _, rfl, rfl, ht2, i0 _ _, rfl, _, rfl, ?_⟩
        refine iteNS (by rw [f1]) ?_
        refine ⟨_, rfl, a, _, _, _, rfl, rfl, ht1, i1 _ _, _, rfl, b, _, _, _, rfl, rfl, ht2, i1 _ _, _, _, rfl, rfl, _, _, rfl, rfl, _, rfl, ?_⟩
        rw [decide_eq_false (show ¬ (10 : Int) < p.w + r.w by omega)]
        exact iteF (q _ k1)
      | false =>
        obtain ⟨f1, f2⟩ := hf
        refine ite2 (fun c => absurd c (by show ¬ decide (V.str (dirS false) = V.str "|") = true; rw [dir_eq false]; decide)) (fun _ => ?_)
        refine ⟨_, rfl, a, _, _, _, rfl, rfl, ht1, i1 _ _, _, rfl, b, _, _, _, rfl, rfl, ht2, i1 _ _, rfl, _, rfl, ?_⟩
        refine iteNS (by rw [f1]) ?_
        refine ⟨_, rfl, a, _, _, _, rfl, rfl, ht1, i0 _ _, _, rfl, b, _, _, _, rfl, rfl, ht2, i0 _ _, _, _, rfl, rfl, _, _, rfl, rfl, _, rfl, ?_⟩
        rw [decide_eq_false (show ¬ (10 : Int) < p.h + r.h by omega)]
        exact iteF (q _ k1)
end
end Sw
namespace Sw
open PySem PySem.Spec PyProof.Rows L2 GxR
/-! ### put_together(first, second, direction) -/
def spPut (Pt : Addr) (K : PySem.W.Frag) : Sp := fun vs H Q _ => ∃ (a b : Addr) (p r : Part) (v : Bool), vs = [.ref a, .ref b, .str (dirS v)] ∧ PartAt K H (fun _ => True) a p ∧ PartAt K H (fun _ => True) b r ∧ p.pl.length ≤ 50 ∧ r.pl.length ≤ 50 ∧
  ∀ H' x, Kp Pt H H' → PartAt K H' (fun b => H b = none) x (put p r v) → Q (.ref x) H'
abbrev nPut : List Str := ["first", "second", "direction", "places", "patch", "top", "left"]
theorem scPut : FnScope nPut ["first", "second", "direction"] (defScope sPut) := ⟨rfl, rfl, rfl, by decide +kernel, rfl, by decide +kernel, by decide +kernel⟩
/-- a comprehension over triples whose element makes a new triple -/
theorem lc_trs {K : PySem.W.Frag} {a P : Addr} {cs : List Addr} {pl : List (Nat × Int × Int)} {te : TE} {vs : List Nat} {σ : L2.St} {H1 : Hp} {D : Addr} {Qd : Hp → Prop} (f : Nat × Int × Int → Nat × Int × Int) (nD : H1 D = none) (hS : SqL K H1 a (cs.map V.ref)) (hP : Trs K H1 cs pl) (hlen : pl.length ≤ 100)
    (hw : ∀ x y z, wipe (((( wipe σ vs).set 4 (some x)).set 5 (some y)).set 6 (some z)) vs = wipe σ vs)
    (step : ∀ (x : Nat × Int × Int) H (Qv : VK), Kp P H1 H → x ∈ pl → (∀ T, H T = none → Qv (.ref T) (upd H T (.tup (tr3 (f x))))) → te ((((wipe σ vs).set 4 (some (.int (x.1 : Nat)))).set 5 (some (.int x.2.1))).set 6 (some (.int x.2.2))) H Qv)
    (hd : ∀ H ds, Kp P H1 H → H D = some (.lst (ds.map V.ref)) → Trs K H ds (pl.map f) → Qd H) :
    ∃ W : Nat → Nat → Hp → Prop, (∃ m, W 0 m (upd H1 D (.lst []))) ∧ ∀ i m H, W i m H →
      ((Itl K a).stop i H ∧ Qd H) ∨ ((Itl K a).go i H ∧ ∃ Nx : Hp → Prop, (∀ H', Nx H' → ∃ m', m' < m ∧ W (i + 1) m' H') ∧ ∀ x H', (Itl K a).yld i H x H' → gTup K 3 (gCons (gName 4) (gCons (gName 5) (gCons (gName 6) gNil))) x (wipe σ vs) H' fun σ2 H2 => wipe σ2 vs = wipe σ vs ∧ tYes σ2 H2 fun b H3 =>
        if b = true then te σ2 H3 fun y H4 => ∃ acc, H4 D = some (.lst acc) ∧ acc.length < sizeLine ∧ Nx (upd H4 D (.lst (acc ++ [y]))) else Nx H3) := by
  have hl : (cs.map V.ref).length = pl.length := by rw [List.length_map]; exact hP.1
  refine lc_list (K := K) (a := a) (xs := cs.map V.ref) (fun i H => Kp P H1 H ∧ ∃ ds, H D = some (.lst (ds.map V.ref)) ∧ Trs K H ds ((pl.take i).map f)) ⟨Kp.new nD, [], upd_same, rfl, fun i c x e => by cases e⟩ (fun i H _ h => h.1.seqL hS) (fun i x H hx h => ?_) (fun H h => ?_)
  · obtain ⟨k, ds, hD, hT⟩ := h
    rw [List.getElem?_map] at hx
    obtain ⟨c, hc, rfl⟩ := Option.map_eq_some_iff.mp hx
    obtain ⟨y, hy⟩ := getP hP.1 hc
    refine ⟨c, _, rfl, k.seqT (hP.2 i c y hc hy), rfl, _, _, rfl, _, _, rfl, _, _, rfl, rfl, hw _ _ _, ?_⟩
    refine iteT (B := Kp P H1 H ∧ ∃ ds, H D = some (HO.lst (List.map V.ref ds)) ∧ Trs K H ds (List.map f (List.take (i + 1) pl))) ?_
    refine step y H _ k (List.mem_of_getElem? hy) fun T nT => ?_
    have k2 : Kp P H (upd H T (.tup (tr3 (f y)))) := Kp.new nT
    have hlt : (ds.map V.ref).length < sizeLine := by
      rw [List.length_map, hT.1, List.length_map, List.length_take]
      exact small100 (by omega)
    refine ⟨_, k2.lst hD, hlt, (k.trans k2).put nD, ds ++ [T], ?_, ?_⟩
    · rw [upd_same, List.map_append] <;> rfl
    · rw [take_map_succ f hy]
      have kk := pair_push (R := fun c x => SqT K (upd H T (.tup (tr3 (f y)))) c (tr3 x)) (k2.trs hT) (a := T) (b := f y) (SqT.of upd_same)
      refine ⟨kk.1, fun j c x e1 e2 => ?_⟩
      rcases kk.2 j c x e1 e2 with (q1 | ⟨o, q1⟩) | q1
      · refine .inl (.inl ?_)
        rw [upd_ne (ne_of q1 (k2.lst hD) (fun z => by cases z))]
        exact q1
      · refine .inl (.inr ⟨o, ?_⟩)
        rw [upd_ne (ne_of q1 (k2.lst hD) (fun z => by cases z))]
        exact q1
      · exact .inr q1
  · rw [hl] at h
    obtain ⟨k, ds, hD, hT⟩ := h
    rw [List.take_length] at hT
    exact hd H ds k hD hT
section
variable {P : Program} {w : World} {K : PySem.W.Frag} {mg : Str → Option Value} {base : Heap} {Pt : Addr}
theorem ok_put {f : Addr} {fd : FuncData} (F : Fun K "put_together" "put_together" sPut f fd) : FnOk P w K mg base CX0 1 f fd ["first", "second", "direction"] (spPut Pt K) := by
  refine F.ok scPut (fun vs H Q E h => ?_) (fun cdv A outer s H vs Q E hr h => ?_)
  · obtain ⟨a, b, p, r, v, rfl, _⟩ := h
    rfl
  · obtain ⟨a, b, p, r, v, rfl, hp, hr', l1, l2, q⟩ := h
    refine ⟨_, pss_cons (ps_if (pt_cmpR op_eq (pv 2) pe_str (nomark _))
        (pss_cons (ps_setLc (i := 3) (own := [("patch", 4), ("top", 5), ("left", 6)]) (g := gTup K 3 (gCons (gName 4) (gCons (gName 5) (gCons (gName 6) gNil)))) (tt := tYes) rfl scPut.nd rfl rfl (sw_true rfl rfl rfl (by decide +kernel)) (pi_list (pe_ixT K rfl (pv 1) pe_int)) (blkOk_by (N := nPut) (sc := defScope sPut) (by decide +kernel))
            (fun _ _ _ _ _ => pg_tup rfl (pgs_cons (pg_name (i := 4) scPut.nd rfl (Or.inl rfl)) (pgs_cons (pg_name (i := 5) scPut.nd rfl (Or.inl rfl)) (pgs_cons (pg_name (i := 6) scPut.nd rfl (Or.inl rfl)) pgs_nil)))) (fun _ _ _ _ _ => pts_nil)
            (fun _ _ _ _ _ => pe_tup (pa_cons (pv 4) (pa_cons (pv 5) (pa_cons (pe_op op_add (pv 6) (pe_ixT K rfl (pv 0) pe_int)) pa_nil)))))
        (pss_one (ps_ret (pe_tup (pa_cons (pe_ixT K rfl (pv 0) pe_int) (pa_cons (pe_op op_add (pe_ixT K rfl (pv 0) pe_int) (pe_ixT K rfl (pv 1) pe_int)) (pa_cons (pe_op op_cat (pe_ixT K rfl (pv 0) pe_int) (pv 3)) pa_nil))))))) pss_nil)
      (pss_cons (ps_setLc (i := 3) (own := [("patch", 4), ("top", 5), ("left", 6)]) (g := gTup K 3 (gCons (gName 4) (gCons (gName 5) (gCons (gName 6) gNil)))) (tt := tYes) rfl scPut.nd rfl rfl (sw_true rfl rfl rfl (by decide +kernel)) (pi_list (pe_ixT K rfl (pv 1) pe_int)) (blkOk_by (N := nPut) (sc := defScope sPut) (by decide +kernel))
            (fun _ _ _ _ _ => pg_tup rfl (pgs_cons (pg_name (i := 4) scPut.nd rfl (Or.inl rfl)) (pgs_cons (pg_name (i := 5) scPut.nd rfl (Or.inl rfl)) (pgs_cons (pg_name (i := 6) scPut.nd rfl (Or.inl rfl)) pgs_nil)))) (fun _ _ _ _ _ => pts_nil)
            (fun _ _ _ _ _ => pe_tup (pa_cons (pv 4) (pa_cons (pe_op op_add (pv 5) (pe_ixT K rfl (pv 0) pe_int)) (pa_cons (pv 6) pa_nil)))))
      (pss_one (ps_ret (pe_tup (pa_cons (pe_op op_add (pe_ixT K rfl (pv 0) pe_int) (pe_ixT K rfl (pv 1) pe_int)) (pa_cons (pe_ixT K rfl (pv 0) pe_int) (pa_cons (pe_op op_cat (pe_ixT K rfl (pv 0) pe_int) (pv 3)) pa_nil))))))), ?_⟩
    obtain ⟨pa, ca, _, ta, ea, ra⟩ := hp
    obtain ⟨pb, cb, _, tb, eb, rb⟩ := hr'
    have i0 : ∀ (p : Part) (b : Addr), atI ([.int p.h, .int p.w, .ref b] : List V) 0 = some (.int p.h) := fun p b => atI_nat (j := 0) rfl
    have i1 : ∀ (p : Part) (b : Addr), atI ([.int p.h, .int p.w, .ref b] : List V) 1 = some (.int p.w) := fun p b => atI_nat (j := 1) rfl
    have i2 : ∀ (p : Part) (b : Addr), atI ([.int p.h, .int p.w, .ref b] : List V) 2 = some (.ref b) := fun p b => atI_nat (j := 2) rfl
    refine ⟨_, rfl, rfl, _, rfl, ?_⟩
    cases v with
    | true =>
      refine ite2 (fun _ => ?_) (fun c => absurd (dir_eq true) c)
      refine ⟨_, rfl, b, _, _, _, rfl, rfl, tb, i2 _ _, pb, rfl, ⟨_, SqL.of eb⟩, fun D nD => lc_trs (P := Pt) (fun x => (x.1, x.2.1, x.2.2 + p.w)) nD (SqL.of eb) rb (by omega) (fun _ _ _ => rfl) (fun x H' Qv k' hx hq => ?_) (fun H1 ds k1 eD rD => ?_)⟩
      · exact ⟨_, rfl, _, rfl, _, rfl, _, rfl, a, _, _, _, rfl, rfl, k'.seqT ta, i1 _ _, _, _, rfl, rfl, by show 3 ≤ sizeLine; decide, fun T nT => hq T nT⟩
      · refine ⟨_, rfl, a, _, _, _, rfl, rfl, k1.seqT ta, i0 _ _, _, rfl, a, _, _, _, rfl, rfl, k1.seqT ta, i1 _ _, _, rfl, b, _, _, _, rfl, rfl, k1.seqT tb, i1 _ _, _, _, rfl, rfl, _, rfl, a, _, _, _, rfl, rfl, k1.seqT ta, i2 _ _, _, rfl, ?_⟩
        have lm : (r.pl.map fun x => (x.1, x.2.1, x.2.2 + p.w)).length = r.pl.length := List.length_map _
        refine ⟨pa, D, _, _, rfl, rfl, k1.lst ea, eD, ?_, fun C nC => ⟨by show 3 ≤ sizeLine; decide, fun x nx => ?_⟩⟩
        · rw [List.length_map, List.length_map, ra.1, rD.1, lm]
          exact small1000' (by omega)
        · have k2 : Kp Pt H1 (upd H1 C (.lst (ca.map V.ref ++ ds.map V.ref))) := Kp.new nC
          have k3 : Kp Pt (upd H1 C (.lst (ca.map V.ref ++ ds.map V.ref))) _ := Kp.new (o := .tup [.int p.h, .int (p.w + r.w), .ref C]) nx
          refine q _ x (k1.trans (k2.trans k3)) ⟨C, ca ++ ds, k1.there C nC, SqT.of upd_same, ?_, ?_⟩
          · rw [List.map_append]
            exact k3.lst upd_same
          · exact pair_app (R := fun c x => SqT K _ c (tr3 x)) ((k1.trans (k2.trans k3)).trs ra) ((k2.trans k3).trs rD)
    | false =>
      refine ite2 (fun c => absurd c (by show ¬ decide (V.str (dirS false) = V.str "|") = true; rw [dir_eq false]; decide)) (fun _ => ?_)
      refine ⟨_, rfl, b, _, _, _, rfl, rfl, tb, i2 _ _, pb, rfl, ⟨_, SqL.of eb⟩, fun D nD => lc_trs (P := Pt) (fun x => (x.1, x.2.1 + p.h, x.2.2)) nD (SqL.of eb) rb (by omega) (fun _ _ _ => rfl) (fun x H' Qv k' hx hq => ?_) (fun H1 ds k1 eD rD => ?_)⟩
      · exact ⟨_, rfl, _, rfl, _, rfl, a, _, _, _, rfl, rfl, k'.seqT ta, i0 _ _, _, _, rfl, rfl, _, rfl, by show 3 ≤ sizeLine; decide, fun T nT => hq T nT⟩
      · refine ⟨_, rfl, a, _, _, _, rfl, rfl, k1.seqT ta, i0 _ _, _, rfl, b, _, _, _, rfl, rfl, k1.seqT tb, i0 _ _, _, _, rfl, rfl, _, rfl, a, _, _, _, rfl, rfl, k1.seqT ta, i1 _ _, _, rfl, a, _, _, _, rfl, rfl, k1.seqT ta, i2 _ _, _, rfl, ?_⟩
        have lm : (r.pl.map fun x => (x.1, x.2.1 + p.h, x.2.2)).length = r.pl.length := List.length_map _
        refine ⟨pa, D, _, _, rfl, rfl, k1.lst ea, eD, ?_, fun C nC => ⟨by show 3 ≤ sizeLine; decide, fun x nx => ?_⟩⟩
        · rw [List.length_map, List.length_map, ra.1, rD.1, lm]
          exact small1000' (by omega)
        · have k2 : Kp Pt H1 (upd H1 C (.lst (ca.map V.ref ++ ds.map V.ref))) := Kp.new nC
          have k3 : Kp Pt (upd H1 C (.lst (ca.map V.ref ++ ds.map V.ref))) _ := Kp.new (o := .tup [.int (p.h + r.h), .int p.w, .ref C]) nx
          refine q _ x (k1.trans (k2.trans k3)) ⟨C, ca ++ ds, k1.there C nC, SqT.of upd_same, ?_, ?_⟩
          · rw [List.map_append]
            exact k3.lst upd_same
          · exact pair_app (R := fun c x => SqT K _ c (tr3 x)) ((k1.trans (k2.trans k3)).trs ra) ((k2.trans k3).trs rD)
end
end Sw
namespace Sw
theorem perm_map_inv {α β : Type} (f : α → β) {ys xs : List β} (h : ys.Perm xs) : ∀ l : List α, xs = l.map f → ∃ l' : List α, l'.Perm l ∧ ys = l'.map f := by
  induction h with
  | nil =>
    intro l e
    exact ⟨l, .refl _, e⟩
  | cons x _ ih =>
    intro l e
    cases l with
    | nil => cases e
    | cons a r =>
      rw [List.map_cons] at e
      injection e with e1 e2
      obtain ⟨l', hp, e3⟩ := ih r e2
      exact ⟨a :: l', hp.cons a, by rw [List.map_cons, e1, e3]⟩
  | swap x y _ =>
    intro l e
    match l, e with
    | a :: b :: r, e =>
      rw [List.map_cons, List.map_cons] at e
      injection e with e1 e2
      injection e2 with e2 e3
      exact ⟨b :: a :: r, .swap _ _ _, by rw [List.map_cons, List.map_cons, e1, e2, e3]⟩
    | [], e => cases e
    | [_], e => cases e
  | trans _ _ i1 i2 =>
    intro l e
    obtain ⟨l1, p1, e1⟩ := i2 l e
    obtain ⟨l2, p2, e2⟩ := i1 l1 e1
    exact ⟨l2, p2.trans p1, e2⟩
/-- where the patches lie, by their numbers -/
def lies (g : Nat → P4) (n : Nat) : List (Nat × Int × Int) := (List.range n).map fun k => (k, (g k).t, (g k).l)
theorem sorted_lies {g : Nat → P4} {n : Nat} {pl : List (Nat × Int × Int)} (hp : pl.Perm (lies g n)) (hs : pl.Pairwise fun x y => x.1 ≤ y.1) : pl = lies g n := by
  have form : ∀ x ∈ lies g n, x = (x.1, (g x.1).t, (g x.1).l) := fun x hx => by
    obtain ⟨k, _, rfl⟩ := List.mem_map.mp hx
    rfl
  refine hp.eq_of_pairwise (le := fun x y => x.1 ≤ y.1) (fun a b ha hb h1 h2 => ?_) hs ?_
  · rw [form a (hp.mem_iff.mp ha), form b hb]
    have : a.1 = b.1 := Nat.le_antisymm h1 h2
    rw [this]
  · unfold lies
    rw [List.pairwise_map]
    exact List.pairwise_lt_range.imp fun h => Nat.le_of_lt h
/-- how many places stand in the parts -/
def total (S : List Part) : Nat := (S.map fun p => p.pl.length).sum
theorem total_app (S S' : List Part) : total (S ++ S') = total S + total S' := by
  unfold total
  rw [List.map_append, List.sum_append]
theorem total_mem {S : List Part} {p : Part} (h : p ∈ S) : p.pl.length ≤ total S := by
  induction S with
  | nil => cases h
  | cons a r ih =>
    have e : total (a :: r) = a.pl.length + total r := rfl
    rcases List.mem_cons.mp h with rfl | h
    · omega
    · have := ih h
      omega
theorem put_len (a b : Part) (v : Bool) : (put a b v).pl.length = a.pl.length + b.pl.length := by
  cases v
  · show (a.pl ++ b.pl.map _).length = _
    rw [List.length_append, List.length_map]
  · show (a.pl ++ b.pl.map _).length = _
    rw [List.length_append, List.length_map]
theorem Turn.total {g : Nat → P4} {n : Nat} {st : Step} {m m' : Mc} (h : Turn g n st m m') : Sw.total m'.stack ≤ Sw.total m.stack + 1 ∧ m'.stack.length ≤ m.stack.length + 1 ∧ m'.used.length ≤ m.used.length + 1 := by
  cases h with
  | num k _ _ =>
    refine ⟨?_, ?_, ?_⟩
    · rw [total_app]
      exact Nat.le_refl _
    · rw [List.length_append]
      exact Nat.le_refl _
    · rw [List.length_append]
      exact Nat.le_refl _
  | dir a b v _ =>
    refine ⟨?_, ?_, Nat.le_succ _⟩
    · rw [total_app, total_app]
      show _ + ((put a b v).pl.length + 0) ≤ _ + (a.pl.length + (b.pl.length + 0)) + 1
      rw [put_len]
      omega
    · rw [List.length_append, List.length_append]
      show _ + 1 ≤ _ + 2 + 1
      omega
theorem drop_cons {α : Type} {l : List α} {i : Nat} (h : i < l.length) : ∃ x, l[i]? = some x ∧ l.drop i = x :: l.drop (i + 1) :=
  ⟨l[i], List.getElem?_eq_getElem h, List.drop_eq_getElem_cons h⟩
theorem Runs.here {g : Nat → P4} {n : Nat} {st : Step} {r : List Step} {m m2 : Mc} (h : Runs g n (st :: r) m m2) : ∃ m1, Turn g n st m m1 ∧ Runs g n r m1 m2 := by
  cases h with
  | cons t q => exact ⟨_, t, q⟩
theorem Runs.done {g : Nat → P4} {n : Nat} {m m2 : Mc} (h : Runs g n [] m m2) : m = m2 := by
  cases h
  rfl
end Sw
namespace Sw
open PySem PySem.Spec PyProof.Rows L2 GxR
/-! ### placed(plan, sizes) -/
def Sizes (K : PySem.W.Frag) (H : Hp) (zs : List Addr) (ps : List P4) : Prop := zs.length = ps.length ∧ ∀ (i : Nat) (z : Addr) (p : P4), zs[i]? = some z → ps[i]? = some p → SqT K H z [.int p.h, .int p.w]
theorem Kp.sizes {P : Addr} {H H' : Hp} {K : PySem.W.Frag} {zs : List Addr} {ps : List P4} (k : Kp P H H') (h : Sizes K H zs ps) : Sizes K H' zs ps := ⟨h.1, fun i a p e1 e2 => k.seqT (h.2 i a p e1 e2)⟩
def spPlaced (Pt : Addr) (K : PySem.W.Frag) : Sp := fun vs H Q _ => ∃ (a b : Addr) (plan : List Step) (zs : List Addr) (ps : List P4) (part : Part) (used : List Nat), vs = [.ref a, .ref b] ∧ SqL K H a (plan.map stV) ∧ SqL K H b (zs.map V.ref) ∧ Sizes K H zs ps ∧ (∀ p ∈ ps, Bnd p) ∧ ps.length ≤ 20 ∧ plan.length ≤ 50 ∧
  Runs (gP ps) ps.length plan ⟨[], []⟩ ⟨[part], used⟩ ∧ used.length = ps.length ∧ part.pl.Perm (lies (gP ps) ps.length) ∧ ∀ H' x rs, Kp Pt H H' → H' x = some (.tup (rs.map V.ref)) → Pats K H' rs ps → Q (.ref x) H'
abbrev nPlaced : List Str := ["plan", "sizes", "stack", "used", "k", "step", "what", "second", "first", "patch", "top", "left"]
theorem scPlaced : FnScope nPlaced ["plan", "sizes"] (defScope sPlaced) := ⟨rfl, rfl, rfl, by decide +kernel, rfl, by decide +kernel, by decide +kernel⟩
/-- the two last of parts -/
theorem parts_two {K : PySem.W.Frag} {H : Hp} {ok : Addr → Prop} {as : List Addr} {S : List Part} {p r : Part} (h : PartsAt K H ok as (S ++ [p, r])) : ∃ as' a b, as = as' ++ [a, b] ∧ PartsAt K H ok as' S ∧ PartAt K H ok a p ∧ PartAt K H ok b r := by
  have hl := h.1
  rw [List.length_append] at hl
  have hl : as.length = S.length + 2 := hl
  have e : as = as.take S.length ++ as.drop S.length := (List.take_append_drop _ _).symm
  have hd : (as.drop S.length).length = 2 := by rw [List.length_drop]; omega
  obtain ⟨a, b, ed⟩ : ∃ a b, as.drop S.length = [a, b] := by
    match as.drop S.length, hd with
    | [a, b], _ => exact ⟨a, b, rfl⟩
  rw [ed] at e
  have ht : (as.take S.length).length = S.length := by rw [List.length_take]; omega
  refine ⟨as.take S.length, a, b, e, ⟨ht, fun i x y e1 e2 => ?_⟩, ?_, ?_⟩
  · have hi := (List.getElem?_eq_some_iff.mp e2).1
    refine h.2 i x y ?_ (by rw [List.getElem?_append_left hi]; exact e2)
    rw [e, List.getElem?_append_left (by rw [ht]; exact hi)]
    exact e1
  · refine h.2 S.length a p ?_ ?_
    · rw [e, List.getElem?_append_right (by rw [ht]; exact Nat.le_refl _), ht, Nat.sub_self]
      rfl
    · rw [List.getElem?_append_right (Nat.le_refl _), Nat.sub_self]
      rfl
  · refine h.2 (S.length + 1) b r ?_ ?_
    · rw [e, List.getElem?_append_right (by rw [ht]; exact Nat.le_succ _), ht, Nat.add_sub_cancel_left]
      rfl
    · rw [List.getElem?_append_right (by omega), Nat.add_sub_cancel_left]
      rfl
theorem bd3 {ps : List P4} (h : ∀ p ∈ ps, Bnd p) (h20 : ps.length ≤ 20) {x : Nat × Int × Int} (hx : x ∈ lies (gP ps) ps.length) : TS.Bd 64 [((x.1 : Nat) : Int), x.2.1, x.2.2] := by
  obtain ⟨k, hk, rfl⟩ := List.mem_map.mp hx
  have hk := List.mem_range.mp hk
  have b := gP_bnd h hk
  have b1 := b.t
  have b2 := b.l
  have b3 := b.h
  have b4 := b.w
  have b5 := b.b
  have b6 := b.r
  intro m hm
  rcases List.mem_cons.mp hm with rfl | hm
  · show (0 : Int) ≤ (k : Int) ∧ (k : Int) < 64
    omega
  rcases List.mem_cons.mp hm with rfl | hm
  · show 0 ≤ (gP ps k).t ∧ (gP ps k).t < 64
    omega
  rcases List.mem_cons.mp hm with rfl | hm
  · show 0 ≤ (gP ps k).l ∧ (gP ps k).l < 64
    omega
  · cases hm
/-- what sorted gives: the places in the order of the patches -/
theorem sorted_pl {K : PySem.W.Frag} {H : Hp} {cs : List Addr} {pl : List (Nat × Int × Int)} {ps : List P4} {ys : List V} (hT : Trs K H cs pl) (hB : ∀ p ∈ ps, Bnd p) (h20 : ps.length ≤ 20) (hp : pl.Perm (lies (gP ps) ps.length)) (hy : ys.Perm (cs.map V.ref))
    (hs : ys.Pairwise fun x y => ∀ n m, TupI K H x n → TupI K H y m → TS.code 64 n ≤ TS.code 64 m) : ∃ ds : List Addr, ys = ds.map V.ref ∧ Trs K H ds (lies (gP ps) ps.length) := by
  have ez : cs.map V.ref = (cs.zip pl).map fun z => V.ref z.1 := by
    have e1 : ((cs.zip pl).map Prod.fst).map V.ref = (cs.zip pl).map fun z => V.ref z.1 := by rw [List.map_map] <;> rfl
    rw [← e1, List.map_fst_zip (by rw [hT.1]; exact Nat.le_refl _)]
  obtain ⟨zs, hz, ey⟩ := perm_map_inv (fun z : Addr × (Nat × Int × Int) => V.ref z.1) hy _ ez
  have hzT : ∀ z ∈ zs, SqT K H z.1 (tr3 z.2) := fun z hm => by
    have hm := hz.mem_iff.mp hm
    obtain ⟨i, hi, e⟩ := List.getElem_of_mem hm
    have e2 : (cs.zip pl)[i]? = some z := by rw [List.getElem?_eq_getElem hi, e]
    rw [List.getElem?_zip_eq_some] at e2
    exact hT.2 i z.1 z.2 e2.1 e2.2
  have hpl : (zs.map (·.2)).Perm (lies (gP ps) ps.length) := by
    refine List.Perm.trans (hz.map (·.2)) ?_
    rw [List.map_snd_zip (by rw [hT.1]; exact Nat.le_refl _)]
    exact hp
  have hpw : (zs.map (·.2)).Pairwise fun x y => x.1 ≤ y.1 := by
    rw [ey, List.pairwise_map] at hs
    rw [List.pairwise_map]
    refine List.Pairwise.imp_of_mem (fun {x y} hx hy h => ?_) hs
    refine Nat.le_of_not_lt fun hlt => ?_
    have h1 := h [((x.2.1 : Nat) : Int), x.2.2.1, x.2.2.2] [((y.2.1 : Nat) : Int), y.2.2.1, y.2.2.2] ⟨x.1, rfl, hzT x hx⟩ ⟨y.1, rfl, hzT y hy⟩
    have bx := bd3 hB h20 (hpl.mem_iff.mp (List.mem_map.mpr ⟨x, hx, rfl⟩))
    have b_y := bd3 hB h20 (hpl.mem_iff.mp (List.mem_map.mpr ⟨y, hy, rfl⟩))
    have h2 := TS.code_lt (B := 64) (d := ((y.2.1 : Nat) : Int)) (e := ((x.2.1 : Nat) : Int)) (r := [y.2.2.1, y.2.2.2]) (q := [x.2.2.1, x.2.2.2]) rfl b_y.tail bx.tail (by omega)
    omega
  have e := sorted_lies hpl hpw
  refine ⟨zs.map (·.1), by rw [ey, List.map_map]; rfl, ?_⟩
  rw [← e]
  refine ⟨by rw [List.length_map, List.length_map], fun i c x e1 e2 => ?_⟩
  rw [List.getElem?_map] at e1 e2
  obtain ⟨z, hzi, rfl⟩ := Option.map_eq_some_iff.mp e1
  rw [hzi] at e2
  have e3 : z.2 = x := Option.some.inj e2
  subst e3
  exact hzT z (List.mem_of_getElem? hzi)
section
variable {P : Program} {w : World} {K : PySem.W.Frag} {mg : Str → Option Value} {base : Heap} {Pt : Addr}
theorem ok_placed {f fF fP : Addr} {fd fdF fdP : FuncData} (F : Fun K "placed" "placed" sPlaced f fd) (GF : FnOk P w K mg base CX0 1 fF fdF ["step", "stack", "used", "sizes"] (spFault Pt K)) (kF : PySem.W.keepIn K (.ref fF) = true) (bF : Binds K fdF ["step", "stack", "used", "sizes"] []) (gF : mg "step_fault" = some (.ref fF))
    (GP : FnOk P w K mg base CX0 1 fP fdP ["first", "second", "direction"] (spPut Pt K)) (kP : PySem.W.keepIn K (.ref fP) = true) (bP : Binds K fdP ["first", "second", "direction"] []) (gPt : mg "put_together" = some (.ref fP))
    (mlen : mg "len" = none) (mrange : mg "range" = none) (msorted : mg "sorted" = none) (mtuple : mg "tuple" = none) : FnOk P w K mg base CX0 2 f fd ["plan", "sizes"] (spPlaced Pt K) := by
  refine F.ok scPlaced (fun vs H Q E h => ?_) (fun cdv A outer s H vs Q E hr h => ?_)
  · obtain ⟨a, b, plan, zs, ps, part, used, rfl, _⟩ := h
    rfl
  · obtain ⟨a, b, plan, zs, ps, part, used, rfl, hA, hZ, hSz, hB, h20, h40, hrun, hused, hperm, q⟩ := h
    refine ⟨_, pss_cons (ps_set (i := 2) scPlaced.nd rfl (.inl rfl) (pe_lst pa_nil))
      (pss_cons (ps_set (i := 3) scPlaced.nd rfl (.inl rfl) (pe_lst pa_nil))
      (pss_cons (ps_for PassesOwn.never rfl (pi_range1 (by rfl) mrange (pa_cons (pe_callB call_len_seq (by rfl) mlen PySem.boot_len (pa_cons (pv 0) pa_nil)) pa_nil)) (pg_name (i := 4) scPlaced.nd rfl (.inl rfl))
        (pss_cons (ps_set (i := 5) scPlaced.nd rfl (.inl rfl) (pe_ixL K rfl (pv 0) (pv 4)))
        (pss_cons (ps_set (i := 6) scPlaced.nd rfl (.inl rfl) (pe_call GF hr (by rfl) gF kF bF .nil pass0 (pa_cons (pv 5) (pa_cons (pv 2) (pa_cons (pv 3) (pa_cons (pv 1) pa_nil))))))
        (pss_cons (ps_if (pt_cmp (pc_notN (pv 6))) (pss_one ps_never) pss_nil)
        (pss_one (ps_if (pt_cmpR op_in_seq (pv 5) (pe_tup (pa_cons pe_str (pa_cons pe_str pa_nil))) (by rfl))
          (pss_cons (ps_set (i := 7) scPlaced.nd rfl (.inl rfl) (pe_bm0 PySem.F.plainAttrs_list PySem.F.slot_list_pop PySem.F.type_list_pop mt_pop (pv 2)))
          (pss_cons (ps_set (i := 8) scPlaced.nd rfl (.inl rfl) (pe_bm0 PySem.F.plainAttrs_list PySem.F.slot_list_pop PySem.F.type_list_pop mt_pop (pv 2)))
          (pss_one (ps_expr (pe_bm PySem.F.plainAttrs_list PySem.F.slot_list_append PySem.F.type_list_append mt_append (pv 2) (pa_cons (pe_call GP hr (by rfl) gPt kP bP .nil pass0 (pa_cons (pv 8) (pa_cons (pv 7) (pa_cons (pv 5) pa_nil)))) pa_nil))))))
          (pss_cons (ps_expr (pe_bm PySem.F.plainAttrs_list PySem.F.slot_list_append PySem.F.type_list_append mt_append (pv 3) (pa_cons (pv 5) pa_nil)))
          (pss_one (ps_expr (pe_bm PySem.F.plainAttrs_list PySem.F.slot_list_append PySem.F.type_list_append mt_append (pv 2) (pa_cons (pe_tup (pa_cons (pe_ixT K rfl (pe_ixL K rfl (pv 1) (pv 5)) pe_int) (pa_cons (pe_ixT K rfl (pe_ixL K rfl (pv 1) (pv 5)) pe_int)
            (pa_cons (pe_lst (pa_cons (pe_tup (pa_cons (pv 5) (pa_cons pe_int (pa_cons pe_int pa_nil)))) pa_nil)) pa_nil)))) pa_nil)))))))))))
      (pss_cons (ps_if (pt_cmpR op_eq (pe_callB call_len_seq (by rfl) mlen PySem.boot_len (pa_cons (pv 2) pa_nil)) pe_int (nomark _)) (pss_one ps_never) pss_nil)
      (pss_cons (ps_if (pt_cmpR op_gt (pe_callB call_len_seq (by rfl) mlen PySem.boot_len (pa_cons (pv 2) pa_nil)) pe_int (nomark _)) (pss_one ps_never) pss_nil)
      (pss_cons (ps_if (pt_cmpR op_lt (pe_callB call_len_seq (by rfl) mlen PySem.boot_len (pa_cons (pv 3) pa_nil)) (pe_callB call_len_seq (by rfl) mlen PySem.boot_len (pa_cons (pv 1) pa_nil)) (nomark _)) (pss_one ps_never) pss_nil)
      (pss_one (ps_ret (pe_callTy call_tuple_of (by rfl) mtuple (by decide +kernel) (pa_cons
        (pe_lc (own := [("patch", 9), ("top", 10), ("left", 11)]) (g := gTup K 3 (gCons (gName 9) (gCons (gName 10) (gCons (gName 11) gNil)))) (tt := tYes) rfl scPlaced.nd (pi_list (pe_callB (cr_sortT (d := 3) (B := 64) (by decide)) (by rfl) msorted (by decide +kernel) (pa_cons (pe_ixT K rfl (pe_ixL K rfl (pv 2) pe_int) pe_int) pa_nil)))
          (blkOk_by (N := nPlaced) (sc := defScope sPlaced) (by decide +kernel)) (fun _ _ _ _ _ => pg_tup rfl (pgs_cons (pg_name (i := 9) scPlaced.nd rfl (Or.inl rfl)) (pgs_cons (pg_name (i := 10) scPlaced.nd rfl (Or.inl rfl)) (pgs_cons (pg_name (i := 11) scPlaced.nd rfl (Or.inl rfl)) pgs_nil)))) (fun _ _ _ _ _ => pts_nil)
          (fun _ _ _ _ _ => pe_tup (pa_cons (pv 10) (pa_cons (pv 11) (pa_cons (pe_ixT K rfl (pe_ixL K rfl (pv 1) (pv 9)) pe_int) (pa_cons (pe_ixT K rfl (pe_ixL K rfl (pv 1) (pv 9)) pe_int) pa_nil)))))) pa_nil))))))))), ?_⟩
    -- stack = [], used = []
    refine ⟨Nat.zero_le _, fun S nS => ⟨Nat.zero_le _, fun U nU => ?_⟩⟩
    have nU0 : H U = none := (Kp.new (P := Pt) (o := .lst []) nS).there U nU
    have nSU : S ≠ U := ne_of_none upd_same nU
    have k0 : Kp Pt H (upd (upd H S (.lst [])) U (.lst [])) := (Kp.new nS).put nU0
    have hpl : (plan.map stV).length = plan.length := List.length_map _
    have zl : (zs.map V.ref).length = ps.length := by rw [List.length_map]; exact hSz.1
    -- a size
    have atZ : ∀ k, k < ps.length → ∃ z, atI (zs.map V.ref) (k : Int) = some (V.ref z) ∧ (∀ H', Kp Pt H H' → SqT K H' z [.int (gP ps k).h, .int (gP ps k).w]) := fun k hk => by
      have hz : k < zs.length := by rw [hSz.1]; exact hk
      refine ⟨zs.getD k 0, at_refs hz, fun H' k' => k'.seqT (hSz.2 k _ _ ?_ ?_)⟩
      · rw [List.getD_eq_getElem?_getD, List.getElem?_eq_getElem hz] <;> rfl
      · unfold gP
        rw [List.getD_eq_getElem?_getD, List.getElem?_eq_getElem hk] <;> rfl
    have s0 : ∀ p : P4, atI ([.int p.h, .int p.w] : List V) 0 = some (.int p.h) := fun p => atI_nat (j := 0) rfl
    have s1 : ∀ p : P4, atI ([.int p.h, .int p.w] : List V) 1 = some (.int p.w) := fun p => atI_nat (j := 1) rfl
    -- the loop
    refine ⟨_, rfl, a, _, rfl, .inl (k0.seqL hA), _, rfl, by rw [hpl]; omega, by rw [hpl]; omega, ?_⟩
    have two : ∀ (L : List V) (x y : V), (L ++ [x, y])[(L ++ [x, y]).length - 1]? = some y ∧ (L ++ [x, y]).dropLast = L ++ [x] := fun L x y => by
      refine ⟨?_, ?_⟩
      · rw [List.length_append, show L.length + ([x, y] : List V).length - 1 = L.length + 1 from rfl, List.getElem?_append_right (by omega), Nat.add_sub_cancel_left]
        rfl
      · rw [show L ++ [x, y] = (L ++ [x]) ++ [y] by rw [List.append_assoc] <;> rfl, List.dropLast_concat]
    have one : ∀ (L : List V) (x : V), (L ++ [x])[(L ++ [x]).length - 1]? = some x ∧ (L ++ [x]).dropLast = L := fun L x => by
      refine ⟨?_, List.dropLast_concat⟩
      rw [List.length_append, show L.length + ([x] : List V).length - 1 = L.length from rfl, List.getElem?_append_right (Nat.le_refl _), Nat.sub_self]
      rfl
    refine for_range (lo := 0) (n := ((plan.map stV).length : Int).toNat) (fun i σ' H' => ∃ (m : Mc) (ss : List Addr) (y4 y5 y6 y7 y8 : Option V), σ' = [some (.ref a), some (.ref b), some (.ref S), some (.ref U), y4, y5, y6, y7, y8, none, none, none] ∧ Kp Pt H H' ∧ Runs (gP ps) ps.length (plan.drop i) m ⟨[part], used⟩ ∧
        H' S = some (.lst (ss.map V.ref)) ∧ PartsAt K H' (fun b => b ≠ S ∧ b ≠ U) ss m.stack ∧ H' U = some (.lst (nVs m.used)) ∧ total m.stack ≤ i ∧ m.stack.length ≤ i ∧ m.used.length ≤ i)
      ⟨⟨[], []⟩, [], none, none, none, none, none, rfl, k0, hrun, (by rw [upd_ne nSU]; exact upd_same), ⟨rfl, fun i x y e => by cases e⟩, upd_same, Nat.le_refl _, Nat.le_refl _, Nat.le_refl _⟩ (fun i σ' H' hi hPv => ?_) (fun σ' H' hPv => ?_)
    · rw [Int.toNat_natCast, hpl] at hi
      obtain ⟨m, ss, y4, y5, y6, y7, y8, rfl, k, hr', hS, hPa, hU, t1, t2, t3⟩ := hPv
      obtain ⟨st, est, edr⟩ := drop_cons hi
      rw [edr] at hr'
      obtain ⟨m1, ht, hr'⟩ := hr'.here
      obtain ⟨u1, u2, u3⟩ := ht.total
      -- step = plan[k]
      have e4 : atI (plan.map stV) (0 + (i : Int)) = some (stV st) := by
        rw [Int.zero_add]
        exact atI_nat (by rw [List.getElem?_map, est] <;> rfl)
      refine ⟨_, rfl, _, rfl, a, _, _, _, rfl, rfl, k.seqL hA, e4, ?_⟩
      -- what = step_fault(..)
      have hok : StepOk K H' (ss.map V.ref) (nVs m.used) (zs.map V.ref).length st := by
        cases ht with
        | @num S' U' kk h1 h2 => exact ⟨by rw [zl]; exact h1, U', rfl, h2⟩
        | @dir S' U' p r v hf =>
          obtain ⟨as', x, y, rfl, _, hp, hr2⟩ := parts_two hPa
          exact ⟨as'.map V.ref, x, y, p, r, by rw [List.map_append] <;> rfl, hp.any, hr2.any, hf⟩
      refine ⟨_, rfl, _, rfl, _, rfl, _, rfl, S, U, b, _, _, _, st, rfl, SqL.of hS, SqL.of hU, k.seqL hZ, hok, by rw [List.length_map, hPa.1]; omega, fun H2 k2 => ?_⟩
      refine ⟨_, rfl, _, rfl, ?_⟩
      refine iteF ?_
      have kk := k.trans k2
      -- step in ("|", "-")
      refine ⟨_, rfl, by show 2 ≤ sizeLine; decide, fun T nT => ?_⟩
      have k3 : Kp Pt H2 (upd H2 T (.tup [.str "|", .str "-"])) := Kp.new nT
      have k23 := k2.trans k3
      have kk3 := kk.trans k3
      refine ⟨T, _, rfl, .inr (SqT.of upd_same), by cases st <;> rfl, rfl, _, rfl, ?_⟩
      have hS3 := k23.lst hS
      have hU3 := k23.lst hU
      have hPa3 := k23.parts hPa
      generalize upd H2 T (.tup [.str "|", .str "-"]) = H3 at kk3 hS3 hU3 hPa3 ⊢
      cases ht with
      | @num S' U' n h1 h2 =>
        refine ite2 (fun c => absurd c (by show ¬ inV (V.int (n : Int)) [V.str "|", V.str "-"] = true; rw [num_in]; decide)) (fun _ => ?_)
        -- used.append(step)
        have t3' : U'.length ≤ i := t3
        have t2' : S'.length ≤ i := t2
        refine ⟨_, rfl, .inl ⟨rfl, _, SqL.of hU3⟩, _, rfl, U, _, _, rfl, rfl, hU3, by rw [nVs_len]; exact small100 (by show U'.length ≤ 100; omega), ?_⟩
        have hU4 : (upd H3 U (.lst (nVs ({ stack := S', used := U' } : Mc).used ++ [stV (.num n)]))) U = some (.lst (nVs (U' ++ [n]))) := by
          rw [upd_same, nVs_app] <;> rfl
        have hS4 : (upd H3 U (.lst (nVs ({ stack := S', used := U' } : Mc).used ++ [stV (.num n)]))) S = some (.lst (ss.map V.ref)) := by
          rw [upd_ne nSU]
          exact hS3
        have kk4 : Kp Pt H (upd H3 U (.lst (nVs ({ stack := S', used := U' } : Mc).used ++ [stV (.num n)]))) := kk3.put nU0
        have hPa4 := hPa3.put (o := .lst (nVs ({ stack := S', used := U' } : Mc).used ++ [stV (.num n)])) hU3 (fun b hb => hb.2)
        generalize upd H3 U (.lst (nVs ({ stack := S', used := U' } : Mc).used ++ [stV (.num n)])) = H4 at kk4 hS4 hU4 hPa4 ⊢
        -- stack.append((sizes[step][0], sizes[step][1], [(step, 0, 0)]))
        obtain ⟨z, ez, hz⟩ := atZ n h1
        refine ⟨_, rfl, .inl ⟨rfl, _, SqL.of hS4⟩, _, rfl, _, rfl, b, _, _, _, rfl, rfl, kk4.seqL hZ, ez, z, _, 0, _, rfl, rfl, hz _ kk4, s0 _, _, rfl, _, rfl, b, _, _, _, rfl, rfl, kk4.seqL hZ, ez, z, _, 1, _, rfl, rfl, hz _ kk4, s1 _,
          _, rfl, by show 3 ≤ sizeLine; decide, fun T1 n1 => ⟨by show 1 ≤ sizeLine; decide, fun L1 n2 => ⟨by show 3 ≤ sizeLine; decide, fun X n3 => ?_⟩⟩⟩
        have q1 : Kp Pt H4 (upd H4 T1 (.tup [.int (n : Int), .int 0, .int 0])) := Kp.new n1
        have q2 : Kp Pt (upd H4 T1 (.tup [.int (n : Int), .int 0, .int 0])) (upd (upd H4 T1 (.tup [.int (n : Int), .int 0, .int 0])) L1 (.lst [.ref T1])) := Kp.new n2
        have q3 : Kp Pt (upd (upd H4 T1 (.tup [.int (n : Int), .int 0, .int 0])) L1 (.lst [.ref T1])) _ := Kp.new (o := .tup [.int (gP ps n).h, .int (gP ps n).w, .ref L1]) n3
        have q123 := (q1.trans q2).trans q3
        have okL : L1 ≠ S ∧ L1 ≠ U := ⟨(ne_of_none (q1.lst hS4) n2).symm, (ne_of_none (q1.lst hU4) n2).symm⟩
        have hX : PartAt K (upd (upd (upd H4 T1 (.tup [.int (n : Int), .int 0, .int 0])) L1 (.lst [.ref T1])) X (.tup [.int (gP ps n).h, .int (gP ps n).w, .ref L1])) (fun b => b ≠ S ∧ b ≠ U) X ⟨(gP ps n).h, (gP ps n).w, [(n, 0, 0)]⟩ := by
          refine ⟨L1, [T1], okL, SqT.of upd_same, q3.lst upd_same, rfl, fun j c x e1 e2 => ?_⟩
          match j, e1, e2 with
          | 0, e1, e2 =>
            cases e1
            cases e2
            exact (q2.trans q3).seqT (SqT.of upd_same)
          | j + 1, e1, e2 => cases e1
        refine ⟨S, _, _, rfl, rfl, q123.lst hS4, by rw [List.length_map, hPa4.1]; exact small100 (by show S'.length ≤ 100; omega), ?_⟩
        refine ⟨_, ss ++ [X], _, _, _, _, _, rfl, (kk4.trans q123).put nS, hr', by rw [upd_same, List.map_append] <;> rfl, ?_, ?_, ?_, ?_, ?_⟩
        · exact pair_push (R := fun a p => PartAt K _ (fun b => b ≠ S ∧ b ≠ U) a p) ((q123.parts hPa4).put (q123.lst hS4) (fun b hb => hb.1)) (hX.put (q123.lst hS4) (fun b hb => hb.1))
        · rw [upd_ne nSU.symm]
          exact q123.lst hU4
        · omega
        · omega
        · omega
      | @dir S' U' p r v hf =>
        refine ite2 (fun _ => ?_) (fun c => absurd (show inV (V.str (dirS v)) [V.str "|", V.str "-"] = true from dir_in v) c)
        obtain ⟨as', x, y, rfl, hPas, hp, hr2⟩ := parts_two hPa3
        have t2' : (S' ++ [p, r]).length ≤ i := t2
        have t1' : total (S' ++ [p, r]) ≤ i := t1
        have lp : p.pl.length ≤ 50 := by
          have := total_mem (S := S' ++ [p, r]) (p := p) (List.mem_append_right _ List.mem_cons_self)
          omega
        have lr : r.pl.length ≤ 50 := by
          have := total_mem (S := S' ++ [p, r]) (p := r) (List.mem_append_right _ (List.mem_cons_of_mem _ List.mem_cons_self))
          omega
        rw [List.length_append] at t2'
        have t2' : S'.length + 2 ≤ i := t2'
        have em : (as' ++ [x, y]).map V.ref = as'.map V.ref ++ [.ref x, .ref y] := by rw [List.map_append] <;> rfl
        rw [em] at hS3
        -- second = stack.pop()
        refine ⟨_, rfl, .inl ⟨rfl, _, SqL.of hS3⟩, S, _, _, rfl, rfl, hS3, (two _ _ _).1, ?_⟩
        rw [(two _ _ _).2]
        -- first = stack.pop()
        refine ⟨_, rfl, .inl ⟨rfl, _, SqL.of upd_same⟩, S, _, _, rfl, rfl, upd_same, (one _ _).1, ?_⟩
        rw [(one _ _).2, upd_upd]
        have kk5 : Kp Pt H (upd H3 S (.lst (as'.map V.ref))) := kk3.put nS
        have hS5 : (upd H3 S (.lst (as'.map V.ref))) S = some (.lst (as'.map V.ref)) := upd_same
        have hU5 : (upd H3 S (.lst (as'.map V.ref))) U = some (.lst (nVs U')) := by
          rw [upd_ne nSU.symm]
          exact hU3
        have hPa5 := hPas.put (o := .lst (as'.map V.ref)) hS3 (fun b hb => hb.1)
        have hp5 := hp.put (o := .lst (as'.map V.ref)) hS3 (fun b hb => hb.1)
        have hr5 := hr2.put (o := .lst (as'.map V.ref)) hS3 (fun b hb => hb.1)
        generalize upd H3 S (.lst (as'.map V.ref)) = H5 at kk5 hS5 hU5 hPa5 hp5 hr5 ⊢
        -- stack.append(put_together(first, second, step))
        refine ⟨_, rfl, .inl ⟨rfl, _, SqL.of hS5⟩, _, rfl, _, rfl, _, rfl, x, y, p, r, v, rfl, hp5.any, hr5.any, lp, lr, fun H6 X k6 hX => ?_⟩
        refine ⟨S, _, _, rfl, rfl, k6.lst hS5, by rw [List.length_map, hPa5.1]; exact small100 (by omega), ?_⟩
        have hX' : PartAt K H6 (fun b => b ≠ S ∧ b ≠ U) X (put p r v) := hX.imp fun b hb => ⟨(ne_of_none hS5 hb).symm, (ne_of_none hU5 hb).symm⟩
        refine ⟨_, as' ++ [X], _, _, _, _, _, rfl, (kk5.trans k6).put nS, hr', by rw [upd_same, List.map_append] <;> rfl, ?_, ?_, ?_, ?_, ?_⟩
        · exact pair_push (R := fun a p => PartAt K _ (fun b => b ≠ S ∧ b ≠ U) a p) ((k6.parts hPa5).put (k6.lst hS5) (fun b hb => hb.1)) (hX'.put (k6.lst hS5) (fun b hb => hb.1))
        · rw [upd_ne nSU.symm]
          exact k6.lst hU5
        · omega
        · omega
        · have u3' : U'.length ≤ i := t3
          show U'.length ≤ i + 1
          omega
    · rw [Int.toNat_natCast, hpl] at hPv
      obtain ⟨m, ss, y4, y5, y6, y7, y8, rfl, k, hr', hS, hPa, hU, t1, t2, t3⟩ := hPv
      rw [List.drop_length] at hr'
      have em := hr'.done
      subst em
      obtain ⟨x, rfl⟩ : ∃ x, ss = [x] := List.length_eq_one_iff.mp hPa.1
      obtain ⟨bb, cs, _, hx1, hx2, hx3⟩ := hPa.2 0 x part rfl rfl
      -- the three tests
      refine ⟨_, rfl, S, _, rfl, .inl (SqL.of hS), rfl, _, rfl, iteF ?_⟩
      refine ⟨_, rfl, S, _, rfl, .inl (SqL.of hS), _, _, rfl, rfl, _, rfl, iteF ?_⟩
      refine ⟨_, rfl, U, _, rfl, .inl (SqL.of hU), _, rfl, b, _, rfl, .inl (k.seqL hZ), _, _, rfl, rfl, _, rfl, ite2 (fun c => ?_) (fun _ => ?_)⟩
      · have c := of_decide_eq_true c
        rw [nVs_len, zl] at c
        have c2 : ((used.length : Nat) : Int) < ((ps.length : Nat) : Int) := c
        omega
      -- sorted(stack[0][2])
      have i2 : atI ([.int part.h, .int part.w, .ref bb] : List V) 2 = some (.ref bb) := atI_nat (j := 2) rfl
      have hcs : cs.length = ps.length := by
        rw [hx3.1, hperm.length_eq]
        unfold lies
        rw [List.length_map, List.length_range]
      refine ⟨_, rfl, S, _, 0, _, rfl, rfl, SqL.of hS, atI_nat (j := 0) rfl, x, _, 2, _, rfl, rfl, hx1, i2, bb, cs.map V.ref, rfl, SqL.of hx2, by rw [List.length_map]; omega, fun v hv => ?_, fun ys p hys hpw np => ?_⟩
      · obtain ⟨c, hc, rfl⟩ := List.mem_map.mp hv
        obtain ⟨i, hi, e⟩ := List.getElem_of_mem hc
        have e1 : cs[i]? = some c := by rw [List.getElem?_eq_getElem hi, e]
        obtain ⟨y, hy⟩ := getP hx3.1 e1
        exact ⟨[((y.1 : Nat) : Int), y.2.1, y.2.2], ⟨c, rfl, hx3.2 i c y e1 hy⟩, rfl, bd3 hB h20 (hperm.mem_iff.mp (List.mem_of_getElem? hy))⟩
      obtain ⟨ds, rfl, hds⟩ := sorted_pl hx3 hB h20 hperm hys hpw
      have kp1 : Kp Pt H' (upd H' p (.lst (ds.map V.ref))) := Kp.new np
      have hds1 := kp1.trs hds
      have kH1 := k.trans kp1
      have hdl : ds.length = ps.length := by
        rw [hds.1]
        unfold lies
        rw [List.length_map, List.length_range]
      have hdl2 : (ds.map V.ref).length = ps.length := by rw [List.length_map]; exact hdl
      refine ⟨p, rfl, ⟨_, SqL.of upd_same⟩, fun D nD => ?_⟩
      have hp1 : (upd H' p (.lst (ds.map V.ref))) p = some (.lst (ds.map V.ref)) := upd_same
      generalize upd H' p (.lst (ds.map V.ref)) = H1 at kp1 hds1 kH1 nD hp1 ⊢
      refine lc_list (K := K) (a := p) (xs := ds.map V.ref) (fun i H2 => Kp Pt H1 H2 ∧ ∃ rs, H2 D = some (.lst (rs.map V.ref)) ∧ Pats K H2 rs (ps.take i)) ⟨Kp.new nD, [], upd_same, rfl, fun i a p e => by cases e⟩ (fun i H2 _ h => h.1.seqL (SqL.of hp1)) (fun i v H2 hv h => ?_) (fun H2 h => ?_)
      · obtain ⟨k2, rs, hD, hrs⟩ := h
        rw [List.getElem?_map] at hv
        obtain ⟨c, hc, rfl⟩ := Option.map_eq_some_iff.mp hv
        have hi : i < ps.length := by rw [← hdl]; exact (List.getElem?_eq_some_iff.mp hc).1
        have el : (lies (gP ps) ps.length)[i]? = some (i, (gP ps i).t, (gP ps i).l) := by
          unfold lies
          rw [List.getElem?_map, List.getElem?_range hi]
          rfl
        have hT := k2.seqT (hds1.2 i c _ hc el)
        have ep : ps[i]? = some (gP ps i) := by
          unfold gP
          rw [List.getD_eq_getElem?_getD, List.getElem?_eq_getElem hi] <;> rfl
        obtain ⟨z, ez, hz⟩ := atZ i hi
        have kk := kH1.trans k2
        refine ⟨c, _, rfl, hT, rfl, _, _, rfl, _, _, rfl, _, _, rfl, rfl, rfl, ?_⟩
        refine iteT (B := Kp Pt H1 H2 ∧ ∃ rs, H2 D = some (.lst (rs.map V.ref)) ∧ Pats K H2 rs (ps.take (i + 1))) ?_
        refine ⟨_, rfl, _, rfl, _, rfl, _, rfl, b, _, _, _, rfl, rfl, kk.seqL hZ, ez, z, _, 0, _, rfl, rfl, hz _ kk, s0 _, _, rfl, _, rfl, b, _, _, _, rfl, rfl, kk.seqL hZ, ez, z, _, 1, _, rfl, rfl, hz _ kk, s1 _, by show 4 ≤ sizeLine; decide, fun T nT => ?_⟩
        have k3 : Kp Pt H2 (upd H2 T (.tup (pv4 (gP ps i)))) := Kp.new nT
        refine ⟨_, k3.lst hD, ?_, (k2.trans k3).put nD, rs ++ [T], ?_, ?_⟩
        · rw [List.length_map, hrs.1, List.length_take]
          exact small100 (by omega)
        · rw [upd_same, List.map_append] <;> rfl
        · rw [List.take_add_one, ep]
          have q1 := pair_push (R := fun a p => SqT K (upd H2 T (.tup (pv4 (gP ps i)))) a (pv4 p)) (k3.pats hrs) (a := T) (b := gP ps i) (SqT.of upd_same)
          exact ⟨q1.1, fun j x y e1 e2 => seqT_put (q1.2 j x y e1 e2) (k3.lst hD)⟩
      · rw [hdl2] at h
        obtain ⟨k2, rs, hD, hrs⟩ := h
        rw [List.take_length] at hrs
        refine ⟨D, _, rfl, .inl ⟨SqL.of hD, fun l nl => ?_⟩⟩
        have k3 : Kp Pt H2 (upd H2 l (.tup (rs.map V.ref))) := Kp.new nl
        exact q _ l rs ((kH1.trans k2).trans k3) upd_same (k3.pats hrs)
end
end Sw
namespace Sw
open PySem PySem.Spec PyProof.Rows L2 GxR
/-! ### _law_cell(script, k): some int -/
def spCell (K : PySem.W.Frag) : Sp := fun vs H Q _ => ∃ (a : Addr) (ns : List Int) (k : Nat), vs = [.ref a, .int (k : Nat)] ∧ SqL K H a (ns.map V.int) ∧ ∀ z : Int, Q (.int z) H
theorem scCell : FnScope ["_law_script", "_law_k"] ["_law_script", "_law_k"] (defScope sCell) := ⟨rfl, rfl, rfl, by decide +kernel, rfl, by decide +kernel, by decide +kernel⟩
/-! ### _law_draw(script, k, sizes): as many ints as sizes, each below its size -/
def Drawn (ds zs : List Int) : Prop := ds.length = zs.length ∧ ∀ (i : Nat) (d z : Int), ds[i]? = some d → zs[i]? = some z → 0 ≤ d ∧ d < z
def spDraw (Pt : Addr) (K : PySem.W.Frag) : Sp := fun vs H Q _ => ∃ (a b : Addr) (ns zs : List Int) (k : Nat), vs = [.ref a, .int (k : Nat), .ref b] ∧ SqL K H a (ns.map V.int) ∧ SqL K H b (zs.map V.int) ∧ zs.length ≤ 100 ∧ (∀ z ∈ zs, 0 < z ∧ z < 1073741824) ∧
  ∀ H' x ds, Kp Pt H H' → H x = none → H' x = some (.lst (ds.map V.int)) → Drawn ds zs → Q (.ref x) H'
abbrev nDraw : List Str := ["_law_script", "_law_k", "_law_sizes", "_law_cell_here", "_law_drawn", "_law_size", "_law_mixed", "_law_j"]
theorem scDraw : FnScope nDraw ["_law_script", "_law_k", "_law_sizes"] (defScope sDraw) := ⟨rfl, rfl, rfl, by decide +kernel, rfl, by decide +kernel, by decide +kernel⟩
theorem Drawn.push {ds zs : List Int} {i : Nat} {d z : Int} (h : Drawn ds (zs.take i)) (hz : zs[i]? = some z) (h0 : 0 ≤ d) (h1 : d < z) : Drawn (ds ++ [d]) (zs.take (i + 1)) := by
  have e : zs.take (i + 1) = zs.take i ++ [z] := by
    rw [List.take_add_one, hz]
    rfl
  rw [e]
  refine ⟨by rw [List.length_append, List.length_append, h.1] <;> rfl, fun j x y e1 e2 => ?_⟩
  by_cases hi : j < ds.length
  · rw [List.getElem?_append_left hi] at e1
    rw [List.getElem?_append_left (by rw [← h.1]; exact hi)] at e2
    exact h.2 j x y e1 e2
  · have q := (List.getElem?_eq_some_iff.mp e1).1
    rw [List.length_append] at q
    have hi2 : j = ds.length := by
      have : ([d] : List Int).length = 1 := rfl
      omega
    rw [hi2, List.getElem?_append_right (Nat.le_refl _), Nat.sub_self] at e1
    rw [hi2, h.1, List.getElem?_append_right (Nat.le_refl _), Nat.sub_self] at e2
    have e3 : d = x := Option.some.inj e1
    have e4 : z = y := Option.some.inj e2
    subst e3 e4
    exact ⟨h0, h1⟩
theorem getZ {zs : List Int} {i : Nat} {x : V} (h : (zs.map V.int)[i]? = some x) : ∃ z, zs[i]? = some z ∧ x = .int z := by
  rw [List.getElem?_map] at h
  obtain ⟨z, hz, rfl⟩ := Option.map_eq_some_iff.mp h
  exact ⟨z, hz, rfl⟩
section
variable {P : Program} {w : World} {K : PySem.W.Frag} {mg : Str → Option Value} {base : Heap} {Pt : Addr}
theorem ok_cell {f : Addr} {fd : FuncData} (F : Fun K "_law_cell" "_law_cell" sCell f fd) (mlen : mg "len" = none) : FnOk P w K mg base CX0 1 f fd ["_law_script", "_law_k"] (spCell K) := by
  refine F.ok scCell (fun vs H Q E h => ?_) (fun cdv A outer s H vs Q E hr h => ?_)
  · obtain ⟨a, ns, k, rfl, _⟩ := h
    rfl
  · obtain ⟨a, ns, k, rfl, hS, q⟩ := h
    refine ⟨_, pss_cons (ps_if (pt_cmpR op_lt (pv 1) (pe_callB call_len_seq (by rfl) mlen PySem.boot_len (pa_cons (pv 0) pa_nil)) (nomark _)) (pss_one (ps_ret (pe_ixL K rfl (pv 0) (pv 1)))) pss_nil)
      (pss_one (ps_ret pe_int)), ?_⟩
    refine ⟨_, rfl, _, rfl, a, _, rfl, .inl hS, _, _, rfl, rfl, _, rfl, ite2 (fun c => ?_) (fun _ => q 0)⟩
    have c := of_decide_eq_true c
    rw [List.length_map] at c
    have hk : k < ns.length := by omega
    exact ⟨_, rfl, _, rfl, a, _, _, _, rfl, rfl, hS, atI_nat (by rw [List.getElem?_map, List.getElem?_eq_getElem hk] <;> rfl), q _⟩
theorem ok_draw {f fC : Addr} {fd fdC : FuncData} (F : Fun K "_law_draw" "_law_draw" sDraw f fd) (FC : Fun K "_law_cell" "_law_cell" sCell fC fdC) (bC : Binds K fdC ["_law_script", "_law_k"] []) (gC : mg "_law_cell" = some (.ref fC)) (mlen : mg "len" = none) (mrange : mg "range" = none) :
    FnOk P w K mg base CX0 2 f fd ["_law_script", "_law_k", "_law_sizes"] (spDraw Pt K) := by
  have GC : FnOk P w K mg base CX0 1 fC fdC ["_law_script", "_law_k"] (spCell K) := ok_cell FC mlen
  refine F.ok scDraw (fun vs H Q E h => ?_) (fun cdv A outer s H vs Q E hr h => ?_)
  · obtain ⟨a, b, ns, zs, k, rfl, _⟩ := h
    rfl
  · obtain ⟨a, b, ns, zs, k, rfl, hS, hZ, hl, hpos, q⟩ := h
    refine ⟨_, pss_cons (ps_set (i := 3) scDraw.nd rfl (.inl rfl) (pe_call GC hr (by rfl) gC FC.kp bC .nil pass0 (pa_cons (pv 0) (pa_cons (pv 1) pa_nil))))
      (C8.pss_cut (ps_if (pt_cmpR op_lt (pv 3) pe_int (nomark _)) (pss_one (ps_set (i := 3) scDraw.nd rfl (.inl rfl) (pe_un un_neg (pv 3)))) pss_nil)
      (pss_cons (ps_set (i := 4) scDraw.nd rfl (.inl rfl) (pe_lst pa_nil))
      (pss_cons (ps_if (pt_cmpR op_ge (pv 3) (pe_op op_pow pe_int pe_int) (nomark _))
        (pss_cons (ps_set (i := 3) scDraw.nd rfl (.inl rfl) (pe_op op_sub (pv 3) (pe_op op_pow pe_int pe_int)))
        (pss_cons (ps_for PassesOwn.never rfl (pi_list (pv 2)) (pg_name (i := 5) scDraw.nd rfl (.inl rfl))
          (pss_cons (ps_expr (pe_bm PySem.F.plainAttrs_list PySem.F.slot_list_append PySem.F.type_list_append mt_append (pv 4) (pa_cons (pe_op op_mod (pv 3) (pv 5)) pa_nil)))
          (pss_one (ps_set (i := 3) scDraw.nd rfl (.inl rfl) (pe_op op_fdiv (pv 3) (pv 5))))))
        (pss_one (ps_ret (pv 4))))) pss_nil)
      (pss_cons (ps_set (i := 6) scDraw.nd rfl (.inl rfl) (pe_op op_mod (pe_op op_add (pe_op op_add (pv 3) pe_int) (pe_op op_mul pe_int (pv 1))) pe_int))
      (pss_cons (ps_for PassesOwn.never rfl (pi_range1 (by rfl) mrange (pa_cons (pe_callB call_len_seq (by rfl) mlen PySem.boot_len (pa_cons (pv 2) pa_nil)) pa_nil)) (pg_name (i := 7) scDraw.nd rfl (.inl rfl))
          (pss_cons (ps_set (i := 6) scDraw.nd rfl (.inl rfl) (pe_op op_mod (pe_op op_add (pe_op op_add (pe_op op_mul (pv 6) pe_int) pe_int) (pv 7)) pe_int))
          (pss_cons (ps_set (i := 6) scDraw.nd rfl (.inl rfl) (pe_op op_mod (pe_op op_add (pe_op op_mul (pv 6) pe_int) pe_int) pe_int))
          (pss_one (ps_expr (pe_bm PySem.F.plainAttrs_list PySem.F.slot_list_append PySem.F.type_list_append mt_append (pv 4) (pa_cons (pe_op op_mod (pe_op op_fdiv (pv 6) pe_int) (pe_ixL K rfl (pv 2) (pv 7))) pa_nil)))))))
      (pss_one (ps_ret (pv 4)))))))), ?_⟩
    have big : CPow 10 18 := ⟨by decide, by decide, by decide⟩
    -- the cell
    refine ⟨_, rfl, _, rfl, a, ns, k, rfl, hS, fun z => ?_⟩
    refine ⟨fun σ' H' => ∃ c : Int, σ' = [some (.ref a), some (.int (k : Nat)), some (.ref b), some (.int c), none, none, none, none] ∧ H' = H, ?_, fun σ' H' hM => ?_⟩
    · refine ⟨_, rfl, _, _, rfl, rfl, _, rfl, ite2 (fun _ => ?_) (fun _ => ?_)⟩
      · exact ⟨_, rfl, _, rfl, _, rfl, rfl⟩
      · exact ⟨_, rfl, rfl⟩
    obtain ⟨c, rfl, rfl⟩ := hM
    -- drawn = []
    refine ⟨Nat.zero_le _, fun D nD => ?_⟩
    have k0 : Kp Pt H' (upd H' D (.lst [])) := Kp.new nD
    have zl : (zs.map V.int).length = zs.length := List.length_map _
    refine ⟨_, rfl, _, _, rfl, rfl, big, _, _, rfl, rfl, _, rfl, ite2 (fun _ => ?_) (fun _ => ?_)⟩
    · -- the digits of a great number
      refine ⟨_, rfl, _, _, rfl, rfl, big, _, _, rfl, rfl, ?_⟩
      refine ⟨_, rfl, b, rfl, ⟨_, k0.seqL hZ⟩, for_list (K := K) (a := b) (xs := zs.map V.int) (fun i σ' H2 => ∃ (c : Int) (y5 : Option V) (ds : List Int), σ' = [some (.ref a), some (.int (k : Nat)), some (.ref b), some (.int c), some (.ref D), y5, none, none] ∧ Kp Pt H' H2 ∧ H2 D = some (.lst (ds.map V.int)) ∧ Drawn ds (zs.take i))
        ⟨_, none, [], rfl, k0, upd_same, rfl, fun i d z e => by cases e⟩ (fun i σ' H2 _ h => by obtain ⟨_, _, _, _, k', _⟩ := h; exact k'.seqL hZ) (fun i x σ' H2 hx h => ?_) (fun σ' H2 h => ?_)⟩
      · obtain ⟨c, y5, ds, rfl, k', hD, hds⟩ := h
        obtain ⟨z, hz, rfl⟩ := getZ hx
        have hp := hpos z (List.mem_of_getElem? hz)
        refine ⟨_, rfl, .inl ⟨rfl, _, SqL.of hD⟩, _, rfl, _, rfl, _, _, rfl, rfl, hp.1, D, _, _, rfl, rfl, hD, ?_, ?_⟩
        · rw [List.length_map, hds.1, List.length_take]
          exact small100 (by omega)
        · refine ⟨_, rfl, _, rfl, _, _, rfl, rfl, hp, ?_⟩
          refine ⟨_, _, ds ++ [c % z], rfl, k'.put nD, by rw [upd_same, List.map_append] <;> rfl, hds.push hz (Int.emod_nonneg _ (by omega)) (Int.emod_lt_of_pos _ hp.1)⟩
      · obtain ⟨c, y5, ds, rfl, k', hD, hds⟩ := h
        rw [zl, List.take_length] at hds
        exact ⟨_, rfl, q _ D ds k' nD hD hds⟩
    · -- mixed
      refine ⟨_, rfl, _, _, rfl, rfl, _, rfl, _, _, rfl, rfl, .inl ⟨by decide, by decide⟩, _, _, rfl, rfl, _, _, rfl, rfl, by show (0 : Int) < 2147483647; decide, ?_⟩
      refine ⟨_, rfl, b, _, rfl, .inl (k0.seqL hZ), _, rfl, by rw [zl]; omega, by rw [zl]; omega, ?_⟩
      refine for_range (lo := 0) (n := ((zs.map V.int).length : Int).toNat) (fun i σ' H2 => ∃ (m : Int) (y7 : Option V) (ds : List Int), σ' = [some (.ref a), some (.int (k : Nat)), some (.ref b), some (.int c), some (.ref D), none, some (.int m), y7] ∧ Kp Pt H' H2 ∧ H2 D = some (.lst (ds.map V.int)) ∧ Drawn ds (zs.take i))
        ⟨_, none, [], rfl, k0, upd_same, rfl, fun i d z e => by cases e⟩ (fun i σ' H2 hi h => ?_) (fun σ' H2 h => ?_)
      · rw [Int.toNat_natCast, zl] at hi
        obtain ⟨m, y7, ds, rfl, k', hD, hds⟩ := h
        have hz : zs[i]? = some zs[i] := List.getElem?_eq_getElem hi
        have hp := hpos zs[i] (List.getElem_mem hi)
        have e4 : atI (zs.map V.int) (0 + (i : Int)) = some (.int zs[i]) := by
          rw [Int.zero_add]
          exact atI_nat (by rw [List.getElem?_map, hz] <;> rfl)
        refine ⟨_, rfl, _, _, rfl, rfl, .inr ⟨by decide, by decide⟩, _, _, rfl, rfl, _, rfl, _, _, rfl, rfl, _, _, rfl, rfl, by show (0 : Int) < 2147483647; decide, ?_⟩
        refine ⟨_, rfl, _, _, rfl, rfl, .inr ⟨by decide, by decide⟩, _, _, rfl, rfl, _, _, rfl, rfl, by show (0 : Int) < 2147483647; decide, ?_⟩
        refine ⟨_, rfl, .inl ⟨rfl, _, SqL.of hD⟩, _, rfl, _, _, rfl, rfl, ⟨by decide, by decide⟩, _, rfl, _, rfl, b, _, _, _, rfl, rfl, k'.seqL hZ, e4, _, _, rfl, rfl, hp.1, D, _, _, rfl, rfl, hD, ?_, ?_⟩
        · rw [List.length_map, hds.1, List.length_take]
          exact small100 (by omega)
        · exact ⟨_, _, _, rfl, k'.put nD, by rw [upd_same, ← List.map_singleton, ← List.map_append] <;> rfl, hds.push hz (Int.emod_nonneg _ (by omega)) (Int.emod_lt_of_pos _ hp.1)⟩
      · rw [Int.toNat_natCast, zl, ] at h
        obtain ⟨m, y7, ds, rfl, k', hD, hds⟩ := h
        rw [List.take_length] at hds
        exact ⟨_, rfl, q _ D ds k' nD hD hds⟩
end
end Sw
namespace Sw
theorem Cover.split {ps qs : List P4} {T L H W : Int} {p a b : P4} (h : Cover ps T L H W) (h1 : ∀ x ∈ ps, x ∈ qs ∨ x = p) (h2 : ∀ x ∈ qs, x ∈ ps ∨ x = a ∨ x = b) (ha : a ∈ qs) (hb : b ∈ qs) (hp : p ∈ ps)
    (inn : ∀ x, x = a ∨ x = b → p.t ≤ x.t ∧ x.t + x.h ≤ p.t + p.h ∧ p.l ≤ x.l ∧ x.l + x.w ≤ p.l + p.w ∧ 1 ≤ x.h ∧ 1 ≤ x.w)
    (all : ∀ r c, p.t ≤ r → r < p.t + p.h → p.l ≤ c → c < p.l + p.w → (a.t ≤ r ∧ r < a.t + a.h ∧ a.l ≤ c ∧ c < a.l + a.w) ∨ (b.t ≤ r ∧ r < b.t + b.h ∧ b.l ≤ c ∧ c < b.l + b.w)) : Cover qs T L H W := by
  refine ⟨fun x hx => ?_, fun r c r1 r2 c1 c2 => ?_⟩
  · rcases h2 x hx with hx | hx
    · exact h.inn x hx
    · have i1 := inn x hx
      have i2 := h.inn p hp
      omega
  · obtain ⟨x, hx, b1, b2, b3, b4⟩ := h.all r c r1 r2 c1 c2
    rcases h1 x hx with hq | rfl
    · exact ⟨x, hq, b1, b2, b3, b4⟩
    · rcases all r c b1 b2 b3 b4 with q | q
      · exact ⟨a, ha, q⟩
      · exact ⟨b, hb, q⟩
theorem mem_place {α : Type} {ps : List α} {q : Nat} {p : α} (h : ps[q]? = some p) : ∀ x, x ∈ ps ↔ x ∈ ps.take q ∨ x = p ∨ x ∈ ps.drop (q + 1) := fun x => by
  have hq := (List.getElem?_eq_some_iff.mp h).1
  have e : ps = ps.take q ++ p :: ps.drop (q + 1) := by
    have e1 := (List.take_append_drop q ps).symm
    rw [List.drop_eq_getElem_cons hq] at e1
    rw [(List.getElem?_eq_some_iff.mp h).2] at e1
    exact e1
  constructor
  · intro hx
    rw [e] at hx
    rcases List.mem_append.mp hx with hx | hx
    · exact .inl hx
    · rcases List.mem_cons.mp hx with hx | hx
      · exact .inr (.inl hx)
      · exact .inr (.inr hx)
  · intro hx
    rw [e]
    rcases hx with hx | hx | hx
    · exact List.mem_append_left _ hx
    · exact List.mem_append_right _ (by rw [hx]; exact List.mem_cons_self)
    · exact List.mem_append_right _ (List.mem_cons_of_mem _ hx)
/-- a patch is cut by a horizontal line -/
theorem Cover.cutH {ps : List P4} {T L H W c : Int} {q : Nat} {p : P4} (h : Cover ps T L H W) (hq : ps[q]? = some p) (c1 : 1 ≤ c) (c2 : c < p.h) :
    Cover (ps.take q ++ [⟨p.t, p.l, c, p.w⟩, ⟨p.t + c, p.l, p.h - c, p.w⟩] ++ ps.drop (q + 1)) T L H W := by
  have m := mem_place hq
  have hp : p ∈ ps := (m p).mpr (.inr (.inl rfl))
  have i := h.inn p hp
  refine h.split (p := p) (a := ⟨p.t, p.l, c, p.w⟩) (b := ⟨p.t + c, p.l, p.h - c, p.w⟩) (fun x hx => ?_) (fun x hx => ?_) (by simp) (by simp) hp (fun x hx => ?_) (fun r d r1 r2 d1 d2 => ?_)
  · rcases (m x).mp hx with h1 | h1 | h1
    · exact .inl (List.mem_append_left _ (List.mem_append_left _ h1))
    · exact .inr h1
    · exact .inl (List.mem_append_right _ h1)
  · rcases List.mem_append.mp hx with hx | hx
    · rcases List.mem_append.mp hx with hx | hx
      · exact .inl ((m x).mpr (.inl hx))
      · rcases List.mem_cons.mp hx with hx | hx
        · exact .inr (.inl hx)
        · exact .inr (.inr (List.mem_singleton.mp hx))
    · exact .inl ((m x).mpr (.inr (.inr hx)))
  · rcases hx with rfl | rfl
    · simp only
      omega
    · simp only
      omega
  · by_cases hd : r < p.t + c
    · left
      simp only
      omega
    · right
      simp only
      omega
/-- a patch is cut by a vertical line -/
theorem Cover.cutV {ps : List P4} {T L H W c : Int} {q : Nat} {p : P4} (h : Cover ps T L H W) (hq : ps[q]? = some p) (c1 : 1 ≤ c) (c2 : c < p.w) :
    Cover ([⟨p.t, p.l + c, p.h, p.w - c⟩] ++ ps.take q ++ ps.drop (q + 1) ++ [⟨p.t, p.l, p.h, c⟩]) T L H W := by
  have m := mem_place hq
  have hp : p ∈ ps := (m p).mpr (.inr (.inl rfl))
  have i := h.inn p hp
  refine h.split (p := p) (a := ⟨p.t, p.l + c, p.h, p.w - c⟩) (b := ⟨p.t, p.l, p.h, c⟩) (fun x hx => ?_) (fun x hx => ?_) (by simp) (by simp) hp (fun x hx => ?_) (fun r d r1 r2 d1 d2 => ?_)
  · rcases (m x).mp hx with h1 | h1 | h1
    · exact .inl (List.mem_append_left _ (List.mem_append_left _ (List.mem_append_right _ h1)))
    · exact .inr h1
    · exact .inl (List.mem_append_left _ (List.mem_append_right _ h1))
  · rcases List.mem_append.mp hx with hx | hx
    · rcases List.mem_append.mp hx with hx | hx
      · rcases List.mem_append.mp hx with hx | hx
        · exact .inr (.inl (List.mem_singleton.mp hx))
        · exact .inl ((m x).mpr (.inl hx))
      · exact .inl ((m x).mpr (.inr (.inr hx)))
    · exact .inr (.inr (List.mem_singleton.mp hx))
  · rcases hx with rfl | rfl
    · simp only
      omega
    · simp only
      omega
  · by_cases hd : d < p.l + c
    · right
      simp only
      omega
    · left
      simp only
      omega
theorem Cover.start {h w : Int} (h1 : 1 ≤ h) (w1 : 1 ≤ w) : Cover [⟨0, 0, h, w⟩] 0 0 h w := by
  refine ⟨fun p hp => ?_, fun r c a1 a2 a3 a4 => ⟨_, List.mem_cons_self, ?_⟩⟩
  · rw [List.mem_singleton.mp hp]
    simp only
    omega
  · simp only
    omega
/-- five patches around a middle one -/
theorem Cover.wheel {h w : Int} (h1 : 1 < h) (w1 : 1 < w) : Cover [⟨0, 0, 1, w⟩, ⟨0, w, h, 1⟩, ⟨1, 0, h, 1⟩, ⟨1, 1, h - 1, w - 1⟩, ⟨h, 1, 1, w⟩] 0 0 (h + 1) (w + 1) := by
  refine ⟨fun p hp => ?_, fun r c a1 a2 a3 a4 => ?_⟩
  · simp only [List.mem_cons, List.not_mem_nil, or_false] at hp
    rcases hp with rfl | rfl | rfl | rfl | rfl <;> simp only <;> omega
  · by_cases r0 : r = 0
    · by_cases cw : c < w
      · exact ⟨⟨0, 0, 1, w⟩, by simp, by simp only; omega⟩
      · exact ⟨⟨0, w, h, 1⟩, by simp, by simp only; omega⟩
    · by_cases rh : r < h
      · by_cases cw : c < w
        · by_cases c0 : c = 0
          · exact ⟨⟨1, 0, h, 1⟩, by simp, by simp only; omega⟩
          · exact ⟨⟨1, 1, h - 1, w - 1⟩, by simp, by simp only; omega⟩
        · exact ⟨⟨0, w, h, 1⟩, by simp, by simp only; omega⟩
      · by_cases c0 : c = 0
        · exact ⟨⟨1, 0, h, 1⟩, by simp, by simp only; omega⟩
        · exact ⟨⟨h, 1, 1, w⟩, by simp, by simp only; omega⟩
/-- three items of a list, from a place on -/
theorem three {α : Type} {l : List α} {k : Nat} (h : k + 3 ≤ l.length) : ∃ x y z, l[k]? = some x ∧ l[k + 1]? = some y ∧ l[k + 2]? = some z ∧ (l.drop k).take 3 = [x, y, z] := by
  refine ⟨l[k], l[k + 1], l[k + 2], List.getElem?_eq_getElem _, List.getElem?_eq_getElem _, List.getElem?_eq_getElem _, ?_⟩
  rw [List.drop_eq_getElem_cons (by omega), List.drop_eq_getElem_cons (by omega), List.drop_eq_getElem_cons (by omega)]
  rfl
end Sw
namespace Sw
open PySem PySem.Spec PyProof.Rows L2 GxR
/-! ### _law_pieces(script, k): patches that cover a rectangle of at most five rows and columns -/
def spPieces (Pt : Addr) (K : PySem.W.Frag) : Sp := fun vs H Q _ => ∃ (a : Addr) (ns : List Int) (k : Nat), vs = [.ref a, .int (k : Nat)] ∧ SqL K H a (ns.map V.int) ∧
  ∀ H' x as ps Hh Ww, Kp Pt H H' → H' x = some (.tup (as.map V.ref)) → Pats K H' as ps → Cover ps 0 0 Hh Ww → Hh ≤ 5 → Ww ≤ 5 → ps ≠ [] → ps.length ≤ 13 → Q (.ref x) H'
abbrev nPieces : List Str := ["_law_script", "_law_k", "_law_digits", "_law_parts", "_law_high", "_law_wide", "_law_j", "_law_row", "_law_place", "_law_top", "_law_left", "_law_height", "_law_width", "_law_cut"]
theorem scPieces : FnScope nPieces ["_law_script", "_law_k"] (defScope sPieces) := ⟨rfl, rfl, rfl, by decide +kernel, rfl, by decide +kernel, by decide +kernel⟩
def z27 : List Int := [5, 5, 4] ++ List.replicate 24 6
theorem cut_take (xs : List V) (q : Nat) (h : q ≤ xs.length) : cutV xs none (some (q : Int)) = xs.take q := by
  unfold cutV
  rw [HT.sIx_nat, HT.sIx_none, List.drop_zero, Nat.sub_zero, Nat.min_eq_left h]
theorem cut_drop (xs : List V) (q : Nat) (h : q ≤ xs.length) : cutV xs (some (q : Int)) none = xs.drop q := by
  unfold cutV
  rw [HT.sIx_nat, HT.sIx_none, Nat.min_eq_left h]
  exact List.take_of_length_le (by rw [List.length_drop]; exact Nat.le_refl _)
theorem cut_three {xs : List V} {k : Nat} (h : k + 3 ≤ xs.length) : cutV xs (some (k : Int)) (some ((k + 3 : Nat) : Int)) = (xs.drop k).take 3 := by
  unfold cutV
  rw [HT.sIx_nat, HT.sIx_nat, Nat.min_eq_left (by omega), Nat.min_eq_left (by omega), Nat.add_sub_cancel_left]
theorem at_int {ds : List Int} {i : Nat} {d : Int} (h : ds[i]? = some d) : atI (ds.map V.int) (i : Int) = some (.int d) := atI_nat (by rw [List.getElem?_map, h] <;> rfl)
theorem Pats.take {K : PySem.W.Frag} {H : Hp} {as : List Addr} {ps : List P4} (h : Pats K H as ps) (q : Nat) : Pats K H (as.take q) (ps.take q) := by
  refine ⟨by rw [List.length_take, List.length_take, h.1], fun i a p e1 e2 => ?_⟩
  have hi : i < q := by
    have := (List.getElem?_eq_some_iff.mp e1).1
    rw [List.length_take] at this
    omega
  rw [List.getElem?_take_of_lt hi] at e1 e2
  exact h.2 i a p e1 e2
theorem Pats.drop {K : PySem.W.Frag} {H : Hp} {as : List Addr} {ps : List P4} (h : Pats K H as ps) (q : Nat) : Pats K H (as.drop q) (ps.drop q) := by
  refine ⟨by rw [List.length_drop, List.length_drop, h.1], fun i a p e1 e2 => ?_⟩
  rw [List.getElem?_drop] at e1 e2
  exact h.2 _ a p e1 e2
theorem Pats.app {K : PySem.W.Frag} {H : Hp} {as bs : List Addr} {ps qs : List P4} (h : Pats K H as ps) (h' : Pats K H bs qs) : Pats K H (as ++ bs) (ps ++ qs) := pair_app (R := fun a p => SqT K H a (pv4 p)) h h'
theorem Pats.one {K : PySem.W.Frag} {H : Hp} {a : Addr} {p : P4} (h : SqT K H a (pv4 p)) : Pats K H [a] [p] := by
  refine ⟨rfl, fun i x y e1 e2 => ?_⟩
  match i, e1, e2 with
  | 0, e1, e2 =>
    cases e1
    cases e2
    exact h
  | i + 1, e1, e2 => cases e1
theorem Pats.cons {K : PySem.W.Frag} {H : Hp} {a : Addr} {p : P4} {as : List Addr} {ps : List P4} (h : SqT K H a (pv4 p)) (h' : Pats K H as ps) : Pats K H (a :: as) (p :: ps) := (Pats.one h).app h'
section
variable {P : Program} {w : World} {K : PySem.W.Frag} {mg : Str → Option Value} {base : Heap} {Pt : Addr}
theorem ok_pieces {f fD : Addr} {fd fdD : FuncData} (F : Fun K "_law_pieces" "_law_pieces" sPieces f fd) (GD : FnOk P w K mg base CX0 2 fD fdD ["_law_script", "_law_k", "_law_sizes"] (spDraw Pt K)) (kD : PySem.W.keepIn K (.ref fD) = true) (bD : Binds K fdD ["_law_script", "_law_k", "_law_sizes"] []) (gD : mg "_law_draw" = some (.ref fD))
    (mlen : mg "len" = none) (mrange : mg "range" = none) (mtuple : mg "tuple" = none) : FnOk P w K mg base CX0 3 f fd ["_law_script", "_law_k"] (spPieces Pt K) := by
  refine F.ok scPieces (fun vs H Q E h => ?_) (fun cdv A outer s H vs Q E hr h => ?_)
  · obtain ⟨a, ns, k, rfl, _⟩ := h
    rfl
  · obtain ⟨a, ns, k, rfl, hS, q⟩ := h
    refine ⟨_, pss_cons (ps_set (i := 2) scPieces.nd rfl (.inl rfl) (pe_call GD hr (by rfl) gD kD bD .nil pass0 (pa_cons (pv 0) (pa_cons (pv 1) (pa_cons (pe_op op_cat (pe_lst (pa_cons pe_int (pa_cons pe_int (pa_cons pe_int pa_nil)))) (pe_op op_rep (pe_lst (pa_cons pe_int pa_nil)) pe_int)) pa_nil)))))
      (pss_cons (ps_set (i := 3) scPieces.nd rfl (.inl rfl) (pe_lst (pa_cons (pe_tup (pa_cons pe_int (pa_cons pe_int (pa_cons (pe_op op_add pe_int (pe_ixL K rfl (pv 2) pe_int)) (pa_cons (pe_op op_add pe_int (pe_ixL K rfl (pv 2) pe_int)) pa_nil))))) pa_nil)))
      (C8.pss_cut (ps_if (PW.pt (pw_and (pt_cmpR op_eq (pe_ixL K rfl (pv 2) pe_int) pe_int (nomark _)) (pw_and (pt_cmpR op_gt (pe_ixL K rfl (pv 2) pe_int) pe_int (nomark _)) (pw_and1 (pt_cmpR op_gt (pe_ixL K rfl (pv 2) pe_int) pe_int (nomark _))))))
        (pss_cons (ps_set (i := 4) scPieces.nd rfl (.inl rfl) (pe_ixL K rfl (pv 2) pe_int))
        (pss_cons (ps_set (i := 5) scPieces.nd rfl (.inl rfl) (pe_ixL K rfl (pv 2) pe_int))
        (pss_one (ps_set (i := 3) scPieces.nd rfl (.inl rfl) (pe_lst (pa_cons (pe_tup (pa_cons pe_int (pa_cons pe_int (pa_cons pe_int (pa_cons (pv 5) pa_nil)))))
          (pa_cons (pe_tup (pa_cons pe_int (pa_cons (pv 5) (pa_cons (pv 4) (pa_cons pe_int pa_nil)))))
          (pa_cons (pe_tup (pa_cons pe_int (pa_cons pe_int (pa_cons (pv 4) (pa_cons pe_int pa_nil)))))
          (pa_cons (pe_tup (pa_cons pe_int (pa_cons pe_int (pa_cons (pe_op op_sub (pv 4) pe_int) (pa_cons (pe_op op_sub (pv 5) pe_int) pa_nil)))))
          (pa_cons (pe_tup (pa_cons (pv 4) (pa_cons pe_int (pa_cons pe_int (pa_cons (pv 5) pa_nil))))) pa_nil)))))))))) pss_nil)
      (pss_cons (ps_for PassesOwn.never rfl (pi_range1 (by rfl) mrange (pa_cons pe_int pa_nil)) (pg_name (i := 6) scPieces.nd rfl (.inl rfl))
        (pss_cons (ps_set (i := 7) scPieces.nd rfl (.inl rfl) (pe_slice sl_list (pv 2) (po_some (pe_op op_add pe_int (pe_op op_mul pe_int (pv 6)))) (po_some (pe_op op_add pe_int (pe_op op_mul pe_int (pv 6))))))
        (pss_cons (ps_set (i := 8) scPieces.nd rfl (.inl rfl) (pe_op op_mod (pe_ixL K rfl (pv 7) pe_int) (pe_callB call_len_seq (by rfl) mlen PySem.boot_len (pa_cons (pv 3) pa_nil))))
        (pss_cons (ps_asg (pe_ixL K rfl (pv 3) (pv 8)) (pg_tup rfl (pgs_cons (pg_name (i := 9) scPieces.nd rfl (.inl rfl)) (pgs_cons (pg_name (i := 10) scPieces.nd rfl (.inl rfl)) (pgs_cons (pg_name (i := 11) scPieces.nd rfl (.inl rfl)) (pgs_cons (pg_name (i := 12) scPieces.nd rfl (.inl rfl)) pgs_nil))))))
        (pss_one (ps_if (PW.pt (pw_and (pt_cmpR op_lt (pe_ixL K rfl (pv 7) pe_int) pe_int (nomark _)) (pw_and1 (pt_cmpR op_gt (pv 11) pe_int (nomark _)))))
          (pss_cons (ps_set (i := 13) scPieces.nd rfl (.inl rfl) (pe_op op_add pe_int (pe_op op_mod (pe_ixL K rfl (pv 7) pe_int) (pe_op op_sub (pv 11) pe_int))))
          (pss_one (ps_set (i := 3) scPieces.nd rfl (.inl rfl) (pe_op op_cat (pe_op op_cat (pe_slice sl_list (pv 3) po_none (po_some (pv 8)))
              (pe_lst (pa_cons (pe_tup (pa_cons (pv 9) (pa_cons (pv 10) (pa_cons (pv 13) (pa_cons (pv 12) pa_nil))))) (pa_cons (pe_tup (pa_cons (pe_op op_add (pv 9) (pv 13)) (pa_cons (pv 10) (pa_cons (pe_op op_sub (pv 11) (pv 13)) (pa_cons (pv 12) pa_nil))))) pa_nil))))
              (pe_slice sl_list (pv 3) (po_some (pe_op op_add (pv 8) pe_int)) po_none)))))
          (pss_one (ps_if (PW.pt (pw_and (pt_cmpR op_lt (pe_ixL K rfl (pv 7) pe_int) pe_int (nomark _)) (pw_and1 (pt_cmpR op_gt (pv 12) pe_int (nomark _)))))
            (pss_cons (ps_set (i := 13) scPieces.nd rfl (.inl rfl) (pe_op op_add pe_int (pe_op op_mod (pe_ixL K rfl (pv 7) pe_int) (pe_op op_sub (pv 12) pe_int))))
            (pss_one (ps_set (i := 3) scPieces.nd rfl (.inl rfl) (pe_op op_cat (pe_op op_cat (pe_op op_cat
                (pe_lst (pa_cons (pe_tup (pa_cons (pv 9) (pa_cons (pe_op op_add (pv 10) (pv 13)) (pa_cons (pv 11) (pa_cons (pe_op op_sub (pv 12) (pv 13)) pa_nil))))) pa_nil))
                (pe_slice sl_list (pv 3) po_none (po_some (pv 8))))
                (pe_slice sl_list (pv 3) (po_some (pe_op op_add (pv 8) pe_int)) po_none))
                (pe_lst (pa_cons (pe_tup (pa_cons (pv 9) (pa_cons (pv 10) (pa_cons (pv 11) (pa_cons (pv 13) pa_nil))))) pa_nil)))))) pss_nil))))))))
      (pss_one (ps_ret (pe_callTy call_tuple_of (by rfl) mtuple (by decide +kernel) (pa_cons (pv 3) pa_nil))))))), ?_⟩
    -- the digits
    refine ⟨_, rfl, _, rfl, by show 3 ≤ sizeLine; decide, fun A1 n1 => ⟨by show 1 ≤ sizeLine; decide, fun A2 n2 => ⟨A2, 24, _, rfl, rfl, upd_same, by decide, by decide, by show 1 * 24 ≤ sizeLine; decide, fun A3 n3 => ?_⟩⟩⟩
    have j1 : Kp Pt H (upd H A1 (.lst [.int 5, .int 5, .int 4])) := Kp.new n1
    have j2 : Kp Pt (upd H A1 (.lst [.int 5, .int 5, .int 4])) (upd (upd H A1 (.lst [.int 5, .int 5, .int 4])) A2 (.lst [.int 6])) := Kp.new n2
    have j3 : Kp Pt (upd (upd H A1 (.lst [.int 5, .int 5, .int 4])) A2 (.lst [.int 6])) _ := Kp.new (o := .lst (List.replicate (24 : Int).toNat [V.int 6]).flatten) n3
    refine ⟨A1, A3, _, _, rfl, rfl, (j2.trans j3).lst upd_same, upd_same, by show 3 + 24 ≤ sizeLine; decide, fun A4 n4 => ?_⟩
    have j4 := ((j1.trans j2).trans j3).trans (Kp.new (o := .lst ([.int 5, .int 5, .int 4] ++ (List.replicate (24 : Int).toNat [V.int 6]).flatten)) n4)
    refine ⟨a, A4, ns, z27, k, rfl, j4.seqL hS, SqL.of upd_same, by decide, by decide, fun H1 Dg ds j5 nDg hDg hds => ?_⟩
    have k1 := j4.trans j5
    have dl : ds.length = 27 := hds.1
    have dlm : (ds.map V.int).length = 27 := by rw [List.length_map]; exact dl
    have get : ∀ i, i < 27 → ∃ d, ds[i]? = some d ∧ 0 ≤ d ∧ ∀ z, z27[i]? = some z → d < z := fun i hi => by
      have e1 : ds[i]? = some (ds[i]'(by omega)) := List.getElem?_eq_getElem _
      have e2 : z27[i]? = some (z27[i]'(by show i < 27; exact hi)) := List.getElem?_eq_getElem _
      have b := hds.2 i _ _ e1 e2
      exact ⟨_, e1, b.1, fun z hz => by rw [hz] at e2; cases e2; exact b.2⟩
    obtain ⟨d0, e0, l0, u0⟩ := get 0 (by decide)
    obtain ⟨d1, e1, l1, u1⟩ := get 1 (by decide)
    obtain ⟨d2, e2, l2, _⟩ := get 2 (by decide)
    have u0 : d0 < 5 := u0 5 rfl
    have u1 : d1 < 5 := u1 5 rfl
    -- the first part
    refine ⟨_, rfl, Dg, _, 0, _, rfl, rfl, SqL.of hDg, at_int e0, _, _, rfl, rfl, _, rfl, Dg, _, 1, _, rfl, rfl, SqL.of hDg, at_int e1, _, _, rfl, rfl, by show 4 ≤ sizeLine; decide, fun T0 m0 => ⟨by show 1 ≤ sizeLine; decide, fun L0 m1 => ?_⟩⟩
    have j6 : Kp Pt H1 (upd H1 T0 (.tup (pv4 ⟨0, 0, 1 + d0, 1 + d1⟩))) := Kp.new m0
    have j7 : Kp Pt (upd H1 T0 (.tup (pv4 ⟨0, 0, 1 + d0, 1 + d1⟩))) (upd (upd H1 T0 (.tup (pv4 ⟨0, 0, 1 + d0, 1 + d1⟩))) L0 (.lst [.ref T0])) := Kp.new m1
    have j67 := j6.trans j7
    have k2 := k1.trans j67
    -- perhaps five parts
    refine ⟨fun σ' H' => ∃ (L : Addr) (as : List Addr) (ps : List P4) (Hh Ww : Int) (y4 y5 : Option V), σ' = [some (.ref a), some (.int (k : Nat)), some (.ref Dg), some (.ref L), y4, y5, none, none, none, none, none, none, none, none] ∧ Kp Pt H H' ∧ H' Dg = some (.lst (ds.map V.int)) ∧ H' L = some (.lst (as.map V.ref)) ∧ Pats K H' as ps ∧ Cover ps 0 0 Hh Ww ∧ Hh ≤ 5 ∧ Ww ≤ 5 ∧ ps ≠ [] ∧ ps.length ≤ 5, ?_, fun σ' H' hM => ?_⟩
    · have hD0 := j67.lst hDg
      have plain : ∃ (L : Addr) (as : List Addr) (ps : List P4) (Hh Ww : Int) (y4 y5 : Option V), [some (V.ref a), some (.int (k : Nat)), some (.ref Dg), some (.ref L0), none, none, none, none, none, none, none, none, none, none] = [some (.ref a), some (.int (k : Nat)), some (.ref Dg), some (.ref L), y4, y5, none, none, none, none, none, none, none, none] ∧ Kp Pt H (upd (upd H1 T0 (.tup (pv4 ⟨0, 0, 1 + d0, 1 + d1⟩))) L0 (.lst [.ref T0])) ∧ (upd (upd H1 T0 (.tup (pv4 ⟨0, 0, 1 + d0, 1 + d1⟩))) L0 (.lst [.ref T0])) Dg = some (.lst (ds.map V.int)) ∧ (upd (upd H1 T0 (.tup (pv4 ⟨0, 0, 1 + d0, 1 + d1⟩))) L0 (.lst [.ref T0])) L = some (.lst (as.map V.ref)) ∧ Pats K (upd (upd H1 T0 (.tup (pv4 ⟨0, 0, 1 + d0, 1 + d1⟩))) L0 (.lst [.ref T0])) as ps ∧ Cover ps 0 0 Hh Ww ∧ Hh ≤ 5 ∧ Ww ≤ 5 ∧ ps ≠ [] ∧ ps.length ≤ 5 :=
        ⟨L0, [T0], [⟨0, 0, 1 + d0, 1 + d1⟩], 1 + d0, 1 + d1, none, none, rfl, k2, hD0, upd_same, Pats.one (j7.seqT (SqT.of upd_same)), Cover.start (by omega) (by omega), by omega, by omega, by simp, by show 1 ≤ 5; decide⟩
      refine ⟨_, rfl, Dg, _, 2, _, rfl, rfl, SqL.of hD0, at_int e2, rfl, _, rfl, ite2 (fun _ => ?_) (fun _ => iteF plain)⟩
      refine ⟨_, rfl, Dg, _, 0, _, rfl, rfl, SqL.of hD0, at_int e0, _, _, rfl, rfl, _, rfl, ite2 (fun c0 => ?_) (fun _ => iteF plain)⟩
      refine ⟨_, rfl, Dg, _, 1, _, rfl, rfl, SqL.of hD0, at_int e1, _, _, rfl, rfl, _, rfl, ite2 (fun c1 => ?_) (fun _ => plain)⟩
      have c0 : 1 < d0 := of_decide_eq_true c0
      have c1 : 1 < d1 := of_decide_eq_true c1
      refine ⟨_, rfl, Dg, _, 0, _, rfl, rfl, SqL.of hD0, at_int e0, ?_⟩
      refine ⟨_, rfl, Dg, _, 1, _, rfl, rfl, SqL.of hD0, at_int e1, ?_⟩
      refine ⟨_, rfl, by show 4 ≤ sizeLine; decide, fun T1 t1 => ⟨_, rfl, _, rfl, by show 4 ≤ sizeLine; decide, fun T2 t2 => ⟨_, rfl, by show 4 ≤ sizeLine; decide, fun T3 t3 => ⟨_, rfl, _, _, rfl, rfl, _, rfl, _, _, rfl, rfl, by show 4 ≤ sizeLine; decide, fun T4 t4 => ⟨_, rfl, _, rfl, by show 4 ≤ sizeLine; decide, fun T5 t5 => ⟨by show 5 ≤ sizeLine; decide, fun L t6 => ?_⟩⟩⟩⟩⟩⟩
      have x1 := Kp.new (P := Pt) (o := .tup (pv4 ⟨0, 0, 1, d1⟩)) t1
      have x2 := Kp.new (P := Pt) (o := .tup (pv4 ⟨0, d1, d0, 1⟩)) t2
      have x3 := Kp.new (P := Pt) (o := .tup (pv4 ⟨1, 0, d0, 1⟩)) t3
      have x4 := Kp.new (P := Pt) (o := .tup (pv4 ⟨1, 1, d0 - 1, d1 - 1⟩)) t4
      have x5 := Kp.new (P := Pt) (o := .tup (pv4 ⟨d0, 1, 1, d1⟩)) t5
      have x6 := Kp.new (P := Pt) (o := .lst [.ref T1, .ref T2, .ref T3, .ref T4, .ref T5]) t6
      have y5 := x6
      have y4 := x5.trans y5
      have y3 := x4.trans y4
      have y2 := x3.trans y3
      have y1 := x2.trans y2
      have y0 := x1.trans y1
      exact ⟨L, [T1, T2, T3, T4, T5], [⟨0, 0, 1, d1⟩, ⟨0, d1, d0, 1⟩, ⟨1, 0, d0, 1⟩, ⟨1, 1, d0 - 1, d1 - 1⟩, ⟨d0, 1, 1, d1⟩], d0 + 1, d1 + 1, _, _, rfl, k2.trans y0, y0.lst hD0, upd_same,
        .cons (y1.seqT (SqT.of upd_same)) (.cons (y2.seqT (SqT.of upd_same)) (.cons (y3.seqT (SqT.of upd_same)) (.cons (y4.seqT (SqT.of upd_same)) (.one (y5.seqT (SqT.of upd_same)))))), Cover.wheel c0 c1, by omega, by omega, by simp, by show 5 ≤ 5; decide⟩
    -- the cuts
    obtain ⟨L, as, ps, Hh, Ww, y4, y5, rfl, k3, hD, hL, hP, hC, bH, bW, hne, hl5⟩ := hM
    refine ⟨8, rfl, by decide, by decide, ?_⟩
    refine for_range (lo := 0) (n := (8 : Int).toNat) (fun i σ' H' => ∃ (L : Addr) (as : List Addr) (ps : List P4) (Hh Ww : Int) (y6 y7 y8 y9 ya yb yc yd : Option V), σ' = [some (.ref a), some (.int (k : Nat)), some (.ref Dg), some (.ref L), y4, y5, y6, y7, y8, y9, ya, yb, yc, yd] ∧ Kp Pt H H' ∧ H' Dg = some (.lst (ds.map V.int)) ∧ H' L = some (.lst (as.map V.ref)) ∧ Pats K H' as ps ∧ Cover ps 0 0 Hh Ww ∧ Hh ≤ 5 ∧ Ww ≤ 5 ∧ ps ≠ [] ∧ ps.length ≤ 5 + i)
      ⟨L, as, ps, Hh, Ww, none, none, none, none, none, none, none, none, rfl, k3, hD, hL, hP, hC, bH, bW, hne, hl5⟩ (fun i σ' H2 hi h => ?_) (fun σ' H2 h => ?_)
    · clear hL hP hC bH bW hne hl5 hD k3
      obtain ⟨L, as, ps, Hh, Ww, y6, y7, y8, y9, ya, yb, yc, yd, rfl, k3, hD, hL, hP, hC, bH, bW, hne, hl5⟩ := h
      have hi : i < 8 := hi
      -- row
      refine ⟨_, rfl, _, rfl, _, _, rfl, rfl, .inl ⟨by decide, by decide⟩, _, _, rfl, rfl, _, rfl, _, rfl, _, _, rfl, rfl, .inl ⟨by decide, by decide⟩, _, _, rfl, rfl, _, rfl, Dg, _, rfl, SqL.of hD, fun R nR => ?_⟩
      obtain ⟨r0, r1, r2, g0, g1, g2, ecut⟩ := three (l := ds) (k := 3 + 3 * i) (by omega)
      have er : cutV (ds.map V.int) (some (3 + 3 * (0 + (i : Int)))) (some (6 + 3 * (0 + (i : Int)))) = [r0, r1, r2].map V.int := by
        rw [show (3 + 3 * (0 + (i : Int)) : Int) = ((3 + 3 * i : Nat) : Int) by omega, show (6 + 3 * (0 + (i : Int)) : Int) = ((3 + 3 * i + 3 : Nat) : Int) by omega, cut_three (by rw [dlm]; omega), ← List.map_drop, ← List.map_take, ecut]
      rw [er]
      have low : ∀ (j : Nat) (d : Int), ds[j]? = some d → 0 ≤ d := fun j d e => by
        have hj := (List.getElem?_eq_some_iff.mp e).1
        obtain ⟨d', e', l', _⟩ := get j (by omega)
        rw [e] at e'
        cases e'
        exact l'
      have r0l := low _ _ g0
      have r1l := low _ _ g1
      have r2l := low _ _ g2
      have jR : Kp Pt H2 (upd H2 R (.lst ([r0, r1, r2].map V.int))) := Kp.new nR
      have hR : (upd H2 R (.lst ([r0, r1, r2].map V.int))) R = some (.lst ([r0, r1, r2].map V.int)) := upd_same
      have k4 := k3.trans jR
      have hD4 := jR.lst hD
      have hL4 := jR.lst hL
      have hP4 := jR.pats hP
      generalize upd H2 R (.lst ([r0, r1, r2].map V.int)) = H3 at k4 hD4 hL4 hP4 hR ⊢
      -- place
      have lpos : 0 < ps.length := List.length_pos_iff.mpr hne
      have al : (as.map V.ref).length = ps.length := by rw [List.length_map]; exact hP.1
      refine ⟨_, rfl, R, _, 0, _, rfl, rfl, SqL.of hR, at_int (ds := [r0, r1, r2]) (i := 0) rfl, _, rfl, L, _, rfl, .inl (SqL.of hL4), _, _, rfl, rfl, by rw [al]; omega, ?_⟩
      rw [al]
      obtain ⟨qi, eqi⟩ : ∃ qi : Nat, r0 % (ps.length : Int) = (qi : Int) := Int.eq_ofNat_of_zero_le (Int.emod_nonneg _ (by omega))
      have qlt : qi < ps.length := by
        have := Int.emod_lt_of_pos r0 (show (0 : Int) < (ps.length : Int) by omega)
        omega
      show gName 8 (V.int (r0 % (ps.length : Int))) _ _ _
      rw [eqi]
      have qa : qi < as.length := by rw [hP.1]; exact qlt
      obtain ⟨p, ep⟩ : ∃ p, ps[qi]? = some p := ⟨_, List.getElem?_eq_getElem qlt⟩
      have ea : as[qi]? = some as[qi] := List.getElem?_eq_getElem qa
      have pin := hC.inn p (List.mem_of_getElem? ep)
      -- top, left, height, width
      refine ⟨_, rfl, _, rfl, L, _, _, _, rfl, rfl, SqL.of hL4, atI_nat (by rw [List.getElem?_map, ea] <;> rfl), as[qi], _, rfl, hP4.2 qi _ p ea ep, rfl, _, _, rfl, _, _, rfl, _, _, rfl, _, _, rfl, rfl, ?_⟩
      -- lengths
      have tl : (as.take qi).length = qi := by rw [List.length_take]; omega
      have ctake : cutV (as.map V.ref) none (some (qi : Int)) = (as.take qi).map V.ref := by rw [cut_take _ _ (by rw [al]; omega), List.map_take]
      have cdrop : cutV (as.map V.ref) (some ((qi : Int) + 1)) none = (as.drop (qi + 1)).map V.ref := by
        rw [show ((qi : Int) + 1) = ((qi + 1 : Nat) : Int) by omega, cut_drop _ _ (by rw [al]; omega), List.map_drop]
      have plen : (as.take qi).length + (as.drop (qi + 1)).length + 1 = ps.length := by
        rw [List.length_take, List.length_drop, hP.1]
        omega
      have plen2 : (ps.take qi).length + (ps.drop (qi + 1)).length + 1 = ps.length := by
        rw [List.length_take, List.length_drop]
        omega
      refine ⟨_, rfl, R, _, 1, _, rfl, rfl, SqL.of hR, at_int (ds := [r0, r1, r2]) (i := 1) rfl, _, _, rfl, rfl, _, rfl, ?_⟩
      by_cases cc : r1 < 3 ∧ 1 < p.h
      · refine ite2 (fun _ => ⟨_, rfl, _, _, rfl, rfl, _, rfl, ite2 (fun _ => ?_) (fun c => absurd (decide_eq_true cc.2) c)⟩) (fun c => absurd (decide_eq_true cc.1) c)
        -- cut
        refine ⟨_, rfl, R, _, 2, _, rfl, rfl, SqL.of hR, at_int (ds := [r0, r1, r2]) (i := 2) rfl, _, rfl, _, _, rfl, rfl, _, _, rfl, rfl, by show 0 < p.h - 1; omega, _, _, rfl, rfl, ?_⟩
        have m1 := Int.emod_nonneg r2 (show p.h - 1 ≠ 0 by omega)
        have m2 := Int.emod_lt_of_pos r2 (show 0 < p.h - 1 by omega)
        show gName 13 (V.int (1 + r2 % (p.h - 1))) _ _ _
        generalize hcut : 1 + r2 % (p.h - 1) = cut
        have b1 : 1 ≤ cut := by omega
        have b2 : cut < p.h := by omega
        refine ⟨_, rfl, _, rfl, _, rfl, L, _, rfl, SqL.of hL4, fun B1 v1 => ?_⟩
        rw [ctake]
        refine ⟨_, rfl, _, rfl, _, rfl, _, rfl, by show 4 ≤ sizeLine; decide, fun T1 v2 => ⟨_, rfl, _, rfl, _, _, rfl, rfl, _, rfl, _, rfl, _, rfl, _, _, rfl, rfl, _, rfl, by show 4 ≤ sizeLine; decide, fun T2 v3 => ⟨by show 2 ≤ sizeLine; decide, fun B2 v4 => ?_⟩⟩⟩
        have x1 := Kp.new (P := Pt) (o := .lst ((as.take qi).map V.ref)) v1
        have x2 := Kp.new (P := Pt) (o := .tup (pv4 ⟨p.t, p.l, cut, p.w⟩)) v2
        have x3 := Kp.new (P := Pt) (o := .tup (pv4 ⟨p.t + cut, p.l, p.h - cut, p.w⟩)) v3
        have x4 := Kp.new (P := Pt) (o := .lst [.ref T1, .ref T2]) v4
        refine ⟨B1, B2, _, _, rfl, rfl, ((x2.trans x3).trans x4).lst upd_same, upd_same, by rw [List.length_map]; show _ + 2 ≤ _; exact small1000' (by omega), fun B3 v5 => ?_⟩
        have x5 := Kp.new (P := Pt) (o := .lst ((as.take qi).map V.ref ++ [.ref T1, .ref T2])) v5
        have x15 := (((x1.trans x2).trans x3).trans x4).trans x5
        refine ⟨_, rfl, _, rfl, _, _, rfl, rfl, _, rfl, L, _, rfl, SqL.of (x15.lst hL4), fun B4 v6 => ?_⟩
        rw [cdrop]
        have x6 := Kp.new (P := Pt) (o := .lst ((as.drop (qi + 1)).map V.ref)) v6
        refine ⟨B3, B4, _, _, rfl, rfl, x6.lst upd_same, upd_same, by rw [List.length_append, List.length_map, List.length_map]; show _ + 2 + _ ≤ _; exact small1000' (by omega), fun B5 v7 => ?_⟩
        have x7 := Kp.new (P := Pt) (o := .lst ((as.take qi).map V.ref ++ [.ref T1, .ref T2] ++ (as.drop (qi + 1)).map V.ref)) v7
        have x17 := (x15.trans x6).trans x7
        refine ⟨B5, as.take qi ++ [T1, T2] ++ as.drop (qi + 1), ps.take qi ++ [⟨p.t, p.l, cut, p.w⟩, ⟨p.t + cut, p.l, p.h - cut, p.w⟩] ++ ps.drop (qi + 1), Hh, Ww, _, _, _, _, _, _, _, _, rfl, k4.trans x17, x17.lst hD4, ?_, ?_, hC.cutH ep b1 b2, bH, bW, by simp, ?_⟩
        · rw [upd_same, List.map_append, List.map_append] <;> rfl
        · refine ((((x17.pats hP4).take qi).app (.cons (((x3.trans x4).trans x5).trans (x6.trans x7) |>.seqT (SqT.of upd_same)) (.one ((x4.trans x5).trans (x6.trans x7) |>.seqT (SqT.of upd_same))))).app ((x17.pats hP4).drop (qi + 1)))
        · rw [List.length_append, List.length_append]
          show _ + 2 + _ ≤ _
          omega
      · refine (fun other => ite2 (fun c1 => ⟨_, rfl, _, _, rfl, rfl, _, rfl, ite2 (fun c2 => absurd ⟨of_decide_eq_true c1, of_decide_eq_true c2⟩ cc) (fun _ => other)⟩) (fun _ => iteF other)) ?_
        refine ⟨_, rfl, R, _, 1, _, rfl, rfl, SqL.of hR, at_int (ds := [r0, r1, r2]) (i := 1) rfl, _, _, rfl, rfl, _, rfl, ?_⟩
        have plain : ps.length ≤ 5 + (i + 1) := by omega
        refine ite2 (fun c1 => ⟨_, rfl, _, _, rfl, rfl, _, rfl, ite2 (fun c2 => ?_) (fun _ => ?_)⟩) (fun _ => iteF ?_)
        · have c2 : 1 < p.w := of_decide_eq_true c2
          refine ⟨_, rfl, R, _, 2, _, rfl, rfl, SqL.of hR, at_int (ds := [r0, r1, r2]) (i := 2) rfl, _, rfl, _, _, rfl, rfl, _, _, rfl, rfl, by show 0 < p.w - 1; omega, _, _, rfl, rfl, ?_⟩
          have m1 := Int.emod_nonneg r2 (show p.w - 1 ≠ 0 by omega)
          have m2 := Int.emod_lt_of_pos r2 (show 0 < p.w - 1 by omega)
          show gName 13 (V.int (1 + r2 % (p.w - 1))) _ _ _
          generalize hcut : 1 + r2 % (p.w - 1) = cut
          have b1 : 1 ≤ cut := by omega
          have b2 : cut < p.w := by omega
          -- [(top, left + cut, height, width - cut)]
          refine ⟨_, rfl, _, rfl, _, rfl, _, _, rfl, rfl, _, rfl, _, rfl, _, rfl, _, _, rfl, rfl, by show 4 ≤ sizeLine; decide, fun T1 v1 => ⟨by show 1 ≤ sizeLine; decide, fun B1 v2 => ?_⟩⟩
          have x1 := Kp.new (P := Pt) (o := .tup (pv4 ⟨p.t, p.l + cut, p.h, p.w - cut⟩)) v1
          have x2 := Kp.new (P := Pt) (o := .lst [.ref T1]) v2
          -- parts[:place]
          refine ⟨_, rfl, _, rfl, _, rfl, L, _, rfl, SqL.of ((x1.trans x2).lst hL4), fun B2 v3 => ?_⟩
          rw [ctake]
          have x3 := Kp.new (P := Pt) (o := .lst ((as.take qi).map V.ref)) v3
          refine ⟨B1, B2, _, _, rfl, rfl, x3.lst upd_same, upd_same, by rw [List.length_map]; show 1 + _ ≤ _; exact small1000' (by omega), fun B3 v4 => ?_⟩
          have x4 := Kp.new (P := Pt) (o := .lst ([.ref T1] ++ (as.take qi).map V.ref)) v4
          have x14 := ((x1.trans x2).trans x3).trans x4
          -- parts[place + 1:]
          refine ⟨_, rfl, _, rfl, _, _, rfl, rfl, _, rfl, L, _, rfl, SqL.of (x14.lst hL4), fun B4 v5 => ?_⟩
          rw [cdrop]
          have x5 := Kp.new (P := Pt) (o := .lst ((as.drop (qi + 1)).map V.ref)) v5
          refine ⟨B3, B4, _, _, rfl, rfl, x5.lst upd_same, upd_same, by rw [List.length_append, List.length_map, List.length_map]; show 1 + _ + _ ≤ _; exact small1000' (by omega), fun B5 v6 => ?_⟩
          have x6 := Kp.new (P := Pt) (o := .lst ([.ref T1] ++ (as.take qi).map V.ref ++ (as.drop (qi + 1)).map V.ref)) v6
          -- [(top, left, height, cut)]
          refine ⟨_, rfl, _, rfl, _, rfl, _, rfl, by show 4 ≤ sizeLine; decide, fun T2 v7 => ⟨by show 1 ≤ sizeLine; decide, fun B6 v8 => ?_⟩⟩
          have x7 := Kp.new (P := Pt) (o := .tup (pv4 ⟨p.t, p.l, p.h, cut⟩)) v7
          have x8 := Kp.new (P := Pt) (o := .lst [.ref T2]) v8
          refine ⟨B5, B6, _, _, rfl, rfl, (x7.trans x8).lst upd_same, upd_same, by rw [List.length_append, List.length_append, List.length_map, List.length_map]; show 1 + _ + _ + 1 ≤ _; exact small1000' (by omega), fun B7 v9 => ?_⟩
          have x9 := Kp.new (P := Pt) (o := .lst ([.ref T1] ++ (as.take qi).map V.ref ++ (as.drop (qi + 1)).map V.ref ++ [.ref T2])) v9
          have x29 := ((((x2.trans x3).trans x4).trans x5).trans x6).trans ((x7.trans x8).trans x9)
          have x19 := x1.trans x29
          refine ⟨B7, [T1] ++ as.take qi ++ as.drop (qi + 1) ++ [T2], [⟨p.t, p.l + cut, p.h, p.w - cut⟩] ++ ps.take qi ++ ps.drop (qi + 1) ++ [⟨p.t, p.l, p.h, cut⟩], Hh, Ww, _, _, _, _, _, _, _, _, rfl, k4.trans x19, x19.lst hD4, ?_, ?_, hC.cutV ep b1 b2, bH, bW, by simp, ?_⟩
          · rw [upd_same, List.map_append, List.map_append, List.map_append] <;> rfl
          · exact (((Pats.one (x29.seqT (SqT.of upd_same))).app ((x19.pats hP4).take qi)).app ((x19.pats hP4).drop (qi + 1))).app (.one ((x8.trans x9).seqT (SqT.of upd_same)))
          · rw [List.length_append, List.length_append, List.length_append]
            show 1 + _ + _ + 1 ≤ _
            omega
        · exact ⟨L, as, ps, Hh, Ww, _, _, _, _, _, _, _, _, rfl, k4, hD4, hL4, hP4, hC, bH, bW, hne, plain⟩
        · exact ⟨L, as, ps, Hh, Ww, _, _, _, _, _, _, _, _, rfl, k4, hD4, hL4, hP4, hC, bH, bW, hne, plain⟩
    · clear hL hP hC bH bW hne hl5 hD k3
      obtain ⟨L, as, ps, Hh, Ww, y6, y7, y8, y9, ya, yb, yc, yd, rfl, k3, hD, hL, hP, hC, bH, bW, hne, hl5⟩ := h
      refine ⟨_, rfl, L, _, rfl, .inl ⟨SqL.of hL, fun l nl => ?_⟩⟩
      have x1 : Kp Pt H2 (upd H2 l (.tup (as.map V.ref))) := Kp.new nl
      exact q _ l as ps Hh Ww (k3.trans x1) upd_same (x1.pats hP) hC bH bW hne (by have : ps.length ≤ 5 + 8 := hl5; omega)
end
end Sw
namespace Sw
open PySem PySem.Spec PyProof.Rows L2 GxR
/-! ### _law_seams(patches) -/
def spLSeams (Pt : Addr) (K : PySem.W.Frag) : Sp := fun vs H Q _ => ∃ (a : Addr) (as : List Addr) (ps : List P4), vs = [.ref a] ∧ SqL K H a (as.map V.ref) ∧ Pats K H as ps ∧ ps ≠ [] ∧ ps.length ≤ 100 ∧ (∀ p ∈ ps, Bnd p) ∧
  ∀ H' x bs ss, Kp Pt H H' → H x = none → (∀ s ∈ ss, IsSm ps s) → ((∃ s, IsSm ps s) → ss ≠ []) → ss.length ≤ 100 → H' x = some (.lst (bs.map V.ref)) → Sms K H' bs ss → Q (.ref x) H'
abbrev nLSeams : List Str := ["_law_patches", "_law_found", "_law_axis", "_law_low", "_law_high", "_law_position", "_law_crossed", "_law_row"]
theorem scLSeams : FnScope nLSeams ["_law_patches"] (defScope sLSeams) := ⟨rfl, rfl, rfl, by decide +kernel, rfl, by decide +kernel, by decide +kernel⟩
def av (v : Bool) : Int := if v then 1 else 0
theorem at_lo (v : Bool) (p : P4) : atI (pv4 p) (av v) = some (.int (lo v p)) := by
  cases v
  · exact (at4 p).1
  · exact (at4 p).2.1
theorem at_ln (v : Bool) (p : P4) : atI (pv4 p) (av v + 2) = some (.int (ln v p)) := by
  cases v
  · exact (at4 p).2.2.1
  · exact (at4 p).2.2.2
theorem sign_at (v : Bool) : ∃ c, atI ("-|" : Str).cps.toList (av v) = some c ∧ V.str ⟨#[c]⟩ = V.str (dirS v) := by
  cases v
  · exact ⟨45, by decide +kernel, by decide +kernel⟩
  · exact ⟨124, by decide +kernel, by decide +kernel⟩
theorem bnd_ax {p : P4} (h : Bnd p) (v : Bool) : 0 ≤ lo v p ∧ 1 ≤ ln v p ∧ lo v p + ln v p ≤ 10 := by
  have h1 := h.t
  have h2 := h.l
  have h3 := h.h
  have h4 := h.w
  have h5 := h.b
  have h6 := h.r
  cases v
  · exact ⟨h1, h3, h5⟩
  · exact ⟨h2, h4, h6⟩
section
variable {P : Program} {w : World} {K : PySem.W.Frag} {mg : Str → Option Value} {base : Heap} {Pt : Addr}
theorem ok_lseams {f : Addr} {fd : FuncData} (F : Fun K "_law_seams" "_law_seams" sLSeams f fd) (mlen : mg "len" = none) (mmin : mg "min" = none) (mmax : mg "max" = none) (mrange : mg "range" = none) : FnOk P w K mg base CX0 1 f fd ["_law_patches"] (spLSeams Pt K) := by
  refine F.ok scLSeams (fun vs H Q E h => ?_) (fun cdv A outer s H vs Q E hr h => ?_)
  · obtain ⟨a, as, ps, rfl, _⟩ := h
    rfl
  · obtain ⟨a, as, ps, rfl, hS, hP, hne, hlen, hB, q⟩ := h
    refine ⟨_, pss_cons (ps_set (i := 1) scLSeams.nd rfl (.inl rfl) (pe_lst pa_nil))
      (pss_cons (ps_for PassesOwn.never rfl (pi_list (pe_lst (pa_cons pe_int (pa_cons pe_int pa_nil)))) (pg_name (i := 2) scLSeams.nd rfl (.inr rfl))
        (pss_cons (ps_set (i := 3) scLSeams.nd rfl (.inl rfl) (pe_callB (cr_min rfl) (by rfl) mmin (by decide +kernel) (pa_cons
          (pe_lc (own := [("_law_row", 7)]) (g := gName 7) (tt := tYes) rfl scLSeams.nd (pi_list (pv 0)) (blkOk_by (N := nLSeams) (sc := defScope sLSeams) (by decide +kernel)) (fun _ _ _ _ _ => pg_name (i := 7) scLSeams.nd rfl (Or.inl rfl)) (fun _ _ _ _ _ => pts_nil)
            (fun _ _ _ _ _ => pe_ixT K rfl (pv 7) (pv 2))) pa_nil)))
        (pss_cons (ps_set (i := 4) scLSeams.nd rfl (.inl rfl) (pe_callB (cr_max rfl) (by rfl) mmax (by decide +kernel) (pa_cons
          (pe_lc (own := [("_law_row", 7)]) (g := gName 7) (tt := tYes) rfl scLSeams.nd (pi_list (pv 0)) (blkOk_by (N := nLSeams) (sc := defScope sLSeams) (by decide +kernel)) (fun _ _ _ _ _ => pg_name (i := 7) scLSeams.nd rfl (Or.inl rfl)) (fun _ _ _ _ _ => pts_nil)
            (fun _ _ _ _ _ => pe_op op_add (pe_ixT K rfl (pv 7) (pv 2)) (pe_ixT K rfl (pv 7) (pe_op op_add (pv 2) pe_int)))) pa_nil)))
        (pss_one (ps_for PassesOwn.never rfl (pi_range2 (by rfl) mrange (pa_cons (pe_op op_add (pv 3) pe_int) (pa_cons (pv 4) pa_nil))) (pg_name (i := 5) scLSeams.nd rfl (.inr rfl))
          (pss_cons (ps_setLc (i := 6) (own := [("_law_row", 7)]) (g := gName 7) rfl scLSeams.nd rfl rfl (sw_true rfl rfl rfl (by decide +kernel)) (pi_list (pv 0)) (blkOk_by (N := nLSeams) (sc := defScope sLSeams) (by decide +kernel)) (fun _ _ _ _ _ => pg_name (i := 7) scLSeams.nd rfl (Or.inl rfl))
              (fun _ _ _ _ _ => pts_one (PW.pt (pw_and (pt_cmpR op_lt (pe_ixT K rfl (pv 7) (pv 2)) (pv 5) (nomark _)) (pw_and1 (pt_cmpR op_lt (pv 5) (pe_op op_add (pe_ixT K rfl (pv 7) (pv 2)) (pe_ixT K rfl (pv 7) (pe_op op_add (pv 2) pe_int))) (nomark _))))))
              (fun _ _ _ _ _ => pv 7))
          (pss_one (ps_if (pt_cmpR op_eq (pe_callB call_len_seq (by rfl) mlen PySem.boot_len (pa_cons (pv 6) pa_nil)) pe_int (nomark _))
            (pss_one (ps_expr (pe_bm PySem.F.plainAttrs_list PySem.F.slot_list_append PySem.F.type_list_append mt_append (pv 1) (pa_cons (pe_tup (pa_cons (pe_ix ix_str pe_str (pv 2) (fun _ _ => rfl)) (pa_cons (pv 5) pa_nil))) pa_nil)))) pss_nil))))))))
      (pss_one (ps_ret (pv 1)))), ?_⟩
    have pos : 0 < ps.length := List.length_pos_iff.mpr hne
    have al : (as.map V.ref).length = ps.length := by rw [List.length_map]; exact hP.1
    -- found = []
    refine ⟨Nat.zero_le _, fun D nD => ⟨by show 2 ≤ sizeLine; decide, fun A nA => ?_⟩⟩
    have k1 : Kp Pt H (upd H D (.lst [])) := Kp.new nD
    have k2 : Kp Pt (upd H D (.lst [])) (upd (upd H D (.lst [])) A (.lst [.int 1, .int 0])) := Kp.new nA
    have nAD : D ≠ A := ne_of_none upd_same nA
    -- for axis in [1, 0]
    refine ⟨A, rfl, ⟨_, SqL.of upd_same⟩, for_list (K := K) (a := A) (xs := [.int 1, .int 0]) (fun i σ' H' => ∃ (y2 y3 y4 y5 y6 : Option V) (bs : List Addr) (ss : List Sm), σ' = [some (.ref a), some (.ref D), y2, y3, y4, y5, y6, none] ∧ Kp Pt H H' ∧ H' A = some (.lst [.int 1, .int 0]) ∧ H' D = some (.lst (bs.map V.ref)) ∧ Sms K H' bs ss ∧ ss.length ≤ 10 * i ∧ (∀ s ∈ ss, IsSm ps s) ∧
        ∀ v x, (if v = true then 1 ≤ i else 2 ≤ i) → IsSm ps ⟨v, x⟩ → ss ≠ [])
      ⟨none, none, none, none, none, [], [], rfl, k1.trans k2, upd_same, k2.lst upd_same, ⟨rfl, fun i b s e => by cases e⟩, Nat.le_refl _, fun s hs => (by cases hs), fun v x h => (by cases v <;> simp at h)⟩
      (fun i σ' H' _ h => by obtain ⟨_, _, _, _, _, _, _, _, _, hA, _⟩ := h; exact SqL.of hA) (fun i x σ' H' hx h => ?_) (fun σ' H' h => ?_)⟩
    · obtain ⟨y2, y3, y4, y5, y6, bs, ss, rfl, k, hA, hD, hSm, hl, hIs, hAll⟩ := h
      obtain ⟨v, rfl, hv⟩ : ∃ v : Bool, x = .int (av v) ∧ ((v = true ∧ i = 0) ∨ (v = false ∧ i = 1)) := by
        match i, hx with
        | 0, hx => cases hx; exact ⟨true, rfl, .inl ⟨rfl, rfl⟩⟩
        | 1, hx => cases hx; exact ⟨false, rfl, .inr ⟨rfl, rfl⟩⟩
        | i + 2, hx => cases hx
      -- low, high
      refine ⟨_, rfl, a, rfl, ⟨_, k.seqL hS⟩, fun D1 n1 => lc_mapP (P := Pt) (fun p => .int (lo v p)) n1 (k.seqL hS) (k.pats hP) hlen (fun _ => rfl) (fun ad p H2 Qv _ _ hT hq => ?_) (fun H1 k3 e1 => ?_)⟩
      · exact ⟨_, rfl, _, rfl, ad, _, _, _, rfl, rfl, hT, at_lo v p, hq⟩
      refine ⟨D1, ps.map (lo v), rfl, SqL.of (by rw [List.map_map]; exact e1), by rw [List.length_map]; exact pos, fun low low1 low2 => ?_⟩
      have k4 := k.trans k3
      refine ⟨_, rfl, a, rfl, ⟨_, k4.seqL hS⟩, fun D2 n2 => lc_mapP (P := Pt) (fun p => .int (lo v p + ln v p)) n2 (k4.seqL hS) (k4.pats hP) hlen (fun _ => rfl) (fun ad p H2 Qv _ _ hT hq => ?_) (fun H2 k5 e2 => ?_)⟩
      · exact ⟨_, rfl, _, rfl, ad, _, _, _, rfl, rfl, hT, at_lo v p, _, rfl, _, rfl, _, _, rfl, rfl, ad, _, _, _, rfl, rfl, hT, at_ln v p, _, _, rfl, rfl, hq⟩
      refine ⟨D2, ps.map (fun p => lo v p + ln v p), rfl, SqL.of (by rw [List.map_map]; exact e2), by rw [List.length_map]; exact pos, fun high high1 high2 => ?_⟩
      have k35 := k3.trans k5
      have k6 := k4.trans k5
      obtain ⟨pl, hpl, epl⟩ := List.mem_map.mp low1
      obtain ⟨ph, hph, eph⟩ := List.mem_map.mp high1
      have bl := bnd_ax (hB pl hpl) v
      have bh := bnd_ax (hB ph hph) v
      have low2' : ∀ p ∈ ps, low ≤ lo v p := fun p hp => low2 _ (List.mem_map.mpr ⟨p, hp, rfl⟩)
      have high2' : ∀ p ∈ ps, lo v p + ln v p ≤ high := fun p hp => high2 _ (List.mem_map.mpr ⟨p, hp, rfl⟩)
      -- the positions
      refine ⟨_, rfl, _, _, rfl, rfl, _, rfl, low + 1, high, rfl, ⟨by omega, by omega, by omega, by omega⟩, ?_⟩
      have hD6 := k35.lst hD
      have hA6 := k35.lst hA
      have hSm6 := k35.sms hSm
      refine for_range (lo := low + 1) (n := (high - (low + 1)).toNat) (fun j σ' H3 => ∃ (y5 y6 : Option V) (bs : List Addr) (ss : List Sm), σ' = [some (.ref a), some (.ref D), some (.int (av v)), some (.int low), some (.int high), y5, y6, none] ∧ Kp Pt H H3 ∧ H3 A = some (.lst [.int 1, .int 0]) ∧ H3 D = some (.lst (bs.map V.ref)) ∧ Sms K H3 bs ss ∧ ss.length ≤ 10 * i + j ∧ (∀ s ∈ ss, IsSm ps s) ∧
          (∀ v x, (if v = true then 1 ≤ i else 2 ≤ i) → IsSm ps ⟨v, x⟩ → ss ≠ []) ∧ ∀ x, low < x → x < low + 1 + j → IsSm ps ⟨v, x⟩ → ss ≠ [])
        ⟨_, _, bs, ss, rfl, k6, hA6, hD6, hSm6, by omega, hIs, hAll, fun x h1 h2 => absurd h1 (by omega)⟩ (fun j σ' H3 hj h => ?_) (fun σ' H3 h => ?_)
      · clear hAll hIs hl hSm6 hA6 hD6 hSm hD hA
        obtain ⟨y5, y6, bs, ss, rfl, k7, hA, hD, hSm, hl, hIs, hAll, hUp⟩ := h
        -- crossed
        refine ⟨_, rfl, a, rfl, ⟨_, k7.seqL hS⟩, fun C nC => lc_list (K := K) (a := a) (xs := as.map V.ref) (fun m H4 => Kp Pt H3 H4 ∧ ∃ acc, H4 C = some (.lst acc) ∧ acc.length ≤ m ∧ (acc = [] ↔ ∀ p ∈ ps.take m, ¬ (lo v p < low + 1 + j ∧ low + 1 + j < lo v p + ln v p))) ⟨Kp.new nC, [], upd_same, Nat.le_refl _, ⟨fun _ p hp => (by cases hp), fun _ => rfl⟩⟩
          (fun m H4 _ h => (k7.trans h.1).seqL hS) (fun m x H4 hx h => ?_) (fun H4 h => ?_)⟩
        · obtain ⟨k8, acc, hC, hal, hacc⟩ := h
          rw [List.getElem?_map] at hx
          obtain ⟨ad, had, rfl⟩ := Option.map_eq_some_iff.mp hx
          obtain ⟨p, hp⟩ := getP hP.1 had
          have hT := (k7.trans k8).seqT (hP.2 m ad p had hp)
          have et : ps.take (m + 1) = ps.take m ++ [p] := by
            rw [List.take_add_one, hp]
            rfl
          have hm : m < ps.length := (List.getElem?_eq_some_iff.mp hp).1
          have skip : ¬ (lo v p < low + 1 + j ∧ low + 1 + j < lo v p + ln v p) → Kp Pt H3 H4 ∧ ∃ acc, H4 C = some (.lst acc) ∧ acc.length ≤ m + 1 ∧ (acc = [] ↔ ∀ p ∈ ps.take (m + 1), ¬ (lo v p < low + 1 + j ∧ low + 1 + j < lo v p + ln v p)) := fun hn => by
            refine ⟨k8, acc, hC, by omega, ?_⟩
            rw [et, hacc]
            constructor
            · intro h r hr
              rcases List.mem_append.mp hr with hr | hr
              · exact h r hr
              · rw [List.mem_singleton.mp hr]
                exact hn
            · intro h r hr
              exact h r (List.mem_append_left _ hr)
          refine ⟨rfl, _, rfl, _, rfl, ad, _, _, _, rfl, rfl, hT, at_lo v p, _, rfl, _, _, rfl, rfl, _, rfl, ite2 (fun c1 => ?_) (fun c1 => ?_)⟩
          · refine ⟨_, rfl, _, rfl, _, rfl, ad, _, _, _, rfl, rfl, hT, at_lo v p, _, rfl, _, rfl, _, _, rfl, rfl, ad, _, _, _, rfl, rfl, hT, at_ln v p, _, _, rfl, rfl, _, _, rfl, rfl, _, rfl, ite2 (fun c2 => ?_) (fun c2 => ?_)⟩
            · refine ⟨_, rfl, acc, hC, small100 (by omega), k8.put nC, acc ++ [.ref ad], upd_same, by rw [List.length_append]; show _ + 1 ≤ _; omega, ?_⟩
              constructor
              · intro z
                have := congrArg List.length z
                rw [List.length_append] at this
                exact absurd this (by show ¬ _ + 1 = 0; omega)
              · intro z
                exact absurd ⟨of_decide_eq_true c1, of_decide_eq_true c2⟩ (z p (by rw [et]; exact List.mem_append_right _ List.mem_cons_self))
            · exact skip fun z => c2 (decide_eq_true z.2)
          · exact iteF (skip fun z => c1 (decide_eq_true z.1))
        · rw [al, List.take_length] at h
          obtain ⟨k8, acc, hC, hal, hacc⟩ := h
          have k78 := k7.trans k8
          have hA8 := k8.lst hA
          have hD8 := k8.lst hD
          have hSm8 := k8.sms hSm
          -- if len(crossed) == 0
          refine ⟨_, rfl, C, _, rfl, .inl (SqL.of hC), rfl, _, rfl, ite2 (fun c => ?_) (fun c => ?_)⟩
          · have c := V.int.inj (of_decide_eq_true c)
            have e0 : acc = [] := List.length_eq_zero_iff.mp (by omega)
            have hfree := hacc.mp e0
            have his : IsSm ps ⟨v, low + 1 + j⟩ := by
              refine ⟨fun p hp => ?_, ⟨pl, hpl, ?_⟩, ⟨ph, hph, ?_⟩⟩
              · have := hfree p hp
                simp only
                omega
              · simp only
                omega
              · have := hfree ph hph
                simp only
                omega
            obtain ⟨cc, ec, es⟩ := sign_at v
            refine ⟨_, rfl, .inl ⟨rfl, _, SqL.of hD8⟩, _, rfl, _, _, cc, rfl, rfl, by decide +kernel, ec, _, rfl, by show 2 ≤ sizeLine; decide, fun T nT => ?_⟩
            have k9 := Kp.new (P := Pt) (o := .tup [.str ⟨#[cc]⟩, .int (low + 1 + j)]) nT
            refine ⟨D, _, _, rfl, rfl, k9.lst hD8, by rw [List.length_map, hSm.1]; exact small100 (by omega), ?_⟩
            refine ⟨_, _, bs ++ [T], ss ++ [⟨v, low + 1 + j⟩], rfl, (k78.trans k9).put nD, ?_, ?_, ?_, ?_, ?_, ?_, ?_⟩
            · rw [upd_ne nAD.symm]
              exact k9.lst hA8
            · rw [upd_same, List.map_append] <;> rfl
            · have kk := (k9.sms hSm8).push (b := T) (s := ⟨v, low + 1 + j⟩) (by
                unfold SmAt
                rw [← es]
                exact SqT.of upd_same)
              exact ⟨kk.1, fun m b s e1 e2 => seqT_put (kk.2 m b s e1 e2) (k9.lst hD8)⟩
            · rw [List.length_append]
              show _ + 1 ≤ _
              omega
            · intro s hs
              rcases List.mem_append.mp hs with hs | hs
              · exact hIs s hs
              · rw [List.mem_singleton.mp hs]
                exact his
            · intro _ _ _ _
              simp
            · intro _ _ _ _
              simp
          · refine ⟨_, _, bs, ss, rfl, k78, hA8, hD8, hSm8, by omega, hIs, hAll, fun x h1 h2 hx => ?_⟩
            by_cases hxz : x = low + 1 + j
            · refine absurd ?_ c
              have : acc = [] := hacc.mpr fun p hp z => by
                have := hx.free p hp
                rw [hxz] at this
                simp only at this
                omega
              rw [this]
              exact decide_eq_true rfl
            · exact hUp x h1 (by omega) hx
      · obtain ⟨y5, y6, bs, ss, rfl, k7, hA, hD, hSm, hl, hIs, hAll, hUp⟩ := h
        refine ⟨_, _, _, _, _, bs, ss, rfl, k7, hA, hD, hSm, by omega, hIs, fun v' x hc hsx => ?_⟩
        by_cases hvv : v' = v
        · subst hvv
          obtain ⟨p1, m1, a1⟩ := hsx.fst
          obtain ⟨p2, m2, a2⟩ := hsx.snd
          simp only at a1 a2
          have z1 := low2' p1 m1
          have z2 := high2' p2 m2
          have z3 := bnd_ax (hB p2 m2) v'
          exact hUp x (by omega) (by omega) hsx
        · refine hAll v' x ?_ hsx
          rcases hv with ⟨rfl, rfl⟩ | ⟨rfl, rfl⟩
          · cases v'
            · simp at hc
            · exact absurd rfl hvv
          · cases v'
            · exact absurd rfl hvv
            · simp
    · obtain ⟨y2, y3, y4, y5, y6, bs, ss, rfl, k, hA, hD, hSm, hl, hIs, hAll⟩ := h
      have hl : ss.length ≤ 10 * 2 := hl
      exact ⟨_, rfl, q _ D bs ss k nD hIs (fun ⟨s, hs⟩ => hAll s.v s.at_ (by cases s.v <;> simp) hs) (by omega) hD hSm⟩
end
end Sw
namespace Sw
open PySem PySem.Spec PyProof.Rows L2 GxR
/-! ### _law_some(script, k, patches, numbers): n calls are allowed -/
def spSome (Pt : Addr) (K : PySem.W.Frag) (n : Nat) : Sp := fun vs H Q _ => ∃ (c a b : Addr) (ns : List Int) (k : Nat) (as : List Addr) (ps : List P4) (N : List Nat), vs = [.ref c, .int (k : Nat), .ref a, .ref b] ∧ SqL K H c (ns.map V.int) ∧ SqT K H a (as.map V.ref) ∧ Pats K H as ps ∧ (∀ p ∈ ps, Bnd p) ∧ SqL K H b (nVs N) ∧ (∀ k ∈ N, k < ps.length) ∧
  N.length ≤ 30 ∧ N.length ≤ n ∧ Sewable (gP ps) N ∧ ∀ H' x plan, Kp Pt H H' → H x = none → H' x = some (.lst (plan.map stV)) → PlanFor (gP ps) N plan → Q (.ref x) H'
abbrev nSome : List Str := ["_law_script", "_law_k", "_law_patches", "_law_numbers", "_law_rows", "_law_seams_here", "_law_digit", "_law_seam", "_law_axis", "_law_first", "_law_second", "_law_number"]
theorem scSome : FnScope nSome ["_law_script", "_law_k", "_law_patches", "_law_numbers"] (defScope sSome) := ⟨rfl, rfl, rfl, by decide +kernel, rfl, by decide +kernel, by decide +kernel⟩
/-- a comprehension [n for n in a list of numbers if a test that leaves the heap] -/
theorem lc_filN {K : PySem.W.Frag} {a P : Addr} {N : List Nat} {slot : Nat} {tt : TT} {vs : List Nat} {σ : L2.St} {H1 : Hp} {D : Addr} {Qd : Hp → Prop} (f : Nat → Bool) (nD : H1 D = none) (hS : SqL K H1 a (nVs N)) (hlen : N.length ≤ 100)
    (hw : ∀ v, wipe ((wipe σ vs).set slot (some v)) vs = wipe σ vs) (hsl : ∀ v, ((wipe σ vs).set slot (some v))[slot]? = some (some v))
    (step : ∀ n H (Qv : Bool → Hp → Prop), Kp P H1 H → n ∈ N → Qv (f n) H → tt ((wipe σ vs).set slot (some (.int (n : Nat)))) H Qv)
    (hd : ∀ H, Kp P H1 H → H D = some (.lst (nVs (N.filter f))) → Qd H) :
    ∃ W : Nat → Nat → Hp → Prop, (∃ m, W 0 m (upd H1 D (.lst []))) ∧ ∀ i m H, W i m H →
      ((Itl K a).stop i H ∧ Qd H) ∨ ((Itl K a).go i H ∧ ∃ Nx : Hp → Prop, (∀ H', Nx H' → ∃ m', m' < m ∧ W (i + 1) m' H') ∧ ∀ x H', (Itl K a).yld i H x H' → gName slot x (wipe σ vs) H' fun σ2 H2 => wipe σ2 vs = wipe σ vs ∧ tt σ2 H2 fun b H3 =>
        if b = true then tVar slot σ2 H3 fun y H4 => ∃ acc, H4 D = some (.lst acc) ∧ acc.length < sizeLine ∧ Nx (upd H4 D (.lst (acc ++ [y]))) else Nx H3) := by
  refine lc_list (K := K) (a := a) (xs := nVs N) (fun i H => Kp P H1 H ∧ H D = some (.lst (nVs ((N.take i).filter f)))) ⟨Kp.new nD, upd_same⟩ (fun i H _ h => h.1.seqL hS) (fun i x H hx h => ?_) (fun H h => ?_)
  · obtain ⟨k, hD⟩ := h
    unfold nVs at hx
    rw [List.getElem?_map] at hx
    obtain ⟨n, hn, rfl⟩ := Option.map_eq_some_iff.mp hx
    have et : (N.take (i + 1)).filter f = (N.take i).filter f ++ (if f n = true then [n] else []) := by
      rw [List.take_add_one, hn, List.filter_append]
      congr 1
      by_cases h : f n = true
      · rw [if_pos h]
        show List.filter f [n] = [n]
        rw [List.filter_cons_of_pos h]
        rfl
      · rw [if_neg h]
        show List.filter f [n] = []
        rw [List.filter_cons_of_neg h]
        rfl
    refine ⟨hw _, step n H _ k (List.mem_of_getElem? hn) ?_⟩
    refine ite2 (fun hc => ?_) (fun hc => ?_)
    · refine ⟨_, hsl _, _, hD, ?_, k.put nD, ?_⟩
      · rw [nVs_len]
        have := List.length_filter_le f (N.take i)
        rw [List.length_take] at this
        exact small100 (by omega)
      · rw [upd_same, et, if_pos hc, nVs_app] <;> rfl
    · refine ⟨k, ?_⟩
      rw [et, if_neg hc, List.append_nil]
      exact hD
  · rw [nVs_len] at h
    obtain ⟨k, hD⟩ := h
    rw [List.take_length] at hD
    exact hd H k hD
/-- the written dict -/
def axD : List (Key × V) := [(Sum.inr "|", .int 1), (Sum.inr "-", .int 0)]
theorem ax_get (v : Bool) : some (V.int (av v)) = valV (mergeK [] axD) (Sum.inr (dirS v)) := by cases v <;> decide +kernel
section
variable {P : Program} {w : World} {K : PySem.W.Frag} {mg : Str → Option Value} {base : Heap} {Pt : Addr}
theorem ok_some {f fS fD : Addr} {fd fdS fdD : FuncData} {n : Nat} (F : Fun K "_law_some" "_law_some" sSome f fd) (b0 : Binds K fd ["_law_script", "_law_k", "_law_patches", "_law_numbers"] []) (g0 : mg "_law_some" = some (.ref f)) (GR : FnOk P w K mg base CX0 (n + 2) f fd ["_law_script", "_law_k", "_law_patches", "_law_numbers"] (spSome Pt K n))
    (GS : FnOk P w K mg base CX0 1 fS fdS ["_law_patches"] (spLSeams Pt K)) (kS : PySem.W.keepIn K (.ref fS) = true) (bS : Binds K fdS ["_law_patches"] []) (gS : mg "_law_seams" = some (.ref fS))
    (GD : FnOk P w K mg base CX0 2 fD fdD ["_law_script", "_law_k", "_law_sizes"] (spDraw Pt K)) (kD : PySem.W.keepIn K (.ref fD) = true) (bD : Binds K fdD ["_law_script", "_law_k", "_law_sizes"] []) (gD : mg "_law_draw" = some (.ref fD)) (mlen : mg "len" = none) :
    FnOk P w K mg base CX0 (n + 1 + 2) f fd ["_law_script", "_law_k", "_law_patches", "_law_numbers"] (spSome Pt K (n + 1)) := by
  refine F.ok scSome (fun vs H Q E h => ?_) (fun cdv A outer s H vs Q E hr h => ?_)
  · obtain ⟨c, a, b, ns, k, as, ps, N, rfl, _⟩ := h
    rfl
  · obtain ⟨c, a, b, ns, k, as, ps, N, rfl, hC, hA, hP, hB, hN, hk, h30, hn, hsew, q⟩ := h
    have hr2 : Room 2 _ := hr.mono (by omega)
    have hr1 : Room 1 _ := hr.mono (by omega)
    refine ⟨_, pss_cons (ps_if (pt_cmpR op_eq (pe_callB call_len_seq (by rfl) mlen PySem.boot_len (pa_cons (pv 3) pa_nil)) pe_int (nomark _)) (pss_one (ps_ret (pe_lst (pa_cons (pe_ixL K rfl (pv 3) pe_int) pa_nil)))) pss_nil)
      (pss_cons (ps_setLc (i := 4) (own := [("_law_number", 11)]) (g := gName 11) (tt := tYes) rfl scSome.nd rfl rfl (sw_true rfl rfl rfl (by decide +kernel)) (pi_list (pv 3)) (blkOk_by (N := nSome) (sc := defScope sSome) (by decide +kernel)) (fun _ _ _ _ _ => pg_name (i := 11) scSome.nd rfl (Or.inl rfl)) (fun _ _ _ _ _ => pts_nil)
          (fun _ _ _ _ _ => pe_ixT K rfl (pv 2) (pv 11)))
      (pss_cons (ps_set (i := 5) scSome.nd rfl (.inl rfl) (pe_call GS hr1 (by rfl) gS kS bS .nil pass0 (pa_cons (pv 4) pa_nil)))
      (pss_cons (ps_if (pt_cmpR op_eq (pe_callB call_len_seq (by rfl) mlen PySem.boot_len (pa_cons (pv 5) pa_nil)) pe_int (nomark _)) (pss_one ps_never) pss_nil)
      (pss_cons (ps_set (i := 6) scSome.nd rfl (.inl rfl) (pe_ixL K rfl (pe_call GD hr2 (by rfl) gD kD bD .nil pass0 (pa_cons (pv 0) (pa_cons (pe_op op_mod (pv 1) pe_int) (pa_cons (pe_lst (pa_cons pe_int pa_nil)) pa_nil)))) pe_int))
      (pss_cons (ps_set (i := 7) scSome.nd rfl (.inr rfl) (pe_ixL K rfl (pv 5) (pe_op op_mod (pe_op op_add (pv 6) (pe_callB call_len_seq (by rfl) mlen PySem.boot_len (pa_cons (pv 3) pa_nil))) (pe_callB call_len_seq (by rfl) mlen PySem.boot_len (pa_cons (pv 5) pa_nil)))))
      (pss_cons (ps_set (i := 8) scSome.nd rfl (.inr rfl) (pe_dget (hu_of hr) (pe_disp (pps_cons pe_str pe_int (pps_cons pe_str pe_int pps_nil)) (by rfl) (by rfl) (fun z => by cases z) (by decide)) (pe_ixT K rfl (pv 7) pe_int) (fun _ _ => rfl)))
      (pss_cons (ps_set (i := 9) scSome.nd rfl (.inl rfl) (pe_call GR hr (by rfl) g0 F.kp b0 .nil pass0 (pa_cons (pv 0) (pa_cons (pe_op op_add (pv 1) pe_int) (pa_cons (pv 2) (pa_cons
          (pe_lc (own := [("_law_number", 11)]) (g := gName 11) rfl scSome.nd (pi_list (pv 3)) (blkOk_by (N := nSome) (sc := defScope sSome) (by decide +kernel)) (fun _ _ _ _ _ => pg_name (i := 11) scSome.nd rfl (Or.inl rfl))
            (fun _ _ _ _ _ => pts_one (pt_cmpR op_lt (pe_ixT K rfl (pe_ixT K rfl (pv 2) (pv 11)) (pv 8)) (pe_ixT K rfl (pv 7) pe_int) (nomark _))) (fun _ _ _ _ _ => pv 11)) pa_nil))))))
      (pss_cons (ps_set (i := 10) scSome.nd rfl (.inl rfl) (pe_call GR hr (by rfl) g0 F.kp b0 .nil pass0 (pa_cons (pv 0) (pa_cons (pe_op op_add (pv 1) pe_int) (pa_cons (pv 2) (pa_cons
          (pe_lc (own := [("_law_number", 11)]) (g := gName 11) rfl scSome.nd (pi_list (pv 3)) (blkOk_by (N := nSome) (sc := defScope sSome) (by decide +kernel)) (fun _ _ _ _ _ => pg_name (i := 11) scSome.nd rfl (Or.inl rfl))
            (fun _ _ _ _ _ => pts_one (pt_cmpR op_ge (pe_ixT K rfl (pe_ixT K rfl (pv 2) (pv 11)) (pv 8)) (pe_ixT K rfl (pv 7) pe_int) (nomark _))) (fun _ _ _ _ _ => pv 11)) pa_nil))))))
      (pss_cons (ps_if (PW.pt (pw_or (pt_cmp (pc_isN (pv 9))) (pw_or1 (pt_cmp (pc_isN (pv 10)))))) (pss_one ps_never) pss_nil)
      (pss_one (ps_ret (pe_op op_cat (pe_op op_cat (pv 9) (pv 10)) (pe_lst (pa_cons (pe_ixT K rfl (pv 7) pe_int) pa_nil)))))))))))))), ?_⟩
    -- if len(numbers) == 1
    refine ⟨_, rfl, b, _, rfl, .inl hN, rfl, _, rfl, ite2 (fun e => ?_) (fun e => ?_)⟩
    · obtain ⟨m, rfl⟩ := len1 e
      refine ⟨_, rfl, b, _, _, _, rfl, rfl, hN, at_nVs (k := 0) (Nat.zero_lt_one), by show 1 ≤ sizeLine; decide, fun x nx => ?_⟩
      exact q _ x [.num m] (Kp.new nx) nx upd_same (.one m)
    have hne1 : N.length ≠ 1 := fun z => e (by rw [nVs_len, z]; exact decide_eq_true rfl)
    have hne := hsew.ne
    -- rows
    have hal : ∀ k ∈ N, k < as.length := fun k hkm => by rw [hP.1]; exact hk k hkm
    refine ⟨_, rfl, b, rfl, ⟨_, hN⟩, fun D1 n1 => lc_mapN (P := Pt) (fun k => .ref (as.getD k 0)) n1 hN (by omega) (fun _ => rfl) (fun m H' Qv k' hm hq => ?_) (fun H1 k1 e1 => ?_)⟩
    · exact ⟨_, rfl, _, rfl, a, _, _, _, rfl, rfl, k'.seqT hA, at_refs (hal m hm), hq⟩
    have hpart : Pats K H1 (N.map fun n => as.getD n 0) (N.map (gP ps)) := (k1.pats hP).pick hk
    have e1 : H1 D1 = some (.lst ((N.map fun n => as.getD n 0).map V.ref)) := by rw [List.map_map]; exact e1
    -- seams
    refine ⟨_, rfl, D1, _, _, rfl, SqL.of e1, hpart, by simpa using hne, by rw [List.length_map]; omega, bnd_pick hB hk, fun H2 S bs ss k2 nS hIs hEx hsl eS hSm => ?_⟩
    have k2' := k1.trans k2
    have hss : ss ≠ [] := hEx (hsew.seam hne1)
    have hsp : 0 < ss.length := List.length_pos_iff.mpr hss
    have bl : (bs.map V.ref).length = ss.length := by rw [List.length_map]; exact hSm.1
    refine ⟨_, rfl, S, _, rfl, .inl (SqL.of eS), rfl, _, rfl, ite2 (fun e2 => ?_) (fun _ => ?_)⟩
    · have e2 := V.int.inj (of_decide_eq_true e2)
      rw [bl] at e2
      exact absurd e2 (by omega)
    -- digit
    refine ⟨_, rfl, _, rfl, _, _, rfl, rfl, by show (0 : Int) < 60; decide, by show 1 ≤ sizeLine; decide, fun Z nZ => ?_⟩
    have x3 := Kp.new (P := Pt) (o := .lst [.int 5040]) nZ
    refine ⟨c, Z, ns, [5040], k % 60, (by show [V.ref c, V.int ((k : Int) % 60), V.ref Z] = [V.ref c, V.int ((k % 60 : Nat) : Int), V.ref Z]; rw [show ((k % 60 : Nat) : Int) = (k : Int) % 60 by omega]), (k2'.trans x3).seqL hC, SqL.of upd_same, by decide, by decide, fun H3 G ds x4 nG hG hds => ?_⟩
    have k34 := x3.trans x4
    have k3' := k2'.trans k34
    obtain ⟨d, rfl⟩ : ∃ d, ds = [d] := List.length_eq_one_iff.mp hds.1
    have hd0 := hds.2 0 d 5040 rfl rfl
    refine ⟨G, _, 0, _, rfl, rfl, SqL.of hG, atI_nat (j := 0) rfl, ?_⟩
    -- seam
    have eS3 := k34.lst eS
    have hSm3 := k34.sms hSm
    refine ⟨_, rfl, _, rfl, _, rfl, b, _, rfl, .inl (k3'.seqL hN), _, _, rfl, rfl, _, rfl, S, _, rfl, .inl (SqL.of eS3), _, _, rfl, rfl, by rw [bl]; omega, ?_⟩
    rw [bl]
    obtain ⟨qi, eqi⟩ : ∃ qi : Nat, (d + ((nVs N).length : Int)) % (ss.length : Int) = (qi : Int) := Int.eq_ofNat_of_zero_le (Int.emod_nonneg _ (by omega))
    have qlt : qi < ss.length := by
      have := Int.emod_lt_of_pos (d + ((nVs N).length : Int)) (show (0 : Int) < (ss.length : Int) by omega)
      omega
    obtain ⟨s0, es0⟩ : ∃ s0, ss[qi]? = some s0 := ⟨_, List.getElem?_eq_getElem qlt⟩
    have qb : qi < bs.length := by rw [hSm.1]; exact qlt
    have eb0 : bs[qi]? = some bs[qi] := List.getElem?_eq_getElem qb
    have his := hIs s0 (List.mem_of_getElem? es0)
    have hs0 := hSm3.2 qi _ _ eb0 es0
    have ea : atI (bs.map V.ref) ((d + ((nVs N).length : Int)) % (ss.length : Int)) = some (.ref bs[qi]) := by
      rw [eqi]
      exact atI_nat (by rw [List.getElem?_map, eb0] <;> rfl)
    refine ⟨S, _, _, _, rfl, rfl, SqL.of eS3, ea, ?_⟩
    generalize bs[qi] = B0 at hs0 ⊢
    -- axis
    refine fun X nX => ⟨upd_same, axD, rfl, by decide, ?_⟩
    rw [upd_upd]
    have x5 := Kp.new (P := Pt) (o := .dK (mergeK [] axD)) nX
    have k5' := k3'.trans x5
    have hs5 := x5.seqT hs0
    refine ⟨_, rfl, B0, _, 0, _, rfl, rfl, hs5, atI_nat (j := 0) rfl, X, _, rfl, (by
      rw [ax_get s0.v]
      exact DGet.k (k := Sum.inr (dirS s0.v)) upd_same), ?_⟩
    -- first
    have at2 : atI ([.str (dirS s0.v), .int s0.at_] : List V) 1 = some (.int s0.at_) := atI_nat (j := 1) rfl
    have atP : ∀ m, m ∈ N → ∀ H', Kp Pt H H' → SqT K H' (as.getD m 0) (pv4 (gP ps m)) := fun m hm H' k' => by
      have hl := hk m hm
      have ha := hal m hm
      refine k'.seqT (hP.2 m _ _ ?_ ?_)
      · rw [List.getD_eq_getElem?_getD, List.getElem?_eq_getElem ha] <;> rfl
      · unfold gP
        rw [List.getD_eq_getElem?_getD, List.getElem?_eq_getElem hl] <;> rfl
    refine ⟨_, rfl, _, rfl, _, _, rfl, rfl, _, rfl, _, rfl, b, rfl, ⟨_, k5'.seqL hN⟩, fun D4 n4 => lc_filN (P := Pt) (fun m => ahead s0 (gP ps m)) n4 (k5'.seqL hN) (by omega) (fun _ => rfl) (fun _ => rfl) (fun m H' Qv k' hm hq => ?_) (fun H4 k4 e4 => ?_)⟩
    · exact ⟨_, rfl, _, rfl, a, _, _, _, rfl, rfl, (k5'.trans k').seqT hA, at_refs (hal m hm), _, rfl, _, _, _, _, rfl, rfl, atP m hm _ (k5'.trans k'), at_lo s0.v _, _, rfl, B0, _, 1, _, rfl, rfl, k'.seqT hs5, at2, _, _, rfl, rfl, _, rfl, hq⟩
    have k4' := k5'.trans k4
    have l4 := his.fst_lt
    refine ⟨c, a, D4, ns, k + 1, as, ps, _, rfl, k4'.seqL hC, k4'.seqT hA, k4'.pats hP, hB, SqL.of e4, fun k hm => hk k (List.mem_filter.mp hm).1, by omega, by omega, hsew.fst his, fun H5 xa pa k5 na ea pfa => ?_⟩
    have k6' := k4'.trans k5
    -- second
    refine ⟨_, rfl, _, rfl, _, _, rfl, rfl, _, rfl, _, rfl, b, rfl, ⟨_, k6'.seqL hN⟩, fun D6 n6 => lc_filN (P := Pt) (fun m => !ahead s0 (gP ps m)) n6 (k6'.seqL hN) (by omega) (fun _ => rfl) (fun _ => rfl) (fun m H' Qv k' hm hq => ?_) (fun H6 k6 e6 => ?_)⟩
    · refine ⟨_, rfl, _, rfl, a, _, _, _, rfl, rfl, (k6'.trans k').seqT hA, at_refs (hal m hm), _, rfl, _, _, _, _, rfl, rfl, atP m hm _ (k6'.trans k'), at_lo s0.v _, _, rfl, B0, _, 1, _, rfl, rfl, ((k4.trans k5).trans k').seqT hs5, at2, _, _, rfl, rfl, _, rfl, ?_⟩
      have eg : decide (s0.at_ ≤ lo s0.v (gP ps m)) = !ahead s0 (gP ps m) := by
        unfold ahead
        by_cases hlt : lo s0.v (gP ps m) < s0.at_
        · rw [decide_eq_true hlt, decide_eq_false (by omega)] <;> rfl
        · rw [decide_eq_false hlt, decide_eq_true (by omega)] <;> rfl
      rw [eg]
      exact hq
    have k7' := k6'.trans k6
    have l6 := his.snd_lt
    refine ⟨c, a, D6, ns, k + 2, as, ps, _, rfl, k7'.seqL hC, k7'.seqT hA, k7'.pats hP, hB, SqL.of e6, fun k hm => hk k (List.mem_filter.mp hm).1, by omega, by omega, hsew.snd his, fun H7 xb pb k7 nb eb pfb => ?_⟩
    have k8' := k7'.trans k7
    have ea7 := (k6.trans k7).lst ea
    -- the test
    refine ⟨_, rfl, _, rfl, iteF ⟨_, rfl, _, rfl, iteF ?_⟩⟩
    -- return first + second + [seam[0]]
    have la := pfa.len
    have lb := pfb.len
    have l0 := (filter_perm (fun m => ahead s0 (gP ps m)) N).length_eq
    rw [List.length_append] at l0
    have la2 : pa.length ≤ 60 := by omega
    have lb2 : pb.length ≤ 60 := by omega
    refine ⟨_, rfl, _, rfl, xa, xb, _, _, rfl, rfl, ea7, eb, by rw [List.length_map, List.length_map]; exact small1000' (by omega), fun p1 np1 => ?_⟩
    have z8 := Kp.new (P := Pt) (o := .lst (pa.map stV ++ pb.map stV)) np1
    have hs8 := ((((k4.trans k5).trans k6).trans k7).trans z8).seqT hs5
    refine ⟨_, rfl, B0, _, 0, _, rfl, rfl, hs8, atI_nat (j := 0) rfl, by show 1 ≤ sizeLine; decide, fun p2 np2 => ?_⟩
    have np21 : p1 ≠ p2 := ne_of_none upd_same np2
    refine ⟨p1, p2, _, _, rfl, rfl, (by rw [upd_ne np21]; exact upd_same), upd_same, ?_, fun p3 np3 => ?_⟩
    · rw [List.length_append, List.length_map, List.length_map]
      show _ + 1 ≤ _
      exact small1000' (by omega)
    · have z9 := Kp.new (P := Pt) (o := .lst [.str (dirS s0.v)]) np2
      have z10 := Kp.new (P := Pt) (o := .lst ((pa.map stV ++ pb.map stV) ++ [.str (dirS s0.v)])) np3
      refine q _ p3 (pa ++ pb ++ [.dir s0.v]) (k8'.trans ((z8.trans z9).trans z10)) ((k8'.trans (z8.trans z9)).there _ np3) ?_ (.cut s0 his pfa pfb)
      rw [upd_same, List.map_append, List.map_append] <;> rfl
theorem some_zero {f : Addr} {fd : FuncData} : FnOk P w K mg base CX0 (0 + 2) f fd ["_law_script", "_law_k", "_law_patches", "_law_numbers"] (spSome Pt K 0) := by
  have no : ∀ vs H Q E, ¬ spSome Pt K 0 vs H Q E := fun vs H Q E h => by
    obtain ⟨c, a, b, ns, k, as, ps, N, _, _, _, _, _, _, _, _, hn, hs, _⟩ := h
    exact hs.ne (List.length_eq_zero_iff.mp (by omega))
  exact ⟨fun vs H Q E h => absurd h (no vs H Q E), fun A outer s H args us vs Q E _ _ _ _ h => absurd h (no vs H Q E)⟩
theorem some_all {f fS fD : Addr} {fd fdS fdD : FuncData} (F : Fun K "_law_some" "_law_some" sSome f fd) (b0 : Binds K fd ["_law_script", "_law_k", "_law_patches", "_law_numbers"] []) (g0 : mg "_law_some" = some (.ref f))
    (GS : FnOk P w K mg base CX0 1 fS fdS ["_law_patches"] (spLSeams Pt K)) (kS : PySem.W.keepIn K (.ref fS) = true) (bS : Binds K fdS ["_law_patches"] []) (gS : mg "_law_seams" = some (.ref fS))
    (GD : FnOk P w K mg base CX0 2 fD fdD ["_law_script", "_law_k", "_law_sizes"] (spDraw Pt K)) (kD : PySem.W.keepIn K (.ref fD) = true) (bD : Binds K fdD ["_law_script", "_law_k", "_law_sizes"] []) (gD : mg "_law_draw" = some (.ref fD)) (mlen : mg "len" = none) :
    ∀ n : Nat, FnOk P w K mg base CX0 (n + 2) f fd ["_law_script", "_law_k", "_law_patches", "_law_numbers"] (spSome Pt K n)
  | 0 => some_zero
  | n + 1 => ok_some F b0 g0 (some_all F b0 g0 GS kS bS gS GD kD bD gD mlen n) GS kS bS gS GD kD bD gD mlen
end
end Sw
namespace Sw
open PySem PySem.Spec PyProof.Rows L2 GxR
/-! ### patches as data -/
def d4 (p : P4) : PyData := .tuple [.int p.t, .int p.l, .int p.h, .int p.w]
theorem canLay_ps : ∀ ps : List P4, PyData.canLayAll0 (ps.map d4) = true
  | [] => rfl
  | p :: r => by
    rw [List.map_cons]
    show ((d4 p).canLay0 && PyData.canLayAll0 (r.map d4)) = true
    rw [canLay_ps r]
    rfl
theorem depth_ps : ∀ ps : List P4, PyData.depthAll (ps.map d4) ≤ 1
  | [] => Nat.zero_le _
  | p :: r => by
    rw [List.map_cons]
    show max (d4 p).depth (PyData.depthAll (r.map d4)) ≤ 1
    have := depth_ps r
    have h2 : (d4 p).depth = 1 := rfl
    omega
theorem shaped_ps (ps : List P4) : SeqAt.shaped (.tuple (ps.map d4)) = true := by
  unfold SeqAt.shaped
  rw [Bool.and_eq_true]
  refine ⟨canLay_ps ps, decide_eq_true ?_⟩
  show PyData.depthAll (ps.map d4) + 1 ≤ 64
  have := depth_ps ps
  omega
theorem eqv_ps (ps : List P4) : PyData.eqv (.tuple (ps.map d4)) (.tuple (ps.map d4)) = true := SeqAt.eqv_refl _ (canLay_ps ps)
theorem dp_all {K : PySem.W.Frag} {H : Hp} : ∀ (as : List Addr) (ps : List P4), Pats K H as ps → DpAll K H (as.map V.ref) (ps.map d4)
  | [], [], _ => .nil
  | a :: as, p :: ps, h => by
    refine .cons (.tup (h.2 0 a p rfl rfl) (.cons (.int _) (.cons (.int _) (.cons (.int _) (.cons (.int _) .nil))))) (dp_all as ps ⟨Nat.succ.inj h.1, fun i x y e1 e2 => h.2 (i + 1) x y e1 e2⟩)
  | [], _ :: _, h => by cases h.1
  | _ :: _, [], h => by cases h.1
theorem dp_ps {K : PySem.W.Frag} {H : Hp} {x : Addr} {as : List Addr} {ps : List P4} (hx : SqT K H x (as.map V.ref)) (h : Pats K H as ps) : Dp K H (.ref x) (.tuple (ps.map d4)) := .tup hx (dp_all as ps h)
theorem range_gP (ps : List P4) : (List.range ps.length).map (gP ps) = ps := by
  refine List.ext_getElem (by rw [List.length_map, List.length_range]) fun i h1 h2 => ?_
  rw [List.getElem_map, List.getElem_range]
  unfold gP
  rw [List.getD_eq_getElem?_getD, List.getElem?_eq_getElem h2]
  rfl
/-- a plan of all patches, carried out -/
theorem plan_runs {ps : List P4} {plan : List Step} {Hh Ww : Int} (hp : PlanFor (gP ps) (List.range ps.length) plan) (hC : Cover ps 0 0 Hh Ww) (h1 : Hh ≤ 10) (h2 : Ww ≤ 10) :
    ∃ part used, Runs (gP ps) ps.length plan ⟨[], []⟩ ⟨[part], used⟩ ∧ used.length = ps.length ∧ part.pl.Perm (lies (gP ps) ps.length) := by
  have r := hp.runs (n := ps.length) 0 0 Hh Ww [] [] (by rw [range_gP]; exact hC) h1 h2 List.nodup_range (fun k hk => ⟨List.mem_range.mp hk, by simp⟩)
  refine ⟨_, _, r, ?_, ?_⟩
  · rw [List.nil_append, hp.perm.length_eq, List.length_range]
  · unfold lies
    refine List.Perm.trans (hp.perm.map _) (.of_eq (List.map_congr_left fun k _ => ?_))
    rw [Int.sub_zero, Int.sub_zero]
/-! ### the law -/
def spLaw (Pt : Addr) (K : PySem.W.Frag) : Sp := fun vs H Q _ => ∃ (a : Addr) (ns : List Int), vs = [.ref a] ∧ SqL K H a (ns.map V.int) ∧ ns.length ≤ 63 ∧ TabG H Pt ∧ ∀ H', Q (.bl true) H'
abbrev nLaw : List Str := ["_law_script", "_law_k", "_law_patches", "_law_sizes", "_law_plan", "_law_other", "_law_row"]
theorem scLaw : FnScope nLaw ["_law_script"] (defScope sLaw) := ⟨rfl, rfl, rfl, by decide +kernel, rfl, by decide +kernel, by decide +kernel⟩
theorem pe_sliceT {X : Cx} {e : Expr} {lo hi : Option Expr} {te : TE} {tl th : TO} {pos p2 : Pos} (K : PySem.W.Frag) (hK : X.K = K) (he : PE X e te) (hl : PO X lo tl) (hu : PO X hi th) : PE X (.Subscript e (.Slice lo hi none p2) pos) (tSl (rSlT K) te tl th) := by
  subst hK
  exact pe_slice sl_tup he hl hu
section
variable {P : Program} {w : World} {K : PySem.W.Frag} {mg : Str → Option Value} {base : Heap} {Pt : Addr}
theorem ok_law {f fP fS fL fO : Addr} {fd fdP fdS fdL fdO : FuncData} (F : Fun K "law" "law" sLaw f fd)
    (GP : FnOk P w K mg base CX0 3 fP fdP ["_law_script", "_law_k"] (spPieces Pt K)) (kP : PySem.W.keepIn K (.ref fP) = true) (bP : Binds K fdP ["_law_script", "_law_k"] []) (gP' : mg "_law_pieces" = some (.ref fP))
    (GS : FnOk P w K mg base CX0 23 fS fdS ["patches"] (spSewing Pt K)) (kS : PySem.W.keepIn K (.ref fS) = true) (bS : Binds K fdS ["patches"] []) (gS : mg "sewing_plan" = some (.ref fS))
    (GL : FnOk P w K mg base CX0 2 fL fdL ["plan", "sizes"] (spPlaced Pt K)) (kL : PySem.W.keepIn K (.ref fL) = true) (bL : Binds K fdL ["plan", "sizes"] []) (gL : mg "placed" = some (.ref fL))
    (GO : FnOk P w K mg base CX0 (20 + 2) fO fdO ["_law_script", "_law_k", "_law_patches", "_law_numbers"] (spSome Pt K 20)) (kO : PySem.W.keepIn K (.ref fO) = true) (bO : Binds K fdO ["_law_script", "_law_k", "_law_patches", "_law_numbers"] []) (gO : mg "_law_some" = some (.ref fO))
    (mlen : mg "len" = none) (mrange : mg "range" = none) (mmin : mg "min" = none) (mmax : mg "max" = none) (mlist : mg "list" = none) : FnOk P w K mg base CX0 24 f fd ["_law_script"] (spLaw Pt K) := by
  refine F.ok scLaw (fun vs H Q E h => ?_) (fun cdv A outer s H vs Q E hr h => ?_)
  · obtain ⟨a, ns, rfl, _⟩ := h
    rfl
  · obtain ⟨a, ns, rfl, hS, h63, hT, q⟩ := h
    have hr2 : Room 2 _ := hr.mono (by decide)
    have hr3 : Room 3 _ := hr.mono (by decide)
    have hr22 : Room (20 + 2) _ := hr.mono (by decide)
    refine ⟨_, pss_cons (ps_for PassesOwn.never rfl (pi_range1 (by rfl) mrange (pa_cons (pe_callB (call_min2 rfl) (by rfl) mmin (by decide +kernel) (pa_cons pe_int (pa_cons (pe_callB (call_max2 rfl) (by rfl) mmax (by decide +kernel) (pa_cons pe_int (pa_cons (pe_callB call_len_seq (by rfl) mlen PySem.boot_len (pa_cons (pv 0) pa_nil)) pa_nil))) pa_nil))) pa_nil)) (pg_name (i := 1) scLaw.nd rfl (.inl rfl))
        (pss_cons (ps_set (i := 2) scLaw.nd rfl (.inl rfl) (pe_call GP hr3 (by rfl) gP' kP bP .nil pass0 (pa_cons (pv 0) (pa_cons (pv 1) pa_nil))))
        (pss_cons (ps_setLc (i := 3) (own := [("_law_row", 6)]) (g := gName 6) (tt := tYes) rfl scLaw.nd rfl rfl (sw_true rfl rfl rfl (by decide +kernel)) (pi_tup (pv 2)) (blkOk_by (N := nLaw) (sc := defScope sLaw) (by decide +kernel)) (fun _ _ _ _ _ => pg_name (i := 6) scLaw.nd rfl (Or.inl rfl)) (fun _ _ _ _ _ => pts_nil)
            (fun _ _ _ _ _ => pe_sliceT K rfl (pv 6) (po_some pe_int) po_none))
        (pss_cons (ps_set (i := 4) scLaw.nd rfl (.inl rfl) (pe_call GS hr (by rfl) gS kS bS .nil pass0 (pa_cons (pv 2) pa_nil)))
        (pss_one (ps_if (pt_cmp (pc_notN (pv 4)))
          (pss_cons (ps_if (pt_cmpR (op_neD hr.units) (pe_call GL hr2 (by rfl) gL kL bL .nil pass0 (pa_cons (pv 4) (pa_cons (pv 3) pa_nil))) (pv 2) (nomark _)) (pss_one (ps_ret pe_bl)) pss_nil)
          (pss_cons (ps_set (i := 5) scLaw.nd rfl (.inl rfl) (pe_call GO hr22 (by rfl) gO kO bO .nil pass0 (pa_cons (pv 0) (pa_cons (pv 1) (pa_cons (pv 2) (pa_cons (pe_listRg rfl (by rfl) mlist (prg_1 (by rfl) mrange (pe_callB call_len_seq (by rfl) mlen PySem.boot_len (pa_cons (pv 2) pa_nil)))) pa_nil))))))
          (pss_one (ps_if (PW.pt (pw_or (pt_cmp (pc_isN (pv 5))) (pw_or1 (pt_cmpR (op_neD hr.units) (pe_call GL hr2 (by rfl) gL kL bL .nil pass0 (pa_cons (pv 5) (pa_cons (pv 3) pa_nil))) (pv 2) (nomark _))))) (pss_one (ps_ret pe_bl)) pss_nil)))) pss_nil))))))
      (pss_one (ps_ret pe_bl)), ?_⟩
    refine ⟨_, rfl, a, _, rfl, .inl hS, _, _, rfl, _, _, rfl, _, rfl, ?_, ?_, ?_⟩
    · split <;> omega
    · split <;> omega
    refine for_range (lo := 0) (fun i σ' H' => ∃ (y1 y2 y3 y4 y5 : Option V), σ' = [some (.ref a), y1, y2, y3, y4, y5, none] ∧ Kp Pt H H') ⟨none, none, none, none, none, rfl, .refl⟩ (fun i σ' H0 _ h => ?_) (fun σ' H' h => q _)
    obtain ⟨y1, y2, y3, y4, y5, rfl, k0⟩ := h
    rw [Int.zero_add]
    -- patches
    refine ⟨_, rfl, _, rfl, a, ns, i, rfl, k0.seqL hS, fun H1 X as ps Hh Ww k1 eX hP hC bH bW hne hl => ?_⟩
    have k01 := k0.trans k1
    have hB : ∀ p ∈ ps, Bnd p := fun p hp => by
      have := hC.inn p hp
      exact ⟨by omega, by omega, by omega, by omega, by omega, by omega⟩
    have al : (as.map V.ref).length = ps.length := by rw [List.length_map]; exact hP.1
    have hX : SqT K H1 X (as.map V.ref) := SqT.of eX
    -- sizes
    refine ⟨_, rfl, X, rfl, ⟨_, hX⟩, fun D nD => lc_tup (K := K) (a := X) (xs := as.map V.ref) (fun m H2 => Kp Pt H1 H2 ∧ ∃ zs, H2 D = some (.lst (zs.map V.ref)) ∧ Sizes K H2 zs (ps.take m)) ⟨Kp.new nD, [], upd_same, rfl, fun i z p e => by cases e⟩ (fun m H2 _ h => h.1.seqT hX) (fun m x H2 hx h => ?_) (fun H2 h => ?_)⟩
    · obtain ⟨k2, zs, hD, hZ⟩ := h
      rw [List.getElem?_map] at hx
      obtain ⟨ad, had, rfl⟩ := Option.map_eq_some_iff.mp hx
      obtain ⟨p, hp⟩ := getP hP.1 had
      have hT' := k2.seqT (hP.2 m ad p had hp)
      have hm : m < ps.length := (List.getElem?_eq_some_iff.mp hp).1
      refine ⟨rfl, ?_⟩
      refine iteT (B := Kp Pt H1 H2 ∧ ∃ zs, H2 D = some (.lst (zs.map V.ref)) ∧ Sizes K H2 zs (ps.take (m + 1))) ?_
      refine ⟨_, rfl, _, rfl, ad, _, rfl, hT', (fun z => absurd z.1 (by show ¬ HT.sIx 4 0 (some 2) = 0; decide)), fun T nT => ?_⟩
      have k3 := Kp.new (P := Pt) (o := .tup [.int p.h, .int p.w]) nT
      refine ⟨_, k3.lst hD, ?_, (k2.trans k3).put nD, zs ++ [T], ?_, ?_⟩
      · rw [List.length_map, hZ.1, List.length_take]
        exact small100 (by omega)
      · rw [upd_same, List.map_append] <;> rfl
      · rw [List.take_add_one, hp]
        have q1 := pair_push (R := fun (z : Addr) (p' : P4) => SqT K (upd H2 T (.tup [.int p.h, .int p.w])) z [.int p'.h, .int p'.w]) (k3.sizes hZ) (a := T) (b := p) (SqT.of upd_same)
        exact ⟨q1.1, fun j x y e1 e2 => seqT_put (q1.2 j x y e1 e2) (k3.lst hD)⟩
    rw [al] at h
    obtain ⟨k2, zs, hD, hZ⟩ := h
    rw [List.take_length] at hZ
    have k02 := k01.trans k2
    -- plan
    refine ⟨_, rfl, X, as, ps, rfl, k2.seqT hX, k2.pats hP, hB, hne, by omega, k02.tab hT, fun H3 v k3 hv => ?_⟩
    have k03 := k02.trans k3
    have k23 := k2.trans k3
    refine ⟨_, rfl, _, rfl, ?_⟩
    rcases hv with rfl | ⟨x, plan, rfl, nx, ex, hpf⟩
    · exact iteF ⟨_, _, _, _, _, rfl, k03⟩
    refine iteT ?_
    -- placed(plan, sizes) != patches
    have run : ∀ plan, PlanFor (gP ps) (List.range ps.length) plan → plan.length ≤ 50 ∧ ∃ part used, Runs (gP ps) ps.length plan ⟨[], []⟩ ⟨[part], used⟩ ∧ used.length = ps.length ∧ part.pl.Perm (lies (gP ps) ps.length) := fun plan hp => by
      refine ⟨?_, plan_runs hp hC (by omega) (by omega)⟩
      have := hp.len
      rw [List.length_range] at this
      omega
    obtain ⟨pl, part, used, h1, h2, h3⟩ := run plan hpf
    refine ⟨_, rfl, _, rfl, x, D, plan, zs, ps, part, used, rfl, SqL.of ex, SqL.of (k3.lst hD), k3.sizes hZ, hB, by omega, pl, h1, h2, h3, fun H4 r rs k4 er hrs => ?_⟩
    refine ⟨_, rfl, _, _, dp_ps (SqT.of er) hrs, dp_ps (k4.seqT (k23.seqT hX)) (k4.pats (k23.pats hP)), shaped_ps ps, shaped_ps ps, _, rfl, ?_⟩
    rw [eqv_ps]
    refine iteF ?_
    have k04 := k03.trans k4
    have k24 := k23.trans k4
    -- other
    refine ⟨_, rfl, _, rfl, _, rfl, _, rfl, X, _, rfl, .inr (k24.seqT hX), _, rfl, RgOk.of_le (by omega) (by rw [al]; omega) (by omega) (by omega), fun R nR => ?_⟩
    have x5 := Kp.new (P := Pt) (o := .lst (rgV 0 ((as.map V.ref).length : Int))) nR
    have e5 : (upd H4 R (.lst (rgV 0 ((as.map V.ref).length : Int)))) R = some (.lst (nVs (List.range ps.length))) := by rw [upd_same, al, rgV_nVs]
    have k05 := k04.trans x5
    have k25 := k24.trans x5
    refine ⟨a, X, R, ns, i, as, ps, List.range ps.length, rfl, k05.seqL hS, k25.seqT hX, k25.pats hP, hB, SqL.of e5, fun k hk => List.mem_range.mp hk, by rw [List.length_range]; omega, by rw [List.length_range]; omega, hpf.sewable, fun H6 o plan2 k6 no eo hpf2 => ?_⟩
    have k06 := k05.trans k6
    have k26 := k25.trans k6
    refine ⟨_, rfl, _, rfl, iteF ?_⟩
    obtain ⟨pl2, part2, used2, g1, g2, g3⟩ := run plan2 hpf2
    refine ⟨_, rfl, _, rfl, o, D, plan2, zs, ps, part2, used2, rfl, SqL.of eo, SqL.of ((((k3.trans k4).trans x5).trans k6).lst hD), (((k3.trans k4).trans x5).trans k6).sizes hZ, hB, by omega, pl2, g1, g2, g3, fun H7 r2 rs2 k7 er2 hrs2 => ?_⟩
    refine ⟨_, rfl, _, _, dp_ps (SqT.of er2) hrs2, dp_ps (k7.seqT (k26.seqT hX)) (k7.pats (k26.pats hP)), shaped_ps ps, shaped_ps ps, _, rfl, ?_⟩
    rw [eqv_ps]
    exact iteF ⟨_, _, _, _, _, rfl, k06.trans k7⟩
end
end Sw
namespace Sw
open PySem PySem.Spec PyProof.Rows L2 GxR
theorem tabIn_of {K : PySem.W.Frag} {x : Str} {f c P : Addr} {oc o2 : Value} {od d2 : Option Addr} {fd : FuncData} {sl s2 : Array (Option Value)} {vs : Array Value} (a : PySem.W.nsIn K mainGlobals x = some (some (.ref f))) (l : K.lookup f = some ⟨oc, od, .func fd, sl⟩) (hc : fd.code = .ref c)
    (lc : K.lookup c = some ⟨o2, d2, .fields vs, s2⟩) (hv : vs[11]? = some (.ref P)) : PySem.W.tabIn K x = some (c, P) := by
  unfold PySem.W.tabIn
  rw [a]
  simp only [l, hc, lc, hv]
/-- the end of the law, with what the head's top says -/
theorem walk_T {l : PySem.W.OpenLaw} {n k : Nat} {q : Program} {loose : List Str} {XP : (Str → Option Value) → Heap → Prop} {YP : World → Heap → Prop} {d : DefRec} {K : Params → PySem.W.Frag} {x : Str}
    (hn : l.most = some n) (hn2 : n ≤ sizeLine) (hdf : d.params.defaults = []) (hr : Room k callerA) (hY : ∀ (w : World) (h : Heap), YP w h → (K w.params).In h)
    (F : ∀ (w : World) (loose' : List Str) (mean : ExcName → Option Value) (mg mb : Str → Option Value) (fa : Addr) (h : Heap), Top q loose' mean mg mb h → (K w.params).In h → mg d.name = some (.ref fa) → LamX.LawAtS l w (K w.params) CX0 k n x mg fa h) :
    PySem.W.WalkO q loose XP YP l.row.toRowW d [] (fun f vs => PySem.call f vs) := by
  refine Att.attach_callB hn hdf fun w s₀ s₁ mg mb fa o pm cd doc a vs ns G Y ho hd hcd hmg hobj hints hlen hbits hg => ?_
  have KX := hY w _ Y
  obtain ⟨fd, cs, sp, hT, nT, C, hb, hsp, hF⟩ := F w _ _ mg mb fa _ G.T KX hmg
  exact LamX.law_callTs KX G.T.g G.T.b G.T.builtins G.T.nolimit hg hT nT C G.T.bmain hobj hints (Nat.le_trans hlen hn2) hr hF hb (fun H hH hS => hsp H a ns hlen hbits hH hS) fun H e s' h => h
theorem all_mk {l : PySem.W.OpenLaw} {w : World} {K : PySem.W.Frag} {q : Program} {loose : List Str} {mean : ExcName → Option Value} {mg mb : Str → Option Value} {h : Heap} {fa fA fS fH fX fF fU fL fP fW fC fD fI fG fO fZ cS Pt : Addr} {tS : Tok} {dS : DefRec} {o2 : Value} {d2 : Option Addr} {s2 : Array (Option Value)} {vs : Array Value}
    (T : Top q loose mean mg mb h) (X : K.In h) (hfa : mg "law" = some (.ref fa))
    {odA anA : Option Addr} {slA : Array (Option Value)} {ocA kVA dcA pmA cdA ctA : Value}
    (aA : PySem.W.nsIn K mainGlobals "around" = some (some (.ref fA))) (lA : K.lookup fA = some ⟨ocA, odA, .func (PySem.W.fnOf "around" "around" (defArgs sAround) (defBody sAround) (defScope sAround) .none kVA dcA pmA anA (cdA) ctA), slA⟩) (cA : PySem.W.codeIn K (cdA) "around" = true) (kA : PySem.W.keepIn K (.ref fA) = true)
    {odS anS : Option Addr} {slS : Array (Option Value)} {ocS kVS dcS pmS ctS : Value}
    (aS : PySem.W.nsIn K mainGlobals "straight_seams" = some (some (.ref fS))) (lS : K.lookup fS = some ⟨ocS, odS, .func (PySem.W.fnOf "straight_seams" "straight_seams" (defArgs sSeams) (defBody sSeams) (defScope sSeams) .none kVS dcS pmS anS (.ref cS) ctS), slS⟩) (ccS : PySem.W.codeIn K (.ref cS) "straight_seams" = true) (kS : PySem.W.keepIn K (.ref fS) = true)
    {odH anH : Option Addr} {slH : Array (Option Value)} {ocH kVH dcH pmH cdH ctH : Value}
    (aH : PySem.W.nsIn K mainGlobals "is_ahead" = some (some (.ref fH))) (lH : K.lookup fH = some ⟨ocH, odH, .func (PySem.W.fnOf "is_ahead" "is_ahead" (defArgs sAhead) (defBody sAhead) (defScope sAhead) .none kVH dcH pmH anH (cdH) ctH), slH⟩) (cH : PySem.W.codeIn K (cdH) "is_ahead" = true) (kH : PySem.W.keepIn K (.ref fH) = true)
    {odX anX : Option Addr} {slX : Array (Option Value)} {ocX kVX dcX pmX cdX ctX : Value}
    (aX : PySem.W.nsIn K mainGlobals "split" = some (some (.ref fX))) (lX : K.lookup fX = some ⟨ocX, odX, .func (PySem.W.fnOf "split" "split" (defArgs sSplit) (defBody sSplit) (defScope sSplit) .none kVX dcX pmX anX (cdX) ctX), slX⟩) (cX : PySem.W.codeIn K (cdX) "split" = true) (kX : PySem.W.keepIn K (.ref fX) = true)
    {odF anF : Option Addr} {slF : Array (Option Value)} {ocF kVF dcF pmF cdF ctF : Value}
    (aF : PySem.W.nsIn K mainGlobals "step_fault" = some (some (.ref fF))) (lF : K.lookup fF = some ⟨ocF, odF, .func (PySem.W.fnOf "step_fault" "step_fault" (defArgs sFault) (defBody sFault) (defScope sFault) .none kVF dcF pmF anF (cdF) ctF), slF⟩) (cF : PySem.W.codeIn K (cdF) "step_fault" = true) (kF : PySem.W.keepIn K (.ref fF) = true)
    {odU anU : Option Addr} {slU : Array (Option Value)} {ocU kVU dcU pmU cdU ctU : Value}
    (aU : PySem.W.nsIn K mainGlobals "put_together" = some (some (.ref fU))) (lU : K.lookup fU = some ⟨ocU, odU, .func (PySem.W.fnOf "put_together" "put_together" (defArgs sPut) (defBody sPut) (defScope sPut) .none kVU dcU pmU anU (cdU) ctU), slU⟩) (cU : PySem.W.codeIn K (cdU) "put_together" = true) (kU : PySem.W.keepIn K (.ref fU) = true)
    {odL anL : Option Addr} {slL : Array (Option Value)} {ocL kVL dcL pmL cdL ctL : Value}
    (aL : PySem.W.nsIn K mainGlobals "placed" = some (some (.ref fL))) (lL : K.lookup fL = some ⟨ocL, odL, .func (PySem.W.fnOf "placed" "placed" (defArgs sPlaced) (defBody sPlaced) (defScope sPlaced) .none kVL dcL pmL anL (cdL) ctL), slL⟩) (cL : PySem.W.codeIn K (cdL) "placed" = true) (kL : PySem.W.keepIn K (.ref fL) = true)
    {odP anP : Option Addr} {slP : Array (Option Value)} {ocP kVP dcP pmP cdP ctP : Value}
    (aP : PySem.W.nsIn K mainGlobals "plan_of" = some (some (.ref fP))) (lP : K.lookup fP = some ⟨ocP, odP, .func (PySem.W.fnOf "plan_of" "plan_of" (defArgs sPlanOf) (defBody sPlanOf) (defScope sPlanOf) .none kVP dcP pmP anP (cdP) ctP), slP⟩) (cP : PySem.W.codeIn K (cdP) "plan_of" = true) (kP : PySem.W.keepIn K (.ref fP) = true)
    {odW anW : Option Addr} {slW : Array (Option Value)} {ocW kVW dcW pmW cdW ctW : Value}
    (aW : PySem.W.nsIn K mainGlobals "sewing_plan" = some (some (.ref fW))) (lW : K.lookup fW = some ⟨ocW, odW, .func (PySem.W.fnOf "sewing_plan" "sewing_plan" (defArgs sSewing) (defBody sSewing) (defScope sSewing) .none kVW dcW pmW anW (cdW) ctW), slW⟩) (cW : PySem.W.codeIn K (cdW) "sewing_plan" = true) (kW : PySem.W.keepIn K (.ref fW) = true)
    {odC anC : Option Addr} {slC : Array (Option Value)} {ocC kVC dcC pmC cdC ctC : Value}
    (aC : PySem.W.nsIn K mainGlobals "_law_cell" = some (some (.ref fC))) (lC : K.lookup fC = some ⟨ocC, odC, .func (PySem.W.fnOf "_law_cell" "_law_cell" (defArgs sCell) (defBody sCell) (defScope sCell) .none kVC dcC pmC anC (cdC) ctC), slC⟩) (cC : PySem.W.codeIn K (cdC) "_law_cell" = true) (kC : PySem.W.keepIn K (.ref fC) = true)
    {odD anD : Option Addr} {slD : Array (Option Value)} {ocD kVD dcD pmD cdD ctD : Value}
    (aD : PySem.W.nsIn K mainGlobals "_law_draw" = some (some (.ref fD))) (lD : K.lookup fD = some ⟨ocD, odD, .func (PySem.W.fnOf "_law_draw" "_law_draw" (defArgs sDraw) (defBody sDraw) (defScope sDraw) .none kVD dcD pmD anD (cdD) ctD), slD⟩) (cD : PySem.W.codeIn K (cdD) "_law_draw" = true) (kD : PySem.W.keepIn K (.ref fD) = true)
    {odI anI : Option Addr} {slI : Array (Option Value)} {ocI kVI dcI pmI cdI ctI : Value}
    (aI : PySem.W.nsIn K mainGlobals "_law_pieces" = some (some (.ref fI))) (lI : K.lookup fI = some ⟨ocI, odI, .func (PySem.W.fnOf "_law_pieces" "_law_pieces" (defArgs sPieces) (defBody sPieces) (defScope sPieces) .none kVI dcI pmI anI (cdI) ctI), slI⟩) (cI : PySem.W.codeIn K (cdI) "_law_pieces" = true) (kI : PySem.W.keepIn K (.ref fI) = true)
    {odG anG : Option Addr} {slG : Array (Option Value)} {ocG kVG dcG pmG cdG ctG : Value}
    (aG : PySem.W.nsIn K mainGlobals "_law_seams" = some (some (.ref fG))) (lG : K.lookup fG = some ⟨ocG, odG, .func (PySem.W.fnOf "_law_seams" "_law_seams" (defArgs sLSeams) (defBody sLSeams) (defScope sLSeams) .none kVG dcG pmG anG (cdG) ctG), slG⟩) (cG : PySem.W.codeIn K (cdG) "_law_seams" = true) (kG : PySem.W.keepIn K (.ref fG) = true)
    {odO anO : Option Addr} {slO : Array (Option Value)} {ocO kVO dcO pmO cdO ctO : Value}
    (aO : PySem.W.nsIn K mainGlobals "_law_some" = some (some (.ref fO))) (lO : K.lookup fO = some ⟨ocO, odO, .func (PySem.W.fnOf "_law_some" "_law_some" (defArgs sSome) (defBody sSome) (defScope sSome) .none kVO dcO pmO anO (cdO) ctO), slO⟩) (cO : PySem.W.codeIn K (cdO) "_law_some" = true) (kO : PySem.W.keepIn K (.ref fO) = true)
    {odZ anZ : Option Addr} {slZ : Array (Option Value)} {ocZ kVZ dcZ pmZ cdZ ctZ : Value}
    (aZ : PySem.W.nsIn K mainGlobals "law" = some (some (.ref fZ))) (lZ : K.lookup fZ = some ⟨ocZ, odZ, .func (PySem.W.fnOf "law" "law" (defArgs sLaw) (defBody sLaw) (defScope sLaw) .none kVZ dcZ pmZ anZ (cdZ) ctZ), slZ⟩) (cZ : PySem.W.codeIn K (cdZ) "law" = true) (kZ : PySem.W.keepIn K (.ref fZ) = true)
    (lcS : K.lookup cS = some ⟨o2, d2, .fields vs, s2⟩) (hv : vs[11]? = some (.ref Pt)) (nP : K.lookup Pt = none) (hrS : (recsOf q).find? (fun e => e.name == ("straight_seams" : Str)) = some dS)
    (gSIDE : PySem.W.nsIn K mainGlobals "SIDE" = some (some (.int 10 tS)))
    (z_len : PySem.W.nsIn K mainGlobals "len" = some none) (z_range : PySem.W.nsIn K mainGlobals "range" = some none) (z_min : PySem.W.nsIn K mainGlobals "min" = some none) (z_max : PySem.W.nsIn K mainGlobals "max" = some none) (z_all : PySem.W.nsIn K mainGlobals "all" = some none) (z_list : PySem.W.nsIn K mainGlobals "list" = some none) (z_sorted : PySem.W.nsIn K mainGlobals "sorted" = some none) (z_tuple : PySem.W.nsIn K mainGlobals "tuple" = some none) :
    LamX.LawAtS l w K CX0 24 63 "_law_script" mg fa h := by
  have G := T.g
  have e := hfa.symm.trans (PySem.W.mg_of X G aZ)
  cases e
  obtain ⟨hcd, hP⟩ := PySem.W.tab_of T X hrS (tabIn_of aS lS rfl lcS hv)
  have FA := fun_mk (st := sAround) lA cA kA
  have bA := FA.binds (ps := ["patches"]) fun _ _ _ _ _ _ us hl => match us, hl with | [_], _ => rfl
  have FS : FunC K "straight_seams" "straight_seams" sSeams fS _ cS := ⟨⟨_, _, _, _, _, _, _, _, rfl, lS, ccS⟩, kS⟩
  have bS : Binds K _ ["patches"] [] := FunC.binds FS (ps := ["patches"]) fun _ _ _ _ _ us hl => match us, hl with | [_], _ => rfl
  have FH := fun_mk (st := sAhead) lH cH kH
  have bH := FH.binds (ps := ["patch", "seam"]) fun _ _ _ _ _ _ us hl => match us, hl with | [_, _], _ => rfl
  have FX := fun_mk (st := sSplit) lX cX kX
  have bX := FX.binds (ps := ["patches", "seam"]) fun _ _ _ _ _ _ us hl => match us, hl with | [_, _], _ => rfl
  have FF := fun_mk (st := sFault) lF cF kF
  have bF := FF.binds (ps := ["step", "stack", "used", "sizes"]) fun _ _ _ _ _ _ us hl => match us, hl with | [_, _, _, _], _ => rfl
  have FU := fun_mk (st := sPut) lU cU kU
  have bU := FU.binds (ps := ["first", "second", "direction"]) fun _ _ _ _ _ _ us hl => match us, hl with | [_, _, _], _ => rfl
  have FL := fun_mk (st := sPlaced) lL cL kL
  have bL := FL.binds (ps := ["plan", "sizes"]) fun _ _ _ _ _ _ us hl => match us, hl with | [_, _], _ => rfl
  have FP := fun_mk (st := sPlanOf) lP cP kP
  have bP := FP.binds (ps := ["patches", "numbers"]) fun _ _ _ _ _ _ us hl => match us, hl with | [_, _], _ => rfl
  have FW := fun_mk (st := sSewing) lW cW kW
  have bW := FW.binds (ps := ["patches"]) fun _ _ _ _ _ _ us hl => match us, hl with | [_], _ => rfl
  have FC := fun_mk (st := sCell) lC cC kC
  have bC := FC.binds (ps := ["_law_script", "_law_k"]) fun _ _ _ _ _ _ us hl => match us, hl with | [_, _], _ => rfl
  have FD := fun_mk (st := sDraw) lD cD kD
  have bD := FD.binds (ps := ["_law_script", "_law_k", "_law_sizes"]) fun _ _ _ _ _ _ us hl => match us, hl with | [_, _, _], _ => rfl
  have FI := fun_mk (st := sPieces) lI cI kI
  have bI := FI.binds (ps := ["_law_script", "_law_k"]) fun _ _ _ _ _ _ us hl => match us, hl with | [_, _], _ => rfl
  have FG := fun_mk (st := sLSeams) lG cG kG
  have bG := FG.binds (ps := ["_law_patches"]) fun _ _ _ _ _ _ us hl => match us, hl with | [_], _ => rfl
  have FO := fun_mk (st := sSome) lO cO kO
  have bO := FO.binds (ps := ["_law_script", "_law_k", "_law_patches", "_law_numbers"]) fun _ _ _ _ _ _ us hl => match us, hl with | [_, _, _, _], _ => rfl
  have FZ := fun_mk (st := sLaw) lZ cZ kZ
  have gA := PySem.W.mg_of X G aA
  have gS := PySem.W.mg_of X G aS
  have gH := PySem.W.mg_of X G aH
  have gX := PySem.W.mg_of X G aX
  have gF := PySem.W.mg_of X G aF
  have gU := PySem.W.mg_of X G aU
  have gL := PySem.W.mg_of X G aL
  have gP := PySem.W.mg_of X G aP
  have gW := PySem.W.mg_of X G aW
  have gC := PySem.W.mg_of X G aC
  have gD := PySem.W.mg_of X G aD
  have gI := PySem.W.mg_of X G aI
  have gG := PySem.W.mg_of X G aG
  have gO := PySem.W.mg_of X G aO
  have m_len := PySem.W.mg_none_of X G z_len
  have m_range := PySem.W.mg_none_of X G z_range
  have m_min := PySem.W.mg_none_of X G z_min
  have m_max := PySem.W.mg_none_of X G z_max
  have m_all := PySem.W.mg_none_of X G z_all
  have m_list := PySem.W.mg_none_of X G z_list
  have m_sorted := PySem.W.mg_none_of X G z_sorted
  have m_tuple := PySem.W.mg_none_of X G z_tuple
  have mSIDE := PySem.W.mg_of X G gSIDE
  refine ⟨PySem.W.fnOf "law" "law" (defArgs sLaw) (defBody sLaw) (defScope sLaw) .none kVZ dcZ pmZ anZ cdZ ctZ, [(cS, Pt)], spLaw Pt K, fun p hp => ?_, fun p hp => ?_, fun p hp => ?_, fun s v => .of_eq rfl, fun H a ns hl _ hH hS => ?_, fun base hK hB hTB => ?_⟩
  · rw [List.mem_singleton.mp hp]
    exact hP
  · rw [List.mem_singleton.mp hp]
    exact nP
  · rw [List.mem_singleton.mp hp]
    exact hcd
  · exact ⟨a, ns, rfl, hS, hl, ⟨#[], hH (cS, Pt) List.mem_cons_self, trivial⟩, fun _ => rfl⟩
  · have TB0 := hTB (cS, Pt) List.mem_cons_self
    have TB : GxR.TabB base mg cS Pt := ⟨TB0.1, TB0.2, TB0.3⟩
    have GS : FnOk l.prog w K mg base CX0 2 fS _ ["patches"] (spSeams Pt K) := ok_seams FS TB FA bA gA m_min m_max m_range m_all
    have GX : FnOk l.prog w K mg base CX0 2 fX _ ["patches", "seam"] (spSplit Pt K) := ok_split FX FH bH gH m_range m_len
    have GP : FnOk l.prog w K mg base CX0 (20 + 2) fP _ ["patches", "numbers"] (spPlan Pt K 20) := plan_all FP bP gP GS kS bS gS GX kX bX gX m_len 20
    have GW : FnOk l.prog w K mg base CX0 23 fW _ ["patches"] (spSewing Pt K) := ok_sewing FW GP kP bP gP m_len m_list m_range
    have GF : FnOk l.prog w K mg base CX0 1 fF _ ["step", "stack", "used", "sizes"] (spFault Pt K) := ok_fault FF m_len mSIDE
    have GU : FnOk l.prog w K mg base CX0 1 fU _ ["first", "second", "direction"] (spPut Pt K) := ok_put FU
    have GL : FnOk l.prog w K mg base CX0 2 fL _ ["plan", "sizes"] (spPlaced Pt K) := ok_placed FL GF kF bF gF GU kU bU gU m_len m_range m_sorted m_tuple
    have GD : FnOk l.prog w K mg base CX0 2 fD _ ["_law_script", "_law_k", "_law_sizes"] (spDraw Pt K) := ok_draw FD FC bC gC m_len m_range
    have GI : FnOk l.prog w K mg base CX0 3 fI _ ["_law_script", "_law_k"] (spPieces Pt K) := ok_pieces FI GD kD bD gD m_len m_range m_tuple
    have GG : FnOk l.prog w K mg base CX0 1 fG _ ["_law_patches"] (spLSeams Pt K) := ok_lseams FG m_len m_min m_max m_range
    have GO : FnOk l.prog w K mg base CX0 (20 + 2) fO _ ["_law_script", "_law_k", "_law_patches", "_law_numbers"] (spSome Pt K 20) := some_all FO bO gO GG kG bG gG GD kD bD gD m_len 20
    exact ok_law FZ GI kI bI gI GW kW bW gW GL kL bL gL GO kO bO gO m_len m_range m_min m_max m_list
end Sw
open PySem PySem.W PyProof.Rows in
set_option maxRecDepth 100000 in
set_option maxHeartbeats 0 in
theorem PySem.Challenge.cw_sewnwhole_k32_whole_plans_place_the_patc_holds : PySem.Challenge.rw_sewnwhole_k32_whole_plans_place_the_patc.Holds := by
  w_on; o_law; k_head; (case hw => w_witness2)
  k_fill
  refine Sw.walk_T (l := PySem.Challenge.rw_sewnwhole_k32_whole_plans_place_the_patc) (n := 63) (k := 24) (x := "_law_script") rfl (by decide) rfl ⟨rfl, by decide, by decide⟩ (fun w h Y => PySem.W.kIn_of Y) ?F
  case F =>
    intro w loose' mean mg mb fa h T KX hmg
    refine' Sw.all_mk T KX hmg ?aA ?lA ?cA ?kA ?aS ?lS ?ccS ?kS ?aH ?lH ?cH ?kH ?aX ?lX ?cX ?kX ?aF ?lF ?cF ?kF ?aU ?lU ?cU ?kU ?aL ?lL ?cL ?kL ?aP ?lP ?cP ?kP ?aW ?lW ?cW ?kW ?aC ?lC ?cC ?kC ?aD ?lD ?cD ?kD ?aI ?lI ?cI ?kI ?aG ?lG ?cG ?kG ?aO ?lO ?cO ?kO ?aZ ?lZ ?cZ ?kZ ?lcS ?hv ?nP ?hrS ?gSIDE ?z_len ?z_range ?z_min ?z_max ?z_all ?z_list ?z_sorted ?z_tuple
    (case aA => k_is)
    (case lA => k_is)
    (case cA => k_is)
    (case kA => k_is)
    (case aS => k_is)
    (case lS => k_is)
    (case ccS => k_is)
    (case kS => k_is)
    (case aH => k_is)
    (case lH => k_is)
    (case cH => k_is)
    (case kH => k_is)
    (case aX => k_is)
    (case lX => k_is)
    (case cX => k_is)
    (case kX => k_is)
    (case aF => k_is)
    (case lF => k_is)
    (case cF => k_is)
    (case kF => k_is)
    (case aU => k_is)
    (case lU => k_is)
    (case cU => k_is)
    (case kU => k_is)
    (case aL => k_is)
    (case lL => k_is)
    (case cL => k_is)
    (case kL => k_is)
    (case aP => k_is)
    (case lP => k_is)
    (case cP => k_is)
    (case kP => k_is)
    (case aW => k_is)
    (case lW => k_is)
    (case cW => k_is)
    (case kW => k_is)
    (case aC => k_is)
    (case lC => k_is)
    (case cC => k_is)
    (case kC => k_is)
    (case aD => k_is)
    (case lD => k_is)
    (case cD => k_is)
    (case kD => k_is)
    (case aI => k_is)
    (case lI => k_is)
    (case cI => k_is)
    (case kI => k_is)
    (case aG => k_is)
    (case lG => k_is)
    (case cG => k_is)
    (case kG => k_is)
    (case aO => k_is)
    (case lO => k_is)
    (case cO => k_is)
    (case kO => k_is)
    (case aZ => k_is)
    (case lZ => k_is)
    (case cZ => k_is)
    (case kZ => k_is)
    (case lcS => k_is)
    (case hv => rfl)
    (case nP => kernel_rfl)
    (case hrS => rfl)
    (case gSIDE => k_is)
    (case z_len => k_is)
    (case z_range => k_is)
    (case z_min => k_is)
    (case z_max => k_is)
    (case z_all => k_is)
    (case z_list => k_is)
    (case z_sorted => k_is)
    (case z_tuple => k_is)

import PyProof.Rows.All
import Wide.All
import OpenK.AllK
import Wide.FinOn
import PyProof.EqAt
import PyProof.EqKinds
import PyProof.TupleCall
import Open.SpecLaws
import KE.OsGo
import KE.KDictPairs
import KE.KDictKeyed
import PySem.Challenge.RW_onecover_s01_answers
import HandS.ForSpec
import HandS.Comp
import HandS.Dict
import HandS.Iter
import HandS.Deep
import HandS.Conv
import HandS.Style
import HandS.TupSets
import HandS.Walk
import HandS.TryMany
set_option Elab.async false
set_option linter.all false
set_option maxRecDepth 100000
set_option maxHeartbeats 2000000
namespace Om
open Ti01 (Cell)
/-! ## sides of the border -/
abbrev Sd := Cell × Nat
def nxt (s : List Cell) (x : Sd) : Sd := (Ti01.ahead x.1 x.2, Ti01.turn s (Ti01.ahead x.1 x.2) x.2)
def bnd (s : List Cell) (x : Sd) : Prop := x.2 < 4 ∧ Ti01.leftOf x.1 x.2 ∈ s ∧ Ti01.rightOf x.1 x.2 ∉ s
theorem lt4 {d : Nat} (h : d < 4) : d = 0 ∨ d = 1 ∨ d = 2 ∨ d = 3 := by omega
theorem turn_cases (s : List Cell) (q : Cell) (d : Nat) :
    (Ti01.rightOf q d ∈ s ∧ Ti01.turn s q d = (d + 3) % 4) ∨
    (Ti01.rightOf q d ∉ s ∧ Ti01.leftOf q d ∈ s ∧ Ti01.turn s q d = d) ∨
    (Ti01.rightOf q d ∉ s ∧ Ti01.leftOf q d ∉ s ∧ Ti01.turn s q d = (d + 1) % 4) := by
  unfold Ti01.turn
  by_cases h1 : Ti01.rightOf q d ∈ s
  · left; exact ⟨h1, by simp [h1]⟩
  · by_cases h2 : Ti01.leftOf q d ∈ s
    · right; left; exact ⟨h1, h2, by simp [h1, h2]⟩
    · right; right; exact ⟨h1, h2, by simp [h1, h2]⟩
theorem turn_lt (s : List Cell) (q : Cell) {d : Nat} (h : d < 4) : Ti01.turn s q d < 4 := by
  rcases turn_cases s q d with ⟨_, e⟩ | ⟨_, _, e⟩ | ⟨_, _, e⟩ <;> rw [e] <;> first | exact h | exact Nat.mod_lt _ (by decide)
theorem nxt_bnd {s : List Cell} {x : Sd} (h : bnd s x) : bnd s (nxt s x) := by
  obtain ⟨⟨px, py⟩, d⟩ := x
  obtain ⟨h0, h1, h2⟩ := h
  have ht := turn_cases s (Ti01.ahead (px, py) d) d
  have hl := turn_lt s (Ti01.ahead (px, py) d) h0
  refine ⟨hl, ?_⟩
  simp only [nxt] at *
  rcases lt4 h0 with rfl | rfl | rfl | rfl <;> rcases ht with ⟨a, e⟩ | ⟨a, b, e⟩ | ⟨a, b, e⟩ <;> rw [e] <;>
    simp [Ti01.leftOf, Ti01.rightOf, Ti01.ahead] at * <;> refine ⟨?_, ?_⟩ <;> (first | assumption | (simp_all; done))
theorem nxt_inj {s : List Cell} {x y : Sd} (hx : bnd s x) (hy : bnd s y) (e : nxt s x = nxt s y) : x = y := by
  obtain ⟨⟨px, py⟩, d⟩ := x
  obtain ⟨⟨qx, qy⟩, f⟩ := y
  obtain ⟨h0, h1, h2⟩ := hx
  obtain ⟨k0, k1, k2⟩ := hy
  have ht := turn_cases s (Ti01.ahead (px, py) d) d
  have hu := turn_cases s (Ti01.ahead (qx, qy) f) f
  simp only [nxt, Prod.mk.injEq] at *
  obtain ⟨e1, e2⟩ := e
  rcases lt4 h0 with rfl | rfl | rfl | rfl <;> rcases lt4 k0 with rfl | rfl | rfl | rfl <;>
    simp only [Ti01.ahead, Prod.mk.injEq] at e1 <;> obtain ⟨ea, eb⟩ := e1 <;>
    rcases ht with ⟨a, e⟩ | ⟨a, b, e⟩ | ⟨a, b, e⟩ <;> rcases hu with ⟨a', e'⟩ | ⟨a', b', e'⟩ | ⟨a', b', e'⟩ <;>
    rw [e, e'] at e2 <;> first
      | (exfalso; revert e2; decide)
      | (refine ⟨⟨?_, ?_⟩, rfl⟩ <;> omega)
      | (exfalso
         simp only [Ti01.leftOf, Ti01.rightOf, Ti01.ahead] at *
         clear e e' e2
         grind)
end Om
namespace Om
open Ti01 (Cell)
/-! ## the winding number of a round -/
def orb (s : List Cell) : Nat → Sd → List Sd
  | 0, _ => []
  | k + 1, x => x :: orb s k (nxt s x)
def itr (s : List Cell) : Nat → Sd → Sd
  | 0, x => x
  | k + 1, x => itr s k (nxt s x)
def sideAt (c : Cell) (w : Nat) : Sd := match w with
  | 0 => ((c.1 + 1, c.2), 1)
  | 1 => ((c.1 + 1, c.2 + 1), 2)
  | 2 => ((c.1, c.2 + 1), 3)
  | _ => (c, 0)
def vert (c : Cell) (x : Sd) : Int := if x.2 = 1 ∧ x.1.2 = c.2 ∧ c.1 < x.1.1 then 1 else if x.2 = 3 ∧ x.1.2 = c.2 + 1 ∧ c.1 < x.1.1 then -1 else 0
def wnd (c : Cell) : List Sd → Int
  | [] => 0
  | x :: l => vert c x + wnd c l
def one (a x : Sd) : Int := if x = a then 1 else 0
def met (a : Sd) : List Sd → Int
  | [] => 0
  | x :: l => one a x + met a l
theorem sd_eq {x : Sd} {a b : Int} {d : Nat} : x = ((a, b), d) ↔ x.1.1 = a ∧ x.1.2 = b ∧ x.2 = d := by
  obtain ⟨⟨p, q⟩, e⟩ := x
  simp [and_assoc]
theorem vert_right (c : Cell) (x : Sd) : vert c x - vert (c.1 + 1, c.2) x = one (sideAt c 0) x - one (sideAt (c.1 + 1, c.2) 2) x := by
  obtain ⟨⟨p, q⟩, d⟩ := x
  obtain ⟨a, b⟩ := c
  simp only [vert, one, sideAt, Prod.mk.injEq]
  (repeat' split) <;> omega
theorem wnd_right (c : Cell) : ∀ l : List Sd, wnd c l - wnd (c.1 + 1, c.2) l = met (sideAt c 0) l - met (sideAt (c.1 + 1, c.2) 2) l
  | [] => rfl
  | x :: l => by
    have h := wnd_right c l
    have k := vert_right c x
    simp only [wnd, met]
    omega
def hgt (c p : Cell) : Int := if p.2 = c.2 + 1 ∧ c.1 < p.1 then 1 else 0
theorem vert_up (c : Cell) (x : Sd) (h : x.2 < 4) : hgt c (Ti01.ahead x.1 x.2) - hgt c x.1 = vert c x - vert (c.1, c.2 + 1) x - (one (sideAt c 1) x - one (sideAt (c.1, c.2 + 1) 3) x) := by
  obtain ⟨⟨p, q⟩, d⟩ := x
  obtain ⟨a, b⟩ := c
  rcases lt4 h with e | e | e | e <;> simp only at e <;> subst e <;>
    simp only [hgt, vert, one, sideAt, Ti01.ahead, Prod.mk.injEq, and_true, true_and] <;> (repeat' split) <;> omega
theorem nxt_lt {s : List Cell} {x : Sd} (h : x.2 < 4) : (nxt s x).2 < 4 := turn_lt s _ h
theorem wnd_up (s : List Cell) (c : Cell) : ∀ (k : Nat) (x : Sd), x.2 < 4 → hgt c (itr s k x).1 - hgt c x.1 =
    wnd c (orb s k x) - wnd (c.1, c.2 + 1) (orb s k x) - (met (sideAt c 1) (orb s k x) - met (sideAt (c.1, c.2 + 1) 3) (orb s k x))
  | 0, x, h => by simp [itr, orb, wnd, met]
  | k + 1, x, h => by
    have i := wnd_up s c k (nxt s x) (nxt_lt h)
    have j := vert_up c x h
    have e : (nxt s x).1 = Ti01.ahead x.1 x.2 := rfl
    rw [e] at i
    simp only [itr, orb, wnd, met]
    omega
/-! ## the round of a shape -/
theorem orb_bnd {s : List Cell} : ∀ {k : Nat} {x y : Sd}, bnd s x → y ∈ orb s k x → bnd s y
  | 0, _, _, _, h => by simp [orb] at h
  | k + 1, x, y, hx, h => by
    rcases List.mem_cons.mp h with rfl | h
    · exact hx
    · exact orb_bnd (nxt_bnd hx) h
theorem met_zero {a : Sd} : ∀ {l : List Sd}, a ∉ l → met a l = 0
  | [], _ => rfl
  | x :: l, h => by
    have h1 : ¬ x = a := fun e => h (by rw [e]; exact List.mem_cons_self)
    have h2 := met_zero (a := a) (l := l) fun e => h (List.mem_cons_of_mem _ e)
    simp only [met, one, if_neg h1, h2]
    rfl
theorem met_nonneg (a : Sd) : ∀ l : List Sd, 0 ≤ met a l
  | [] => Int.le_refl 0
  | x :: l => by
    have := met_nonneg a l
    simp only [met, one]
    split <;> omega
theorem met_pos {a : Sd} : ∀ {l : List Sd}, a ∈ l → 0 < met a l
  | x :: l, h => by
    have k := met_nonneg a l
    by_cases e : x = a
    · simp only [met, one, if_pos e]; omega
    · have : a ∈ l := by
        rcases List.mem_cons.mp h with e' | h
        · exact absurd e'.symm e
        · exact h
      have := met_pos this
      simp only [met, one, if_neg e]; omega
theorem left_side (c : Cell) {w : Nat} (h : w < 4) : Ti01.leftOf (sideAt c w).1 (sideAt c w).2 = c ∧ Ti01.rightOf (sideAt c w).1 (sideAt c w).2 = Ti01.ahead c w ∧ (sideAt c w).2 < 4 := by
  obtain ⟨a, b⟩ := c
  rcases lt4 h with rfl | rfl | rfl | rfl <;> simp [sideAt, Ti01.leftOf, Ti01.rightOf, Ti01.ahead] <;> omega
theorem bnd_side {s : List Cell} {c : Cell} {w : Nat} (h : w < 4) : bnd s (sideAt c w) ↔ c ∈ s ∧ Ti01.ahead c w ∉ s := by
  obtain ⟨e1, e2, e3⟩ := left_side c h
  unfold bnd
  rw [e1, e2]
  exact ⟨fun h => h.2, fun h => ⟨e3, h⟩⟩
theorem side_of {x : Sd} (h : x.2 < 4) : ∃ w, w < 4 ∧ x = sideAt (Ti01.leftOf x.1 x.2) w ∧ Ti01.rightOf x.1 x.2 = Ti01.ahead (Ti01.leftOf x.1 x.2) w := by
  obtain ⟨⟨p, q⟩, d⟩ := x
  rcases lt4 h with e | e | e | e <;> simp only at e <;> subst e
  · exact ⟨3, by decide, by simp [sideAt, Ti01.leftOf], by simp [Ti01.leftOf, Ti01.rightOf, Ti01.ahead]⟩
  · exact ⟨0, by decide, by simp [sideAt, Ti01.leftOf], by simp [Ti01.leftOf, Ti01.rightOf, Ti01.ahead]⟩
  · exact ⟨1, by decide, by simp [sideAt, Ti01.leftOf], by simp [Ti01.leftOf, Ti01.rightOf, Ti01.ahead]⟩
  · exact ⟨2, by decide, by simp [sideAt, Ti01.leftOf], by simp [Ti01.leftOf, Ti01.rightOf, Ti01.ahead]⟩
/-- what comes back met from both: a square and the one beside it, by a way -/
theorem wnd_way {s : List Cell} {k : Nat} {x : Sd} (hx : x.2 < 4) (hk : (itr s k x).1 = x.1) (c : Cell) {w : Nat} (hw : w < 4) :
    wnd c (orb s k x) - wnd (Ti01.ahead c w) (orb s k x) = met (sideAt c w) (orb s k x) - met (sideAt (Ti01.ahead c w) ((w + 2) % 4)) (orb s k x) := by
  obtain ⟨a, b⟩ := c
  rcases lt4 hw with e | e | e | e <;> subst e
  · exact wnd_right (a, b) _
  · have h := wnd_up s (a, b) k x hx
    rw [hk] at h
    simp only at h
    show wnd (a, b) _ - wnd (a, b + 1) _ = met (sideAt (a, b) 1) _ - met (sideAt (a, b + 1) 3) _
    omega
  · have h := wnd_right (a - 1, b) (orb s k x)
    have e : ((a - 1 : Int) + 1) = a := by omega
    simp only [e] at h
    show wnd (a, b) _ - wnd (a - 1, b) _ = met (sideAt (a, b) 2) _ - met (sideAt (a - 1, b) 0) _
    omega
  · have h := wnd_up s (a, b - 1) k x hx
    have e : ((b - 1 : Int) + 1) = b := by omega
    rw [hk] at h
    simp only [e] at h
    show wnd (a, b) _ - wnd (a, b - 1) _ = met (sideAt (a, b) 3) _ - met (sideAt (a, b - 1) 1) _
    omega
theorem back_ahead (c : Cell) {w : Nat} (h : w < 4) : Ti01.ahead (Ti01.ahead c w) ((w + 2) % 4) = c := by
  obtain ⟨a, b⟩ := c
  rcases lt4 h with rfl | rfl | rfl | rfl <;> simp [Ti01.ahead] <;> omega
end Om
namespace Om
open Ti01 (Cell)
/-! ## what is joined -/
inductive Reach (t : List Cell) (c : Cell) : Cell → Prop where
  | base : Reach t c c
  | step {a : Cell} {w : Nat} : Reach t c a → w < 4 → Ti01.ahead a w ∈ t → Reach t c (Ti01.ahead a w)
theorem near_iff {a b : Cell} : b ∈ Ti01.near a ↔ ∃ w, w < 4 ∧ b = Ti01.ahead a w := by
  constructor
  · intro h
    simp only [Ti01.near, List.mem_cons, List.not_mem_nil, or_false] at h
    rcases h with rfl | rfl | rfl | rfl
    · exact ⟨0, by decide, rfl⟩
    · exact ⟨1, by decide, rfl⟩
    · exact ⟨2, by decide, rfl⟩
    · exact ⟨3, by decide, rfl⟩
  · rintro ⟨w, h, rfl⟩
    rcases lt4 h with rfl | rfl | rfl | rfl <;> simp [Ti01.near, Ti01.ahead]
def grow (s l : List Cell) : List Cell := s.filter fun c => l.contains c || l.any fun a => (Ti01.near a).contains c
theorem mem_grow {s l : List Cell} {c : Cell} : c ∈ grow s l ↔ c ∈ s ∧ (c ∈ l ∨ ∃ a ∈ l, ∃ w, w < 4 ∧ c = Ti01.ahead a w) := by
  unfold grow
  simp only [List.mem_filter, Bool.or_eq_true, List.contains_iff_mem, List.any_eq_true, near_iff]
theorem spread_succ (s : List Cell) (n : Nat) (l : List Cell) : Ti01.spread s (n + 1) l = Ti01.spread s n (grow s l) := rfl
theorem spread_reach {s : List Cell} {c : Cell} : ∀ (n : Nat) (l : List Cell), (∀ x ∈ l, Reach s c x) → ∀ x ∈ Ti01.spread s n l, Reach s c x
  | 0, _, h => h
  | n + 1, l, h => by
    rw [spread_succ]
    refine spread_reach n _ fun x hx => ?_
    obtain ⟨h1, h2⟩ := mem_grow.mp hx
    rcases h2 with h2 | ⟨a, ha, w, hw, rfl⟩
    · exact h x h2
    · exact .step (h a ha) hw h1
theorem spread_filter (s : List Cell) : ∀ (n : Nat) (l : List Cell), ∃ p : Cell → Bool, Ti01.spread s (n + 1) l = s.filter p
  | 0, l => ⟨_, rfl⟩
  | n + 1, l => by
    rw [spread_succ]
    exact spread_filter s n _
theorem joined_reach {s : List Cell} (h : Ti01.joined s = true) : ∃ c r, s = c :: r ∧ ∀ x ∈ s, Reach s c x := by
  cases s with
  | nil => simp [Ti01.joined] at h
  | cons c r =>
    refine ⟨c, r, rfl, fun x hx => ?_⟩
    have h' : (Ti01.spread (c :: r) (c :: r).length [c]).length = (c :: r).length := by
      simpa [Ti01.joined] using h
    obtain ⟨p, e⟩ := spread_filter (c :: r) r.length [c]
    have e' : Ti01.spread (c :: r) (c :: r).length [c] = (c :: r).filter p := e
    rw [e'] at h'
    have all := List.length_filter_eq_length_iff.mp h'
    refine spread_reach (c := c) (c :: r).length [c] (fun y hy => ?_) x ?_
    · rw [List.mem_singleton.mp hy]
      exact .base
    · rw [e']
      exact List.mem_filter.mpr ⟨hx, all x hx⟩
/-! .. and back: as many rounds as squares are enough -/
def closedIn (s l : List Cell) : Prop := ∀ a ∈ l, ∀ w, w < 4 → Ti01.ahead a w ∈ s → Ti01.ahead a w ∈ l
theorem sub_len {α : Type} [DecidableEq α] : ∀ {l m : List α}, l.Nodup → (∀ x ∈ l, x ∈ m) → l.length ≤ m.length
  | [], _, _, _ => Nat.zero_le _
  | x :: l, m, nd, h => by
    have hx : x ∈ m := h x List.mem_cons_self
    obtain ⟨n1, n2⟩ := List.nodup_cons.mp nd
    have := sub_len (l := l) (m := m.erase x) n2 fun y hy => by
      refine (List.mem_erase_of_ne fun e => n1 (by rw [← e]; exact hy)).mpr (h y (List.mem_cons_of_mem _ hy))
    rw [List.length_erase_of_mem hx] at this
    have : 0 < m.length := List.length_pos_of_mem hx
    simp only [List.length_cons]
    omega
/-- as long, and within: the same -/
theorem sub_all {α : Type} [DecidableEq α] {l m : List α} (nd : l.Nodup) (h : ∀ x ∈ l, x ∈ m) (hl : m.length ≤ l.length) : ∀ y ∈ m, y ∈ l := by
  intro y hy
  refine Classical.byContradiction fun hn => ?_
  have h1 : (y :: l).length ≤ m.length := sub_len (List.nodup_cons.mpr ⟨hn, nd⟩) fun x hx => by
    rcases List.mem_cons.mp hx with rfl | hx
    · exact hy
    · exact h x hx
  simp only [List.length_cons] at h1
  omega
theorem grow_closed {s l : List Cell} (hc : closedIn s l) (hs : ∀ x ∈ l, x ∈ s) : ∀ x, x ∈ grow s l ↔ x ∈ l := fun x => by
  rw [mem_grow]
  constructor
  · rintro ⟨h1, h2 | ⟨a, ha, w, hw, rfl⟩⟩
    · exact h2
    · exact hc a ha w hw h1
  · exact fun h => ⟨hs x h, .inl h⟩
theorem spread_closed {s : List Cell} (nd : s.Nodup) : ∀ (n : Nat) (l : List Cell), l.Nodup → (∀ x ∈ l, x ∈ s) → (closedIn s l ∨ s.length < l.length + n) →
    closedIn s (Ti01.spread s n l) ∧ (∀ x ∈ l, x ∈ Ti01.spread s n l)
  | 0, l, nl, hs, h => by
    refine ⟨?_, fun x h => h⟩
    rcases h with h | h
    · exact h
    · have := sub_len nl hs
      omega
  | n + 1, l, nl, hs, h => by
    rw [spread_succ]
    have up : ∀ x ∈ l, x ∈ grow s l := fun x hx => mem_grow.mpr ⟨hs x hx, .inl hx⟩
    have ng : (grow s l).Nodup := nd.filter _
    have hg : ∀ x ∈ grow s l, x ∈ s := fun x hx => (mem_grow.mp hx).1
    have le := sub_len nl up
    have goal : closedIn s (grow s l) ∨ s.length < (grow s l).length + n := by
      by_cases e : (grow s l).length = l.length
      · refine .inl fun a ha w hw hin => ?_
        have ha' := sub_all nl up (by omega) a ha
        exact mem_grow.mpr ⟨hin, .inr ⟨a, ha', w, hw, rfl⟩⟩
      · rcases h with h | h
        · exfalso
          have := sub_len ng fun x hx => (grow_closed h hs x).mp hx
          omega
        · exact .inr (by omega)
    obtain ⟨r1, r2⟩ := spread_closed nd n (grow s l) ng hg goal
    exact ⟨r1, fun x hx => r2 x (up x hx)⟩
theorem reach_joined {c : Cell} {r : List Cell} (nd : (c :: r).Nodup) (h : ∀ x ∈ c :: r, Reach (c :: r) c x) : Ti01.joined (c :: r) = true := by
  have k := spread_closed nd (c :: r).length [c] (by simp) (by simp) (.inr (by simp))
  have all : ∀ x, Reach (c :: r) c x → x ∈ Ti01.spread (c :: r) (c :: r).length [c] := fun x hx => by
    induction hx with
    | base => exact k.2 c (by simp)
    | step _ hw hin ih => exact k.1 _ ih _ hw hin
  obtain ⟨p, e⟩ := spread_filter (c :: r) r.length [c]
  have e' : Ti01.spread (c :: r) (c :: r).length [c] = (c :: r).filter p := e
  have : ((c :: r).filter p).length = (c :: r).length := List.length_filter_eq_length_iff.mpr fun x hx => by
    have := all x (h x hx)
    rw [e'] at this
    exact (List.mem_filter.mp this).2
  show ((Ti01.spread (c :: r) (c :: r).length [c]).length == (c :: r).length) = true
  rw [e', this]
  exact beq_self_eq_true _
end Om
namespace Om
open Ti01 (Cell)
/-! ## the border is one round -/
structure Good (s : List Cell) : Prop where
  ne : s ≠ []
  nd : s.Nodup
  rng : ∀ c ∈ s, (0 ≤ c.1 ∧ c.1 ≤ 11) ∧ 0 ≤ c.2 ∧ c.2 ≤ 11
  jn : Ti01.joined s = true
  ja : Ti01.joined (Ti01.around s) = true
theorem mem_around {s : List Cell} {c : Cell} : c ∈ Ti01.around s ↔ ((-1 ≤ c.1 ∧ c.1 ≤ 12) ∧ -1 ≤ c.2 ∧ c.2 ≤ 12) ∧ c ∉ s := by
  obtain ⟨a, b⟩ := c
  unfold Ti01.around
  rw [List.mem_filter]
  have : ((a, b) ∈ (List.range 14).flatMap fun (x : Nat) => (List.range 14).map fun (y : Nat) => (((x : Int) - 1, (y : Int) - 1) : Cell)) ↔ ((-1 ≤ a ∧ a ≤ 12) ∧ -1 ≤ b ∧ b ≤ 12) := by
    simp only [List.mem_flatMap, List.mem_range, List.mem_map, Prod.mk.injEq]
    constructor
    · rintro ⟨x, hx, y, hy, rfl, rfl⟩
      omega
    · rintro ⟨⟨h1, h2⟩, h3, h4⟩
      exact ⟨(a + 1).toNat, by omega, (b + 1).toNat, by omega, by omega, by omega⟩
  rw [this]
  simp
theorem wnd_same {s t : List Cell} {O : List Sd} {c : Cell} (hway : ∀ (a : Cell) (w : Nat), w < 4 → wnd a O - wnd (Ti01.ahead a w) O = met (sideAt a w) O - met (sideAt (Ti01.ahead a w) ((w + 2) % 4)) O)
    (hO : ∀ y ∈ O, bnd s y) (hc : c ∈ t) (ht : (∀ a ∈ t, a ∈ s) ∨ ∀ a ∈ t, a ∉ s) : ∀ x, Reach t c x → x ∈ t ∧ wnd x O = wnd c O := by
  intro x hx
  induction hx with
  | base => exact ⟨hc, rfl⟩
  | @step a w _ hw hin ih =>
    refine ⟨hin, ?_⟩
    have k := hway a w hw
    have z1 : sideAt a w ∉ O := fun h => by
      have := (bnd_side hw).mp (hO _ h)
      rcases ht with ht | ht
      · exact this.2 (ht _ hin)
      · exact ht _ ih.1 this.1
    have z2 : sideAt (Ti01.ahead a w) ((w + 2) % 4) ∉ O := fun h => by
      have := (bnd_side (Nat.mod_lt _ (by decide))).mp (hO _ h)
      rw [back_ahead a hw] at this
      rcases ht with ht | ht
      · exact this.2 (ht _ ih.1)
      · exact ht _ hin this.1
    rw [met_zero z1, met_zero z2] at k
    omega
theorem ahead_rng {c : Cell} {w : Nat} (hw : w < 4) (h : (0 ≤ c.1 ∧ c.1 ≤ 11) ∧ 0 ≤ c.2 ∧ c.2 ≤ 11) : (-1 ≤ (Ti01.ahead c w).1 ∧ (Ti01.ahead c w).1 ≤ 12) ∧ -1 ≤ (Ti01.ahead c w).2 ∧ (Ti01.ahead c w).2 ≤ 12 := by
  obtain ⟨a, b⟩ := c
  rcases lt4 hw with rfl | rfl | rfl | rfl <;> simp only [Ti01.ahead] at * <;> omega
/-- a round that comes back meets each side of the border -/
theorem all_met {s : List Cell} (G : Good s) {k : Nat} {x : Sd} (hx : bnd s x) (hk : 0 < k) (hb : (itr s k x).1 = x.1) {y : Sd} (hy : bnd s y) : y ∈ orb s k x := by
  have hO : ∀ z ∈ orb s k x, bnd s z := fun z hz => orb_bnd hx hz
  have hway := fun (a : Cell) (w : Nat) (hw : w < 4) => wnd_way hx.1 hb a hw
  obtain ⟨c, r, e, hr⟩ := joined_reach G.jn
  obtain ⟨c', r', e', hr'⟩ := joined_reach G.ja
  have hS := wnd_same (c := c) hway hO (by rw [e]; exact List.mem_cons_self) (.inl fun a h => h)
  have hA := wnd_same (t := Ti01.around s) (c := c') hway hO (by rw [e']; exact List.mem_cons_self) (.inr fun a h => (mem_around.mp h).2)
  have val : ∀ z, bnd s z → met z (orb s k x) = wnd c (orb s k x) - wnd c' (orb s k x) := fun z hz => by
    obtain ⟨w, hw, ez, er⟩ := side_of hz.1
    have hin := hz.2.1
    have hout := hz.2.2
    rw [er] at hout
    have j1 := (hS _ (hr _ hin)).2
    have j2 := (hA _ (hr' _ (mem_around.mpr ⟨ahead_rng hw (G.rng _ hin), hout⟩))).2
    have kk := hway (Ti01.leftOf z.1 z.2) w hw
    have z2 : sideAt (Ti01.ahead (Ti01.leftOf z.1 z.2) w) ((w + 2) % 4) ∉ orb s k x := fun h => by
      have := (bnd_side (Nat.mod_lt _ (by decide))).mp (hO _ h)
      exact hout this.1
    rw [met_zero z2, ← ez] at kk
    omega
  have hpos : 0 < met x (orb s k x) := by
    cases k with
    | zero => omega
    | succ k => exact met_pos List.mem_cons_self
  refine Classical.byContradiction fun hn => ?_
  have := val x hx
  have := val y hy
  rw [met_zero hn] at this
  omega
/-! ## the rounds: they turn back -/
theorem itr_succ (s : List Cell) : ∀ (k : Nat) (x : Sd), itr s (k + 1) x = nxt s (itr s k x)
  | 0, _ => rfl
  | k + 1, x => itr_succ s k (nxt s x)
theorem itr_bnd {s : List Cell} : ∀ {k : Nat} {x : Sd}, bnd s x → bnd s (itr s k x)
  | 0, _, h => h
  | k + 1, x, h => itr_bnd (k := k) (x := nxt s x) (nxt_bnd h)
theorem mem_orb {s : List Cell} : ∀ {k : Nat} {x y : Sd}, y ∈ orb s k x ↔ ∃ j, j < k ∧ y = itr s j x
  | 0, x, y => by simp [orb]
  | k + 1, x, y => by
    rw [orb, List.mem_cons, mem_orb (k := k)]
    constructor
    · rintro (rfl | ⟨j, hj, e⟩)
      · exact ⟨0, by omega, rfl⟩
      · exact ⟨j + 1, by omega, e⟩
    · rintro ⟨j, hj, e⟩
      cases j with
      | zero => exact .inl e
      | succ j => exact .inr ⟨j, by omega, e⟩
theorem orb_length (s : List Cell) : ∀ (k : Nat) (x : Sd), (orb s k x).length = k
  | 0, _ => rfl
  | k + 1, x => by rw [orb, List.length_cons, orb_length s k]
theorem orb_nodup {s : List Cell} : ∀ {m : Nat} {x : Sd}, bnd s x → (∀ k, 0 < k → k < m → itr s k x ≠ x) → (orb s m x).Nodup
  | 0, _, _, _ => List.nodup_nil
  | m + 1, x, hx, h => by
    rw [orb, List.nodup_cons]
    refine ⟨fun hin => ?_, orb_nodup (nxt_bnd hx) fun k h1 h2 e => ?_⟩
    · obtain ⟨j, hj, e⟩ := mem_orb.mp hin
      exact h (j + 1) (by omega) (by omega) e.symm
    · refine h k h1 (by omega) (nxt_inj (itr_bnd hx) hx ?_)
      rw [← itr_succ]
      exact e
theorem least {P : Nat → Prop} : ∀ {n : Nat}, P n → ∃ m, m ≤ n ∧ P m ∧ ∀ k, k < m → ¬ P k := by
  intro n
  induction n using Nat.strongRecOn with
  | _ n ih =>
    intro h
    by_cases e : ∃ k, k < n ∧ P k
    · obtain ⟨k, hk, pk⟩ := e
      obtain ⟨m, h1, h2, h3⟩ := ih k hk pk
      exact ⟨m, by omega, h2, h3⟩
    · exact ⟨n, Nat.le_refl _, h, fun k hk pk => e ⟨k, hk, pk⟩⟩
/-! ## all sides of the border -/
def outs (s : List Cell) (c : Cell) : List Nat := (List.range 4).filter fun w => !s.contains (Ti01.ahead c w)
def sidesIn (s : List Cell) : List Cell → Nat
  | [] => 0
  | c :: l => (outs s c).length + sidesIn s l
def sides (s : List Cell) : Nat := sidesIn s s
def borderIn (s : List Cell) : List Cell → List Sd
  | [] => []
  | c :: l => (outs s c).map (sideAt c) ++ borderIn s l
theorem mem_outs {s : List Cell} {c : Cell} {w : Nat} : w ∈ outs s c ↔ w < 4 ∧ Ti01.ahead c w ∉ s := by
  simp [outs]
theorem outs_le (s : List Cell) (c : Cell) : (outs s c).length ≤ 4 := List.length_filter_le _ _
theorem sidesIn_le (s : List Cell) : ∀ l : List Cell, sidesIn s l ≤ 4 * l.length
  | [] => Nat.le_refl _
  | c :: l => by
    have := sidesIn_le s l
    have := outs_le s c
    simp only [sidesIn, List.length_cons]
    omega
theorem borderIn_length (s : List Cell) : ∀ l : List Cell, (borderIn s l).length = sidesIn s l
  | [] => rfl
  | c :: l => by rw [borderIn, sidesIn, List.length_append, List.length_map, borderIn_length s l]
theorem mem_borderIn {s : List Cell} {y : Sd} : ∀ {l : List Cell}, y ∈ borderIn s l ↔ ∃ c ∈ l, ∃ w, w < 4 ∧ Ti01.ahead c w ∉ s ∧ y = sideAt c w
  | [] => by simp [borderIn]
  | c :: l => by
    rw [borderIn, List.mem_append, mem_borderIn (l := l), List.mem_map]
    constructor
    · rintro (⟨w, hw, rfl⟩ | ⟨c', h, r⟩)
      · exact ⟨c, List.mem_cons_self, w, (mem_outs.mp hw).1, (mem_outs.mp hw).2, rfl⟩
      · exact ⟨c', List.mem_cons_of_mem _ h, r⟩
    · rintro ⟨c', h, w, h1, h2, rfl⟩
      rcases List.mem_cons.mp h with rfl | h
      · exact .inl ⟨w, mem_outs.mpr ⟨h1, h2⟩, rfl⟩
      · exact .inr ⟨c', h, w, h1, h2, rfl⟩
theorem side_inj {c c' : Cell} {w w' : Nat} (h : w < 4) (h' : w' < 4) (e : sideAt c w = sideAt c' w') : c = c' ∧ w = w' := by
  have l1 := (left_side c h).1
  have l2 := (left_side c' h').1
  rw [e] at l1
  have e1 : c = c' := l1.symm.trans l2
  subst e1
  refine ⟨rfl, ?_⟩
  have e2 : (sideAt c w).2 = (sideAt c w').2 := by rw [e]
  rcases lt4 h with rfl | rfl | rfl | rfl <;> rcases lt4 h' with rfl | rfl | rfl | rfl <;> first | rfl | (exact absurd e2 (by show ¬ ((_ : Nat) = _); decide)) | (simp [sideAt] at e2)
theorem nodup_map_on {α β : Type} {f : α → β} : ∀ {l : List α}, (∀ x ∈ l, ∀ y ∈ l, f x = f y → x = y) → l.Nodup → (l.map f).Nodup
  | [], _, _ => List.nodup_nil
  | a :: l, h, nd => by
    obtain ⟨n1, n2⟩ := List.nodup_cons.mp nd
    rw [List.map_cons, List.nodup_cons]
    refine ⟨fun hin => ?_, nodup_map_on (fun x hx y hy => h x (List.mem_cons_of_mem _ hx) y (List.mem_cons_of_mem _ hy)) n2⟩
    obtain ⟨x, hx, e⟩ := List.mem_map.mp hin
    have := h x (List.mem_cons_of_mem _ hx) a List.mem_cons_self e
    exact n1 (by rw [← this]; exact hx)
theorem borderIn_nodup (s : List Cell) : ∀ {l : List Cell}, l.Nodup → (borderIn s l).Nodup
  | [], _ => List.nodup_nil
  | c :: l, nd => by
    obtain ⟨n1, n2⟩ := List.nodup_cons.mp nd
    rw [borderIn, List.nodup_append]
    refine ⟨nodup_map_on (fun x hx y hy e => (side_inj (mem_outs.mp hx).1 (mem_outs.mp hy).1 e).2) (List.nodup_range.filter _), borderIn_nodup s n2, fun a ha b hb e => ?_⟩
    obtain ⟨w, hw, rfl⟩ := List.mem_map.mp ha
    obtain ⟨c', hc', w', hw', _, rfl⟩ := mem_borderIn.mp hb
    have := (side_inj (mem_outs.mp hw).1 hw' e).1
    exact n1 (by rw [this]; exact hc')
theorem mem_border {s : List Cell} {y : Sd} : y ∈ borderIn s s ↔ bnd s y := by
  rw [mem_borderIn]
  constructor
  · rintro ⟨c, hc, w, hw, ho, rfl⟩
    exact (bnd_side hw).mpr ⟨hc, ho⟩
  · intro h
    obtain ⟨w, hw, e1, e2⟩ := side_of h.1
    exact ⟨_, h.2.1, w, hw, by rw [← e2]; exact h.2.2, e1⟩
/-! ## the lowest corner -/
def lowLe (b c : Cell) : Prop := b.2 < c.2 ∨ (b.2 = c.2 ∧ b.1 ≤ c.1)
def lowStep (b c : Cell) : Cell := if c.2 < b.2 ∨ (c.2 = b.2 ∧ c.1 < b.1) then c else b
theorem low_fold : ∀ (l : List Cell) (b : Cell), (l.foldl lowStep b ∈ b :: l) ∧ lowLe (l.foldl lowStep b) b ∧ ∀ c ∈ l, lowLe (l.foldl lowStep b) c
  | [], b => ⟨List.mem_cons_self, .inr ⟨rfl, Int.le_refl _⟩, fun c h => by simp at h⟩
  | c :: l, b => by
    obtain ⟨h1, h2, h3⟩ := low_fold l (lowStep b c)
    have tr : ∀ {a b c : Cell}, lowLe a b → lowLe b c → lowLe a c := fun {a b c} h k => by
      unfold lowLe at *
      omega
    have k1 : lowLe (lowStep b c) b := by
      unfold lowLe lowStep
      split <;> omega
    have k2 : lowLe (lowStep b c) c := by
      unfold lowLe lowStep
      split <;> omega
    refine ⟨?_, tr h2 k1, fun x hx => ?_⟩
    · rw [List.foldl_cons]
      rcases List.mem_cons.mp h1 with h | h
      · rw [h]
        unfold lowStep
        split <;> simp
      · exact List.mem_cons_of_mem _ (List.mem_cons_of_mem _ h)
    · rcases List.mem_cons.mp hx with rfl | hx
      · exact tr h2 k2
      · exact h3 x hx
theorem lowest_is {s : List Cell} (h : s ≠ []) : Ti01.lowest s ∈ s ∧ ∀ c ∈ s, lowLe (Ti01.lowest s) c := by
  cases s with
  | nil => exact absurd rfl h
  | cons a l =>
    have e : Ti01.lowest (a :: l) = (a :: l).foldl lowStep a := rfl
    obtain ⟨h1, h2, h3⟩ := low_fold (a :: l) a
    rw [← e] at h1 h2 h3
    refine ⟨?_, h3⟩
    rcases List.mem_cons.mp h1 with h | h
    · rw [h]; exact List.mem_cons_self
    · exact h
theorem low_bnd {s : List Cell} (h : s ≠ []) {d : Nat} : bnd s (Ti01.lowest s, d) ↔ d = 0 := by
  obtain ⟨h1, h2⟩ := lowest_is h
  generalize Ti01.lowest s = b at h1 h2
  obtain ⟨x, y⟩ := b
  have out : ∀ u v : Int, (v < y ∨ (v = y ∧ u < x)) → (u, v) ∉ s := fun u v hv hin => by
    have := h2 _ hin
    simp only [lowLe] at this
    omega
  constructor
  · rintro ⟨k0, k1, k2⟩
    rcases lt4 k0 with e | e | e | e <;> simp only at e <;> subst e
    · rfl
    · simp only [Ti01.leftOf] at k1
      exact absurd k1 (out _ _ (by omega))
    · simp only [Ti01.leftOf] at k1
      exact absurd k1 (out _ _ (by omega))
    · simp only [Ti01.leftOf] at k1
      exact absurd k1 (out _ _ (by omega))
  · rintro rfl
    exact ⟨by show (0 : Nat) < 4; decide, h1, out x (y - 1) (by omega)⟩
/-! ## the edge -/
def start (s : List Cell) : Sd := (Ti01.lowest s, 0)
theorem start_bnd {s : List Cell} (h : s ≠ []) : bnd s (start s) := (low_bnd h).mpr rfl
theorem back_start {s : List Cell} (h : s ≠ []) {x : Sd} (hx : bnd s x) (e : x.1 = Ti01.lowest s) : x = start s := by
  obtain ⟨p, d⟩ := x
  simp only at e
  subst e
  have := (low_bnd h).mp hx
  subst this
  rfl
theorem walk_orb {s : List Cell} {b : Cell} : ∀ {m n : Nat} {x : Sd}, 0 < m → m ≤ n → (itr s m x).1 = b → (∀ j, 0 < j → j < m → (itr s j x).1 ≠ b) → Ti01.walk s b n x.1 x.2 = (orb s m x).map (·.2)
  | 0, _, _, h, _, _, _ => absurd h (by decide)
  | m + 1, 0, _, _, h, _, _ => absurd h (by omega)
  | m + 1, n + 1, x, _, h, hb, hj => by
    have e1 : Ti01.walk s b (n + 1) x.1 x.2 = x.2 :: if Ti01.ahead x.1 x.2 = b then [] else Ti01.walk s b n (Ti01.ahead x.1 x.2) (Ti01.turn s (Ti01.ahead x.1 x.2) x.2) := rfl
    rw [e1, orb, List.map_cons]
    congr 1
    cases m with
    | zero => rw [if_pos (show Ti01.ahead x.1 x.2 = b from hb)]; rfl
    | succ m =>
      rw [if_neg (show ¬ Ti01.ahead x.1 x.2 = b from hj 1 (by omega) (by omega))]
      exact walk_orb (m := m + 1) (n := n) (x := nxt s x) (by omega) (by omega) hb fun j h1 h2 => hj (j + 1) (by omega) (by omega)
structure Round (s : List Cell) : Prop where
  edge : Ti01.edge s = (orb s (sides s) (start s)).map (·.2)
  nodup : (orb s (sides s) (start s)).Nodup
  mem : ∀ y, y ∈ orb s (sides s) (start s) ↔ bnd s y
  back : itr s (sides s) (start s) = start s
  pos : 0 < sides s
theorem round {s : List Cell} (G : Good s) : Round s := by
  have hb := start_bnd G.ne
  have blen : (borderIn s s).length = sides s := borderIn_length s s
  have ex : ∃ k, (0 < k ∧ itr s k (start s) = start s) := by
    refine Classical.byContradiction fun hn => ?_
    have nd : (orb s (sides s + 1) (start s)).Nodup := orb_nodup hb fun k h1 _ e => hn ⟨k, h1, e⟩
    have := sub_len nd fun y hy => mem_border.mpr (orb_bnd hb hy)
    rw [orb_length, blen] at this
    omega
  obtain ⟨k, hk⟩ := ex
  obtain ⟨m, _, ⟨m1, m2⟩, m3⟩ := least (P := fun k => 0 < k ∧ itr s k (start s) = start s) hk
  have nd : (orb s m (start s)).Nodup := orb_nodup hb fun j h1 h2 e => m3 j h2 ⟨h1, e⟩
  have le1 := sub_len nd fun y hy => mem_border.mpr (orb_bnd hb hy)
  have le2 := sub_len (borderIn_nodup s G.nd) fun y hy => all_met G hb m1 (by rw [m2]) (mem_border.mp hy)
  rw [orb_length, blen] at le1 le2
  have em : m = sides s := by omega
  subst em
  refine ⟨?_, nd, fun y => ⟨fun h => orb_bnd hb h, fun h => all_met G hb m1 (by rw [m2]) h⟩, m2, m1⟩
  refine walk_orb (x := start s) m1 (sidesIn_le s s) (by rw [m2]; rfl) fun j h1 h2 e => m3 j h2 ⟨h1, back_start G.ne (itr_bnd hb) e⟩
end Om
namespace Om
open Ti01 (Cell)
/-! ## paths, and the area within a round -/
abbrev pt (p : Cell) (w : List Nat) : Cell := w.foldl Ti01.ahead p
def sts : Cell → List Nat → List Sd
  | _, [] => []
  | p, d :: r => (p, d) :: sts (Ti01.ahead p d) r
def wt (x : Sd) : Int := if x.2 = 1 then x.1.1 else if x.2 = 3 then -x.1.1 else 0
def ars : List Sd → Int
  | [] => 0
  | x :: l => wt x + ars l
theorem sts_orb (s : List Cell) : ∀ (k : Nat) (x : Sd), sts x.1 ((orb s k x).map (·.2)) = orb s k x ∧ pt x.1 ((orb s k x).map (·.2)) = (itr s k x).1
  | 0, _ => ⟨rfl, rfl⟩
  | k + 1, x => by
    obtain ⟨h1, h2⟩ := sts_orb s k (nxt s x)
    exact ⟨congrArg (x :: ·) h1, h2⟩
theorem ars_append : ∀ a b : List Sd, ars (a ++ b) = ars a + ars b
  | [], b => by simp [ars]
  | x :: a, b => by
    have := ars_append a b
    simp only [List.cons_append, ars, this]
    omega
theorem ars_perm {a b : List Sd} (h : a.Perm b) : ars a = ars b := by
  induction h with
  | nil => rfl
  | cons x _ ih => simp only [ars, ih]
  | swap x y l => simp only [ars]; omega
  | trans _ _ h1 h2 => exact h1.trans h2
theorem sts_append : ∀ (p : Cell) (a b : List Nat), sts p (a ++ b) = sts p a ++ sts (pt p a) b
  | _, [], _ => rfl
  | p, d :: a, b => by
    show (p, d) :: sts (Ti01.ahead p d) (a ++ b) = (p, d) :: (sts (Ti01.ahead p d) a ++ sts (pt (Ti01.ahead p d) a) b)
    rw [sts_append]
theorem pt_append (p : Cell) (a b : List Nat) : pt p (a ++ b) = pt (pt p a) b := List.foldl_append ..
/-! ### the area is the number of squares -/
def rgt (c : Cell) : Cell := (c.1 + 1, c.2)
def lft (c : Cell) : Cell := (c.1 - 1, c.2)
def isum : List Cell → Int
  | [] => 0
  | c :: l => c.1 + isum l
theorem isum_perm {a b : List Cell} (h : a.Perm b) : isum a = isum b := by
  induction h with
  | nil => rfl
  | cons x _ ih => simp only [isum, ih]
  | swap x y l => simp only [isum]; omega
  | trans _ _ h1 h2 => exact h1.trans h2
theorem ars_outs (s : List Cell) (c : Cell) : ars ((outs s c).map (sideAt c)) = (if s.contains (rgt c) = true then 0 else c.1 + 1) - (if s.contains (lft c) = true then 0 else c.1) := by
  obtain ⟨a, b⟩ := c
  have e : List.range 4 = [0, 1, 2, 3] := rfl
  unfold outs
  rw [e]
  simp only [List.filter_cons, List.filter_nil, Ti01.ahead, rgt, lft]
  by_cases h1 : s.contains (a + 1, b) = true <;> by_cases h2 : s.contains (a, b + 1) = true <;> by_cases h3 : s.contains (a - 1, b) = true <;> by_cases h4 : s.contains (a, b - 1) = true <;>
    simp only [h1, h2, h3, h4, Bool.not_true, Bool.not_false, if_true, if_false, Bool.false_eq_true] <;> simp [ars, wt, sideAt] <;> omega
theorem ars_border (s : List Cell) : ∀ l : List Cell, ars (borderIn s l) = (l.length : Int) - isum ((l.filter fun c => s.contains (rgt c)).map rgt) + isum (l.filter fun c => s.contains (lft c))
  | [] => rfl
  | c :: l => by
    rw [borderIn, ars_append, ars_border s l, ars_outs]
    have e1 : isum (((c :: l).filter fun c => s.contains (rgt c)).map rgt) = (if s.contains (rgt c) = true then c.1 + 1 else 0) + isum ((l.filter fun c => s.contains (rgt c)).map rgt) := by
      rw [List.filter_cons]
      split <;> simp [isum, rgt]
    have e2 : isum ((c :: l).filter fun c => s.contains (lft c)) = (if s.contains (lft c) = true then c.1 else 0) + isum (l.filter fun c => s.contains (lft c)) := by
      rw [List.filter_cons]
      split <;> simp [isum]
    rw [e1, e2]
    simp only [List.length_cons]
    split <;> split <;> omega
theorem area {s : List Cell} (G : Good s) : ars (sts (Ti01.lowest s) (Ti01.edge s)) = (s.length : Int) := by
  have R := round G
  have e : sts (Ti01.lowest s) (Ti01.edge s) = orb s (sides s) (start s) := by
    rw [R.edge]
    exact (sts_orb s (sides s) (start s)).1
  have p : (orb s (sides s) (start s)).Perm (borderIn s s) := (List.perm_ext_iff_of_nodup R.nodup (borderIn_nodup s G.nd)).mpr fun y => (R.mem y).trans mem_border.symm
  rw [e, ars_perm p, ars_border]
  have q : ((s.filter fun c => s.contains (rgt c)).map rgt).Perm (s.filter fun c => s.contains (lft c)) := by
    refine (List.perm_ext_iff_of_nodup (nodup_map_on (fun x _ y _ e => ?_) (G.nd.filter _)) (G.nd.filter _)).mpr fun c => ?_
    · obtain ⟨a, b⟩ := x
      obtain ⟨a', b'⟩ := y
      simp only [rgt, Prod.mk.injEq] at e ⊢
      omega
    · obtain ⟨a, b⟩ := c
      have z : ∀ x : Int, x - 1 + 1 = x ∧ x + 1 - 1 = x := fun x => by omega
      simp only [List.mem_map, List.mem_filter, List.contains_iff_mem]
      constructor
      · rintro ⟨⟨x, y⟩, ⟨h1, h2⟩, e⟩
        simp only [rgt, Prod.mk.injEq] at e h2
        obtain ⟨rfl, rfl⟩ := e
        refine ⟨h2, ?_⟩
        simp only [lft, z]
        exact h1
      · rintro ⟨h1, h2⟩
        refine ⟨(a - 1, b), ⟨h2, ?_⟩, ?_⟩
        · simp only [rgt, z]; exact h1
        · simp only [rgt, z]
  rw [isum_perm q]
  omega
/-! ### paths gone back, moved -/
def mv (m c : Cell) : Cell := (c.1 + m.1, c.2 + m.2)
theorem ahead_mv (m c : Cell) (d : Nat) : Ti01.ahead (mv m c) d = mv m (Ti01.ahead c d) := by
  obtain ⟨a, b⟩ := c
  obtain ⟨x, y⟩ := m
  unfold Ti01.ahead mv
  split <;> simp <;> omega
theorem pt_mv (m : Cell) : ∀ (w : List Nat) (p : Cell), pt (mv m p) w = mv m (pt p w)
  | [], _ => rfl
  | d :: w, p => by
    show pt (Ti01.ahead (mv m p) d) w = mv m (pt (Ti01.ahead p d) w)
    rw [ahead_mv, pt_mv]
theorem sts_mv (m : Cell) : ∀ (w : List Nat) (p : Cell), sts (mv m p) w = (sts p w).map fun x => (mv m x.1, x.2)
  | [], _ => rfl
  | d :: w, p => by
    show (mv m p, d) :: sts (Ti01.ahead (mv m p) d) w = _
    rw [ahead_mv, sts_mv]
    rfl
theorem pt_gone (p : Cell) (w : List Nat) : pt p w = mv p (Ti01.gone w) := by
  have := pt_mv p w (0, 0)
  obtain ⟨a, b⟩ := p
  have e : mv (a, b) (0, 0) = (a, b) := by simp [mv]
  rw [e] at this
  exact this
def opp (d : Nat) : Nat := (d + 2) % 4
theorem opp_opp {d : Nat} (h : d < 4) : opp (opp d) = d := by unfold opp; omega
abbrev Ways (w : List Nat) : Prop := ∀ d ∈ w, d < 4
theorem back_eq (w : List Nat) : Ti01.back w = (w.map opp).reverse := rfl
theorem back_cons (d : Nat) (w : List Nat) : Ti01.back (d :: w) = Ti01.back w ++ [opp d] := by
  simp [back_eq]
theorem back_back {w : List Nat} (h : Ways w) : Ti01.back (Ti01.back w) = w := by
  rw [back_eq, back_eq, List.map_reverse, List.reverse_reverse, List.map_map]
  conv => rhs; rw [← List.map_id w]
  exact List.map_congr_left fun d hd => opp_opp (h d hd)
theorem back_ways (w : List Nat) : Ways (Ti01.back w) := fun d hd => by
  rw [back_eq, List.mem_reverse, List.mem_map] at hd
  obtain ⟨e, _, rfl⟩ := hd
  exact Nat.mod_lt _ (by decide)
theorem back_length (w : List Nat) : (Ti01.back w).length = w.length := by simp [back_eq]
/-- gone back from its end, one comes to its beginning -/
theorem pt_back : ∀ {w : List Nat}, Ways w → ∀ p : Cell, pt (pt p w) (Ti01.back w) = p
  | [], _, _ => rfl
  | d :: w, h, p => by
    have ih := pt_back (w := w) (fun e he => h e (List.mem_cons_of_mem _ he)) (Ti01.ahead p d)
    rw [back_cons, pt_append]
    show Ti01.ahead (pt (pt (Ti01.ahead p d) w) (Ti01.back w)) (opp d) = p
    rw [ih]
    exact back_ahead p (h d List.mem_cons_self)
theorem mem_sts_back : ∀ {w : List Nat} {p : Cell} {x : Sd}, Ways w → x ∈ sts p w → (Ti01.ahead x.1 x.2, opp x.2) ∈ sts (pt p w) (Ti01.back w)
  | d :: w, p, x, h, hx => by
    have hw : Ways w := fun e he => h e (List.mem_cons_of_mem _ he)
    rw [back_cons, sts_append, List.mem_append]
    show _ ∈ sts (pt (Ti01.ahead p d) w) (Ti01.back w) ∨ _ ∈ sts (pt (pt (Ti01.ahead p d) w) (Ti01.back w)) [opp d]
    rcases List.mem_cons.mp hx with rfl | hx
    · refine .inr ?_
      rw [pt_back hw]
      exact List.mem_cons_self
    · exact .inl (mem_sts_back hw hx)
theorem wt_back {p : Cell} {d : Nat} (h : d < 4) : wt (Ti01.ahead p d, opp d) = -wt (p, d) := by
  obtain ⟨a, b⟩ := p
  rcases lt4 h with rfl | rfl | rfl | rfl <;> simp [wt, opp, Ti01.ahead]
theorem ars_back : ∀ {w : List Nat}, Ways w → ∀ p : Cell, ars (sts (pt p w) (Ti01.back w)) = -ars (sts p w)
  | [], _, _ => rfl
  | d :: w, h, p => by
    have hw : Ways w := fun e he => h e (List.mem_cons_of_mem _ he)
    have ih := ars_back hw (Ti01.ahead p d)
    rw [back_cons, sts_append, ars_append]
    show ars (sts (pt (Ti01.ahead p d) w) (Ti01.back w)) + ars (sts (pt (pt (Ti01.ahead p d) w) (Ti01.back w)) [opp d]) = -(wt (p, d) + ars (sts (Ti01.ahead p d) w))
    rw [ih, pt_back hw]
    have := wt_back (p := p) (h d List.mem_cons_self)
    show -ars (sts (Ti01.ahead p d) w) + (wt (Ti01.ahead p d, opp d) + 0) = _
    omega
theorem ars_mv (m : Cell) : ∀ (w : List Nat), Ways w → ∀ p : Cell, ars (sts (mv m p) w) = ars (sts p w) + m.1 * ((pt p w).2 - p.2)
  | [], _, p => by simp [sts, ars]
  | d :: w, h, p => by
    have ih := ars_mv m w (fun e he => h e (List.mem_cons_of_mem _ he)) (Ti01.ahead p d)
    show wt (mv m p, d) + ars (sts (Ti01.ahead (mv m p) d) w) = wt (p, d) + ars (sts (Ti01.ahead p d) w) + m.1 * ((pt (Ti01.ahead p d) w).2 - p.2)
    rw [ahead_mv, ih]
    generalize (pt (Ti01.ahead p d) w).2 = z
    have k : wt (mv m p, d) = wt (p, d) + m.1 * ((Ti01.ahead p d).2 - p.2) := by
      obtain ⟨a, b⟩ := p
      obtain ⟨x, y⟩ := m
      have z1 : b + 1 - b = 1 := by omega
      have z2 : b - 1 - b = -1 := by omega
      rcases lt4 (h d List.mem_cons_self) with rfl | rfl | rfl | rfl <;> simp [wt, mv, Ti01.ahead, z1, z2] <;> omega
    rw [k, Int.mul_sub, Int.mul_sub, Int.mul_sub]
    omega
end Om
namespace Om
open Ti01 (Cell)
/-! ## a word of three parts and these gone back -/
theorem mv_comm (m c : Cell) : mv m c = mv c m := by
  simp only [mv, Int.add_comm]
theorem mv_mv (m n c : Cell) : mv m (mv n c) = mv (mv m n) c := by
  simp only [mv, Prod.mk.injEq]
  omega
def neg (m : Cell) : Cell := (-m.1, -m.2)
theorem gone_append (a b : List Nat) : Ti01.gone (a ++ b) = mv (Ti01.gone a) (Ti01.gone b) := by
  show pt (0, 0) (a ++ b) = _
  rw [pt_append, pt_gone]
  rfl
theorem gone_back {w : List Nat} (h : Ways w) : Ti01.gone (Ti01.back w) = neg (Ti01.gone w) := by
  have := pt_back h (0, 0)
  rw [pt_gone] at this
  have e : pt (0, 0) w = Ti01.gone w := rfl
  rw [e] at this
  simp only [mv, Prod.mk.injEq] at this
  simp only [neg]
  exact Prod.ext (by simp only; omega) (by simp only; omega)
/-- the moves that the pairing needs -/
structure Six (X Y Z : List Nat) (L : Cell → Prop) : Prop where
  x : L (Ti01.gone (Y ++ Z))
  y : L (mv (Ti01.gone Z) (neg (Ti01.gone X)))
  z : L (neg (Ti01.gone (X ++ Y)))
theorem ways_app {a b : List Nat} : Ways (a ++ b) ↔ Ways a ∧ Ways b := by
  simp only [Ways, List.mem_append]
  exact ⟨fun h => ⟨fun d hd => h d (.inl hd), fun d hd => h d (.inr hd)⟩, fun h d hd => hd.elim (h.1 d) (h.2 d)⟩
theorem half_pair {X Y Z : List Nat} {L : Cell → Prop} (S : Six X Y Z L) (hX : Ways X) (hY : Ways Y) (hZ : Ways Z) (P : Cell) {x : Sd} (hx : x ∈ sts P (X ++ (Y ++ Z))) :
    ∃ m, L m ∧ (mv m (Ti01.ahead x.1 x.2), opp x.2) ∈ sts (pt P (X ++ (Y ++ Z))) (Ti01.back X ++ (Ti01.back Y ++ Ti01.back Z)) := by
  have go : ∀ (W : List Nat) (p q : Cell) (m : Cell), Ways W → x ∈ sts p W → mv m (pt p W) = q → (mv m (Ti01.ahead x.1 x.2), opp x.2) ∈ sts q (Ti01.back W) := by
    intro W p q m hW hx e
    rw [← e, sts_mv]
    exact List.mem_map.mpr ⟨_, mem_sts_back hW hx, rfl⟩
  rw [sts_append, sts_append, List.mem_append, List.mem_append] at hx
  rw [sts_append, sts_append]
  simp only [List.mem_append]
  rcases hx with hx | hx | hx
  · refine ⟨_, S.x, .inl (go X P _ _ hX hx ?_)⟩
    rw [pt_append, pt_gone (pt P X) (Y ++ Z), mv_comm]
  · refine ⟨_, S.y, .inr (.inl (go Y _ _ _ hY hx ?_))⟩
    rw [pt_gone _ (Ti01.back X), gone_back hX, pt_gone P (X ++ (Y ++ Z)), gone_append, gone_append, pt_gone _ Y, pt_gone P X]
    simp only [mv, neg, Prod.mk.injEq]
    omega
  · refine ⟨_, S.z, .inr (.inr (go Z _ _ _ hZ hx ?_))⟩
    rw [pt_gone _ (Ti01.back Y), pt_gone _ (Ti01.back X), gone_back hX, gone_back hY, pt_gone P (X ++ (Y ++ Z)), gone_append, gone_append, gone_append, pt_gone _ Z, pt_gone _ Y, pt_gone P X]
    simp only [mv, neg, Prod.mk.injEq]
    omega
def hexa (X Y Z : List Nat) : List Nat := (X ++ (Y ++ Z)) ++ (Ti01.back X ++ (Ti01.back Y ++ Ti01.back Z))
theorem hexa_pair {X Y Z : List Nat} {L : Cell → Prop} (hX : Ways X) (hY : Ways Y) (hZ : Ways Z) (ln : ∀ m, L m → L (neg m)) (la : ∀ m n, L m → L n → L (mv m n))
    (lu : L (Ti01.gone (X ++ Y))) (lv : L (Ti01.gone (Y ++ Z))) (P : Cell) {x : Sd} (hx : x ∈ sts P (hexa X Y Z)) :
    ∃ m, L m ∧ (mv m (Ti01.ahead x.1 x.2), opp x.2) ∈ sts P (hexa X Y Z) := by
  have e0 : ∀ A B : List Nat, Ways A → Ways B → Ti01.gone (Ti01.back A ++ Ti01.back B) = neg (Ti01.gone (A ++ B)) := fun A B hA hB => by
    rw [gone_append, gone_append, gone_back hA, gone_back hB]
    simp only [mv, neg, Prod.mk.injEq]
    omega
  have e1 : mv (Ti01.gone Z) (neg (Ti01.gone X)) = mv (Ti01.gone (Y ++ Z)) (neg (Ti01.gone (X ++ Y))) := by
    rw [gone_append, gone_append]
    simp only [mv, neg, Prod.mk.injEq]
    omega
  have e2 : mv (Ti01.gone (Ti01.back Z)) (neg (Ti01.gone (Ti01.back X))) = mv (Ti01.gone (X ++ Y)) (neg (Ti01.gone (Y ++ Z))) := by
    rw [gone_append, gone_append, gone_back hX, gone_back hZ]
    simp only [mv, neg, Prod.mk.injEq]
    omega
  have e3 : neg (neg (Ti01.gone (X ++ Y))) = Ti01.gone (X ++ Y) := by
    simp only [neg, Int.neg_neg]
  have S1 : Six X Y Z L := ⟨lv, by rw [e1]; exact la _ _ lv (ln _ lu), ln _ lu⟩
  have S2 : Six (Ti01.back X) (Ti01.back Y) (Ti01.back Z) L := ⟨by rw [e0 _ _ hY hZ]; exact ln _ lv, by rw [e2]; exact la _ _ lu (ln _ lv), by rw [e0 _ _ hX hY, e3]; exact lu⟩
  unfold hexa at *
  rw [sts_append, List.mem_append] at hx
  rw [sts_append]
  rcases hx with hx | hx
  · obtain ⟨m, hm, h⟩ := half_pair S1 hX hY hZ P hx
    exact ⟨m, hm, List.mem_append_right _ h⟩
  · obtain ⟨m, hm, h⟩ := half_pair S2 (back_ways X) (back_ways Y) (back_ways Z) _ hx
    refine ⟨m, hm, List.mem_append_left _ ?_⟩
    have cl : pt (pt P (X ++ (Y ++ Z))) (Ti01.back X ++ (Ti01.back Y ++ Ti01.back Z)) = P := by
      rw [pt_gone _ (Ti01.back X ++ _), pt_gone P, gone_append, gone_append, gone_append, gone_append, gone_back hX, gone_back hY, gone_back hZ]
      simp only [mv, neg]
      exact Prod.ext (by simp only; omega) (by simp only; omega)
    rw [cl, back_back hX, back_back hY, back_back hZ] at h
    exact h
theorem hexa_area {X Y Z : List Nat} (hX : Ways X) (hY : Ways Y) (hZ : Ways Z) (P : Cell) :
    ars (sts P (hexa X Y Z)) = (Ti01.gone (X ++ Y)).1 * (Ti01.gone (Y ++ Z)).2 - (Ti01.gone (X ++ Y)).2 * (Ti01.gone (Y ++ Z)).1 := by
  have go : ∀ (W : List Nat) (p q m : Cell), Ways W → mv m (pt p W) = q → ars (sts q (Ti01.back W)) = -ars (sts p W) - m.1 * (Ti01.gone W).2 := by
    intro W p q m hW e
    rw [← e, ars_mv _ _ (back_ways W), ars_back hW, pt_back hW, pt_gone p W]
    simp only [mv]
    have : p.2 - ((Ti01.gone W).2 + p.2) = -(Ti01.gone W).2 := by omega
    first | rw [this, Int.mul_neg] | (rw [Int.add_comm p.2, this, Int.mul_neg])
    omega
  unfold hexa
  rw [sts_append, sts_append, sts_append, sts_append, sts_append, ars_append, ars_append, ars_append, ars_append, ars_append]
  rw [go X P _ (Ti01.gone (Y ++ Z)) hX (by rw [pt_append, pt_gone (pt P X) (Y ++ Z), mv_comm])]
  rw [go Y (pt P X) _ (mv (Ti01.gone Z) (neg (Ti01.gone X))) hY (by
    rw [pt_gone _ (Ti01.back X), gone_back hX, pt_gone P (X ++ (Y ++ Z)), gone_append, gone_append, pt_gone _ Y, pt_gone P X]
    simp only [mv, neg, Prod.mk.injEq]
    omega)]
  rw [go Z (pt (pt P X) Y) _ (neg (Ti01.gone (X ++ Y))) hZ (by
    rw [pt_gone _ (Ti01.back Y), pt_gone _ (Ti01.back X), gone_back hX, gone_back hY, pt_gone P (X ++ (Y ++ Z)), gone_append, gone_append, gone_append, pt_gone _ Z, pt_gone _ Y, pt_gone P X]
    simp only [mv, neg, Prod.mk.injEq]
    omega)]
  rw [gone_append, gone_append]
  simp only [mv, neg]
  generalize ars (sts P X) = A
  generalize ars (sts (pt P X) Y) = B
  generalize ars (sts (pt (pt P X) Y) Z) = C
  generalize (Ti01.gone X).1 = x1
  generalize (Ti01.gone X).2 = x2
  generalize (Ti01.gone Y).1 = y1
  generalize (Ti01.gone Y).2 = y2
  generalize (Ti01.gone Z).1 = z1
  generalize (Ti01.gone Z).2 = z2
  grind
end Om
namespace Om
open Ti01 (Cell Grid)
/-! ## grids -/
structure InL (g : Grid) (m : Cell) : Prop where
  ex : ∃ k j : Int, m.1 = k * (g.b : Int) + j * (g.a : Int) ∧ m.2 = k * (g.d : Int)
theorem InL.add {g : Grid} {m n : Cell} (h : InL g m) (h' : InL g n) : InL g (mv m n) := by
  obtain ⟨k, j, e1, e2⟩ := h.ex
  obtain ⟨k', j', e1', e2'⟩ := h'.ex
  refine ⟨k' + k, j' + j, ?_, ?_⟩
  · simp only [mv, e1, e1', Int.add_mul]; omega
  · simp only [mv, e2, e2', Int.add_mul]
theorem InL.neg {g : Grid} {m : Cell} (h : InL g m) : InL g (neg m) := by
  obtain ⟨k, j, e1, e2⟩ := h.ex
  refine ⟨-k, -j, ?_, ?_⟩
  · simp only [Om.neg, e1, Int.neg_mul]; omega
  · simp only [Om.neg, e2, Int.neg_mul]
theorem home_eq {g : Grid} (c : Cell) : Ti01.home g c = ((c.1 - c.2 / (g.d : Int) * (g.b : Int)) % (g.a : Int), c.2 - c.2 / (g.d : Int) * (g.d : Int)) := by
  unfold Ti01.home
  show ((c.1 - c.2.fdiv (g.d : Int) * (g.b : Int)).fmod (g.a : Int), c.2 - c.2.fdiv (g.d : Int) * (g.d : Int)) = _
  rw [Int.fdiv_eq_ediv_of_nonneg _ (Int.natCast_nonneg _), Int.fmod_eq_emod_of_nonneg _ (Int.natCast_nonneg _)]
theorem home_mv {g : Grid} (hd : 0 < g.d) {m : Cell} (h : InL g m) (c : Cell) : Ti01.home g (mv m c) = Ti01.home g c := by
  obtain ⟨k, j, e1, e2⟩ := h.ex
  rw [home_eq, home_eq]
  have d0 : (g.d : Int) ≠ 0 := by omega
  have e3 : (mv m c).2 / (g.d : Int) = c.2 / (g.d : Int) + k := by
    show (c.2 + m.2) / (g.d : Int) = _
    rw [e2, Int.add_mul_ediv_right _ _ d0]
  rw [e3]
  refine Prod.ext ?_ ?_
  · show (c.1 + m.1 - (c.2 / (g.d : Int) + k) * (g.b : Int)) % (g.a : Int) = _
    rw [e1, Int.add_mul]
    have : c.1 + (k * (g.b : Int) + j * (g.a : Int)) - (c.2 / (g.d : Int) * (g.b : Int) + k * (g.b : Int)) = c.1 - c.2 / (g.d : Int) * (g.b : Int) + j * (g.a : Int) := by omega
    rw [this, Int.add_mul_emod_self_right]
  · show c.2 + m.2 - (c.2 / (g.d : Int) + k) * (g.d : Int) = c.2 - c.2 / (g.d : Int) * (g.d : Int)
    rw [e2, Int.add_mul]
    omega
theorem home_inL {g : Grid} {t c : Cell} (h : Ti01.home g t = Ti01.home g c) : ∃ m, InL g m ∧ c = mv m t := by
  rw [home_eq, home_eq] at h
  obtain ⟨h1, h2⟩ := Prod.mk.inj h
  refine ⟨(c.1 - t.1, c.2 - t.2), ⟨c.2 / (g.d : Int) - t.2 / (g.d : Int), ?_⟩, ?_⟩
  · have dv : (g.a : Int) ∣ (c.1 - c.2 / (g.d : Int) * (g.b : Int)) - (t.1 - t.2 / (g.d : Int) * (g.b : Int)) := by
      apply Int.dvd_of_emod_eq_zero
      rw [Int.sub_emod, h1]
      simp
    obtain ⟨j, hj⟩ := dv
    rw [Int.mul_comm (g.a : Int)] at hj
    exact ⟨j, by simp only [Int.sub_mul]; omega, by simp only [Int.sub_mul]; omega⟩
  · simp only [mv]
    exact Prod.ext (by simp only; omega) (by simp only; omega)
theorem home_zero (g : Grid) : Ti01.home g (0, 0) = (0, 0) := by
  rw [home_eq]
  simp
theorem isIn_iff {g : Grid} (hd : 0 < g.d) {m : Cell} : Ti01.isIn g m = true ↔ InL g m := by
  unfold Ti01.isIn
  rw [beq_iff_eq]
  have e0 : mv m (0, 0) = m := by simp [mv]
  constructor
  · intro h
    obtain ⟨n, hn, e⟩ := home_inL ((home_zero g).trans h.symm)
    have : n = m := by
      rw [e]
      simp [mv]
    rw [← this]
    exact hn
  · intro h
    rw [← e0, home_mv hd h, home_zero]
theorem home_rng {g : Grid} (ha : 0 < g.a) (hd : 0 < g.d) (c : Cell) : (0 ≤ (Ti01.home g c).1 ∧ (Ti01.home g c).1 < (g.a : Int)) ∧ 0 ≤ (Ti01.home g c).2 ∧ (Ti01.home g c).2 < (g.d : Int) := by
  rw [home_eq]
  have d0 : (g.d : Int) ≠ 0 := by omega
  have a0 : (g.a : Int) ≠ 0 := by omega
  have h1 := Int.emod_nonneg (c.1 - c.2 / (g.d : Int) * (g.b : Int)) a0
  have h2 := Int.emod_lt_of_pos (c.1 - c.2 / (g.d : Int) * (g.b : Int)) (show (0 : Int) < (g.a : Int) by omega)
  have h3 := Int.emod_nonneg c.2 d0
  have h4 := Int.emod_lt_of_pos c.2 (show (0 : Int) < (g.d : Int) by omega)
  have h5 := Int.emod_add_mul_ediv c.2 (g.d : Int)
  rw [Int.mul_comm] at h5
  simp only
  omega
theorem home_self {g : Grid} {c : Cell} (h : (0 ≤ c.1 ∧ c.1 < (g.a : Int)) ∧ 0 ≤ c.2 ∧ c.2 < (g.d : Int)) : Ti01.home g c = c := by
  rw [home_eq, Int.ediv_eq_zero_of_lt h.2.1 h.2.2]
  simp only [Int.zero_mul, Int.sub_zero]
  rw [Int.emod_eq_of_lt h.1.1 h.1.2]
/-! ### as many squares as homes -/
def reps (g : Grid) : List Cell := (List.range g.a).flatMap fun x => (List.range g.d).map fun y => (((x : Nat) : Int), ((y : Nat) : Int))
theorem mem_reps {g : Grid} {c : Cell} : c ∈ reps g ↔ (0 ≤ c.1 ∧ c.1 < (g.a : Int)) ∧ 0 ≤ c.2 ∧ c.2 < (g.d : Int) := by
  obtain ⟨x, y⟩ := c
  unfold reps
  simp only [List.mem_flatMap, List.mem_range, List.mem_map, Prod.mk.injEq]
  constructor
  · rintro ⟨i, hi, j, hj, rfl, rfl⟩
    omega
  · rintro ⟨⟨h1, h2⟩, h3, h4⟩
    exact ⟨x.toNat, by omega, y.toNat, by omega, by omega, by omega⟩
theorem flat_nodup {α β : Type} {f : α → List β} (k : β → α) : ∀ {l : List α}, l.Nodup → (∀ a ∈ l, (f a).Nodup) → (∀ a ∈ l, ∀ b ∈ f a, k b = a) → (l.flatMap f).Nodup
  | [], _, _, _ => List.nodup_nil
  | a :: l, nd, h1, h2 => by
    obtain ⟨n1, n2⟩ := List.nodup_cons.mp nd
    rw [List.flatMap_cons, List.nodup_append]
    refine ⟨h1 a List.mem_cons_self, flat_nodup k n2 (fun x hx => h1 x (List.mem_cons_of_mem _ hx)) fun x hx => h2 x (List.mem_cons_of_mem _ hx), fun x hx y hy e => ?_⟩
    obtain ⟨b, hb, hy⟩ := List.mem_flatMap.mp hy
    subst e
    have e1 := h2 a List.mem_cons_self x hx
    have e2 := h2 b (List.mem_cons_of_mem _ hb) x hy
    exact n1 (by rw [← e1, e2]; exact hb)
theorem reps_nodup (g : Grid) : (reps g).Nodup := by
  refine flat_nodup (fun c => c.1.toNat) List.nodup_range (fun a _ => nodup_map_on (fun x _ y _ e => ?_) List.nodup_range) fun a _ b hb => ?_
  · simp only [Prod.mk.injEq] at e
    omega
  · obtain ⟨y, _, rfl⟩ := List.mem_map.mp hb
    simp
theorem reps_length (g : Grid) : (reps g).length = g.a * g.d := by
  unfold reps
  generalize g.a = a
  induction a with
  | zero => simp
  | succ a ih =>
    rw [List.range_succ, List.flatMap_append, List.length_append, ih, List.flatMap_cons, List.flatMap_nil, List.append_nil, List.length_map, List.length_range, Nat.succ_mul]
theorem sub_nodup {α : Type} [DecidableEq α] : ∀ {m l : List α}, l.Nodup → (∀ x ∈ l, x ∈ m) → m.length ≤ l.length → m.Nodup
  | [], _, _, _, _ => List.nodup_nil
  | y :: m, l, nd, h, hl => by
    simp only [List.length_cons] at hl
    rw [List.nodup_cons]
    have hy : y ∉ m := fun hin => by
      have := sub_len (l := l) (m := m) nd fun x hx => by
        rcases List.mem_cons.mp (h x hx) with rfl | k
        · exact hin
        · exact k
      omega
    refine ⟨hy, sub_nodup (l := l.erase y) (nd.erase y) (fun x hx => ?_) ?_⟩
    · have hx' := List.mem_of_mem_erase hx
      rcases List.mem_cons.mp (h x hx') with rfl | k
      · exact absurd rfl (List.Nodup.mem_erase_iff nd |>.mp hx).1
      · exact k
    · have := List.length_erase_of_mem (a := y) (l := l)
      by_cases e : y ∈ l
      · have := this e
        omega
      · rw [List.erase_of_not_mem e]
        omega
theorem different_iff {l : List Cell} : Ti01.different l = true ↔ l.Nodup := by
  induction l with
  | nil => simp [Ti01.different]
  | cons c r ih =>
    simp only [Ti01.different, Bool.and_eq_true, ih, List.nodup_cons, Bool.not_eq_true', List.contains_eq_mem, decide_eq_false_iff_not]
/-! ### what covers -/
structure Cover (s : List Cell) (g : Grid) : Prop where
  a : 0 < g.a
  d : 0 < g.d
  b : g.b < g.a
  ad : g.a * g.d = s.length
  nd : (s.map (Ti01.home g)).Nodup
theorem mem_grids {s : List Cell} {g : Grid} : g ∈ Ti01.grids s ↔ 0 < s.length ∧ Cover s g := by
  unfold Ti01.grids
  simp only [List.mem_flatMap, List.mem_range]
  constructor
  · rintro ⟨i, hi, h⟩
    split at h
    · rename_i hm
      obtain ⟨h1, h2⟩ := List.mem_filter.mp h
      obtain ⟨b, hb, rfl⟩ := List.mem_map.mp h1
      unfold Ti01.covers at h2
      rw [Bool.and_eq_true, beq_iff_eq, different_iff] at h2
      refine ⟨by omega, by show 0 < i + 1; omega, Nat.pos_of_ne_zero fun z => ?_, List.mem_range.mp hb, h2.1, h2.2⟩
      have h3 := h2.1
      rw [z] at h3
      omega
    · simp at h
  · rintro ⟨hn, C⟩
    have e : s.length % g.a = 0 := by rw [← C.ad]; exact Nat.mul_mod_right _ _
    have e2 : s.length / g.a = g.d := by rw [← C.ad]; exact Nat.mul_div_cancel_left _ C.a
    have le : g.a ≤ s.length := by
      rw [← C.ad]
      exact Nat.le_mul_of_pos_right _ C.d
    have e3 : g.a - 1 + 1 = g.a := by have := C.a; omega
    refine ⟨g.a - 1, by have := C.a; omega, ?_⟩
    rw [e3, if_pos e, e2, List.mem_filter]
    refine ⟨List.mem_map.mpr ⟨g.b, List.mem_range.mpr C.b, rfl⟩, ?_⟩
    unfold Ti01.covers
    rw [Bool.and_eq_true, beq_iff_eq, different_iff]
    exact ⟨C.ad, C.nd⟩
/-- one square of the shape, just, comes to lie on each square -/
theorem cover_one {s : List Cell} {g : Grid} (C : Cover s g) (c : Cell) : ∃ t ∈ s, Ti01.home g t = Ti01.home g c := by
  have h := sub_all C.nd (m := reps g) (fun x hx => by
    obtain ⟨t, _, rfl⟩ := List.mem_map.mp hx
    exact mem_reps.mpr (home_rng C.a C.d t)) (by rw [reps_length, C.ad, List.length_map]; exact Nat.le_refl _) (Ti01.home g c) (mem_reps.mpr (home_rng C.a C.d c))
  exact List.mem_map.mp h
/-! ### the shape covers by a grid that has a cut's moves -/
theorem left_opp (p : Cell) {d : Nat} (h : d < 4) : Ti01.leftOf (Ti01.ahead p d) (opp d) = Ti01.rightOf p d := by
  obtain ⟨a, b⟩ := p
  rcases lt4 h with rfl | rfl | rfl | rfl <;> simp [opp, Ti01.leftOf, Ti01.rightOf, Ti01.ahead]
theorem left_mv (m p : Cell) (d : Nat) : Ti01.leftOf (mv m p) d = mv m (Ti01.leftOf p d) := by
  obtain ⟨a, b⟩ := p
  obtain ⟨x, y⟩ := m
  unfold Ti01.leftOf mv
  split <;> simp <;> omega
def Paired (s : List Cell) (g : Grid) : Prop := ∀ x, bnd s x → ∃ m, InL g m ∧ bnd s (mv m (Ti01.ahead x.1 x.2), opp x.2)
def Cov (s : List Cell) (g : Grid) (c : Cell) : Prop := ∃ t ∈ s, Ti01.home g t = Ti01.home g c
theorem cov_way {s : List Cell} {g : Grid} (hd : 0 < g.d) (hp : Paired s g) {c : Cell} (h : Cov s g c) {w : Nat} (hw : w < 4) : Cov s g (Ti01.ahead c w) := by
  obtain ⟨t, ht, e⟩ := h
  obtain ⟨m, hm, rfl⟩ := home_inL e
  have e2 : Ti01.home g (Ti01.ahead (mv m t) w) = Ti01.home g (Ti01.ahead t w) := by rw [ahead_mv, home_mv hd hm]
  by_cases hin : Ti01.ahead t w ∈ s
  · exact ⟨_, hin, e2.symm⟩
  · obtain ⟨n, hn, hb⟩ := hp _ ((bnd_side hw).mpr ⟨ht, hin⟩)
    have k := hb.2.1
    obtain ⟨l1, l2, l3⟩ := left_side t hw
    simp only at k
    rw [left_mv, left_opp _ l3, l2] at k
    exact ⟨_, k, by rw [home_mv hd hn, e2]⟩
theorem cov_all {s : List Cell} {g : Grid} (hd : 0 < g.d) (hp : Paired s g) {c : Cell} (h : Cov s g c) (x : Cell) : Cov s g x := by
  have r : ∀ (n : Nat) (c : Cell), Cov s g c → Cov s g (c.1 + n, c.2) ∧ Cov s g (c.1, c.2 + n) ∧ Cov s g (c.1 - n, c.2) ∧ Cov s g (c.1, c.2 - n) := by
    intro n
    induction n with
    | zero =>
      intro c h
      simp only [Int.natCast_zero, Int.add_zero, Int.sub_zero]
      exact ⟨h, h, h, h⟩
    | succ n ih =>
      intro c h
      obtain ⟨h1, h2, h3, h4⟩ := ih c h
      have e1 : ∀ z : Int, z + ((n + 1 : Nat) : Int) = z + n + 1 := fun z => by omega
      have e2 : ∀ z : Int, z - ((n + 1 : Nat) : Int) = z - n - 1 := fun z => by omega
      simp only [e1, e2]
      exact ⟨cov_way hd hp h1 (w := 0) (by decide), cov_way hd hp h2 (w := 1) (by decide), cov_way hd hp h3 (w := 2) (by decide), cov_way hd hp h4 (w := 3) (by decide)⟩
  obtain ⟨a, b⟩ := c
  obtain ⟨x, y⟩ := x
  have hx : Cov s g (x, b) := by
    by_cases e : a ≤ x
    · have := (r (x - a).toNat (a, b) h).1
      have z : a + ((x - a).toNat : Int) = x := by omega
      simp only [z] at this
      exact this
    · have := (r (a - x).toNat (a, b) h).2.2.1
      have z : a - ((a - x).toNat : Int) = x := by omega
      simp only [z] at this
      exact this
  by_cases e : b ≤ y
  · have := (r (y - b).toNat (x, b) hx).2.1
    have z : b + ((y - b).toNat : Int) = y := by omega
    simp only [z] at this
    exact this
  · have := (r (b - y).toNat (x, b) hx).2.2.2
    have z : b - ((b - y).toNat : Int) = y := by omega
    simp only [z] at this
    exact this
theorem paired_cover {s : List Cell} {g : Grid} (hs : s ≠ []) (ha : 0 < g.a) (hd : 0 < g.d) (hb : g.b < g.a) (had : g.a * g.d = s.length) (hp : Paired s g) : Cover s g := by
  refine ⟨ha, hd, hb, had, sub_nodup (reps_nodup g) (fun c hc => ?_) (by rw [List.length_map, reps_length, had]; exact Nat.le_refl _)⟩
  cases s with
  | nil => exact absurd rfl hs
  | cons t r =>
    obtain ⟨u, hu, e⟩ := cov_all hd hp (c := t) ⟨t, List.mem_cons_self, rfl⟩ c
    rw [home_self (mem_reps.mp hc)] at e
    exact List.mem_map.mpr ⟨u, hu, e⟩
/-! ### a grid that has two moves -/
structure InZ (A B D : Int) (m : Cell) : Prop where
  ex : ∃ k j : Int, m.1 = k * B + j * A ∧ m.2 = k * D
theorem hnf : ∀ (n : Nat) (u v : Cell), v.2.natAbs ≤ n → u.1 * v.2 - u.2 * v.1 ≠ 0 → ∃ A B D : Int, 0 < A ∧ 0 < D ∧ (A * D = u.1 * v.2 - u.2 * v.1 ∨ A * D = -(u.1 * v.2 - u.2 * v.1)) ∧ InZ A B D u ∧ InZ A B D v := by
  have base : ∀ u v : Cell, v.2 = 0 → u.1 * v.2 - u.2 * v.1 ≠ 0 → ∃ A B D : Int, 0 < A ∧ 0 < D ∧ (A * D = u.1 * v.2 - u.2 * v.1 ∨ A * D = -(u.1 * v.2 - u.2 * v.1)) ∧ InZ A B D u ∧ InZ A B D v := by
    rintro ⟨x, y⟩ ⟨p, q⟩ hq hn
    simp only at hq hn
    subst hq
    have hy : y ≠ 0 := fun z => hn (by rw [z]; simp)
    have hp : p ≠ 0 := fun z => hn (by rw [z]; simp)
    by_cases sy : 0 < y <;> by_cases sp : 0 < p
    · exact ⟨p, x, y, sp, sy, .inr (by grind), ⟨1, 0, by simp, by simp⟩, ⟨0, 1, by simp, by simp⟩⟩
    · exact ⟨-p, x, y, by omega, sy, .inl (by grind), ⟨1, 0, by simp, by simp⟩, ⟨0, -1, by simp, by simp⟩⟩
    · exact ⟨p, -x, -y, sp, by omega, .inl (by grind), ⟨-1, 0, by simp, by simp⟩, ⟨0, 1, by simp, by simp⟩⟩
    · exact ⟨-p, -x, -y, by omega, by omega, .inr (by grind), ⟨-1, 0, by simp, by simp⟩, ⟨0, -1, by simp, by simp⟩⟩
  intro n
  induction n with
  | zero => exact fun u v h => base u v (by omega)
  | succ n ih =>
    intro u v h hn
    by_cases hz : v.2 = 0
    · exact base u v hz hn
    · obtain ⟨x, y⟩ := u
      obtain ⟨p, q⟩ := v
      simp only at h hn hz
      have hr := Int.emod_add_mul_ediv y q
      have r0 := Int.emod_nonneg y hz
      have r1 := Int.emod_lt y hz
      have key : p * (y % q) - q * (x - y / q * p) = -(x * q - y * p) := by
        have e : y % q = y - q * (y / q) := by omega
        rw [e]
        generalize y / q = k
        grind
      obtain ⟨A, B, D, hA, hD, hdet, hv, hu⟩ := ih (p, q) (x - y / q * p, y % q) (by simp only; omega) (by simp only; rw [key]; omega)
      simp only at hdet
      rw [key] at hdet
      refine ⟨A, B, D, hA, hD, ?_, ?_, hv⟩
      · simp only
        omega
      · obtain ⟨k, j, e1, e2⟩ := hv.ex
        obtain ⟨k', j', e1', e2'⟩ := hu.ex
        simp only at e1 e2 e1' e2'
        refine ⟨k' + y / q * k, j' + y / q * j, ?_, ?_⟩
        · simp only
          have : x = k' * B + j' * A + y / q * p := by omega
          rw [this, e1]
          generalize y / q = z
          grind
        · simp only
          have : y = k' * D + q * (y / q) := by omega
          generalize y / q = z at *
          rw [this, e2]
          grind
theorem grid_of {u v : Cell} {n : Nat} (hn : 0 < n) (h : u.1 * v.2 - u.2 * v.1 = (n : Int)) : ∃ g : Grid, 0 < g.a ∧ 0 < g.d ∧ g.b < g.a ∧ g.a * g.d = n ∧ InL g u ∧ InL g v := by
  obtain ⟨A, B, D, hA, hD, hdet, hu, hv⟩ := hnf v.2.natAbs u v (Nat.le_refl _) (by omega)
  have hAD : A * D = (n : Int) := by
    have : 0 < A * D := Int.mul_pos hA hD
    omega
  have a0 : A ≠ 0 := by omega
  have eA : ((A.toNat : Nat) : Int) = A := by omega
  have eD : ((D.toNat : Nat) : Int) = D := by omega
  have b0 := Int.emod_nonneg B a0
  have b1 := Int.emod_lt_of_pos B hA
  have eB : (((B % A).toNat : Nat) : Int) = B % A := by omega
  have tr : ∀ m, InZ A B D m → InL ⟨A.toNat, (B % A).toNat, D.toNat⟩ m := by
    rintro m ⟨k, j, e1, e2⟩
    refine ⟨k, j + k * (B / A), ?_, ?_⟩
    · simp only [eA, eB]
      have := Int.emod_add_mul_ediv B A
      have e : B % A = B - A * (B / A) := by omega
      rw [e, e1]
      generalize B / A = z
      grind
    · simp only [eD]
      exact e2
  refine ⟨⟨A.toNat, (B % A).toNat, D.toNat⟩, by simp only; omega, by simp only; omega, by simp only; omega, ?_, tr u hu, tr v hv⟩
  have : ((A.toNat * D.toNat : Nat) : Int) = (n : Int) := by
    rw [Int.natCast_mul, eA, eD, hAD]
  exact Int.ofNat.inj this
end Om
namespace Om
open Ti01 (Cell Grid)
/-! ## cuts -/
def gives (w : List Nat) (a b : Nat) : Bool :=
  decide (w.drop (w.length / 2) = Ti01.back (w.take a) ++ (Ti01.back ((w.drop a).take b) ++ Ti01.back ((w.drop (a + b)).take (w.length / 2 - (a + b)))))
def isCutM (w : List Nat) (i a b : Nat) : Bool := decide (i < w.length / 2) && (decide (1 ≤ a) && (decide (1 ≤ b) && (decide (a + b ≤ w.length / 2) && gives (Ti01.from_ w i) a b)))
def cutsM (w : List Nat) : List (Nat × Nat × Nat) := (List.range (w.length / 2)).flatMap fun i => (List.range (w.length / 2 - 1)).flatMap fun a => ((List.range (w.length / 2 - (a + 1))).filter fun b => isCutM w i (a + 1) (b + 1)).map fun b => (i, a + 1, b + 1)
theorem from_length (w : List Nat) {i : Nat} : (Ti01.from_ w i).length = w.length := by
  unfold Ti01.from_
  rw [List.length_append, List.length_drop, List.length_take]
  omega
theorem parts_join (v : List Nat) {a b h : Nat} (hab : a + b ≤ h) : v.take a ++ ((v.drop a).take b ++ (v.drop (a + b)).take (h - (a + b))) = v.take h := by
  have e1 : (v.drop a).take b ++ (v.drop (a + b)).take (h - (a + b)) = (v.drop a).take (h - a) := by
    rw [← List.drop_drop, show h - a = b + (h - (a + b)) by omega, List.take_add]
  rw [e1, show h = a + (h - a) by omega, List.take_add]
  congr 2
  omega
theorem isCut_eq (v : List Nat) (a b : Nat) : Ti01.isCut v a b = (decide (a + b ≤ v.length / 2) && gives v a b) := by
  unfold Ti01.isCut gives
  simp only
  by_cases hab : a + b ≤ v.length / 2
  · have e : v.length / 2 - a - b = v.length / 2 - (a + b) := by omega
    rw [decide_eq_true hab, Bool.true_and, Bool.true_and, e, List.drop_drop]
    have j := parts_join v hab
    generalize hR : Ti01.back (v.take a) ++ (Ti01.back ((v.drop a).take b) ++ Ti01.back ((v.drop (a + b)).take (v.length / 2 - (a + b)))) = R
    have e2 : v.take a ++ ((v.drop a).take b ++ ((v.drop (a + b)).take (v.length / 2 - (a + b)) ++ R)) = v.take (v.length / 2) ++ R := by
      rw [← j]
      simp only [List.append_assoc]
    rw [e2]
    have e3 := List.take_append_drop (v.length / 2) v
    by_cases hd : v.drop (v.length / 2) = R
    · rw [decide_eq_true hd, ← hd, e3]
      exact beq_self_eq_true _
    · rw [decide_eq_false hd]
      refine beq_eq_false_iff_ne.mpr fun z => hd ?_
      exact List.append_cancel_left (e3.trans z)
  · rw [decide_eq_false hab, Bool.false_and, Bool.false_and]
theorem filter_range {p : Nat → Bool} {m : Nat} : ∀ {h : Nat}, m ≤ h → (∀ b, m ≤ b → b < h → p b = false) → (List.range h).filter p = (List.range m).filter p
  | 0, hm, _ => by
    have : m = 0 := by omega
    rw [this]
  | h + 1, hm, hp => by
    by_cases e : m = h + 1
    · rw [e]
    · rw [List.range_succ, List.filter_append, filter_range (m := m) (h := h) (by omega) fun b h1 h2 => hp b h1 (by omega)]
      simp [hp h (by omega) (by omega)]
theorem flatMap_congr' {α β : Type} {f g : α → List β} : ∀ {l : List α}, (∀ x ∈ l, f x = g x) → l.flatMap f = l.flatMap g
  | [], _ => rfl
  | a :: l, h => by rw [List.flatMap_cons, List.flatMap_cons, h a List.mem_cons_self, flatMap_congr' fun x hx => h x (List.mem_cons_of_mem _ hx)]
theorem cuts_eq (w : List Nat) : Ti01.cuts w = cutsM w := by
  unfold Ti01.cuts cutsM
  refine flatMap_congr' fun i hi => ?_
  have hi' := List.mem_range.mp hi
  have hL : (Ti01.from_ w i).length = w.length := from_length w
  have inner : ∀ a, a < w.length / 2 → ((List.range (w.length / 2)).filter fun b => Ti01.isCut (Ti01.from_ w i) (a + 1) (b + 1)) = (List.range (w.length / 2 - (a + 1))).filter fun b => isCutM w i (a + 1) (b + 1) := fun a ha => by
    rw [filter_range (m := w.length / 2 - (a + 1)) (by omega) fun b h1 h2 => by
      rw [isCut_eq, hL, decide_eq_false (by omega), Bool.false_and]]
    refine List.filter_congr fun b hb => ?_
    have := List.mem_range.mp hb
    rw [isCut_eq, hL]
    unfold isCutM
    rw [decide_eq_true hi', decide_eq_true (show 1 ≤ a + 1 by omega), decide_eq_true (show 1 ≤ b + 1 by omega), Bool.true_and, Bool.true_and, Bool.true_and]
  obtain ⟨h, hh⟩ : ∃ h, w.length / 2 = h + 1 := ⟨w.length / 2 - 1, by omega⟩
  rw [hh] at inner ⊢
  rw [List.range_succ, List.flatMap_append, show h + 1 - 1 = h by omega]
  rw [List.flatMap_cons, List.flatMap_nil, List.append_nil]
  have last : ((List.range (h + 1)).filter fun b => Ti01.isCut (Ti01.from_ w i) (h + 1) (b + 1)) = [] := by
    rw [inner h (by omega), Nat.sub_self]
    rfl
  rw [← List.range_succ, last, List.map_nil, List.append_nil]
  refine flatMap_congr' fun a ha => ?_
  rw [inner a (by have := List.mem_range.mp ha; omega)]
theorem mem_cuts {w : List Nat} {i a b : Nat} : (i, a, b) ∈ Ti01.cuts w ↔ isCutM w i a b = true := by
  rw [cuts_eq]
  unfold cutsM
  simp only [List.mem_flatMap, List.mem_range, List.mem_map, List.mem_filter, Prod.mk.injEq]
  constructor
  · rintro ⟨i', _, a', _, b', ⟨_, h⟩, rfl, rfl, rfl⟩
    exact h
  · intro h
    have h' := h
    unfold isCutM at h'
    simp only [Bool.and_eq_true, decide_eq_true_eq] at h'
    obtain ⟨h1, h2, h3, h4, _⟩ := h'
    have ea : a - 1 + 1 = a := by omega
    have eb : b - 1 + 1 = b := by omega
    exact ⟨i, h1, a - 1, by omega, b - 1, ⟨by omega, by rw [ea, eb]; exact h⟩, rfl, ea, eb⟩
/-! ## each cut makes a grid -/
theorem edge_ways {s : List Cell} (G : Good s) : Ways (Ti01.edge s) := by
  rw [(round G).edge]
  intro d hd
  obtain ⟨x, hx, rfl⟩ := List.mem_map.mp hd
  exact ((round G).mem x |>.mp hx).1
theorem edge_sts {s : List Cell} (G : Good s) : sts (Ti01.lowest s) (Ti01.edge s) = orb s (sides s) (start s) ∧ pt (Ti01.lowest s) (Ti01.edge s) = Ti01.lowest s := by
  have R := round G
  rw [R.edge]
  obtain ⟨h1, h2⟩ := sts_orb s (sides s) (start s)
  rw [R.back] at h2
  exact ⟨h1, h2⟩
theorem cut_det {s : List Cell} (G : Good s) {i a b : Nat} (h : (i, a, b) ∈ Ti01.cuts (Ti01.edge s)) :
    (Ti01.moves (Ti01.edge s) (i, a, b)).1.1 * (Ti01.moves (Ti01.edge s) (i, a, b)).2.2 - (Ti01.moves (Ti01.edge s) (i, a, b)).1.2 * (Ti01.moves (Ti01.edge s) (i, a, b)).2.1 = (s.length : Int) ∧
    ∀ g : Grid, InL g (Ti01.moves (Ti01.edge s) (i, a, b)).1 → InL g (Ti01.moves (Ti01.edge s) (i, a, b)).2 → Paired s g := by
  have hc := mem_cuts.mp h
  unfold isCutM at hc
  simp only [Bool.and_eq_true, decide_eq_true_eq] at hc
  obtain ⟨h1, h2, h3, h4, h5⟩ := hc
  have W := edge_ways G
  obtain ⟨hS, hcl⟩ := edge_sts G
  have hA := area G
  have hB := (round G).mem
  rw [← hS] at hB
  generalize Ti01.edge s = w at *
  have hL : (Ti01.from_ w i).length = w.length := from_length w
  have hv : Ti01.from_ w i = hexa ((Ti01.from_ w i).take a) (((Ti01.from_ w i).drop a).take b) (((Ti01.from_ w i).drop (a + b)).take (w.length / 2 - (a + b))) := by
    unfold gives at h5
    rw [decide_eq_true_eq, hL] at h5
    unfold hexa
    rw [parts_join _ h4, ← h5, List.take_append_drop]
  have m1 : (Ti01.moves w (i, a, b)).1 = Ti01.gone ((Ti01.from_ w i).take a ++ ((Ti01.from_ w i).drop a).take b) := by
    show Ti01.gone ((Ti01.from_ w i).take (a + b)) = _
    rw [List.take_add]
  have m2 : (Ti01.moves w (i, a, b)).2 = Ti01.gone (((Ti01.from_ w i).drop a).take b ++ ((Ti01.from_ w i).drop (a + b)).take (w.length / 2 - (a + b))) := by
    show Ti01.gone (((Ti01.from_ w i).drop a).take (w.length / 2 - a)) = _
    rw [← List.drop_drop, ← List.take_add]
    congr 2
    omega
  have wv : Ways (Ti01.from_ w i) := by
    unfold Ti01.from_
    exact ways_app.mpr ⟨fun d hd => W d (List.mem_of_mem_drop hd), fun d hd => W d (List.mem_of_mem_take hd)⟩
  have wX : Ways ((Ti01.from_ w i).take a) := fun d hd => wv d (List.mem_of_mem_take hd)
  have wY : Ways (((Ti01.from_ w i).drop a).take b) := fun d hd => wv d (List.mem_of_mem_drop (List.mem_of_mem_take hd))
  have wZ : Ways (((Ti01.from_ w i).drop (a + b)).take (w.length / 2 - (a + b))) := fun d hd => wv d (List.mem_of_mem_drop (List.mem_of_mem_take hd))
  -- gone round from another step, the same steps
  have eP : sts (Ti01.lowest s) w = sts (Ti01.lowest s) (w.take i) ++ sts (pt (Ti01.lowest s) (w.take i)) (w.drop i) := by
    rw [← sts_append, List.take_append_drop]
  have ePv : sts (pt (Ti01.lowest s) (w.take i)) (Ti01.from_ w i) = sts (pt (Ti01.lowest s) (w.take i)) (w.drop i) ++ sts (Ti01.lowest s) (w.take i) := by
    unfold Ti01.from_
    rw [sts_append, ← pt_append, List.take_append_drop, hcl]
  have mem : ∀ x, x ∈ sts (pt (Ti01.lowest s) (w.take i)) (Ti01.from_ w i) ↔ bnd s x := fun x => by
    rw [← hB, ePv, eP, List.mem_append, List.mem_append]
    exact Or.comm
  have ar : ars (sts (pt (Ti01.lowest s) (w.take i)) (Ti01.from_ w i)) = (s.length : Int) := by
    rw [← hA, ePv, eP, ars_append, ars_append]
    omega
  rw [m1, m2]
  generalize Ti01.from_ w i = v at *
  generalize hX : v.take a = X at *
  generalize hY : (v.drop a).take b = Y at *
  generalize hZ : (v.drop (a + b)).take (w.length / 2 - (a + b)) = Z at *
  rw [hv] at ar mem
  refine ⟨?_, fun g hu hv' x hx => ?_⟩
  · rw [← ar, hexa_area wX wY wZ]
  · obtain ⟨m, hm, hin⟩ := hexa_pair (L := InL g) wX wY wZ (fun _ h => h.neg) (fun _ _ h k => h.add k) hu hv' _ ((mem x).mpr hx)
    exact ⟨m, hm, (mem _).mp hin⟩
/-- the grid of a cut -/
theorem cut_grid {s : List Cell} (G : Good s) {i a b : Nat} (h : (i, a, b) ∈ Ti01.cuts (Ti01.edge s)) :
    ∃ g ∈ Ti01.grids s, Ti01.isIn g (Ti01.moves (Ti01.edge s) (i, a, b)).1 = true ∧ Ti01.isIn g (Ti01.moves (Ti01.edge s) (i, a, b)).2 = true := by
  obtain ⟨hd, hp⟩ := cut_det G h
  have hn : 0 < s.length := List.length_pos_iff.mpr G.ne
  obtain ⟨g, ga, gd, gb, gn, gu, gv⟩ := grid_of hn hd
  exact ⟨g, mem_grids.mpr ⟨hn, paired_cover G.ne ga gd gb gn (hp g gu gv)⟩, (isIn_iff gd).mpr gu, (isIn_iff gd).mpr gv⟩
end Om
namespace PySem
namespace RefX
open PySem.W PySem.Calls PyProof.Rows PySem.HandSPX
/-! ### the text of __init__ -/
def iA (p1 p2 : Pos) : Arguments := { posonlyargs := [], args := [{ arg := "self", annotation := none, pos := p1 }, { arg := "number", annotation := none, pos := p2 }], vararg := none, kwonlyargs := [], kw_defaults := [], kwarg := none, defaults := [] }
def iB (q1 q2 q3 q4 : Pos) : List Stmt := [.Assign [.Attribute (.Name "self" q1) "number" q2] (.Name "number" q3) q4]
def iS : Scope := { kind := .function, names := [(PySem.Str.ofString "self", .local), (PySem.Str.ofString "number", .local)], isGenerator := false, isCoroutine := false, more := [] }
/-- what the written part says of Refused, at C, and of its __init__, at fI -/
structure RefTxt (K : Frag) (mg : Str → Option Value) (C fI : Addr) : Prop where
  gC : mg "Refused" = some (.ref C)
  cls : ∃ nm q N bs bm sn sub ab col dd k0 k1 k2 k3 k5, K.lookup C = some (excClassObj nm q C N bs bm true sn sub ab col dd k0 k1 k2 k3 k5 "ValueError.__new__") ∧ refsVE bm = true
  sa : findIn K (.ref C) "__setattr__" = some (some (.builtin "object.__setattr__"))
  ga : findIn K (.ref C) "__getattribute__" = some (some (.builtin "BaseException.__getattribute__"))
  gg : findIn K (.ref C) "__getattr__" = some none
  noN : findIn K (.ref C) "number" = some none
  iC : findIn K (.ref C) "__init__" = some (some (.ref fI))
  tC : typeIn K (.ref fI) = some (.type "function")
  kC : keepIn K (.ref C) = true
  exC : subIn K (.ref C) (.type "BaseException") = some true
  tyC : typeIn K (.ref C) = some (.type "type")
  hdC : hasDictIn K C = true
  te : exmOne K (.ref C) (.ref C) = some true
  fn : ∃ (oc : Value) (od : Option Addr) (doc pm : Value) (an : Option Addr) (cdv ct : Value) (osl : Array (Option Value)) (p1 p2 q1 q2 q3 q4 : Pos),
    K.lookup fI = some ⟨oc, od, .func (fnOf "__init__" "Refused.__init__" (iA p1 p2) (iB q1 q2 q3 q4) iS .none .none doc pm an cdv ct), osl⟩ ∧ codeIn K cdv "Refused.__init__" = true
theorem one_size (v : Value) : [v].length ≤ sizeLine := by
  rw [sizeLine_eq]
  exact (by decide : 1 ≤ 16777216)
theorem kept_but {K : Frag} {h h' : Heap} {x : Addr} (X : K.In h) (hx : K.lookup x = none) (k : ∀ b o, b ≠ x → h.get? b = some o → h'.get? b = some o) : K.In h' := fun a o e =>
  k a o (fun z => by rw [z, hx] at e; cases e) (X a o e)
theorem ldC {M : Model} {s : Shared} {name : Str} {scope : Scope} {L a : Addr} {cd : Value} {m : Str → Option Value} {x : Str} {pos : Pos} {v : Value} {Q : Value → Shared → Prop} {A : Around} {E : Value → Shared → Prop} (hn : s.heap.Ns L m) (hv : m x = some v) (h : Q v s)
    (hk : scope.kind = .function := by rfl) (hl : (envOfC name scope L a cd).kindOf x = some .local := by rfl) (hd : (x == ("__debug__" : Str)) = false := by decide) :
    wpAny M A (eval (.Name x pos) (envOfC name scope L a cd)) Q E s := wpAny_Name (wpAny_loadName_local hk hl hn hv h) hd
/-- what __init__ leaves of a fresh exception at x -/
structure InitEnd (h h' : Heap) (x C dx t1 : Addr) (v : Value) : Prop where
  keep : ∀ b o, b ≠ x → h.get? b = some o → h'.get? b = some o
  obj : h'.get? x = some { cls := .ref C, dict := some dx, data := .fields #[.ref t1, .none, .none, .none, .bool false, .none] }
  dbig : h.objs.size ≤ dx
  dne : dx ≠ x
  ns : h'.Ns1 dx (fun y => if y = "number" then some v else none)
/-- a made Refused -/
structure OwnMade (h h' : Heap) (e C d : Addr) (v : Value) : Prop where
  keep : ∀ b o, h.get? b = some o → h'.get? b = some o
  new : h.objs.size ≤ e
  obj : ∃ oe vs, h'.get? e = some oe ∧ oe.cls = .ref C ∧ oe.dict = some d ∧ oe.data = .fields vs ∧ vs[1]? = some .none
  dbig : h.objs.size ≤ d
  dne : d ≠ e
  ns : h'.Ns1 d (fun y => if y = "number" then some v else none)
section
variable {prog : Program} {w : World} {A : Around} {E : Value → Shared → Prop} {R : Result → Shared → Prop} {s : Shared} {K : Frag} {mg : Str → Option Value} {C fI : Addr}
theorem ref_init (T : RefTxt K mg C fI) {x t0 : Addr} {v : Value} (X : K.In s.heap) (hlim : s.heap.NoLimit) (hx : s.heap.get? x = some (excO C t0)) (hnx : K.lookup x = none) (hroom : A.depth < recursionLimit)
    (hq : ∀ h' tk dx, InitEnd s.heap h' x C dx t0 v → R (.ok (.ret .none)) { s with heap := h', toks := tk }) :
    codeAny (model prog w) A (.call (.ref fI) ⟨[.ref x, v], []⟩) R s := by
  obtain ⟨oc, od, doc, pm, an, cdv, ct, osl, p1, p2, q1, q2, q3, q4, ho, hcd⟩ := T.fn
  obtain ⟨nm, q, N, bs, bm, sn, sub, ab, col, dd, k0, k1, k2, k3, k5, hC, hbm⟩ := T.cls
  have hcl : clsIn K C = some { name := nm, bases := bs, mro := .ref C :: bm, ns := N, qualname := q, hasDict := true, slotNames := sn, subclasses := sub, abstract := ab, collection := col, hasDel := false } := by unfold clsIn; rw [hC] <;> rfl
  refine Att.call_fn (binds := [("self", .ref x), ("number", v)]) X hlim ho hcd hroom (BindsTo.of_eq (by first | rfl | with_unfolding_all rfl)) (by first | rfl | decide | with_unfolding_all rfl) (fun s₁ IC => ?_) rfl rfl rfl
  obtain ⟨h₁, tk₁, rfl⟩ := IC.toInCall.same
  have k : ∀ b o, s.heap.get? b = some o → h₁.get? b = some o := IC.toInCall.keep
  have hn := IC.toInCall.ns
  have hxL : s.heap.objs.size ≠ x := Nat.ne_of_gt (Heap.lt_size hx)
  have X₁ : K.In h₁ := X.keeps k
  have hx₁ := k _ _ hx
  -- self.number = number
  show wpAny _ _ (execs _ _) _ _ _
  refine wpAny_execs_cons (plainObj_wpAny_Assign_Attribute ?_)
  refine ldC (v := v) hn (by first | rfl | with_unfolding_all rfl | kernel_rfl) (ldC (v := .ref x) hn (by first | rfl | with_unfolding_all rfl | kernel_rfl) ?_)
  refine set_plain X₁ (ox := excO C t0) (od := none) ⟨hx₁, rfl, rfl, trivial⟩ T.sa ?_
  refine exc_osa X₁ hx₁ hcl (show refsVE (.ref C :: bm) = true from hbm) rfl T.noN (fun h₃ tk₃ dx k₃ dn dne hx₃ hn₃ => ?_)
  show wpAny _ _ (execs _ _) _ _ _
  have z : s.heap.objs.size < h₁.objs.size := hn.lt
  exact wpAny_execs_nil (hq h₃ tk₃ dx ⟨fun b o hb e => k₃ b o hb (k b o e), hx₃, Nat.le_of_lt (Nat.lt_of_lt_of_le z dn), dne, hn₃⟩)
theorem ref_made (T : RefTxt K mg C fI) {v : Value} (X : K.In s.heap) (hlim : s.heap.NoLimit) (hroom : A.depth + 1 < recursionLimit)
    (hq : ∀ h' tk e d, OwnMade s.heap h' e C d v → R (.ok (.ret (.ref e))) { s with heap := h', toks := tk }) :
    codeAny (model prog w) A (.call (.ref C) ⟨[v], []⟩) R s := by
  obtain ⟨nm, q, N, bs, bm, sn, sub, ab, col, dd, k0, k1, k2, k3, k5, hC, hbm⟩ := T.cls
  obtain ⟨hp, g, dr, tk, os⟩ := s
  have k : ∀ b o, hp.get? b = some o → ((hp.push (kdv_tup [v])).push (excO C hp.objs.size)).get? b = some o := fun b o e => Heap.get?_push_of_some _ (Heap.get?_push_of_some _ e)
  have hget : ((hp.push (kdv_tup [v])).push (excO C hp.objs.size)).get? (hp.objs.size + 1) = some (excO C hp.objs.size) := by heap_get
  have hnx : K.lookup (hp.objs.size + 1) = none := by
    cases e : K.lookup (hp.objs.size + 1) with
    | none => rfl
    | some o =>
      have z : hp.get? (hp.objs.size + 1) = some o := X _ _ e
      exact absurd (Nat.lt_of_succ_lt (Heap.lt_size z)) (Nat.lt_irrefl _)
  refine call_own F.excBase_ValueError (fun X => refsVE_contains X bm hbm) (X _ _ hC) (looks_findIn X T.iC) (fun self => bind_fn X self T.tC) (one_size v) ?_
  refine ref_init (s := ⟨(hp.push (kdv_tup [v])).push (excO C hp.objs.size), g, dr, tk, os⟩) T (X.keeps k) (hlim.keeps k) hget hnx ?_ fun h' tk' dx ⟨k', hx, dn, dne, hns⟩ => ?_
  · show A.depth + 1 < recursionLimit
    exact hroom
  · have old : ∀ b o, hp.get? b = some o → h'.get? b = some o := fun b o e => k' b o (Nat.ne_of_lt (Nat.lt_succ_of_lt (Heap.lt_size e))) (k b o e)
    have z : hp.objs.size + 1 + 1 ≤ dx := by
      first
        | (simpa only [Heap.size_push] using dn)
        | exact dn
        | (have q := dn; rw [Heap.size_push, Heap.size_push] at q; exact q)
    exact ⟨rfl, hq h' tk' (hp.objs.size + 1) dx ⟨old, Nat.le_succ _, ⟨_, _, hx, rfl, rfl, rfl, rfl⟩, Nat.le_trans (Nat.le_trans (Nat.le_succ _) (Nat.le_succ _)) z, dne, hns⟩⟩
end
end RefX
end PySem
namespace L2
open PySem PySem.Spec PyProof.Rows
theorem relO_ref {v : V} {v' : Value} (r : RelV v v') (f : Str) : RelO (List.lookup f [(("number" : Str), v)]) (if f = "number" then some v' else none) := by
  by_cases hw : f = "number"
  · subst hw
    rw [if_pos rfl]
    have q : List.lookup ("number" : Str) [(("number" : Str), v)] = some v := by simp [List.lookup]
    rw [q]
    exact r
  · rw [if_neg hw]
    have qw : (f == ("number" : Str)) = false := by simpa using hw
    have q2 : List.lookup f [(("number" : Str), v)] = none := by simp [List.lookup, qw]
    rw [q2]
    trivial
section
variable {X : Cx} {C fI : Addr}
/-- Refused(e) -/
def tMkRef (C : Addr) (ta : TA) : St → Hp → XK → Prop := fun σ H Q => ta σ H fun vs H1 => ∃ v, vs = [v] ∧ ∀ d, H1 d = none → Q (.ref C) (some d) (upd H1 d (.xd [(("number" : Str), v)]))
theorem pmk_ref {a : Expr} {ta : TA} {p pos : Pos} {k : Nat} (T : PySem.RefX.RefTxt X.K X.mg C fI) (hr : Room k X.A) (ha : PA X [a] ta) (hg : Gl X "Refused" := by rfl)
    (he : starEach (a :: []) X.env = (false, eval a X.env) :: starEach [] X.env := by rfl) (hpl : (backTo pos (starEach [] X.env)).any (·.1) = false := by rfl) :
    PMk X (.Call (.Name "Refused" p) [a] [] pos) (tMkRef C ta) := by
  intro pins s σ H Q I h
  refine wpAny_Call_Name_kw (ld_glob I hg T.gC ?_)
  refine PySem.W.callWith_K (h₀ := X.base) I.ok.mod.kin T.kC (thn (ha.run pos pins s σ H _ I h) fun us s1 hh => ?_) he hpl
  obtain ⟨vs, H1, I1, r1, v, ev, q1⟩ := hh
  subst ev
  refine ⟨I1.kIn, ?_⟩
  cases r1 with
  | cons rv rn =>
    rename_i v' us'
    cases rn
    show wpAny _ _ (call (.ref C) [v']) _ _ _
    have hlim := I1.nolimit
    obtain ⟨hp, g, dr, tk, os⟩ := s1
    refine wpAny_call (PySem.RefX.ref_made T I1.kIn hlim (by have := hr.dp; omega) fun h' tk' e d M => ?_)
    show MkP X pins σ Q (.ref e) ⟨h', g, dr, tk', os⟩
    obtain ⟨oe, fv, hoe, hc, hd, hdat, h1⟩ := M.obj
    have hns := M.ns
    obtain ⟨G', g1, g2⟩ := restrict h' fun b => decide (b ≠ e)
    have gk : ∀ b, b ≠ e → G'.get? b = h'.get? b := fun b hb => g1 b (decide_eq_true hb)
    have ge : G'.get? e = none := g2 e (by simp)
    have old : ∀ b o, hp.get? b = some o → G'.get? b = some o := fun b o q => (gk b (Nat.ne_of_lt (Nat.lt_of_lt_of_le (Heap.lt_size q) M.new))).trans (M.keep b o q)
    have ob : ObjOk X.prog X.w (upd H1 d (.xd [(("number" : Str), v)])) G' d (.xd [(("number" : Str), v)]) :=
      ⟨_, hns.at (fun o q => (gk d M.dne).trans q), fun f => relO_ref rv f⟩
    have J : Inv X pins σ (upd H1 d (.xd [(("number" : Str), v)])) ⟨G', g, dr, tk', os⟩ := I1.laid (t' := tk') old M.dbig ob
    refine ⟨e, oe, fv, ⟨G', g, dr, tk', os⟩, _, .ref C, some d, rfl, J, fun b o q => ?_, ge, hoe, ⟨hc, hd⟩, hdat, h1, ?_, rfl, I1.bare, raises_own T.exC T.tyC, q1 d (I1.hok.fresh M.dbig)⟩
    · by_cases hb : b = e
      · have q' : G'.get? b = some o := q
        rw [hb, ge] at q'; cases q'
      · exact (gk b hb).symm.trans q
    · rw [upd_ne (Ne.symm M.dne)]
      exact I1.hok.fresh M.new
/-- raise Refused(e) -/
def tRaiseRef (C : Addr) (W : WX) (ta : TA) : TS := fun _ σ H => tMkRef C ta σ H fun cls d H' => W cls d σ H'
theorem ps_raiseRef {a : Expr} {ta : TA} {W : WX} {p pos pos2 : Pos} {k : Nat} (hc : X.calm = true) (T : PySem.RefX.RefTxt X.K X.mg C fI) (hr : Room k X.A) (tk : Takes X W) (ha : PA X [a] ta) (hg : Gl X "Refused" := by rfl)
    (he : starEach (a :: []) X.env = (false, eval a X.env) :: starEach [] X.env := by rfl) (hpl : (backTo pos (starEach [] X.env)).any (·.1) = false := by rfl) :
    PS X (.Raise (some (.Call (.Name "Refused" p) [a] [] pos)) none pos2) (tRaiseRef C W ta) := ps_raise hc tk (pmk_ref T hr ha hg he hpl)
/-- e.number, e the exception that the suite holds (at a; its class cls, its dict d) -/
def tNumRef (C : Addr) (a : Addr) (cls : Value) (d : Option Addr) (te : TE) : TE := fun σ H Q => te σ H fun x H1 => x = .ref a ∧ cls = .ref C ∧ ∃ (dd : Addr) (v : V), d = some dd ∧ H1 dd = some (.xd [(("number" : Str), v)]) ∧ Q v H1
theorem pe_numRef {a : Addr} {oe : Obj} {cls : Value} {d : Option Addr} {pn : List (Addr × Obj)} {e : Expr} {te : TE} {pos : Pos} (T : PySem.RefX.RefTxt X.K X.mg C fI) (hz : Zc cls d oe) (hf : ∃ vs, oe.data = .fields vs) (he : PE (X.suite a ((a, oe) :: pn)) e te)
    (hb : attributeBase e "number" X.env (eval e X.env) = eval e X.env := by rfl) :
    PE (X.suite a ((a, oe) :: pn)) (.Attribute e "number" pos) (tNumRef C a cls d te) := by
  refine ⟨fun pins s σ H Q I h => ?_⟩
  refine attr_of hb (thn (he.run pins s σ H _ I h) fun u s1 hh => ?_)
  obtain ⟨x, H1, I1, rx, ex, ec, dd, v, ed, ea, q⟩ := hh
  subst ex
  obtain rfl : u = Value.ref a := rx
  subst ec
  subst ed
  obtain ⟨ha, _⟩ := I1.pin (a, oe) (List.mem_append_left _ List.mem_cons_self)
  obtain ⟨vs, hd⟩ := hf
  have hx : ObjOk X.prog X.w H1 s1.heap dd (.xd [(("number" : Str), v)]) := I1.hok dd _ ea
  obtain ⟨mA, hns, hr⟩ := hx
  obtain ⟨od, ho, hl⟩ := lookIn_ns hns
  have l : List.lookup ("number" : Str) [(("number" : Str), v)] = some v := by simp [List.lookup]
  obtain ⟨u, hu, ru⟩ := RelO.some_of (v := v) (o := mA "number") (by rw [← l]; exact hr "number")
  have J : PySem.W.InstAt s1.heap a oe C (some od) := ⟨ha, hz.1, by unfold PySem.W.notCls; rw [hd] <;> rfl, by rw [hz.2]; exact ho⟩
  exact HandSPX.exc_get I1.kIn J T.ga T.gg T.exC (PySem.W.findObj_own T.hdC T.noN rfl (by rw [hl, hu])) (handed_of ru) ⟨v, H1, I1.tok _, ru, q⟩
end
end L2
namespace L2
open PySem PySem.Spec PyProof.Rows
/-- an if whose test is known -/
theorem if_true_of {c : Bool} {A B : Prop} (hc : c = true) (h : A) : if c = true then A else B := by
  rw [if_pos hc]
  exact h
theorem if_false_of {c : Bool} {A B : Prop} (hc : c = false) (h : B) : if c = true then A else B := by
  rw [hc, if_neg Bool.false_ne_true]
  exact h
end L2
/-! ## the heap's words: tuples and lists of whole numbers, lists of such tuples -/
namespace Oc
open PySem PySem.Spec PyProof.Rows L2
/-- at t a tuple of these -/
def Tp (H : Hp) (t : Addr) (ns : List Int) : Prop := H t = some (.tup (ns.map V.int))
/-- at a a list of these -/
def Il (H : Hp) (a : Addr) (ns : List Int) : Prop := H a = some (.lst (ns.map V.int))
abbrev Tps (H : Hp) (ts : List Addr) (rows : List (List Int)) : Prop := PySem.Paired (Tp H) ts rows
/-- at a a list of tuples -/
def Rw (H : Hp) (a : Addr) (rows : List (List Int)) : Prop := ∃ ts : List Addr, H a = some (.lst (ts.map V.ref)) ∧ Tps H ts rows
theorem Tp.same {H H' : Hp} {t : Addr} {ns : List Int} (h : Tp H t ns) (s : Same H H') : Tp H' t ns := s _ _ h
theorem Il.same {H H' : Hp} {t : Addr} {ns : List Int} (h : Il H t ns) (s : Same H H') : Il H' t ns := s _ _ h
theorem Tps.same {H H' : Hp} {ts : List Addr} {rows : List (List Int)} (h : Tps H ts rows) (s : Same H H') : Tps H' ts rows := Paired.mapP h fun _ _ q => q.same s
theorem Rw.same {H H' : Hp} {a : Addr} {rows : List (List Int)} (h : Rw H a rows) (s : Same H H') : Rw H' a rows := let ⟨ts, h1, h2⟩ := h; ⟨ts, s _ _ h1, Tps.same h2 s⟩
theorem Tp.sq {K : PySem.W.Frag} {H : Hp} {t : Addr} {ns : List Int} (h : Tp H t ns) : SqT K H t (ns.map V.int) := .of h
theorem Il.sq {K : PySem.W.Frag} {H : Hp} {t : Addr} {ns : List Int} (h : Il H t ns) : SqL K H t (ns.map V.int) := .of h
theorem same_new {H : Hp} {p : Addr} {o : HO} (h : H p = none) : Same H (upd H p o) := fun b u e => by
  rw [upd_ne (ne_of_none e h)]
  exact e
theorem Same.new {H H' : Hp} {p : Addr} {o : HO} (s : Same H H') (h : H' p = none) : Same H (upd H' p o) := s.trans (same_new h)
/-- what was not tracked then may change -/
theorem Same.put {H H' : Hp} {p : Addr} {o : HO} (s : Same H H') (h : H p = none) : Same H (upd H' p o) := fun b u e => by
  rw [upd_ne (ne_of_none e h)]
  exact s b u e
theorem Tps.append {H : Hp} : ∀ {ts us : List Addr} {rs qs : List (List Int)}, Tps H ts rs → Tps H us qs → Tps H (ts ++ us) (rs ++ qs)
  | _, _, _, _, .nil, h => h
  | _, _, _, _, .cons r t, h => .cons r (Tps.append t h)
theorem Tps.len {H : Hp} {ts : List Addr} {rs : List (List Int)} (h : Tps H ts rs) : ts.length = rs.length := Paired.length h
theorem Tps.at {H : Hp} : ∀ {ts : List Addr} {rs : List (List Int)} {i : Nat} {r : List Int}, Tps H ts rs → rs[i]? = some r → ∃ t, ts[i]? = some t ∧ Tp H t r
  | _, _, _, _, .nil, e => by simp at e
  | _, _, 0, _, .cons h _, e => ⟨_, rfl, by simp at e; subst e; exact h⟩
  | _, _, i + 1, r, .cons _ t, e => Tps.at (i := i) (r := r) t (by simpa using e)
theorem Tps.of_at {H : Hp} : ∀ {ts : List Addr} {rs : List (List Int)} {i : Nat} {t : Addr}, Tps H ts rs → ts[i]? = some t → ∃ r, rs[i]? = some r ∧ Tp H t r
  | _, _, _, _, .nil, e => by simp at e
  | _, _, 0, _, .cons h _, e => ⟨_, rfl, by simp at e; subst e; exact h⟩
  | _, _, i + 1, t, .cons _ q, e => Tps.of_at (i := i) (t := t) q (by simpa using e)
/-- an item of a list of addresses, of ints -/
theorem ref_at {ts : List Addr} {i : Nat} {x : V} (h : (ts.map V.ref)[i]? = some x) : ∃ t, ts[i]? = some t ∧ x = .ref t := by
  rw [List.getElem?_map] at h
  cases e : ts[i]? with
  | none => rw [e] at h; cases h
  | some t => rw [e] at h; exact ⟨t, rfl, (Option.some.inj h).symm⟩
theorem int_at {ns : List Int} {i : Nat} {x : V} (h : (ns.map V.int)[i]? = some x) : ∃ n, ns[i]? = some n ∧ x = .int n := by
  rw [List.getElem?_map] at h
  cases e : ns[i]? with
  | none => rw [e] at h; cases h
  | some t => rw [e] at h; exact ⟨t, rfl, (Option.some.inj h).symm⟩
/-! ### == and in, of such data -/
def dI (ns : List Int) : List PyData := ns.map PyData.int
def dT (ns : List Int) : PyData := .tuple (dI ns)
theorem dI_lay : ∀ ns : List Int, PyData.canLayAll0 (dI ns) = true
  | [] => by simp [dI, PyData.canLayAll0]
  | n :: ns => by
    have := dI_lay ns
    simp only [dI, List.map_cons, PyData.canLayAll0, PyData.canLay0, Bool.true_and] at this ⊢
    exact this
theorem dI_depth : ∀ ns : List Int, PyData.depthAll (dI ns) = 0
  | [] => by simp [dI, PyData.depthAll]
  | n :: ns => by
    have := dI_depth ns
    simp only [dI, List.map_cons, PyData.depthAll, PyData.depth] at this ⊢
    omega
theorem dT_lay (ns : List Int) : (dT ns).canLay0 = true := by
  simp only [dT, PyData.canLay0]
  exact dI_lay ns
theorem dT_depth (ns : List Int) : (dT ns).depth = 1 := by
  simp only [dT, PyData.depth, dI_depth]
theorem dTs_lay : ∀ rs : List (List Int), PyData.canLayAll0 (rs.map dT) = true
  | [] => by simp [PyData.canLayAll0]
  | r :: rs => by simp [PyData.canLayAll0, dT_lay r, dTs_lay rs]
theorem dTs_depth : ∀ rs : List (List Int), PyData.depthAll (rs.map dT) ≤ 1
  | [] => by simp [PyData.depthAll]
  | r :: rs => by
    have h1 := dTs_depth rs
    have h2 := dT_depth r
    simp only [List.map_cons, PyData.depthAll]
    omega
theorem shaped_of {d : PyData} (h1 : d.canLay0 = true) (h2 : d.depth ≤ 64) : SeqAt.shaped d = true := by
  show (d.canLay0 && decide (d.depth ≤ 64)) = true
  rw [h1, decide_eq_true h2]
  rfl
theorem dT_shaped (ns : List Int) : SeqAt.shaped (dT ns) = true := shaped_of (dT_lay ns) (by rw [dT_depth]; decide)
theorem dIl_shaped (ns : List Int) : SeqAt.shaped (.list (dI ns)) = true := shaped_of (by simp only [PyData.canLay0]; exact dI_lay ns) (by simp only [PyData.depth, dI_depth]; decide)
theorem dRw_shaped (rs : List (List Int)) : SeqAt.shaped (.list (rs.map dT)) = true := shaped_of (by simp only [PyData.canLay0]; exact dTs_lay rs) (by
  have := dTs_depth rs
  simp only [PyData.depth]
  omega)
theorem dI_eqv : ∀ ns ms : List Int, PyData.eqvAll (dI ns) (dI ms) = decide (ns = ms)
  | [], [] => by simp [dI, PyData.eqvAll]
  | [], m :: ms => by simp [dI, PyData.eqvAll]
  | n :: ns, [] => by simp [dI, PyData.eqvAll]
  | n :: ns, m :: ms => by
    have ih := dI_eqv ns ms
    simp only [dI, List.map_cons, PyData.eqvAll, PyData.eqv] at ih ⊢
    rw [ih]
    by_cases h : n = m
    · subst h; simp
    · simp [h]
theorem dT_eqv (ns ms : List Int) : PyData.eqv (dT ns) (dT ms) = decide (ns = ms) := by
  simp only [dT, PyData.eqv]
  exact dI_eqv ns ms
theorem dIl_eqv (ns ms : List Int) : PyData.eqv (.list (dI ns)) (.list (dI ms)) = decide (ns = ms) := by
  simp only [PyData.eqv]
  exact dI_eqv ns ms
theorem dRw_nil (rs : List (List Int)) : PyData.eqv (.list (rs.map dT)) (.list []) = decide (rs = []) := by
  cases rs with
  | nil => simp [PyData.eqv, PyData.eqvAll]
  | cons r rs => simp [PyData.eqv, PyData.eqvAll]
theorem dT_any (ns : List Int) (rs : List (List Int)) : ((rs.map dT).any fun z => PyData.eqv z (dT ns)) = rs.contains ns := by
  rw [List.any_map]
  induction rs with
  | nil => rfl
  | cons r rs ih =>
    rw [List.any_cons, ih, List.contains_cons]
    show (PyData.eqv (dT r) (dT ns) || rs.contains ns) = _
    rw [dT_eqv]
    congr 1
    by_cases h : r = ns
    · subst h; simp
    · have h' : ¬ ns = r := fun e => h e.symm
      simp [h, h']
section
variable {K : PySem.W.Frag} {H : Hp}
theorem dp_ints : ∀ ns : List Int, DpAll K H (ns.map V.int) (dI ns)
  | [] => .nil
  | n :: ns => .cons (.int n) (dp_ints ns)
theorem Tp.dp {t : Addr} {ns : List Int} (h : Tp H t ns) : Dp K H (.ref t) (dT ns) := .tup h.sq (dp_ints ns)
theorem Il.dp {t : Addr} {ns : List Int} (h : Il H t ns) : Dp K H (.ref t) (.list (dI ns)) := .lst h.sq (dp_ints ns)
theorem Tps.dp : ∀ {ts : List Addr} {rs : List (List Int)}, Tps H ts rs → DpAll K H (ts.map V.ref) (rs.map dT)
  | _, _, .nil => .nil
  | _, _, .cons r t => .cons r.dp (Tps.dp t)
theorem Rw.dp {a : Addr} {rs : List (List Int)} (h : Rw H a rs) : Dp K H (.ref a) (.list (rs.map dT)) := let ⟨_, h1, h2⟩ := h; .lst (.of h1) (Tps.dp h2)
end
section
variable {X : Cx}
def rInR : R2 := fun x y H Q => ∃ t ns a rs, x = .ref t ∧ y = .ref a ∧ Tp H t ns ∧ Rw H a rs ∧ Q (.bl (rs.contains ns)) H
def rNotInR : R2 := fun x y H Q => ∃ t ns a rs, x = .ref t ∧ y = .ref a ∧ Tp H t ns ∧ Rw H a rs ∧ Q (.bl (!rs.contains ns)) H
theorem op_inR (hu : X.A.units + 65 < cLine) : OpR X (compareOp .In) rInR := fun pins s σ H x y v u Q I rx ry h => by
  obtain ⟨t, ns, a, rs, rfl, rfl, ht, hr, q⟩ := h
  exact op_inD hu pins s σ H _ _ v u Q I rx ry ⟨_, _, ht.dp, hr.dp, dT_shaped ns, dRw_shaped rs, by rw [dT_any]; exact q⟩
theorem op_notInR (hu : X.A.units + 65 < cLine) : OpR X (compareOp .NotIn) rNotInR := fun pins s σ H x y v u Q I rx ry h => by
  obtain ⟨t, ns, a, rs, rfl, rfl, ht, hr, q⟩ := h
  exact op_notInD hu pins s σ H _ _ v u Q I rx ry ⟨_, _, ht.dp, hr.dp, dT_shaped ns, dRw_shaped rs, by rw [dT_any]; exact q⟩
/-- tuples of ints; lists of ints; a list of tuples against the empty one -/
def rEqT : R2 := fun x y H Q => ∃ t ns u ms, x = .ref t ∧ y = .ref u ∧ Tp H t ns ∧ Tp H u ms ∧ Q (.bl (decide (ns = ms))) H
def rNeT : R2 := fun x y H Q => ∃ t ns u ms, x = .ref t ∧ y = .ref u ∧ Tp H t ns ∧ Tp H u ms ∧ Q (.bl (!decide (ns = ms))) H
def rEqI : R2 := fun x y H Q => ∃ t ns u ms, x = .ref t ∧ y = .ref u ∧ Il H t ns ∧ Il H u ms ∧ Q (.bl (decide (ns = ms))) H
def rEqN : R2 := fun x y H Q => ∃ t rs u, x = .ref t ∧ y = .ref u ∧ Rw H t rs ∧ H u = some (.lst []) ∧ Q (.bl (decide (rs = []))) H
def rNeN : R2 := fun x y H Q => ∃ t rs u, x = .ref t ∧ y = .ref u ∧ Rw H t rs ∧ H u = some (.lst []) ∧ Q (.bl (!decide (rs = []))) H
theorem op_eqT (hu : X.A.units + 64 < cLine) : OpR X (compareOp .Eq) rEqT := fun pins s σ H x y v u Q I rx ry h => by
  obtain ⟨t, ns, a, ms, rfl, rfl, ht, hr, q⟩ := h
  exact op_eqD hu pins s σ H _ _ v u Q I rx ry ⟨_, _, ht.dp, hr.dp, dT_shaped ns, dT_shaped ms, by rw [dT_eqv]; exact q⟩
theorem op_neT (hu : X.A.units + 64 < cLine) : OpR X (compareOp .NotEq) rNeT := fun pins s σ H x y v u Q I rx ry h => by
  obtain ⟨t, ns, a, ms, rfl, rfl, ht, hr, q⟩ := h
  exact op_neD hu pins s σ H _ _ v u Q I rx ry ⟨_, _, ht.dp, hr.dp, dT_shaped ns, dT_shaped ms, by rw [dT_eqv]; exact q⟩
theorem op_eqI (hu : X.A.units + 64 < cLine) : OpR X (compareOp .Eq) rEqI := fun pins s σ H x y v u Q I rx ry h => by
  obtain ⟨t, ns, a, ms, rfl, rfl, ht, hr, q⟩ := h
  exact op_eqD hu pins s σ H _ _ v u Q I rx ry ⟨_, _, ht.dp, hr.dp, dIl_shaped ns, dIl_shaped ms, by rw [dIl_eqv]; exact q⟩
theorem nil_dp {K : PySem.W.Frag} {H : Hp} {u : Addr} (h : H u = some (.lst [])) : Dp K H (.ref u) (.list []) := .lst (.of h) .nil
theorem op_eqN (hu : X.A.units + 64 < cLine) : OpR X (compareOp .Eq) rEqN := fun pins s σ H x y v u Q I rx ry h => by
  obtain ⟨t, rs, a, rfl, rfl, ht, hr, q⟩ := h
  exact op_eqD hu pins s σ H _ _ v u Q I rx ry ⟨_, _, ht.dp, nil_dp hr, dRw_shaped rs, dRw_shaped [], by rw [dRw_nil]; exact q⟩
theorem op_neN (hu : X.A.units + 64 < cLine) : OpR X (compareOp .NotEq) rNeN := fun pins s σ H x y v u Q I rx ry h => by
  obtain ⟨t, rs, a, rfl, rfl, ht, hr, q⟩ := h
  exact op_neD hu pins s σ H _ _ v u Q I rx ry ⟨_, _, ht.dp, nil_dp hr, dRw_shaped rs, dRw_shaped [], by rw [dRw_nil]; exact q⟩
end
/-! ### len(set(xs)), xs a list of tuples of ints -/
section
variable {X : Cx}
def tLenSetR (ta : TE) : TE := fun σ H Q => ta σ H fun x H1 => ∃ (l : Addr) (rs : List (List Int)), x = .ref l ∧ Rw H1 l rs ∧ rs.length < 64 ∧ ∀ n : Nat, (n = rs.length ↔ rs.Nodup) → n ≤ rs.length → Q (.int n) H1
theorem pe_lenSetR {a : Expr} {ta : TE} {p p2 q pos : Pos} (hc : X.calm = true) (hu : X.A.units + 64 < cLine) (hg : Gl X "len") (hm : X.mg "len" = none) (hg2 : Gl X "set") (hm2 : X.mg "set" = none) (ha : PE X a ta)
    (na : starEach [a] X.env = (false, eval a X.env) :: starEach [] X.env := by rfl) : PE X (.Call (.Name "len" p) [.Call (.Name "set" p2) [a] [] q] [] pos) (tLenSetR ta) := by
  refine ⟨fun pins s σ H Q I h => ?_⟩
  refine Call_ (ld_blt I hg hm PySem.boot_len ?_)
  refine PyProof.Rows.callWith_builtin1 (PyProof.Rows.args_cons ?_ rfl) rfl rfl
  refine Call_ (ld_blt I hg2 hm2 PyProof.Rows.boot_set ?_)
  refine PyProof.Rows.callWith_type1 (PyProof.Rows.args_cons (thn (ha.run pins s σ H _ I h) fun v s1 ⟨x, H1, I1, r1, q1⟩ => PyProof.Rows.args_nil ?_) na) na rfl
  obtain ⟨l, rs, rfl, ⟨ts, hl, ht⟩, h1, q1⟩ := q1
  cases r1
  obtain ⟨its, r, pl, hz⟩ := I1.list (SqL.of hl)
  have hlen := Tps.len ht
  have e1 : ts.map V.ref = (ts.zip rs).map fun p => V.ref p.1 := by
    rw [show (fun p : Addr × List Int => V.ref p.1) = V.ref ∘ Prod.fst from rfl, ← List.map_map, List.map_fst_zip (by omega)]
  have e2 : (ts.zip rs).map (·.2) = rs := List.map_snd_zip (by omega)
  have hk : ∀ p ∈ ts.zip rs, Tp H1 p.1 p.2 := by
    intro p hp
    obtain ⟨i, hi, e⟩ := List.getElem_of_mem hp
    have e' : (ts.zip rs)[i]? = some p := by rw [← e]; exact List.getElem?_eq_getElem hi
    obtain ⟨a1, a2⟩ := List.getElem?_zip_eq_some.mp e'
    obtain ⟨t, b1, b2⟩ := Tps.at ht a2
    rw [a1] at b1
    cases b1
    exact b2
  have hzl : (ts.zip rs).length = rs.length := by rw [List.length_zip]; omega
  rw [e1] at r
  have hu3 : X.A.units + 3 < cLine := Nat.lt_of_le_of_lt (Nat.add_le_add_left (by decide : 3 ≤ 64) _) hu
  refine call_set_tups (P := X.prog) (w := X.w) (ts.zip rs) (I1.ok.hd hc) pl.isList (by simpa using refs_of_vals r) (fun p hp => I1.isT (hk p hp).sq) (by omega) hu3 fun h' tk L es ep t R g k => ?_
  refine PyProof.Rows.args_nil ?_
  obtain ⟨o, ho, hex, hd⟩ := R.ob
  have I2 : Inv X pins σ H1 { s1 with heap := h', toks := tk } := I1.kept fun b o e => k b o e
  have hf := SetTR.fits (s := { s1 with heap := h', toks := tk }) R
  have hn := SetTR.size (s := { s1 with heap := h', toks := tk }) R
  have hfew := R.few
  have nd := R.nd
  have lsub : ∀ z ∈ L.map (·.2), z ∈ rs := fun z hz => by
    obtain ⟨p, hp, rfl⟩ := List.mem_map.mp hz
    have hp' := List.mem_of_mem_take (g.sub p hp)
    rw [← e2]
    exact List.mem_map.mpr ⟨p, hp', rfl⟩
  have lall : ∀ z ∈ rs, z ∈ L.map (·.2) := fun z hz => by
    rw [← e2] at hz
    obtain ⟨p, hp, rfl⟩ := List.mem_map.mp hz
    exact g.all p (by rw [List.take_length]; exact hp)
  have hle : (L.map (·.2)).length ≤ rs.length := Om.sub_len nd lsub
  rw [List.length_map] at hle
  refine call_len_set ho hex hd hf (by rw [hn] <;> omega) ⟨.int (L.length : Nat), H1, I2.tok _, ⟨_, by rw [hn]⟩, q1 L.length ⟨fun e => ?_, fun hnd => ?_⟩ hle⟩
  · exact Om.sub_nodup nd lsub (by rw [List.length_map]; omega)
  · have := Om.sub_len hnd lall
    rw [List.length_map] at this
    omega
end
/-! ### dict(xs), xs a list of pairs (tuple of ints, True), the tuples all different -/
section
variable {X : Cx}
def kt (r : List Int) : List Key × V := (r.map Sum.inl, .bl true)
theorem kt_map (r : List Int) : (r.map (Sum.inl : Int → Key)).map kV = r.map V.int := by
  rw [List.map_map]
  rfl
theorem inl_inj : ∀ {a b : List Int}, a.map (Sum.inl : Int → Key) = b.map Sum.inl → a = b
  | [], [], _ => rfl
  | [], b :: bs, h => by simp at h
  | a :: as, [], h => by simp at h
  | a :: as, b :: bs, h => by
    rw [List.map_cons, List.map_cons] at h
    injection h with h1 h2
    rw [Sum.inl.inj h1, inl_inj h2]
abbrev Prs (H : Hp) (ps : List (Addr × Addr)) (rs : List (List Int)) : Prop := PySem.Paired (fun p r => H p.1 = some (.tup [.ref p.2, .bl true]) ∧ Tp H p.2 r) ps rs
def rDictR : List V → Hp → VK → Prop := fun xs H Q => ∃ (a : Addr) (ps : List (Addr × Addr)) (rs : List (List Int)), xs = [.ref a] ∧ H a = some (.lst (ps.map fun p => V.ref p.1)) ∧ Prs H ps rs ∧ rs.Nodup ∧
  ∀ d, H d = none → Q (.ref d) (upd H d (.dT (rs.map kt)))
theorem storedAllH_new {K : Type} [DecidableEq K] : ∀ (ps acc : List (K × Addr × Value)), (ps.map (·.1)).Nodup → (∀ p ∈ ps, ∀ q ∈ acc, q.1 ≠ p.1) → storedAllH acc ps = acc ++ ps
  | [], acc, _, _ => by simp [storedAllH]
  | p :: ps, acc, nd, h => by
    rw [List.map_cons] at nd
    obtain ⟨n1, n2⟩ := List.nodup_cons.mp nd
    have e : storedH acc p.1 p.2.1 p.2.2 = acc ++ [p] := by
      have hn : atKey acc p.1 = none := by
        cases e : atKey acc p.1 with
        | none => rfl
        | some z =>
          unfold atKey at e
          obtain ⟨q, hq, _⟩ := Option.map_eq_some_iff.mp e
          have h1 := List.mem_of_find?_eq_some hq
          have h2 := List.find?_some hq
          exact absurd (by simpa using h2) (h p List.mem_cons_self q h1)
      unfold storedH
      rw [hn]
      rfl
    have ih := storedAllH_new ps (acc ++ [p]) n2 (fun r hr q hq => by
      rcases List.mem_append.mp hq with hq | hq
      · exact h r (List.mem_cons_of_mem _ hr) q hq
      · rw [List.mem_singleton.mp hq]
        intro e
        exact n1 (by rw [e]; exact List.mem_map.mpr ⟨r, hr, rfl⟩))
    show storedAllH (storedH acc p.1 p.2.1 p.2.2) ps = _
    rw [e, ih, List.append_assoc]
    rfl
theorem cr_dictR (hcalm : X.calm = true) (hu : X.A.units + 64 < cLine) : CallR X (.type "dict") rDictR := by
  intro pins s σ H xs us Q I r q
  obtain ⟨a, ps, rs, ex, hq, hp, hnd, q⟩ := q
  subst ex
  obtain ⟨u, eu, rx⟩ := vals1 r
  subst eu
  cases rx
  obtain ⟨hz, its, n, rv, e⟩ := (show ObjOk X.prog X.w H s.heap a (.lst _) from I.hok a _ hq)
  have rv' : its = (ps.map (·.1)).map Value.ref := refs_at (by rw [List.map_map]; exact rv)
  have hlen : ps.length = rs.length := Paired.length hp
  rw [List.length_map] at hz
  -- the pairs as values, the entries
  let prs : List (Value × Value) := ps.map fun p => (Value.ref p.2, Value.bool true)
  let ents : List (List Key × Addr × Value) := (ps.zip rs).map fun z => (z.2.map Sum.inl, z.1.2, Value.bool true)
  have at_ : ∀ (i : Nat) (p : Addr × Addr), ps[i]? = some p → ∃ r, rs[i]? = some r ∧ H p.1 = some (.tup [.ref p.2, .bl true]) ∧ Tp H p.2 r := fun i p e => by
    obtain ⟨r, h1, h2⟩ := paired_get hp e
    exact ⟨r, h1, h2.1, h2.2⟩
  have hents : ents.map (·.1) = rs.map fun r => r.map Sum.inl := by
    show ((ps.zip rs).map fun z => (z.2.map Sum.inl, z.1.2, Value.bool true)).map (·.1) = _
    rw [List.map_map, ← List.map_snd_zip (l₁ := ps) (l₂ := rs) (by omega), List.map_map]
    rw [List.map_snd_zip (by omega)]
    rfl
  have hentnd : (ents.map (·.1)).Nodup := by
    rw [hents]
    exact Om.nodup_map_on (fun x _ y _ e => inl_inj e) hnd
  have itemsOk : PairItems s.heap its.toArray (fun i => (ps.getD i (0, 0)).1) prs := by
    refine ⟨by simp [rv', prs], fun j k v hj => ?_⟩
    rw [List.getElem?_map] at hj
    cases ej : ps[j]? with
    | none => rw [ej] at hj; cases hj
    | some p =>
      rw [ej] at hj
      have hj' := Option.some.inj hj
      obtain ⟨rfl, rfl⟩ := Prod.mk.inj hj'
      obtain ⟨r, _, h2, _⟩ := at_ j p ej
      have eg : ps.getD j (0, 0) = p := by rw [List.getD_eq_getElem?_getD, ej]; rfl
      refine ⟨?_, ?_⟩
      · rw [rv']
        simp only [List.getElem?_toArray, List.getElem?_map, ej, eg]
        rfl
      · simp only [eg]
        obtain ⟨_, its2, rv2, o2, e2, c2, n2, d2⟩ := (show ObjOk X.prog X.w H s.heap p.1 (.tup _) from I.hok p.1 _ h2)
        refine .inl ⟨o2, e2, c2, n2, ?_⟩
        cases rv2 with
        | cons r1 t1 =>
          cases t1 with
          | cons r2 t2 =>
            cases t2
            cases r1
            cases r2
            exact d2
  have hpl : prs.length = ps.length := List.length_map ..
  have hezl : (ps.zip rs).length = ps.length := by rw [List.length_zip]; omega
  refine call_dict_pairsH (knd := tupleKind (mixKind X.prog X.w)) (ps := ents) (PairArg.list a its.toArray (fun i => (ps.getD i (0, 0)).1) prs) (I.ok.hd hcalm) (tupleKind_room_in1 ?_) ⟨⟨_, n, e, rfl, rfl, rfl⟩, itemsOk⟩ ⟨by rw [hpl, List.length_map, hezl], fun i key v hr => ?_⟩ (fun h' k x hx => ?_) (by rw [hpl]; exact hz) fun h' tk hd' k => ?_
  · show X.A.units + 1 + 1 < cLine
    omega
  · have hr' : prs[i]? = some (key, v) := hr
    rw [List.getElem?_map] at hr'
    cases ej : ps[i]? with
    | none => rw [ej] at hr'; cases hr'
    | some p =>
      rw [ej] at hr'
      obtain ⟨rfl, rfl⟩ := Prod.mk.inj (Option.some.inj hr')
      obtain ⟨r, h1, _, _⟩ := at_ i p ej
      refine ⟨r.map Sum.inl, p.2, ?_, rfl⟩
      show ((ps.zip rs).map _)[i]? = _
      rw [List.getElem?_map, List.getElem?_zip_eq_some (z := (p, r)) |>.mpr ⟨ej, h1⟩]
      rfl
  · obtain ⟨z, hz', rfl⟩ := List.mem_map.mp hx
    obtain ⟨i, hi, e⟩ := List.getElem_of_mem hz'
    have e' : (ps.zip rs)[i]? = some z := by rw [← e]; exact List.getElem?_eq_getElem hi
    obtain ⟨a1, a2⟩ := List.getElem?_zip_eq_some.mp e'
    obtain ⟨r, b1, _, b3⟩ := at_ i z.1 a1
    rw [a2] at b1
    cases b1
    have key := key_of (P := X.prog) (w := X.w) (ks := z.2.map Sum.inl) I.hok (by rw [kt_map]; exact b3)
    obtain ⟨o, vs, n, c1, c2⟩ := key
    exact ⟨o, vs, n, k _ _ (Nat.ne_of_lt (Heap.lt_size c1)) (fun z => nomatch z) c1, c2⟩
  · rw [storedAllH_new ents [] hentnd (fun _ _ _ h => nomatch h), List.nil_append] at hd'
    obtain ⟨o, es, ep, h1, h2, h3, h4, _, h5⟩ := hd'
    have hm : (s.heap.objs.size == sysModules) = false := beq_eq_false_iff_ne.mpr (Nat.ne_of_gt I.big)
    have hk : ∀ b ob, s.heap.get? b = some ob → h'.get? b = some ob := fun b ob e => k b ob (fun z => nomatch z) e
    have hn := I.hok.fresh (Nat.le_refl s.heap.objs.size)
    refine ⟨.ref s.heap.objs.size, upd H s.heap.objs.size (.dT (rs.map kt)), I.laid (t' := tk) hk (Nat.le_refl _) (show ObjOk X.prog X.w _ _ _ (.dT (rs.map kt)) from ⟨by rw [List.length_map]; omega, hm, ents, ?_, o, es, ep, h1, h2, h3, h4, h5⟩), rfl, q _ hn⟩
    -- the pairs stand for the entries
    have go : ∀ {qs : List (Addr × Addr)} {ms : List (List Int)}, Prs H qs ms → PySem.Paired (fun (p : List Key × V) (x : List Key × Addr × Value) => p.1 = x.1 ∧ upd H s.heap.objs.size (.dT (rs.map kt)) x.2.1 = some (.tup (p.1.map kV)) ∧ RelV p.2 x.2.2) (ms.map kt) ((qs.zip ms).map fun z => (z.2.map Sum.inl, z.1.2, Value.bool true)) := by
      intro qs ms hh
      induction hh with
      | nil => exact .nil
      | cons h t ih =>
        refine .cons ⟨rfl, ?_, rfl⟩ ih
        show upd H _ _ _ = some (.tup ((_ : List Key).map kV))
        rw [upd_ne (ne_of_none h.2 hn)]
        show _ = some (HO.tup ((List.map Sum.inl _).map kV))
        rw [kt_map]
        exact h.2
    exact go hp
end
/-- is a key in the dict -/
theorem valV_kt (rs : List (List Int)) (r : List Int) : (valV (rs.map kt) (r.map Sum.inl)).isSome = rs.contains r := by
  induction rs with
  | nil => rfl
  | cons a rs ih =>
    rw [List.map_cons, List.contains_cons]
    by_cases h : a = r
    · subst h
      rw [show valV (kt a :: rs.map kt) (a.map Sum.inl) = some (.bl true) from valV_pos (p := kt a) rfl]
      simp
    · rw [valV_neg (fun e => h (inl_inj e)), ih]
      have h' : ¬ r = a := fun e => h e.symm
      simp [h']
end Oc
/-! ## xs[::2], xs[1::2] -/
namespace Oc
open PySem PySem.Spec PyProof.Rows L2
theorem two_range (n k : Nat) (hk : k ≤ 1) : sliceRange (((min k n : Nat) : Int)) (n : Int) 2 = (List.range ((n - k + 1) / 2)).map fun i => k + 2 * i := by
  unfold sliceRange
  rw [if_pos (by decide)]
  by_cases h : ((min k n : Nat) : Int) < (n : Int)
  · have hkn : k < n := by omega
    rw [if_pos h]
    have e : (((n : Int) - ((min k n : Nat) : Int) + 2 - 1) / 2).toNat = (n - k + 1) / 2 := by omega
    dsimp only
    rw [e]
    apply List.map_congr_left
    intro i _
    omega
  · have hkn : n ≤ k := by omega
    rw [if_neg h]
    have : (n - k + 1) / 2 = 0 := by omega
    rw [this]
    rfl
def evens {α : Type} : List α → List α
  | [] => []
  | [a] => [a]
  | a :: _ :: r => a :: evens r
theorem evens_pick {α : Type} : ∀ l : List α, ((List.range ((l.length + 1) / 2)).map fun i => 2 * i).filterMap (l[·]?) = evens l
  | [] => by simp [evens]
  | [a] => by simp [evens, List.range_succ]
  | a :: b :: r => by
    have ih := evens_pick r
    have e : ((a :: b :: r).length + 1) / 2 = (r.length + 1) / 2 + 1 := by
      simp only [List.length_cons]
      omega
    rw [e, List.range_succ_eq_map, List.map_cons, List.filterMap_cons, evens]
    have h0 : (a :: b :: r)[2 * 0]? = some a := rfl
    simp only [h0]
    congr 1
    rw [← ih, List.map_map, List.filterMap_map, List.filterMap_map]
    apply congrFun
    apply congrArg
    funext i
    show (a :: b :: r)[2 * (i + 1)]? = r[2 * i]?
    rw [show 2 * (i + 1) = 2 * i + 1 + 1 by omega]
    rfl
theorem two_pick (items : Array Value) {lo : Option Int} {k : Nat} (hk : k ≤ 1) (hlo : lo = some (k : Int) ∨ (lo = none ∧ k = 0)) : slicePick items lo none (some 2) = (evens (items.toList.drop k)).toArray := by
  unfold slicePick
  have hb : sliceBounds lo none (some 2) items.size = (((min k items.size : Nat) : Int), (items.size : Int), 2) := by
    unfold sliceBounds
    rcases hlo with rfl | ⟨rfl, rfl⟩
    · simp only [Option.getD_some]
      refine Prod.ext ?_ rfl
      have h0 : ¬ ((k : Int) < 0) := by omega
      simp only [if_neg h0, if_pos (show (2 : Int) > 0 by decide)]
      omega
    · simp
  rw [hb]
  show ((sliceRange ((min k items.size : Nat) : Int) (items.size : Int) 2).filterMap (items[·]?)).toArray = _
  rw [two_range _ _ hk, ← evens_pick, List.length_drop, Array.length_toList]
  congr 1
  rw [List.filterMap_map, List.filterMap_map]
  apply congrFun
  apply congrArg
  funext i
  show items[k + 2 * i]? = (items.toList.drop k)[2 * i]?
  rw [List.getElem?_drop, Array.getElem?_toList]
theorem evens_vals : ∀ {xs : List V} {us : List Value}, Vals xs us → Vals (evens xs) (evens us)
  | _, _, .nil => .nil
  | _, _, .cons r .nil => .cons r .nil
  | _, _, .cons r (.cons _ t) => .cons r (evens_vals t)
theorem evens_len {α : Type} : ∀ l : List α, (evens l).length ≤ l.length
  | [] => Nat.le_refl _
  | [_] => Nat.le_refl _
  | _ :: _ :: r => by
    have := evens_len r
    simp only [evens, List.length_cons]
    omega
theorem evens_map {α β : Type} (f : α → β) : ∀ l : List α, evens (l.map f) = (evens l).map f
  | [] => rfl
  | [_] => rfl
  | a :: _ :: r => by
    simp only [List.map_cons, evens]
    rw [evens_map f r]
section
variable {X : Cx}
def tTwo (K : PySem.W.Frag) (k : Nat) (te : TE) : TE := fun σ H Q => te σ H fun x H1 => ∃ a xs, x = .ref a ∧ SqL K H1 a xs ∧ ∀ p, H1 p = none → Q (.ref p) (upd H1 p (.lst (evens (xs.drop k))))
theorem two_core {e : Expr} {te : TE} {lo : Option Expr} {tl : TO} {k j : Nat} {p1 p3 pos : Pos} (hk : k ≤ 1) (he : PE X e te) (hl : PO X lo tl)
    (kind : (∀ σ H Q, Q (some (k : Int)) H → tl σ H Q) ∨ (k = 0 ∧ ∀ σ H Q, Q none H → tl σ H Q)) :
    PE X (.Subscript e (.Slice lo none (some (.Constant (.int 2) j p1)) p3) pos) (tTwo X.K k te) := by
  refine ⟨fun pins s σ H Q I h => ?_⟩
  refine Subscript_ (thn (he.run pins s σ H _ I h) fun v s1 ⟨x, H1, I1, r1, q1⟩ => ?_)
  obtain ⟨a, xs, ex, hx, q⟩ := q1
  subst ex
  cases r1
  have hst : PO X (some (.Constant (.int 2) j p1)) (tPart (tC (.int 2))) := po_some pe_int
  have hw : tl σ H1 (fun o H2 => (o = some (k : Int) ∨ (o = none ∧ k = 0)) ∧ H2 = H1) := by
    rcases kind with kd | ⟨k0, kd⟩
    · exact kd _ _ _ ⟨.inl rfl, rfl⟩
    · exact kd _ _ _ ⟨.inr ⟨rfl, k0⟩, rfl⟩
  refine wpAny_Slice (thn (hl.run pins s1 σ H1 _ I1 hw) fun vl s2 ⟨l, H2, I2, pl, el, e2⟩ => ?_)
  subst e2
  refine thn (po_none.run pins s2 σ H2 (fun o H3 => o = none ∧ H3 = H2) I2 ⟨rfl, rfl⟩) fun vu s3 ⟨u, H3, I3, pu, eu, e3⟩ => ?_
  subst eu e3
  refine thn (hst.run pins s3 σ H3 (fun o H4 => o = some 2 ∧ H4 = H3) I3 ⟨2, rfl, rfl, rfl⟩) fun vs s4 ⟨o, H4, I4, ps, eo, e4⟩ => ?_
  subst eo e4
  have I5 : Inv X pins σ H4 { s4 with heap := s4.heap.push { cls := .type "slice", data := .fields #[vl, vu, vs] } } := I4.kept (t' := s4.toks) fun b ob q => Heap.get?_push_of_some _ q
  obtain ⟨its, r, ht, hz⟩ := I5.list hx
  have hlen := r.length
  show wpAny (model X.prog X.w) X.A (subscriptTail e (.Slice lo none (some (.Constant (.int 2) j p1)) p3) (.ref a) (.ref s4.heap.objs.size)) (EP X pins σ Q) X.xe _
  refine tail_any (ops := [.ref a, .ref s4.heap.objs.size]) ht.isList.typeIs (PySem.slot_list_getitem.lookup) ?_ (by with_unfolding_all rfl)
  refine wpAny_getItem_list_slice ht.isList (Heap.IsSliceOf.new _ vl vu vs) pl pu ps (by decide) ?_ (by rw [List.size_toArray]; omega)
  rw [two_pick its.toArray hk el]
  have rd : Vals (xs.drop k) (its.drop k) := r.drop k
  refine ⟨.ref _, _, I5.laid (t' := s4.toks) (o := .lst (evens (xs.drop k))) (fun b ob q => Heap.get?_push_of_some _ q) (Nat.le_refl _) ?_, rfl, q _ (I5.hok.fresh (Nat.le_refl _))⟩
  have le := evens_len (xs.drop k)
  rw [List.length_drop] at le
  exact ⟨by omega, evens (its.drop k), _, evens_vals rd, Heap.get?_push_size _ rfl⟩
theorem pe_two0 {e : Expr} {te : TE} {j : Nat} {p1 p3 pos : Pos} (he : PE X e te) : PE X (.Subscript e (.Slice none none (some (.Constant (.int 2) j p1)) p3) pos) (tTwo X.K 0 te) :=
  two_core (by decide) he po_none (.inr ⟨rfl, fun _ _ _ h => h⟩)
theorem pe_two1 {e : Expr} {te : TE} {i j : Nat} {p0 p1 p3 pos : Pos} (he : PE X e te) : PE X (.Subscript e (.Slice (some (.Constant (.int 1) i p0)) none (some (.Constant (.int 2) j p1)) p3) pos) (tTwo X.K 1 te) :=
  two_core (by decide) he (po_some pe_int) (.inl fun _ _ _ h => ⟨1, rfl, h⟩)
end
end Oc
/-! ## what the top has written; calls -/
namespace Oc
open PySem PySem.Spec PyProof.Rows L2
def top (i : Nat) : Stmt := PySem.Challenge.pw_onecover_s01_answers.main.body.getD i (.Pass ⟨0, 0, 0, 0⟩)
structure Df (K : PySem.W.Frag) (mg : Str → Option Value) (x : Str) (st : Stmt) : Prop where
  ex : ∃ (f : Addr) (fd : FuncData), mg x = some (.ref f) ∧ Fun K x x st f fd
/-- a def that is called by its name -/
structure Cal (P : Program) (w : World) (K : PySem.W.Frag) (mg : Str → Option Value) (base : Heap) (C : CXT) (k : Nat) (x : Str) (sp : Sp) : Prop where
  ex : ∃ (f : Addr) (fd : FuncData) (ps : List Str), mg x = some (.ref f) ∧ PySem.W.keepIn K (.ref f) = true ∧ FnOk P w K mg base C k f fd ps sp ∧ Binds K fd ps []
structure CalAt (P : Program) (w : World) (K : PySem.W.Frag) (mg : Str → Option Value) (base : Heap) (C : CXT) (k : Nat) (f : Addr) (sp : Sp) : Prop where
  ex : ∃ (fd : FuncData) (ps : List Str), PySem.W.keepIn K (.ref f) = true ∧ FnOk P w K mg base C k f fd ps sp ∧ Binds K fd ps []
theorem Cal.at {P : Program} {w : World} {K : PySem.W.Frag} {mg : Str → Option Value} {base : Heap} {C : CXT} {k : Nat} {x : Str} {sp : Sp} (c : Cal P w K mg base C k x sp) {f : Addr} (h : mg x = some (.ref f)) : CalAt P w K mg base C k f sp := by
  obtain ⟨f', fd, ps, h1, h2, h3, h4⟩ := c.ex
  rw [h] at h1
  cases h1
  exact ⟨fd, ps, h2, h3, h4⟩
section
variable {P : Program} {w : World} {K : PySem.W.Frag} {mg : Str → Option Value} {base : Heap}
/-- THE RULE for a def of the top -/
theorem Df.ok {x : Str} {st : Stmt} {N ps : List Str} {k : Nat} {sp : Sp} (D : Df K mg x st) (S : FnScope N ps (defScope st)) (len : ∀ vs H Q E, sp vs H Q E → vs.length = ps.length)
    (bi : ∀ (kV doc pm : Value) (an : Option Addr) (cdv ct : Value) (us : List Value), us.length = ps.length → bindArgs (PySem.W.fnOf x x (defArgs st) (defBody st) (defScope st) .none kV doc pm an cdv ct) ⟨us, []⟩ = pure (ps.zip us))
    (hbody : ∀ (f : Addr) (cdv : Value) (A : Around) (outer : List Env) (s : Shared) (H : Hp) (vs : List V) (Q : VK) (E : XK), Room k (A.deeper (envOfC x (defScope st) s.heap.objs.size f cdv)) → sp vs H Q E →
      ∃ t, PSs (cxOf CX0 P w K mg base N x (defScope st) f cdv A outer s H E).nox (defBody st) t ∧ t { nx := fun _ H' => Q .non H', rt := Q } (start N vs) H) : Cal P w K mg base CX0 (k + 1) x sp := by
  obtain ⟨f, fd, h1, F⟩ := D.ex
  exact ⟨f, fd, ps, h1, F.kp, F.ok S len (fun cdv => hbody f cdv), F.binds bi⟩
theorem Df.okX {x : Str} {st : Stmt} {N ps : List Str} {k : Nat} {sp : Sp} (D : Df K mg x st) (S : FnScope N ps (defScope st)) (len : ∀ vs H Q E, sp vs H Q E → vs.length = ps.length)
    (bi : ∀ (kV doc pm : Value) (an : Option Addr) (cdv ct : Value) (us : List Value), us.length = ps.length → bindArgs (PySem.W.fnOf x x (defArgs st) (defBody st) (defScope st) .none kV doc pm an cdv ct) ⟨us, []⟩ = pure (ps.zip us))
    (hbody : ∀ (f : Addr) (cdv : Value) (A : Around) (outer : List Env) (s : Shared) (H : Hp) (vs : List V) (Q : VK) (E : XK), Room k (A.deeper (envOfC x (defScope st) s.heap.objs.size f cdv)) → sp vs H Q E →
      ∃ t, PSs (cxOf (L2.CX P w) P w K mg base N x (defScope st) f cdv A outer s H E) (defBody st) t ∧ t { nx := fun _ H' => Q .non H', rt := Q } (start N vs) H) : Cal P w K mg base (L2.CX P w) (k + 1) x sp := by
  obtain ⟨f, fd, h1, F⟩ := D.ex
  exact ⟨f, fd, ps, h1, F.kp, F.okX S len (fun cdv => hbody f cdv), F.binds bi⟩
end
section
variable {X : Cx} {CX : CXT} {j k : Nat} {sp : Sp} {x : Str} {p pos : Pos} {e : Expr} {es : List Expr} {t : TA}
def tCal (sp : Sp) (E : XK) (t : TA) : TE := fun σ H Q => t σ H fun vs H1 => sp vs H1 Q E
theorem nil_app {sp : Sp} {E : XK} {t : TA} {σ : L2.St} {H : Hp} {Q : VK} (h : tCal sp E t σ H Q) : tCall sp [] E t σ H Q := by
  have e0 : (fun (vs : List V) (H1 : Hp) => sp (vs ++ []) H1 Q E) = fun vs H1 => sp vs H1 Q E := by
    funext vs H1
    rw [List.append_nil]
  show t σ H (fun vs H1 => sp (vs ++ []) H1 Q E)
  rw [e0]
  exact h
theorem pe_c (c : Cal X.prog X.w X.K X.mg X.base CX0 k x sp) (hr : Room j X.A) (hk : k ≤ j) (hg : Gl X x) (ha : PA X (e :: es) t)
    (hdb : (x == ("__debug__" : Str)) = false := by decide) (he : starEach (e :: es) X.env = (false, eval e X.env) :: starEach es X.env := by rfl) (hpl : (backTo pos (starEach es X.env)).any (·.1) = false := by rfl) :
    PE X (.Call (.Name x p) (e :: es) [] pos) (tCal sp E0 t) := by
  obtain ⟨f, fd, ps, h1, h2, h3, h4⟩ := c.ex
  exact ⟨fun pins s σ H Q I h => (pe_call (p := p) (pos := pos) (dvs := []) (E := E0) h3 (hr.mono hk) hg h1 h2 h4 .nil pass0 ha hdb he hpl).run pins s σ H Q I (nil_app h)⟩
/-- .. that may raise, in a def that may -/
theorem pe_cX {E : XK} (c : Cal X.prog X.w X.K X.mg X.base (L2.CX X.prog X.w) k x sp) (hr : Room j X.A) (hk : k ≤ j) (tk : Takes X (fun cls d _ H => E cls d H)) (hg : Gl X x) (ha : PA X (e :: es) t)
    (hdb : (x == ("__debug__" : Str)) = false := by decide) (he : starEach (e :: es) X.env = (false, eval e X.env) :: starEach es X.env := by rfl) (hpl : (backTo pos (starEach es X.env)).any (·.1) = false := by rfl) :
    PE X (.Call (.Name x p) (e :: es) [] pos) (tCal sp E t) := by
  obtain ⟨f, fd, ps, h1, h2, h3, h4⟩ := c.ex
  exact ⟨fun pins s σ H Q I h => (pe_call (p := p) (pos := pos) (dvs := []) (E := E) h3 (hr.mono hk) hg h1 h2 h4 .nil (passes_call tk (fun _ _ _ _ z => z)) ha hdb he hpl).run pins s σ H Q I (nil_app h)⟩
/-- a local name that holds one of some defs, called; what it raises is wished for at the slots as they stand -/
def tDyn (i : Nat) (R : Addr → Sp → Prop) (E : L2.St → XK) (t : TA) : TE := fun σ H Q => ∃ f sp, σ[i]? = some (some (.ref f)) ∧ R f sp ∧ t σ H fun vs H1 => sp vs H1 Q (E σ)
theorem pe_dyn {i : Nat} {R : Addr → Sp → Prop} {E : L2.St → XK} (hR : ∀ f sp, R f sp → CalAt X.prog X.w X.K X.mg X.base CX k f sp) (hr : Room j X.A) (hk : k ≤ j) (hN : X.N[i]? = some x) (hv : Vis X.env.scope x) (hx : ∀ σ, PassesAt CX X σ (E σ)) (ha : PA X (e :: es) t)
    (hdb : (x == ("__debug__" : Str)) = false := by decide) (hcd : (x == ("__classdict__" : Str)) = false := by decide)
    (he : starEach (e :: es) X.env = (false, eval e X.env) :: starEach es X.env := by rfl) (hpl : (backTo pos (starEach es X.env)).any (·.1) = false := by rfl) : PE X (.Call (.Name x p) (e :: es) [] pos) (tDyn i R E t) := by
  refine ⟨fun pins s σ H Q I h => ?_⟩
  obtain ⟨f, sp, hs, hS, ht⟩ := h
  obtain ⟨fd, ps, hkp, F, hb⟩ := (hR f sp hS).ex
  refine wpAny_Call_Name_kw (thn ((pe_var (pos := p) hN hv hdb hcd).run pins s σ H (fun v H1 => v = .ref f ∧ H1 = H) I ⟨.ref f, hs, rfl, rfl⟩) fun u s1 ⟨v, H1, I1, r1, q1⟩ => ?_)
  obtain ⟨rfl, rfl⟩ := q1
  cases r1
  refine PySem.W.callWith_K (h₀ := X.base) I.ok.mod.kin hkp (thn (ha.run pos pins s1 σ _ _ I1 ht) fun us s2 ⟨vs, H2, I2, r, q⟩ => ⟨I2.kIn, ?_⟩) he hpl
  exact run_fnS F (hr.mono hk) hb (hx σ) I2 r q
/-- a whole number of the top -/
structure Ci (mg : Str → Option Value) (x : Str) (n : Int) : Prop where
  ex : ∃ t, mg x = some (.int n t)
theorem pe_ci {n : Int} (c : Ci X.mg x n) (hg : Gl X x) (hd : (x == ("__debug__" : Str)) = false := by decide) : PE X (.Name x pos) (tC (.int n)) := by
  obtain ⟨t, h⟩ := c.ex
  exact pe_glob hg h ⟨t, rfl⟩ hd
/-- a tuple of the top, by its items -/
structure Ct (K : PySem.W.Frag) (mg : Str → Option Value) (x : Str) (xs : List V) : Prop where
  ex : ∃ a, mg x = some (.ref a) ∧ ∀ H, SqT K H a xs
def tCt (K : PySem.W.Frag) (xs : List V) : TE := fun _ H Q => ∀ a, (∀ H, SqT K H a xs) → Q (.ref a) H
theorem pe_ct {K : PySem.W.Frag} {mg : Str → Option Value} {xs : List V} (c : Ct K mg x xs) (hg : Gl X x) (hK : X.K = K := by rfl) (hM : X.mg = mg := by rfl) (hd : (x == ("__debug__" : Str)) = false := by decide) : PE X (.Name x pos) (tCt K xs) := by
  subst hK hM
  obtain ⟨a, h1, h2⟩ := c.ex
  refine ⟨fun pins s σ H Q I h => ?_⟩
  exact (pe_glob (v := .ref a) hg h1 rfl hd).run pins s σ H Q I (h a h2)
theorem pg_tupE {K : PySem.W.Frag} {es : List Expr} {j : Nat} {t : TGs} {n : Nat} (hc : X.calm = true) (hK : X.K = K) (h : PGs X es t)
    (hn : (assignEach es X.env).length = n := by rfl) (hst : (assignEach es X.env).findIdx? (·.1) = none := by rfl) : PG X (.Tuple es j pos) (gTup K n t) := by
  subst hK
  exact pg_tup hc h hn hst
/-- a tuple of pairs of the top -/
structure Tab (K : PySem.W.Frag) (mg : Str → Option Value) (x : Str) (cs : List (Int × Int)) : Prop where
  ex : ∃ rs : List Addr, Ct K mg x (rs.map V.ref) ∧ PySem.Paired (fun r (c : Int × Int) => ∀ H, SqT K H r [.int c.1, .int c.2]) rs cs
theorem Tab.at {K : PySem.W.Frag} {rs : List Addr} {cs : List (Int × Int)} (h : PySem.Paired (fun r (c : Int × Int) => ∀ H, SqT K H r [.int c.1, .int c.2]) rs cs) {n : Nat} {c : Int × Int} (e : cs[n]? = some c) :
    ∃ r, atI (rs.map V.ref) (n : Int) = some (.ref r) ∧ ∀ H, SqT K H r [.int c.1, .int c.2] := by
  have go : ∀ {rs : List Addr} {cs : List (Int × Int)} {n : Nat}, PySem.Paired (fun r (c : Int × Int) => ∀ H, SqT K H r [.int c.1, .int c.2]) rs cs → cs[n]? = some c → ∃ r, rs[n]? = some r ∧ ∀ H, SqT K H r [.int c.1, .int c.2] := by
    intro rs cs n h
    induction h generalizing n with
    | nil => intro e; simp at e
    | cons q t ih =>
      intro e
      cases n with
      | zero => simp at e; subst e; exact ⟨_, rfl, q⟩
      | succ n => exact ih (by simpa using e)
  obtain ⟨r, h1, h2⟩ := go h e
  exact ⟨r, atI_nat (by rw [List.getElem?_map, h1]; rfl), h2⟩
end
/-- what the built-ins' names stand for, and the constants -/
structure Glb (K : PySem.W.Frag) (mg : Str → Option Value) : Prop where
  b_len : mg "len" = none
  b_max : mg "max" = none
  b_min : mg "min" = none
  b_sum : mg "sum" = none
  b_abs : mg "abs" = none
  b_int : mg "int" = none
  b_set : mg "set" = none
  b_dict : mg "dict" = none
  b_list : mg "list" = none
  b_zip : mg "zip" = none
  b_range : mg "range" = none
  b_enumerate : mg "enumerate" = none
  c_NOT_SO : Ci mg "NOT_SO" (-1)
  c_NO_GRID : Ci mg "NO_GRID" (-2)
  c_NO_CUT : Ci mg "NO_CUT" (-3)
  c_NO_SHAPE : Ci mg "NO_SHAPE" (-6)
  c_MOST_SQUARES : Ci mg "MOST_SQUARES" 12
  c_LAST : Ci mg "LAST" 11
  c_MOST_FAR : Ci mg "MOST_FAR" 1000
  c_SHAPE : Ci mg "SHAPE" 0
  t_STEPS : Tab K mg "STEPS" [(1, 0), (0, 1), (-1, 0), (0, -1)]
  t_LEFT : Tab K mg "AHEAD_LEFT" [(0, 0), (-1, 0), (-1, -1), (0, -1)]
  t_RIGHT : Tab K mg "AHEAD_RIGHT" [(0, -1), (0, 0), (-1, 0), (-1, -1)]
  t_SIZES : Ct K mg "SIZES" (([0, 0, 0, 0, 3, 0, 3, 3, 0] : List Int).map V.int)
theorem hu64 {k : Nat} {A : Around} (r : Room k A) : A.units + 64 < cLine := r.units
theorem hu65 {k : Nat} {A : Around} (r : Room k A) : A.units + 65 < cLine := by have := r.un; omega
/-! ### what a def hands back -/
/-- a tuple of these, new -/
def RT (H : Hp) (Q : VK) (ns : List Int) : Prop := ∀ p H', Same H H' → H p = none → Tp H' p ns → Q (.ref p) H'
/-- a list of these, new -/
def RL (H : Hp) (Q : VK) (ns : List Int) : Prop := ∀ p H', Same H H' → H p = none → Il H' p ns → Q (.ref p) H'
/-- a list of tuples, new -/
def RR (H : Hp) (Q : VK) (rs : List (List Int)) : Prop := ∀ p H', Same H H' → H p = none → Rw H' p rs → Q (.ref p) H'
/-- a number, a truth value -/
def RI (H : Hp) (Q : VK) (n : Int) : Prop := ∀ H', Same H H' → Q (.int n) H'
def RB (H : Hp) (Q : VK) (b : Bool) : Prop := ∀ H', Same H H' → Q (.bl b) H'
end Oc
namespace Oc
open PySem PySem.Spec PyProof.Rows L2
variable {P : Program} {w : World} {K : PySem.W.Frag} {mg : Str → Option Value} {base : Heap}
/-! ## beside, square_at, next_way, turned, rest_of -/
abbrev cl (c : Ti01.Cell) : List Int := [c.1, c.2]
def spBeside : Sp := fun vs H Q _ => ∃ (t : Addr) (n : Nat) (c : Ti01.Cell), vs = [.ref t, .int n] ∧ n < 4 ∧ Tp H t (cl c) ∧ RT H Q (cl (Ti01.ahead c n))
theorem ahead_tab (c : Ti01.Cell) {n : Nat} (h : n < 4) : ∃ d : Int × Int, ([(1, 0), (0, 1), (-1, 0), (0, -1)] : List (Int × Int))[n]? = some d ∧ Ti01.ahead c n = (c.1 + d.1, c.2 + d.2) := by
  rcases Om.lt4 h with rfl | rfl | rfl | rfl
  · exact ⟨(1, 0), rfl, by simp [Ti01.ahead]⟩
  · exact ⟨(0, 1), rfl, by simp [Ti01.ahead]⟩
  · exact ⟨(-1, 0), rfl, by simp [Ti01.ahead]; omega⟩
  · exact ⟨(0, -1), rfl, by simp [Ti01.ahead]; omega⟩
theorem sc_beside : FnScope ["square", "way", "right", "up"] ["square", "way"] (defScope (top 11)) := ⟨rfl, rfl, rfl, by decide +kernel, rfl, by decide +kernel, by decide +kernel⟩
theorem cal_beside (D : Df K mg "beside" (top 11)) (G : Glb K mg) : Cal P w K mg base CX0 1 "beside" spBeside := by
  obtain ⟨rs, c_STEPS, hrs⟩ := G.t_STEPS.ex
  refine D.ok sc_beside (fun vs H Q E h => by obtain ⟨_, _, _, rfl, _⟩ := h; rfl) (fun _ _ _ _ _ _ us hl => match us, hl with | [_, _], _ => rfl) (fun f cdv A outer s H vs Q E hr h => ?_)
  refine ⟨_, (pss_cons (ps_asg (pe_ix (r := rIxT K) ix_tup (pe_ct c_STEPS (by exact rfl)) (pv 1) (fun _ _ => rfl)) (pg_tup rfl (pgs_cons (pg_name (i := 2) sc_beside.nd rfl (Or.inl rfl)) (pgs_cons (pg_name (i := 3) sc_beside.nd rfl (Or.inl rfl)) pgs_nil))))
      (pss_one (ps_ret (pe_tup (by exact (pa_cons (pe_op op_add (pe_ix (r := rIxT K) ix_tup (pv 0) pe_int (fun _ _ => rfl)) (pv 2)) (pa_cons (pe_op op_add (pe_ix (r := rIxT K) ix_tup (pv 0) pe_int (fun _ _ => rfl)) (pv 3)) pa_nil))))))), ?_⟩
  obtain ⟨t, n, c, rfl, hn, ht, k⟩ := h
  obtain ⟨d, e1, e2⟩ := ahead_tab c hn
  obtain ⟨r, h1, h2⟩ := Tab.at hrs e1
  intro a ha
  refine ⟨_, rfl, a, _, _, _, rfl, rfl, ha _, h1, r, _, rfl, h2 _, rfl, _, _, rfl, _, _, rfl, rfl, ?_⟩
  refine ⟨_, rfl, t, _, _, _, rfl, rfl, ht.sq, rfl, _, rfl, _, _, rfl, rfl, _, rfl, t, _, _, _, rfl, rfl, ht.sq, rfl, _, rfl, _, _, rfl, rfl, (by show 2 ≤ sizeLine; decide), fun p hp => ?_⟩
  refine k p _ (same_new hp) hp ?_
  show upd H p _ p = _
  rw [upd_same, e2]
  rfl
def spSquareAt (K : PySem.W.Frag) : Sp := fun vs H Q _ => ∃ (t u : Addr) (c d : Ti01.Cell), vs = [.ref t, .ref u] ∧ Tp H t (cl c) ∧ SqT K H u [.int d.1, .int d.2] ∧ RT H Q [c.1 + d.1, c.2 + d.2]
theorem sc_square_at : FnScope ["corner", "off"] ["corner", "off"] (defScope (top 29)) := ⟨rfl, rfl, rfl, by decide +kernel, rfl, by decide +kernel, by decide +kernel⟩
theorem cal_square_at (D : Df K mg "square_at" (top 29)) : Cal P w K mg base CX0 1 "square_at" (spSquareAt K) := by
  refine D.ok sc_square_at (fun vs H Q E h => by obtain ⟨_, _, _, _, rfl, _⟩ := h; rfl) (fun _ _ _ _ _ _ us hl => match us, hl with | [_, _], _ => rfl) (fun f cdv A outer s H vs Q E hr h => ?_)
  refine ⟨_, (pss_one (ps_ret (pe_tup (by exact (pa_cons (pe_op op_add (pe_ix (r := rIxT K) ix_tup (pv 0) pe_int (fun _ _ => rfl)) (pe_ix (r := rIxT K) ix_tup (pv 1) pe_int (fun _ _ => rfl))) (pa_cons (pe_op op_add (pe_ix (r := rIxT K) ix_tup (pv 0) pe_int (fun _ _ => rfl)) (pe_ix (r := rIxT K) ix_tup (pv 1) pe_int (fun _ _ => rfl))) pa_nil)))))), ?_⟩
  obtain ⟨t, u, c, d, rfl, ht, hu, k⟩ := h
  refine ⟨_, rfl, t, _, _, _, rfl, rfl, ht.sq, rfl, _, rfl, u, _, _, _, rfl, rfl, hu, rfl, _, _, rfl, rfl, _, rfl, t, _, _, _, rfl, rfl, ht.sq, rfl, _, rfl, u, _, _, _, rfl, rfl, hu, rfl, _, _, rfl, rfl, (by show 2 ≤ sizeLine; decide), fun p hp => ?_⟩
  exact k p _ (same_new hp) hp upd_same
/-! ## next_way, turned, rest_of, gone_back -/
theorem cl_inj {c d : Ti01.Cell} (h : cl c = cl d) : c = d := by
  obtain ⟨a, b⟩ := c
  obtain ⟨x, y⟩ := d
  simp [cl] at h
  rw [h.1, h.2]
theorem cl_has (s : List Ti01.Cell) (c : Ti01.Cell) : (s.map cl).contains (cl c) = s.contains c := by
  induction s with
  | nil => rfl
  | cons a s ih =>
    rw [List.map_cons, List.contains_cons, List.contains_cons, ih]
    congr 1
    by_cases h : c = a
    · subst h; simp
    · have : ¬ cl c = cl a := fun e => h (cl_inj e)
      rw [beq_eq_false_iff_ne.mpr h, beq_eq_false_iff_ne.mpr this]
theorem side_tab (c : Ti01.Cell) {n : Nat} (h : n < 4) : (∃ d : Int × Int, ([(0, -1), (0, 0), (-1, 0), (-1, -1)] : List (Int × Int))[n]? = some d ∧ Ti01.rightOf c n = (c.1 + d.1, c.2 + d.2)) ∧
    ∃ d : Int × Int, ([(0, 0), (-1, 0), (-1, -1), (0, -1)] : List (Int × Int))[n]? = some d ∧ Ti01.leftOf c n = (c.1 + d.1, c.2 + d.2) := by
  rcases Om.lt4 h with rfl | rfl | rfl | rfl
  · exact ⟨⟨(0, -1), rfl, by simp [Ti01.rightOf]; omega⟩, ⟨(0, 0), rfl, by simp [Ti01.leftOf]⟩⟩
  · exact ⟨⟨(0, 0), rfl, by simp [Ti01.rightOf]⟩, ⟨(-1, 0), rfl, by simp [Ti01.leftOf]; omega⟩⟩
  · exact ⟨⟨(-1, 0), rfl, by simp [Ti01.rightOf]; omega⟩, ⟨(-1, -1), rfl, by simp [Ti01.leftOf]; omega⟩⟩
  · exact ⟨⟨(-1, -1), rfl, by simp [Ti01.rightOf]; omega⟩, ⟨(0, -1), rfl, by simp [Ti01.leftOf]; omega⟩⟩
def spNextWay : Sp := fun vs H Q _ => ∃ (a t : Addr) (n : Nat) (s : List Ti01.Cell) (c : Ti01.Cell), vs = [.ref a, .ref t, .int n] ∧ n < 4 ∧ Rw H a (s.map cl) ∧ Tp H t (cl c) ∧ RI H Q (Ti01.turn s c n : Nat)
theorem sc_next_way : FnScope ["squares", "corner", "way"] ["squares", "corner", "way"] (defScope (top 30)) := ⟨rfl, rfl, rfl, by decide +kernel, rfl, by decide +kernel, by decide +kernel⟩
theorem cal_next_way (D : Df K mg "next_way" (top 30)) (G : Glb K mg) (c_square_at : Cal P w K mg base CX0 1 "square_at" (spSquareAt K)) : Cal P w K mg base CX0 2 "next_way" spNextWay := by
  obtain ⟨rs1, c_AHEAD_LEFT, hl⟩ := G.t_LEFT.ex
  obtain ⟨rs2, c_AHEAD_RIGHT, hr2⟩ := G.t_RIGHT.ex
  refine D.ok sc_next_way (fun vs H Q E h => by obtain ⟨_, _, _, _, _, rfl, _⟩ := h; rfl) (fun _ _ _ _ _ _ us hl => match us, hl with | [_, _, _], _ => rfl) (fun f cdv A outer s H vs Q E hr h => ?_)
  refine ⟨_, (pss_cons (ps_if (pt_cmpR (op_inR (hu65 hr)) (pe_c c_square_at hr (by decide) rfl (by exact (pa_cons (pv 1) (pa_cons (pe_ix (r := rIxT K) ix_tup (pe_ct c_AHEAD_RIGHT (by exact rfl)) (pv 2) (fun _ _ => rfl)) pa_nil)))) (pv 0) rfl) (pss_one (ps_ret (pe_op op_mod (pe_op op_add (pv 2) pe_int) pe_int))) pss_nil)
      (pss_cons (ps_if (pt_cmpR (op_inR (hu65 hr)) (pe_c c_square_at hr (by decide) rfl (by exact (pa_cons (pv 1) (pa_cons (pe_ix (r := rIxT K) ix_tup (pe_ct c_AHEAD_LEFT (by exact rfl)) (pv 2) (fun _ _ => rfl)) pa_nil)))) (pv 0) rfl) (pss_one (ps_ret (pv 2))) pss_nil)
      (pss_one (ps_ret (pe_op op_mod (pe_op op_add (pv 2) pe_int) pe_int))))), ?_⟩
  obtain ⟨a, t, n, s, c, rfl, hn, ha, ht, k⟩ := h
  obtain ⟨⟨d1, e1, e2⟩, ⟨d2, e3, e4⟩⟩ := side_tab c hn
  obtain ⟨r1, h1, h2⟩ := Tab.at hr2 e1
  obtain ⟨r2, h3, h4⟩ := Tab.at hl e3
  have c1 : (s.map cl).contains [c.1 + d1.1, c.2 + d1.2] = s.contains (Ti01.rightOf c n) := by
    rw [e2]; exact cl_has s (c.1 + d1.1, c.2 + d1.2)
  have c2 : (s.map cl).contains [c.1 + d2.1, c.2 + d2.2] = s.contains (Ti01.leftOf c n) := by
    rw [e4]; exact cl_has s (c.1 + d2.1, c.2 + d2.2)
  refine ⟨_, rfl, fun b hb => ⟨_, rfl, b, _, _, _, rfl, rfl, hb _, h1, t, r1, c, d1, rfl, ht, h2 _, fun p H1 s1 hp hT => ⟨_, rfl, p, _, a, _, rfl, rfl, hT, ha.same s1, _, rfl, ?_⟩⟩⟩
  rw [c1]
  refine ite2 (fun g1 => ?_) (fun g1 => ?_)
  · refine ⟨_, rfl, _, _, rfl, rfl, _, _, rfl, rfl, (by show (0 : Int) < 4; decide), ?_⟩
    have e : Ti01.turn s c n = (n + 3) % 4 := by unfold Ti01.turn; rw [if_pos g1]
    have k' := k H1 s1
    rw [e] at k'
    exact k'
  · refine ⟨_, rfl, fun b hb => ⟨_, rfl, b, _, _, _, rfl, rfl, hb _, h3, t, r2, c, d2, rfl, ht.same s1, h4 _, fun p' H2 s2 hp' hT' => ⟨_, rfl, p', _, a, _, rfl, rfl, hT', ha.same (s1.trans s2), _, rfl, ?_⟩⟩⟩
    rw [c2]
    refine ite2 (fun g2 => ?_) (fun g2 => ?_)
    · refine ⟨_, rfl, ?_⟩
      have e : Ti01.turn s c n = n := by unfold Ti01.turn; rw [if_neg g1, if_pos g2]
      have k' := k H2 (s1.trans s2)
      rw [e] at k'
      exact k'
    · refine ⟨_, rfl, _, _, rfl, rfl, _, _, rfl, rfl, (by show (0 : Int) < 4; decide), ?_⟩
      have e : Ti01.turn s c n = (n + 1) % 4 := by unfold Ti01.turn; rw [if_neg g1, if_neg g2]
      have k' := k H2 (s1.trans s2)
      rw [e] at k'
      exact k'
/-! slices -/
theorem cut_from (xs : List V) (i : Nat) : cutV xs (some (i : Int)) none = xs.drop i := by
  unfold cutV
  rw [HT.sIx_nat, HT.sIx_none]
  have e : xs.drop (min i xs.length) = xs.drop i := by
    by_cases h : i ≤ xs.length
    · rw [Nat.min_eq_left h]
    · rw [Nat.min_eq_right (by omega), List.drop_eq_nil_of_le (Nat.le_refl _), List.drop_eq_nil_of_le (by omega)]
  rw [e, List.take_of_length_le]
  rw [List.length_drop]
  omega
theorem cut_to (xs : List V) (i : Nat) : cutV xs none (some (i : Int)) = xs.take i := by
  unfold cutV
  rw [HT.sIx_nat, HT.sIx_none, List.drop_zero, Nat.sub_zero]
  by_cases h : i ≤ xs.length
  · rw [Nat.min_eq_left h]
  · rw [Nat.min_eq_right (by omega), List.take_of_length_le (Nat.le_refl _), List.take_of_length_le (by omega)]
theorem cut_mid (xs : List V) (i j : Nat) : cutV xs (some (i : Int)) (some (j : Int)) = (xs.drop i).take (j - i) := by
  unfold cutV
  rw [HT.sIx_nat, HT.sIx_nat]
  by_cases h : i ≤ xs.length
  · rw [Nat.min_eq_left h]
    by_cases h2 : j ≤ xs.length
    · rw [Nat.min_eq_left h2]
    · rw [Nat.min_eq_right (by omega), List.take_of_length_le (by rw [List.length_drop]; exact Nat.le_refl _), List.take_of_length_le (by rw [List.length_drop]; omega)]
  · rw [Nat.min_eq_right (show xs.length ≤ i by omega), List.drop_eq_nil_of_le (Nat.le_refl _), List.drop_eq_nil_of_le (show xs.length ≤ i by omega)]
    simp
theorem ints_drop (w : List Nat) (i : Nat) : (Ti01.ints w).drop i = Ti01.ints (w.drop i) := by simp [Ti01.ints, List.map_drop]
theorem ints_take (w : List Nat) (i : Nat) : (Ti01.ints w).take i = Ti01.ints (w.take i) := by simp [Ti01.ints, List.map_take]
theorem ints_app (a b : List Nat) : Ti01.ints (a ++ b) = Ti01.ints a ++ Ti01.ints b := by simp [Ti01.ints]
theorem ints_length (w : List Nat) : (Ti01.ints w).length = w.length := by simp [Ti01.ints]
theorem line_of {n : Nat} (h : n ≤ 16000000) : n ≤ sizeLine := by rw [sizeLine_eq]; omega
theorem line_lt {n : Nat} (h : n ≤ 16000000) : n < sizeLine := by rw [sizeLine_eq]; omega
def spTurned : Sp := fun vs H Q _ => ∃ (a : Addr) (i : Nat) (w : List Nat), vs = [.ref a, .int i] ∧ Il H a (Ti01.ints w) ∧ w.length ≤ 1000 ∧ RL H Q (Ti01.ints (Ti01.from_ w i))
theorem sc_turned : FnScope ["edge", "i"] ["edge", "i"] (defScope (top 18)) := ⟨rfl, rfl, rfl, by decide +kernel, rfl, by decide +kernel, by decide +kernel⟩
theorem cal_turned (D : Df K mg "turned" (top 18)) : Cal P w K mg base CX0 1 "turned" spTurned := by
  refine D.ok sc_turned (fun vs H Q E h => by obtain ⟨_, _, _, rfl, _⟩ := h; rfl) (fun _ _ _ _ _ _ us hl => match us, hl with | [_, _], _ => rfl) (fun f cdv A outer s H vs Q E hr h => ?_)
  refine ⟨_, (pss_one (ps_ret (pe_op op_cat (pe_slice sl_list (pv 0) (po_some (pv 1)) po_none) (pe_slice sl_list (pv 0) po_none (po_some (pv 1)))))), ?_⟩
  obtain ⟨a, i, w', rfl, ha, hl, k⟩ := h
  refine ⟨_, rfl, _, rfl, _, rfl, a, _, rfl, ha.sq, fun p hp => ?_⟩
  have s1 : Same H _ := same_new (o := .lst (cutV ((Ti01.ints w').map V.int) (some (i : Int)) none)) hp
  refine ⟨_, rfl, _, rfl, _, rfl, a, _, rfl, (ha.same s1).sq, fun q hq => ?_⟩
  have s2 := Same.new s1 (o := .lst (cutV ((Ti01.ints w').map V.int) none (some (i : Int)))) hq
  have hpq : p ≠ q := ne_of_none upd_same hq
  refine ⟨p, q, _, _, rfl, rfl, (upd_ne hpq).trans upd_same, upd_same, ?_, fun r hr' => ?_⟩
  · rw [cut_from, cut_to, List.length_drop, List.length_take, List.length_map, ints_length]
    exact line_of (by omega)
  · refine k r _ (Same.new s2 hr') (s2.free hr') ?_
    show upd _ r _ r = _
    rw [upd_same, cut_from, cut_to, ← List.map_drop, ← List.map_take, ints_drop, ints_take, ← List.map_append, ← ints_app]
    rfl
/-! a grid -/
abbrev gl (g : Ti01.Grid) : List Int := [(g.a : Int), (g.b : Int), (g.d : Int)]
structure GOk (g : Ti01.Grid) : Prop where
  a : 0 < g.a
  b : g.b ≤ 1000
  d : 0 < g.d
  a1 : g.a ≤ 1000
  d1 : g.d ≤ 1000
def spRestOf : Sp := fun vs H Q _ => ∃ (t : Addr) (x y : Int) (g : Ti01.Grid), vs = [.ref t, .int x, .int y] ∧ Tp H t (gl g) ∧ GOk g ∧ RT H Q (cl (Ti01.home g (x, y)))
theorem sc_rest_of : FnScope ["grid", "x", "y", "a", "b", "d", "up"] ["grid", "x", "y"] (defScope (top 33)) := ⟨rfl, rfl, rfl, by decide +kernel, rfl, by decide +kernel, by decide +kernel⟩
theorem cal_rest_of (D : Df K mg "rest_of" (top 33)) : Cal P w K mg base CX0 1 "rest_of" spRestOf := by
  refine D.ok sc_rest_of (fun vs H Q E h => by obtain ⟨_, _, _, _, rfl, _⟩ := h; rfl) (fun _ _ _ _ _ _ us hl => match us, hl with | [_, _, _], _ => rfl) (fun f cdv A outer s H vs Q E hr h => ?_)
  refine ⟨_, (pss_cons (ps_asg (pv 0) (pg_tup rfl (pgs_cons (pg_name (i := 3) sc_rest_of.nd rfl (Or.inl rfl)) (pgs_cons (pg_name (i := 4) sc_rest_of.nd rfl (Or.inl rfl)) (pgs_cons (pg_name (i := 5) sc_rest_of.nd rfl (Or.inl rfl)) pgs_nil)))))
      (pss_cons (ps_set (i := 6) sc_rest_of.nd rfl (Or.inl rfl) (pe_op op_fdiv (pv 2) (pv 5)))
      (pss_one (ps_ret (pe_tup (by exact (pa_cons (pe_op op_mod (pe_op op_sub (pv 1) (pe_op op_mul (pv 6) (pv 4))) (pv 3)) (pa_cons (pe_op op_sub (pv 2) (pe_op op_mul (pv 6) (pv 5))) pa_nil)))))))), ?_⟩
  obtain ⟨t, x, y, g, rfl, ht, hg, k⟩ := h
  have h1 := hg.a
  have h2 := hg.b
  have h3 := hg.d
  have h4 := hg.d1
  have cb : CMul (y / (g.d : Int)) (g.b : Int) := .inr ⟨by omega, by omega⟩
  have cd : CMul (y / (g.d : Int)) (g.d : Int) := .inr ⟨by omega, by omega⟩
  refine ⟨_, rfl, t, _, rfl, ht.sq, rfl, _, _, rfl, _, _, rfl, _, _, rfl, rfl, ?_⟩
  refine ⟨_, rfl, _, rfl, _, _, rfl, rfl, ⟨by omega, by omega⟩, ?_⟩
  refine ⟨_, rfl, _, rfl, _, rfl, _, _, rfl, rfl, cb, _, _, rfl, rfl, _, rfl, _, _, rfl, rfl, (by omega), ?_⟩
  refine ⟨_, rfl, _, rfl, _, rfl, _, _, rfl, rfl, cd, _, _, rfl, rfl, (by show 2 ≤ sizeLine; decide), fun p hp => ?_⟩
  refine k p _ (same_new hp) hp ?_
  show upd H p _ p = _
  rw [upd_same, Om.home_eq]
  rfl
end Oc
namespace Oc
open PySem PySem.Spec PyProof.Rows L2
variable {P : Program} {w : World} {K : PySem.W.Frag} {mg : Str → Option Value} {base : Heap}
/-! ## gone_back, parts_of, is_cut -/
theorem take_more {α : Type} : ∀ {l : List α} {i : Nat} {x : α}, l[i]? = some x → l.take (i + 1) = l.take i ++ [x] := fun {l i x} h => by
  rw [List.take_succ, h]
  rfl
theorem il_cat {H : Hp} {p : Addr} {ns ms : List Int} : Il (upd H p (.lst (ns.map V.int ++ ms.map V.int))) p (ns ++ ms) := by
  show upd H p _ p = _
  rw [upd_same, ← List.map_append]
theorem nat_at {v : List Nat} {i : Nat} {x : V} (h : ((Ti01.ints v).map V.int)[i]? = some x) : ∃ n, v[i]? = some n ∧ x = .int (n : Nat) := by
  obtain ⟨z, h1, h2⟩ := int_at h
  unfold Ti01.ints at h1
  rw [List.getElem?_map] at h1
  cases e : v[i]? with
  | none => rw [e] at h1; cases h1
  | some n =>
    rw [e] at h1
    exact ⟨n, rfl, by rw [h2, ← Option.some.inj h1]⟩
theorem ints_snoc (v : List Nat) (n : Nat) : (Ti01.ints (v ++ [n])).map V.int = (Ti01.ints v).map V.int ++ [V.int (n : Nat)] := by
  rw [ints_app, List.map_append]
  rfl
theorem yesT {σ : L2.St} {H : Hp} {A B : Hp → Prop} (h : A H) : tYes σ H (fun b H3 => if b = true then A H3 else B H3) := by
  show (if true = true then A H else B H)
  rw [if_pos rfl]
  exact h
def spGoneBack : Sp := fun vs H Q _ => ∃ (a : Addr) (v : List Nat), vs = [.ref a] ∧ Il H a (Ti01.ints v) ∧ v.length ≤ 1000 ∧ RL H Q (Ti01.ints (Ti01.back v))
theorem sc_gone_back : FnScope ["steps", "step"] ["steps"] (defScope (top 17)) := ⟨rfl, rfl, rfl, by decide +kernel, rfl, by decide +kernel, by decide +kernel⟩
theorem cal_gone_back (D : Df K mg "gone_back" (top 17)) : Cal P w K mg base CX0 1 "gone_back" spGoneBack := by
  refine D.ok sc_gone_back (fun vs H Q E h => by obtain ⟨_, _, rfl, _⟩ := h; rfl) (fun _ _ _ _ _ _ us hl => match us, hl with | [_], _ => rfl) (fun f cdv A outer s H vs Q E hr h => ?_)
  refine ⟨_, (pss_one (ps_ret (pe_lc (own := [("step", 1)]) rfl sc_gone_back.nd (pi_list (pe_revL (pv 0))) (blkOk_by (own := [("step", 1)]) (N := ["steps", "step"]) (sc := defScope (top 17)) (by decide +kernel)) (fun _ _ _ _ _ => (pg_name (i := 1) sc_gone_back.nd rfl (Or.inl rfl))) (fun _ _ _ _ _ => by exact pts_nil) (fun _ _ _ _ _ => by exact (pe_op op_mod (pe_op op_add (pv 1) pe_int) pe_int))))), ?_⟩
  obtain ⟨a, v, rfl, ha, hl, k⟩ := h
  have e0 : ((Ti01.ints v).map V.int).reverse = (Ti01.ints v.reverse).map V.int := by
    simp only [Ti01.ints, List.map_reverse]
  refine ⟨_, rfl, a, _, rfl, ha.sq, fun p hp => ⟨p, rfl, ⟨_, .of upd_same⟩, fun F hF => ?_⟩⟩
  rw [e0] at hF ⊢
  refine lc_list (K := K) (a := p) (xs := (Ti01.ints v.reverse).map V.int) (fun i H' => Same (upd H p (.lst ((Ti01.ints v.reverse).map V.int))) H' ∧ Il H' F (Ti01.ints ((v.reverse.take i).map Om.opp)))
    ⟨same_new hF, upd_same⟩ (fun i H' _ ⟨s1, _⟩ => .of (s1 _ _ upd_same)) ?_ ?_
  · rintro i x H' hx ⟨s1, h1⟩
    obtain ⟨n, hn, rfl⟩ := nat_at hx
    refine ⟨rfl, yesT ⟨_, rfl, _, _, rfl, rfl, _, _, rfl, rfl, (by show (0 : Int) < 4; decide), _, h1, ?_, Same.put s1 hF, ?_⟩⟩
    · simp only [List.length_map, ints_length, List.length_take, List.length_reverse]
      exact line_lt (by omega)
    · show upd H' F _ F = _
      rw [upd_same, take_more hn, List.map_append, List.map_cons, List.map_nil, ints_snoc]
      rfl
  · rintro H' ⟨s1, h1⟩
    have s2 : Same H H' := (same_new hp).trans s1
    refine k F H' s2 ((same_new hp).free hF) ?_
    rw [List.length_map, ints_length, List.take_of_length_le (Nat.le_refl _)] at h1
    rw [Om.back_eq, ← List.map_reverse]
    exact h1
def spPartsOf : Sp := fun vs H Q _ => ∃ (e : Addr) (i a b : Nat) (v : List Nat), vs = [.ref e, .int i, .int a, .int b] ∧ Il H e (Ti01.ints v) ∧ v.length ≤ 1000 ∧
  ∀ p x y z H', Same H H' → H p = none → H' p = some (.tup [.ref x, .ref y, .ref z]) → Il H' x (Ti01.ints ((Ti01.from_ v i).take a)) → Il H' y (Ti01.ints (((Ti01.from_ v i).drop a).take b)) →
    Il H' z (Ti01.ints (((Ti01.from_ v i).drop (a + b)).take (v.length / 2 - (a + b)))) → Q (.ref p) H'
theorem sc_parts_of : FnScope ["edge", "i", "a", "b", "steps"] ["edge", "i", "a", "b"] (defScope (top 19)) := ⟨rfl, rfl, rfl, by decide +kernel, rfl, by decide +kernel, by decide +kernel⟩
theorem cal_parts_of (D : Df K mg "parts_of" (top 19)) (G : Glb K mg) (c_turned : Cal P w K mg base CX0 1 "turned" spTurned) : Cal P w K mg base CX0 2 "parts_of" spPartsOf := by
  refine D.ok sc_parts_of (fun vs H Q E h => by obtain ⟨_, _, _, _, _, rfl, _⟩ := h; rfl) (fun _ _ _ _ _ _ us hl => match us, hl with | [_, _, _, _], _ => rfl) (fun f cdv A outer s H vs Q E hr h => ?_)
  refine ⟨_, (pss_cons (ps_set (i := 4) sc_parts_of.nd rfl (Or.inl rfl) (pe_c c_turned hr (by decide) rfl (by exact (pa_cons (pv 0) (pa_cons (pv 1) pa_nil)))))
      (pss_one (ps_ret (pe_tup (by exact (pa_cons (pe_slice sl_list (pv 4) po_none (po_some (pv 2))) (pa_cons (pe_slice sl_list (pv 4) (po_some (pv 2)) (po_some (pe_op op_add (pv 2) (pv 3)))) (pa_cons (pe_slice sl_list (pv 4) (po_some (pe_op op_add (pv 2) (pv 3))) (po_some (pe_op op_fdiv (pe_callB call_len_seq rfl G.b_len PySem.boot_len (by exact (pa_cons (pv 0) pa_nil))) pe_int))) pa_nil)))))))), ?_⟩
  obtain ⟨e, i, a, b, v, rfl, he, hl, k⟩ := h
  refine ⟨_, rfl, _, rfl, e, i, v, rfl, he, hl, fun p H1 s1 hp hv => ?_⟩
  refine ⟨_, rfl, _, rfl, _, rfl, p, _, rfl, hv.sq, fun x hx => ?_⟩
  refine ⟨_, rfl, _, rfl, _, rfl, _, rfl, _, rfl, _, _, rfl, rfl, _, rfl, p, _, rfl, (hv.same (same_new hx)).sq, fun y hy => ?_⟩
  have s2 := Same.new (same_new (H := H1) (o := .lst (cutV ((Ti01.ints (Ti01.from_ v i)).map V.int) none (some (a : Int)))) hx) (o := .lst (cutV ((Ti01.ints (Ti01.from_ v i)).map V.int) (some (a : Int)) (some ((a : Int) + (b : Int))))) hy
  refine ⟨_, rfl, _, rfl, _, rfl, _, _, rfl, rfl, _, rfl, _, rfl, e, _, rfl, .inl (he.same (s1.trans s2)).sq, _, _, rfl, rfl, ⟨by show (0 : Int) < 2; decide, by show (2 : Int) < 1073741824; decide⟩, _, rfl, p, _, rfl, (hv.same s2).sq, fun z hz => ?_⟩
  have s3 := Same.new s2 (o := .lst (cutV ((Ti01.ints (Ti01.from_ v i)).map V.int) (some ((a : Int) + (b : Int))) (some (((((Ti01.ints v).map V.int).length : Nat) : Int) / 2)))) hz
  refine ⟨by show 3 ≤ sizeLine; exact line_of (by decide), fun q hq => ?_⟩
  have s4 := Same.new s3 (o := .tup [.ref x, .ref y, .ref z]) hq
  have xy : x ≠ y := ne_of_none upd_same hy
  have xz : x ≠ z := ne_of_none ((upd_ne xy).trans upd_same) hz
  have yz : y ≠ z := ne_of_none upd_same hz
  have xq : x ≠ q := ne_of_none ((upd_ne xz).trans ((upd_ne xy).trans upd_same)) hq
  have yq : y ≠ q := ne_of_none ((upd_ne yz).trans upd_same) hq
  have zq : z ≠ q := ne_of_none upd_same hq
  have eh : (((((Ti01.ints v).map V.int).length : Nat) : Int) / 2) = ((v.length / 2 : Nat) : Int) := by
    rw [List.length_map, ints_length]
    omega
  have eab : (a : Int) + (b : Int) = ((a + b : Nat) : Int) := by omega
  refine k q x y z _ (s1.trans s4) (s1.free (s3.free hq)) upd_same ?_ ?_ ?_
  · show upd _ q _ x = _
    rw [upd_ne xq, upd_ne xz, upd_ne xy, upd_same, cut_to, ← List.map_take, ints_take]
  · show upd _ q _ y = _
    rw [upd_ne yq, upd_ne yz, upd_same, eab, cut_mid, ← List.map_drop, ← List.map_take, ints_drop, ints_take, Nat.add_sub_cancel_left]
  · show upd _ q _ z = _
    rw [upd_ne zq, upd_same, eh, eab, cut_mid, ← List.map_drop, ← List.map_take, ints_drop, ints_take]
def spIsCut : Sp := fun vs H Q _ => ∃ (e : Addr) (i a b : Nat) (v : List Nat), vs = [.ref e, .int i, .int a, .int b] ∧ Il H e (Ti01.ints v) ∧ v.length ≤ 1000 ∧ RB H Q (Om.isCutM v i a b)
theorem sc_is_cut : FnScope ["edge", "i", "a", "b", "half", "one", "two", "three"] ["edge", "i", "a", "b"] (defScope (top 20)) := ⟨rfl, rfl, rfl, by decide +kernel, rfl, by decide +kernel, by decide +kernel⟩
theorem cal_is_cut (D : Df K mg "is_cut" (top 20)) (G : Glb K mg) (c_turned : Cal P w K mg base CX0 1 "turned" spTurned) (c_parts_of : Cal P w K mg base CX0 2 "parts_of" spPartsOf)
    (c_gone_back : Cal P w K mg base CX0 1 "gone_back" spGoneBack) : Cal P w K mg base CX0 3 "is_cut" spIsCut := by
  refine D.ok sc_is_cut (fun vs H Q E h => by obtain ⟨_, _, _, _, _, rfl, _⟩ := h; rfl) (fun _ _ _ _ _ _ us hl => match us, hl with | [_, _, _, _], _ => rfl) (fun f cdv A outer s H vs Q E hr h => ?_)
  refine ⟨_, (pss_cons (ps_set (i := 4) sc_is_cut.nd rfl (Or.inl rfl) (pe_op op_fdiv (pe_callB call_len_seq rfl G.b_len PySem.boot_len (by exact (pa_cons (pv 0) pa_nil))) pe_int))
      (pss_cons (ps_if (PW.pt (pw_or (pt_cmpR op_ge (pv 1) (pv 4) (nomark _)) (pw_or (pt_cmpR op_lt (pv 2) pe_int (nomark _)) (pw_or (pt_cmpR op_lt (pv 3) pe_int (nomark _)) (pw_or1 (pt_cmpR op_gt (pe_op op_add (pv 2) (pv 3)) (pv 4) (nomark _))))))) (pss_one (ps_ret pe_bl)) pss_nil)
      (pss_cons (ps_asg (pe_c c_parts_of hr (by decide) rfl (by exact (pa_cons (pv 0) (pa_cons (pv 1) (pa_cons (pv 2) (pa_cons (pv 3) pa_nil)))))) (pg_tup rfl (pgs_cons (pg_name (i := 5) sc_is_cut.nd rfl (Or.inl rfl)) (pgs_cons (pg_name (i := 6) sc_is_cut.nd rfl (Or.inl rfl)) (pgs_cons (pg_name (i := 7) sc_is_cut.nd rfl (Or.inl rfl)) pgs_nil)))))
      (pss_one (ps_ret (pe_cmpR (op_eqI (hu64 hr)) (pe_slice sl_list (pe_c c_turned hr (by decide) rfl (by exact (pa_cons (pv 0) (pa_cons (pv 1) pa_nil)))) (po_some (pv 4)) po_none) (pe_op op_cat (pe_op op_cat (pe_c c_gone_back hr (by decide) rfl (by exact (pa_cons (pv 5) pa_nil))) (pe_c c_gone_back hr (by decide) rfl (by exact (pa_cons (pv 6) pa_nil)))) (pe_c c_gone_back hr (by decide) rfl (by exact (pa_cons (pv 7) pa_nil)))) (nomark _))))))), ?_⟩
  obtain ⟨e, i, a, b, v, rfl, he, hl, k⟩ := h
  have eh : (((((Ti01.ints v).map V.int).length : Nat) : Int) / 2) = ((v.length / 2 : Nat) : Int) := by
    rw [List.length_map, ints_length]
    omega
  refine ⟨_, rfl, e, _, rfl, .inl he.sq, _, _, rfl, rfl, ⟨by show (0 : Int) < 2; decide, by show (2 : Int) < 1073741824; decide⟩, ?_⟩
  simp only [eh]
  have no : Om.isCutM v i a b = false → RB H Q false := fun h => by rw [← h]; exact k
  refine ⟨_, rfl, _, rfl, _, _, rfl, rfl, _, rfl, ?_⟩
  refine ite2 (fun g => iteT (no (by unfold Om.isCutM; rw [decide_eq_false (by have := of_decide_eq_true g; omega)]; rfl) H (Same.refl H))) fun g1 => ?_
  refine ⟨_, rfl, _, _, rfl, rfl, _, rfl, ?_⟩
  refine ite2 (fun g => iteT (no (by unfold Om.isCutM; rw [decide_eq_false (show ¬ 1 ≤ a by have := of_decide_eq_true g; omega)]; simp) H (Same.refl H))) fun g2 => ?_
  refine ⟨_, rfl, _, _, rfl, rfl, _, rfl, ?_⟩
  refine ite2 (fun g => iteT (no (by unfold Om.isCutM; rw [decide_eq_false (show ¬ 1 ≤ b by have := of_decide_eq_true g; omega)]; simp) H (Same.refl H))) fun g3 => ?_
  refine ⟨_, rfl, _, rfl, _, _, rfl, rfl, _, rfl, _, _, rfl, rfl, _, rfl, ?_⟩
  refine ite2 (fun g => no (by unfold Om.isCutM; rw [decide_eq_false (show ¬ a + b ≤ v.length / 2 by have := of_decide_eq_true g; omega)]; simp) H (Same.refl H)) fun g4 => ?_
  have f1 : i < v.length / 2 := by
    have := of_decide_eq_false (Bool.eq_false_iff.mpr g1)
    omega
  have f2 : 1 ≤ a := by
    have := of_decide_eq_false (Bool.eq_false_iff.mpr g2)
    omega
  have f3 : 1 ≤ b := by
    have := of_decide_eq_false (Bool.eq_false_iff.mpr g3)
    omega
  have f4 : a + b ≤ v.length / 2 := by
    have := of_decide_eq_false (Bool.eq_false_iff.mpr g4)
    omega
  have hv : (Ti01.from_ v i).length = v.length := Om.from_length v
  refine ⟨_, rfl, _, rfl, _, rfl, _, rfl, e, i, a, b, v, rfl, he, hl, fun p x y z H1 s1 hp h1 hx hy hz => ?_⟩
  refine ⟨p, _, rfl, .of h1, rfl, _, _, rfl, _, _, rfl, _, _, rfl, rfl, ?_⟩
  refine ⟨_, rfl, _, rfl, e, i, v, rfl, he.same s1, hl, fun p1 H2 s2 hp1 hv1 => ?_⟩
  refine ⟨_, rfl, _, rfl, p1, _, rfl, hv1.sq, fun q1 hq1 => ?_⟩
  have s3 := Same.new s2 (o := .lst (cutV ((Ti01.ints (Ti01.from_ v i)).map V.int) (some ((v.length / 2 : Nat) : Int)) none)) hq1
  refine ⟨_, rfl, x, _, rfl, hx.same s3, by rw [List.length_take]; omega, fun p2 H3 s4 hp2 hv2 => ?_⟩
  refine ⟨_, rfl, y, _, rfl, hy.same (s3.trans s4), by rw [List.length_take, List.length_drop]; omega, fun p3 H4 s5 hp3 hv3 => ?_⟩
  refine ⟨p2, p3, _, _, rfl, rfl, hv2.same s5, hv3, ?_, fun q2 hq2 => ?_⟩
  · simp only [List.length_map, ints_length, Om.back_length, List.length_take, List.length_drop]
    exact line_of (by omega)
  have s6 := same_new (H := H4) (o := .lst ((Ti01.ints (Ti01.back ((Ti01.from_ v i).take a))).map V.int ++ (Ti01.ints (Ti01.back (((Ti01.from_ v i).drop a).take b))).map V.int)) hq2
  refine ⟨_, rfl, z, _, rfl, hz.same (s3.trans (s4.trans (s5.trans s6))), by rw [List.length_take, List.length_drop]; omega, fun p4 H5 s7 hp4 hv4 => ?_⟩
  refine ⟨q2, p4, _, _, rfl, rfl, (show Il H5 q2 _ from Il.same il_cat s7), hv4, ?_, fun q3 hq3 => ?_⟩
  · simp only [List.length_map, List.length_append, ints_length, Om.back_length, List.length_take, List.length_drop]
    exact line_of (by omega)
  have s8 := same_new (H := H5) (o := .lst ((Ti01.ints (Ti01.back ((Ti01.from_ v i).take a)) ++ Ti01.ints (Ti01.back (((Ti01.from_ v i).drop a).take b))).map V.int ++ (Ti01.ints (Ti01.back (((Ti01.from_ v i).drop (a + b)).take (v.length / 2 - (a + b))))).map V.int)) hq3
  have hq1' : Il (upd H2 q1 (.lst (cutV ((Ti01.ints (Ti01.from_ v i)).map V.int) (some ((v.length / 2 : Nat) : Int)) none))) q1 (Ti01.ints ((Ti01.from_ v i).drop (v.length / 2))) := by
    show upd _ q1 _ q1 = _
    rw [upd_same, cut_from, ← List.map_drop, ints_drop]
  refine ⟨q1, _, q3, _, rfl, rfl, hq1'.same (s4.trans (s5.trans (s6.trans (s7.trans s8)))), il_cat, ?_⟩
  have inj : ∀ u u' : List Nat, Ti01.ints u = Ti01.ints u' ↔ u = u' := fun u u' => ⟨fun h => by
    unfold Ti01.ints at h
    exact (List.map_inj_right (fun _ _ h => Int.ofNat.inj h)).mp h, fun h => by rw [h]⟩
  have ev : decide (Ti01.ints ((Ti01.from_ v i).drop (v.length / 2)) = Ti01.ints (Ti01.back ((Ti01.from_ v i).take a)) ++ Ti01.ints (Ti01.back (((Ti01.from_ v i).drop a).take b)) ++ Ti01.ints (Ti01.back (((Ti01.from_ v i).drop (a + b)).take (v.length / 2 - (a + b))))) = Om.isCutM v i a b := by
    unfold Om.isCutM Om.gives
    rw [decide_eq_true f1, decide_eq_true f2, decide_eq_true f3, decide_eq_true f4, hv, ← ints_app, ← ints_app]
    simp only [Bool.true_and, inj, List.append_assoc]
  rw [ev]
  exact k _ (s1.trans (s3.trans (s4.trans (s5.trans (s6.trans (s7.trans s8))))))
end Oc
namespace Oc
open PySem PySem.Spec PyProof.Rows L2
variable {P : Program} {w : World} {K : PySem.W.Frag} {mg : Str → Option Value} {base : Heap}
/-! ## lists of tuples that grow -/
theorem Tps.put {H : Hp} {ts : List Addr} {rs : List (List Int)} {F : Addr} {o : HO} {xs : List V} (h : Tps H ts rs) (hF : H F = some (.lst xs)) : Tps (upd H F o) ts rs := Paired.mapP h fun t r q => by
  have ne : t ≠ F := ne_of q hF (fun z => nomatch z)
  show upd H F o t = _
  rw [upd_ne ne]
  exact q
theorem Tp.put {H : Hp} {t : Addr} {r : List Int} {F : Addr} {o : HO} {xs : List V} (h : Tp H t r) (hF : H F = some (.lst xs)) : Tp (upd H F o) t r := by
  have ne : t ≠ F := ne_of h hF (fun z => nomatch z)
  show upd H F o t = _
  rw [upd_ne ne]
  exact h
theorem Rw.nil {H : Hp} {F : Addr} (h : H F = some (.lst [])) : Rw H F [] := ⟨[], h, .nil⟩
/-- one tuple more, new -/
theorem Rw.snoc {H : Hp} {F t : Addr} {rs : List (List Int)} {ns : List Int} (h : Rw H F rs) (ht : H t = none) :
    ∃ acc, upd H t (.tup (ns.map V.int)) F = some (.lst acc) ∧ acc.length = rs.length ∧ Rw (upd (upd H t (.tup (ns.map V.int))) F (.lst (acc ++ [.ref t]))) F (rs ++ [ns]) := by
  obtain ⟨ts, h1, h2⟩ := h
  have e1 : upd H t (.tup (ns.map V.int)) F = some (.lst (ts.map V.ref)) := by
    rw [upd_ne (ne_of_none h1 ht)]
    exact h1
  refine ⟨ts.map V.ref, e1, by rw [List.length_map]; exact Tps.len h2, ts ++ [t], ?_, ?_⟩
  · rw [upd_same, List.map_append]
    rfl
  · exact Tps.append (Tps.put (Tps.same h2 (same_new ht)) e1) (.cons (Tp.put (show Tp _ t ns from upd_same) e1) .nil)
/-- a list of tuples behind another -/
theorem Rw.ext {H : Hp} {F D : Addr} {rs qs : List (List Int)} (h : Rw H F rs) (h' : Rw H D qs) : ∃ xs zs, H F = some (.lst xs) ∧ H D = some (.lst zs) ∧ xs.length = rs.length ∧ zs.length = qs.length ∧ Rw (upd H F (.lst (xs ++ zs))) F (rs ++ qs) := by
  obtain ⟨ts, h1, h2⟩ := h
  obtain ⟨us, h3, h4⟩ := h'
  refine ⟨_, _, h1, h3, by rw [List.length_map]; exact Tps.len h2, by rw [List.length_map]; exact Tps.len h4, ts ++ us, ?_, Tps.append (Tps.put h2 h1) (Tps.put h4 h1)⟩
  rw [upd_same, List.map_append]
theorem Rw.lst {H : Hp} {F : Addr} {rs : List (List Int)} (h : Rw H F rs) : ∃ xs, H F = some (.lst xs) ∧ xs.length = rs.length := by
  obtain ⟨ts, h1, h2⟩ := h
  exact ⟨_, h1, by rw [List.length_map]; exact Tps.len h2⟩
theorem Il.lst {H : Hp} {F : Addr} {ns : List Int} (h : Il H F ns) : tyV K "list" (.ref F) H := Or.inl ⟨rfl, _, Or.inl (Or.inl h)⟩
theorem Rw.ty {H : Hp} {F : Addr} {rs : List (List Int)} (h : Rw H F rs) : tyV K "list" (.ref F) H := by
  obtain ⟨ts, h1, h2⟩ := h
  exact Or.inl ⟨rfl, _, Or.inl (Or.inl h1)⟩
theorem Rw.put {H : Hp} {a F : Addr} {rs : List (List Int)} {o : HO} {xs : List V} (h : Rw H a rs) (hF : H F = some (.lst xs)) (ne : a ≠ F) : Rw (upd H F o) a rs := by
  obtain ⟨ts, h1, h2⟩ := h
  exact ⟨ts, by rw [upd_ne ne]; exact h1, Tps.put h2 hF⟩
theorem Il.put {H : Hp} {a F : Addr} {ns : List Int} {o : HO} (h : Il H a ns) (ne : a ≠ F) : Il (upd H F o) a ns := by
  show upd H F o a = _
  rw [upd_ne ne]
  exact h
theorem flat_le {α β : Type} {f : α → List β} {k : Nat} : ∀ {l : List α}, (∀ x ∈ l, (f x).length ≤ k) → (l.flatMap f).length ≤ l.length * k
  | [], _ => by simp
  | a :: l, h => by
    have h1 := h a List.mem_cons_self
    have h2 := flat_le (k := k) fun x hx => h x (List.mem_cons_of_mem a hx)
    rw [List.flatMap_cons, List.length_append, List.length_cons, Nat.succ_mul]
    omega
/-! ## cuts_of -/
abbrev c3 (c : Nat × Nat × Nat) : List Int := [(c.1 : Int), (c.2.1 : Int), (c.2.2 : Int)]
abbrev rowB (v : List Nat) (i a n : Nat) : List (Nat × Nat × Nat) := ((List.range n).filter fun b => Om.isCutM v i (a + 1) (b + 1)).map fun b => (i, a + 1, b + 1)
abbrev rowA (v : List Nat) (i n : Nat) : List (Nat × Nat × Nat) := (List.range n).flatMap fun a => rowB v i a (v.length / 2 - (a + 1))
abbrev rowI (v : List Nat) (n : Nat) : List (Nat × Nat × Nat) := (List.range n).flatMap fun i => rowA v i (v.length / 2 - 1)
theorem rowB_le (v : List Nat) (i a n : Nat) : (rowB v i a n).length ≤ n := by
  unfold rowB
  rw [List.length_map]
  exact Nat.le_trans (List.length_filter_le _ _) (by rw [List.length_range]; exact Nat.le_refl _)
theorem rowA_le (v : List Nat) (i n : Nat) {k : Nat} (hk : v.length ≤ k) : (rowA v i n).length ≤ n * k := by
  have := flat_le (l := List.range n) (f := fun a => rowB v i a (v.length / 2 - (a + 1))) (k := k) fun a _ => Nat.le_trans (rowB_le v i a _) (by omega)
  rw [List.length_range] at this
  exact this
theorem rowI_le (v : List Nat) (n : Nat) {k : Nat} (hk : v.length ≤ k) : (rowI v n).length ≤ n * (k * k) := by
  have := flat_le (l := List.range n) (f := fun i => rowA v i (v.length / 2 - 1)) (k := k * k) fun i _ => Nat.le_trans (rowA_le v i _ hk) (Nat.mul_le_mul_right _ (by omega))
  rw [List.length_range] at this
  exact this
theorem cuts_le (v : List Nat) {k : Nat} (hk : v.length ≤ k) : (Om.cutsM v).length ≤ k * (k * k) := Nat.le_trans (rowI_le v (v.length / 2) hk) (Nat.mul_le_mul_right _ (by omega))
def spCutsOf : Sp := fun vs H Q _ => ∃ (e : Addr) (v : List Nat), vs = [.ref e] ∧ Il H e (Ti01.ints v) ∧ v.length ≤ 100 ∧ RR H Q ((Om.cutsM v).map c3)
theorem sc_cuts_of : FnScope ["edge", "half", "found", "i", "a", "b"] ["edge"] (defScope (top 21)) := ⟨rfl, rfl, rfl, by decide +kernel, rfl, by decide +kernel, by decide +kernel⟩
theorem cal_cuts_of (D : Df K mg "cuts_of" (top 21)) (G : Glb K mg) (c_is_cut : Cal P w K mg base CX0 3 "is_cut" spIsCut) : Cal P w K mg base CX0 4 "cuts_of" spCutsOf := by
  refine D.ok sc_cuts_of (fun vs H Q E h => by obtain ⟨_, _, rfl, _⟩ := h; rfl) (fun _ _ _ _ _ _ us hl => match us, hl with | [_], _ => rfl) (fun f cdv A outer s H vs Q E hr h => ?_)
  refine ⟨_, (pss_cons (ps_set (i := 1) sc_cuts_of.nd rfl (Or.inl rfl) (pe_op op_fdiv (pe_callB call_len_seq rfl G.b_len PySem.boot_len (by exact (pa_cons (pv 0) pa_nil))) pe_int))
      (pss_cons (ps_set (i := 2) sc_cuts_of.nd rfl (Or.inl rfl) (pe_lst pa_nil))
      (pss_cons (ps_for PassesOwn.never rfl (pi_range1 rfl G.b_range (by exact (pa_cons (pv 1) pa_nil))) (pg_name (i := 3) sc_cuts_of.nd rfl (Or.inr rfl)) (pss_one (ps_for PassesOwn.never rfl (pi_range2 rfl G.b_range (by exact (pa_cons pe_int (pa_cons (pv 1) pa_nil)))) (pg_name (i := 4) sc_cuts_of.nd rfl (Or.inr rfl)) (pss_one (ps_expr (pe_bm PySem.F.plainAttrs_list PySem.F.slot_list_extend PySem.F.type_list_extend mt_extend (pv 2) (by exact (pa_cons (pe_lc (own := [("b", 5)]) rfl sc_cuts_of.nd (pi_range2 rfl G.b_range (by exact (pa_cons pe_int (pa_cons (pe_op op_add (pe_op op_sub (pv 1) (pv 4)) pe_int) pa_nil)))) (blkOk_by (own := [("b", 5)]) (N := ["edge", "half", "found", "i", "a", "b"]) (sc := defScope (top 21)) (by decide +kernel)) (fun _ _ _ _ _ => (pg_name (i := 5) sc_cuts_of.nd rfl (Or.inl rfl))) (fun _ _ _ _ _ => by exact (pts_one (pt_val (pe_c c_is_cut hr (by decide) rfl (by exact (pa_cons (pv 0) (pa_cons (pv 3) (pa_cons (pv 4) (pa_cons (pv 5) pa_nil))))))))) (fun _ _ _ _ _ => by exact (pe_tup (by exact (pa_cons (pv 3) (pa_cons (pv 4) (pa_cons (pv 5) pa_nil))))))) pa_nil))))))))
      (pss_one (ps_ret (pv 2)))))), ?_⟩
  obtain ⟨e, v, rfl, he, hl, k⟩ := h
  have eh : (((((Ti01.ints v).map V.int).length : Nat) : Int) / 2) = ((v.length / 2 : Nat) : Int) := by
    rw [List.length_map, ints_length]
    omega
  refine ⟨_, rfl, e, _, rfl, .inl he.sq, _, _, rfl, rfl, ⟨by show (0 : Int) < 2; decide, by show (2 : Int) < 1073741824; decide⟩, ?_⟩
  simp only [eh]
  refine ⟨by show 0 ≤ sizeLine; exact Nat.zero_le _, fun F hF => ?_⟩
  have s0 : Same H (upd H F (.lst [])) := same_new hF
  refine ⟨_, rfl, _, rfl, by omega, by omega, for_range (lo := 0) (n := v.length / 2) (fun i σ H' => ∃ x y : Option V, σ = [some (.ref e), some (.int ((v.length / 2 : Nat) : Int)), some (.ref F), x, y, none] ∧ Same H H' ∧ Rw H' F ((rowI v i).map c3))
    ⟨none, none, rfl, s0, .nil upd_same⟩ ?_ ?_⟩
  · rintro i σ H1 hi ⟨x, y, rfl, s1, h1⟩
    rw [show (0 : Int) + (i : Int) = (i : Int) by omega]
    refine ⟨_, rfl, 1, _, rfl, ⟨by omega, by omega, by omega, by omega⟩, for_range (lo := 1) (n := _) (fun j σ H' => ∃ y : Option V, σ = [some (.ref e), some (.int ((v.length / 2 : Nat) : Int)), some (.ref F), some (.int (i : Int)), y, none] ∧ Same H H' ∧ Rw H' F ((rowI v i ++ rowA v i j).map c3))
      ⟨y, rfl, s1, by rw [show rowA v i 0 = [] from rfl, List.append_nil]; exact h1⟩ ?_ ?_⟩
    · rintro j σ H2 hj ⟨y, rfl, s2, h2⟩
      have hj' : j < v.length / 2 - 1 := by omega
      rw [show (1 : Int) + (j : Int) = ((j + 1 : Nat) : Int) by omega]
      refine ⟨_, rfl, h2.ty, ?_⟩
      refine ⟨_, rfl, _, rfl, _, _, rfl, rfl, _, _, rfl, rfl, 1, _, rfl, ⟨by omega, by omega, by omega, by omega⟩, fun L hL => ?_⟩
      refine lc_range (lo := 1) (n := _) (fun m H' => Same H2 H' ∧ Rw H' L ((rowB v i j m).map c3)) ⟨same_new hL, .nil upd_same⟩ ?_ ?_
      · rintro m H3 hm ⟨s3, h3⟩
        rw [show (1 : Int) + (m : Int) = ((m + 1 : Nat) : Int) by omega]
        refine ⟨rfl, ?_⟩
        refine ⟨_, rfl, _, rfl, _, rfl, _, rfl, e, i, j + 1, m + 1, v, rfl, he.same (s2.trans s3), by omega, fun H4 s4 => ⟨_, rfl, ?_⟩⟩
        have er : rowB v i j (m + 1) = rowB v i j m ++ (if Om.isCutM v i (j + 1) (m + 1) = true then [(i, j + 1, m + 1)] else []) := by
          unfold rowB
          rw [List.range_succ, List.filter_append, List.map_append]
          congr 1
          by_cases hc : Om.isCutM v i (j + 1) (m + 1) = true
          · rw [if_pos hc]
            simp [hc]
          · rw [if_neg hc]
            simp [hc]
        refine ite2 (fun g => ?_) (fun g => ?_)
        · rw [if_pos g] at er
          refine ⟨_, rfl, _, rfl, _, rfl, by show 3 ≤ sizeLine; exact line_of (by decide), fun t ht => ?_⟩
          obtain ⟨acc, a1, a2, a3⟩ := Rw.snoc (ns := c3 (i, j + 1, m + 1)) (h3.same s4) ht
          have hH2 : H2 L = none := hL
          refine ⟨acc, a1, ?_, ?_, ?_⟩
          · rw [a2, List.length_map]
            exact line_lt (Nat.le_trans (rowB_le v i j m) (by omega))
          · exact Same.put (s3.trans (Same.new s4 ht)) hH2
          · rw [er, List.map_append]
            exact a3
        · rw [if_neg g, List.append_nil] at er
          rw [er]
          exact ⟨s3.trans s4, h3.same s4⟩
      · rintro H3 ⟨s3, h3⟩
        have hFL : F ≠ L := by
          obtain ⟨xs, q, _⟩ := h2.lst
          exact ne_of_none q hL
        obtain ⟨xs, zs, q1, q2, q3, q4, q5⟩ := Rw.ext (h2.same s3) h3
        have em : ((((v.length / 2 : Nat) : Int) - ((j + 1 : Nat) : Int) + 1) - 1).toNat = v.length / 2 - (j + 1) := by omega
        refine ⟨F, L, xs, zs, rfl, rfl, q1, q2, ?_, _, rfl, Same.put (s2.trans s3) hF, ?_⟩
        · rw [q3, q4, List.length_map, List.length_map, List.length_append]
          have b1 := rowI_le v i hl
          have b2 := rowA_le v i j hl
          have b3 := rowB_le v i j ((((v.length / 2 : Nat) : Int) - ((j + 1 : Nat) : Int) + 1) - 1).toNat
          have b4 : i * (100 * 100) ≤ 50 * (100 * 100) := Nat.mul_le_mul_right _ (by omega)
          have b5 : j * 100 ≤ 50 * 100 := Nat.mul_le_mul_right _ (by omega)
          exact line_of (by omega)
        · rw [em] at q5
          have ea : rowI v i ++ rowA v i (j + 1) = (rowI v i ++ rowA v i j) ++ rowB v i j (v.length / 2 - (j + 1)) := by
            unfold rowA
            rw [List.range_succ, List.flatMap_append, List.flatMap_cons, List.flatMap_nil, List.append_nil, List.append_assoc]
          rw [ea, List.map_append]
          exact q5
    · rintro σ H2 ⟨y, rfl, s2, h2⟩
      have en : (((v.length / 2 : Nat) : Int) - 1).toNat = v.length / 2 - 1 := by omega
      rw [en] at h2
      refine ⟨_, _, rfl, s2, ?_⟩
      have ei : rowI v (i + 1) = rowI v i ++ rowA v i (v.length / 2 - 1) := by
        unfold rowI
        rw [List.range_succ, List.flatMap_append, List.flatMap_cons, List.flatMap_nil, List.append_nil]
      rw [ei]
      exact h2
  · rintro σ H1 ⟨x, y, rfl, s1, h1⟩
    exact ⟨_, rfl, k F H1 s1 hF h1⟩
end Oc
namespace Oc
open PySem PySem.Spec PyProof.Rows L2
variable {P : Program} {w : World} {K : PySem.W.Frag} {mg : Str → Option Value} {base : Heap}
/-! ## come_along, moves_of -/
def dx (n : Nat) : Int := (Ti01.ahead (0, 0) n).1
def dy (n : Nat) : Int := (Ti01.ahead (0, 0) n).2
theorem ahead_d (p : Ti01.Cell) (n : Nat) : Ti01.ahead p n = (p.1 + dx n, p.2 + dy n) := by
  obtain ⟨a, b⟩ := p
  unfold dx dy Ti01.ahead
  split <;> simp <;> omega
theorem gone_sum : ∀ (v : List Nat) (p : Ti01.Cell), v.foldl Ti01.ahead p = (p.1 + (v.map dx).sum, p.2 + (v.map dy).sum)
  | [], p => by simp
  | n :: v, p => by
    rw [List.foldl_cons, gone_sum v, ahead_d, List.map_cons, List.map_cons, List.sum_cons, List.sum_cons]
    simp only [Int.add_assoc]
theorem gone_eq (v : List Nat) : Ti01.gone v = ((v.map dx).sum, (v.map dy).sum) := by
  have := gone_sum v (0, 0)
  simp only [Int.zero_add] at this
  exact this
theorem d_tab {n : Nat} (h : n < 4) : ([(1, 0), (0, 1), (-1, 0), (0, -1)] : List (Int × Int))[n]? = some (dx n, dy n) := by
  rcases Om.lt4 h with rfl | rfl | rfl | rfl <;> rfl
def spComeAlong : Sp := fun vs H Q _ => ∃ (a : Addr) (v : List Nat), vs = [.ref a] ∧ Il H a (Ti01.ints v) ∧ Om.Ways v ∧ v.length ≤ 1000 ∧ RT H Q (cl (Ti01.gone v))
theorem sc_come_along : FnScope ["steps", "right", "step"] ["steps"] (defScope (top 22)) := ⟨rfl, rfl, rfl, by decide +kernel, rfl, by decide +kernel, by decide +kernel⟩
theorem cal_come_along (D : Df K mg "come_along" (top 22)) (G : Glb K mg) : Cal P w K mg base CX0 1 "come_along" spComeAlong := by
  obtain ⟨rs, c_STEPS, hrs⟩ := G.t_STEPS.ex
  refine D.ok sc_come_along (fun vs H Q E h => by obtain ⟨_, _, rfl, _⟩ := h; rfl) (fun _ _ _ _ _ _ us hl => match us, hl with | [_], _ => rfl) (fun f cdv A outer s H vs Q E hr h => ?_)
  refine ⟨_, (pss_cons (ps_set (i := 1) sc_come_along.nd rfl (Or.inl rfl) (pe_callB (cr_sum rfl) rfl G.b_sum (by decide +kernel) (by exact (pa_cons (pe_lc (own := [("step", 2)]) rfl sc_come_along.nd (pi_list (pv 0)) (blkOk_by (own := [("step", 2)]) (N := ["steps", "right", "step"]) (sc := defScope (top 22)) (by decide +kernel)) (fun _ _ _ _ _ => (pg_name (i := 2) sc_come_along.nd rfl (Or.inl rfl))) (fun _ _ _ _ _ => by exact pts_nil) (fun _ _ _ _ _ => by exact (pe_ix (r := rIxT K) ix_tup (pe_ix (r := rIxT K) ix_tup (pe_ct c_STEPS (by exact rfl)) (pv 2) (fun _ _ => rfl)) pe_int (fun _ _ => rfl)))) pa_nil))))
      (pss_one (ps_ret (pe_tup (by exact (pa_cons (pv 1) (pa_cons (pe_callB (cr_sum rfl) rfl G.b_sum (by decide +kernel) (by exact (pa_cons (pe_lc (own := [("step", 2)]) rfl sc_come_along.nd (pi_list (pv 0)) (blkOk_by (own := [("step", 2)]) (N := ["steps", "right", "step"]) (sc := defScope (top 22)) (by decide +kernel)) (fun _ _ _ _ _ => (pg_name (i := 2) sc_come_along.nd rfl (Or.inl rfl))) (fun _ _ _ _ _ => by exact pts_nil) (fun _ _ _ _ _ => by exact (pe_ix (r := rIxT K) ix_tup (pe_ix (r := rIxT K) ix_tup (pe_ct c_STEPS (by exact rfl)) (pv 2) (fun _ _ => rfl)) pe_int (fun _ _ => rfl)))) pa_nil))) pa_nil))))))), ?_⟩
  obtain ⟨a, v, rfl, ha, hw, hl, k⟩ := h
  have item : ∀ {i : Nat} {n : Nat}, v[i]? = some n → ∃ r, atI (rs.map V.ref) (n : Int) = some (.ref r) ∧ ∀ H, SqT K H r [.int (dx n), .int (dy n)] := fun {i n} hn => Tab.at hrs (d_tab (hw n (List.mem_of_getElem? hn)))
  have len : ∀ (f : Nat → Int) (i : Nat), (((v.take i).map f).map V.int).length < sizeLine := fun f i => by
    rw [List.length_map, List.length_map, List.length_take]
    exact line_lt (by omega)
  refine ⟨_, rfl, a, rfl, ⟨_, ha.sq⟩, fun L hL => lc_list (K := K) (a := a) (xs := (Ti01.ints v).map V.int) (fun i H' => Same H H' ∧ Il H' L ((v.take i).map dx)) ⟨same_new hL, upd_same⟩ (fun i H' _ ⟨s1, _⟩ => (ha.same s1).sq) ?_ ?_⟩
  · rintro i x H' hx ⟨s1, h1⟩
    obtain ⟨n, hn, rfl⟩ := nat_at hx
    obtain ⟨r, g1, g2⟩ := item hn
    refine ⟨rfl, yesT fun b hb => ⟨_, rfl, b, _, _, _, rfl, rfl, hb _, g1, r, _, _, _, rfl, rfl, g2 _, rfl, _, h1, len dx i, Same.put s1 hL, ?_⟩⟩
    rw [take_more hn, List.map_append]
    exact il_cat (ns := (v.take i).map dx) (ms := [dx n])
  · rintro H1 ⟨s1, h1⟩
    rw [List.length_map, ints_length, List.take_of_length_le (Nat.le_refl _)] at h1
    refine ⟨L, _, rfl, .of h1, _, rfl, ?_⟩
    refine ⟨_, rfl, a, rfl, ⟨_, (ha.same s1).sq⟩, fun M hM => lc_list (K := K) (a := a) (xs := (Ti01.ints v).map V.int) (fun i H' => Same H1 H' ∧ Il H' M ((v.take i).map dy)) ⟨same_new hM, upd_same⟩ (fun i H' _ ⟨s2, _⟩ => (ha.same (s1.trans s2)).sq) ?_ ?_⟩
    · rintro i x H' hx ⟨s2, h2⟩
      obtain ⟨n, hn, rfl⟩ := nat_at hx
      obtain ⟨r, g1, g2⟩ := item hn
      refine ⟨rfl, yesT fun b hb => ⟨_, rfl, b, _, _, _, rfl, rfl, hb _, g1, r, _, _, _, rfl, rfl, g2 _, rfl, _, h2, len dy i, Same.put s2 hM, ?_⟩⟩
      rw [take_more hn, List.map_append]
      exact il_cat (ns := (v.take i).map dy) (ms := [dy n])
    · rintro H2 ⟨s2, h2⟩
      rw [List.length_map, ints_length, List.take_of_length_le (Nat.le_refl _)] at h2
      refine ⟨M, _, rfl, .of h2, by show 2 ≤ sizeLine; exact line_of (by decide), fun p hp => ?_⟩
      have s3 := s1.trans s2
      refine k p _ (Same.new s3 hp) (s3.free hp) ?_
      show upd _ p _ p = _
      rw [upd_same, gone_eq]
      rfl
def spMovesOf : Sp := fun vs H Q _ => ∃ (e : Addr) (i a b : Nat) (v : List Nat), vs = [.ref e, .int i, .int a, .int b] ∧ Il H e (Ti01.ints v) ∧ Om.Ways v ∧ v.length ≤ 1000 ∧ a + b ≤ v.length / 2 ∧
  ∀ p x y H', Same H H' → H p = none → H' p = some (.tup [.ref x, .ref y]) → Tp H' x (cl (Ti01.moves v (i, a, b)).1) → Tp H' y (cl (Ti01.moves v (i, a, b)).2) → Q (.ref p) H'
theorem sc_moves_of : FnScope ["edge", "i", "a", "b", "one", "two", "three"] ["edge", "i", "a", "b"] (defScope (top 23)) := ⟨rfl, rfl, rfl, by decide +kernel, rfl, by decide +kernel, by decide +kernel⟩
theorem cal_moves_of (D : Df K mg "moves_of" (top 23)) (c_parts_of : Cal P w K mg base CX0 2 "parts_of" spPartsOf) (c_come_along : Cal P w K mg base CX0 1 "come_along" spComeAlong) : Cal P w K mg base CX0 3 "moves_of" spMovesOf := by
  refine D.ok sc_moves_of (fun vs H Q E h => by obtain ⟨_, _, _, _, _, rfl, _⟩ := h; rfl) (fun _ _ _ _ _ _ us hl => match us, hl with | [_, _, _, _], _ => rfl) (fun f cdv A outer s H vs Q E hr h => ?_)
  refine ⟨_, (pss_cons (ps_asg (pe_c c_parts_of hr (by decide) rfl (by exact (pa_cons (pv 0) (pa_cons (pv 1) (pa_cons (pv 2) (pa_cons (pv 3) pa_nil)))))) (pg_tup rfl (pgs_cons (pg_name (i := 4) sc_moves_of.nd rfl (Or.inl rfl)) (pgs_cons (pg_name (i := 5) sc_moves_of.nd rfl (Or.inl rfl)) (pgs_cons (pg_name (i := 6) sc_moves_of.nd rfl (Or.inl rfl)) pgs_nil)))))
      (pss_one (ps_ret (pe_tup (by exact (pa_cons (pe_c c_come_along hr (by decide) rfl (by exact (pa_cons (pe_op op_cat (pv 4) (pv 5)) pa_nil))) (pa_cons (pe_c c_come_along hr (by decide) rfl (by exact (pa_cons (pe_op op_cat (pv 5) (pv 6)) pa_nil))) pa_nil))))))), ?_⟩
  obtain ⟨e, i, a, b, v, rfl, he, hw, hl, hab, k⟩ := h
  have hv : (Ti01.from_ v i).length = v.length := Om.from_length v
  have wv : Om.Ways (Ti01.from_ v i) := by
    unfold Ti01.from_
    exact Om.ways_app.mpr ⟨fun d hd => hw d (List.mem_of_mem_drop hd), fun d hd => hw d (List.mem_of_mem_take hd)⟩
  have m1 : (Ti01.moves v (i, a, b)).1 = Ti01.gone ((Ti01.from_ v i).take a ++ ((Ti01.from_ v i).drop a).take b) := by
    show Ti01.gone ((Ti01.from_ v i).take (a + b)) = _
    rw [List.take_add]
  have m2 : (Ti01.moves v (i, a, b)).2 = Ti01.gone (((Ti01.from_ v i).drop a).take b ++ ((Ti01.from_ v i).drop (a + b)).take (v.length / 2 - (a + b))) := by
    show Ti01.gone (((Ti01.from_ v i).drop a).take (v.length / 2 - a)) = _
    rw [← List.drop_drop, ← List.take_add]
    congr 2
    omega
  refine ⟨_, rfl, _, rfl, _, rfl, _, rfl, e, i, a, b, v, rfl, he, hl, fun p x y z H1 s1 hp h1 hx hy hz => ?_⟩
  refine ⟨p, _, rfl, .of h1, rfl, _, _, rfl, _, _, rfl, _, _, rfl, rfl, ?_⟩
  refine ⟨_, rfl, _, rfl, x, y, _, _, rfl, rfl, hx, hy, ?_, fun q1 hq1 => ?_⟩
  · simp only [List.length_map, ints_length, List.length_take, List.length_drop]
    exact line_of (by omega)
  have i1 : Il (upd H1 q1 (.lst ((Ti01.ints ((Ti01.from_ v i).take a)).map V.int ++ (Ti01.ints (((Ti01.from_ v i).drop a).take b)).map V.int))) q1 (Ti01.ints ((Ti01.from_ v i).take a ++ ((Ti01.from_ v i).drop a).take b)) := by
    rw [ints_app]
    exact il_cat
  have t1 := same_new (H := H1) (o := .lst ((Ti01.ints ((Ti01.from_ v i).take a)).map V.int ++ (Ti01.ints (((Ti01.from_ v i).drop a).take b)).map V.int)) hq1
  refine ⟨q1, _, rfl, i1, Om.ways_app.mpr ⟨fun d hd => wv d (List.mem_of_mem_take hd), fun d hd => wv d (List.mem_of_mem_drop (List.mem_of_mem_take hd))⟩, by simp only [List.length_append, List.length_take, List.length_drop]; omega, fun u H2 s2 hu ht => ?_⟩
  refine ⟨_, rfl, _, rfl, y, z, _, _, rfl, rfl, hy.same (t1.trans s2), hz.same (t1.trans s2), ?_, fun q2 hq2 => ?_⟩
  · simp only [List.length_map, ints_length, List.length_take, List.length_drop]
    exact line_of (by omega)
  have i2 : Il (upd H2 q2 (.lst ((Ti01.ints (((Ti01.from_ v i).drop a).take b)).map V.int ++ (Ti01.ints (((Ti01.from_ v i).drop (a + b)).take (v.length / 2 - (a + b)))).map V.int))) q2 (Ti01.ints (((Ti01.from_ v i).drop a).take b ++ ((Ti01.from_ v i).drop (a + b)).take (v.length / 2 - (a + b)))) := by
    rw [ints_app (((Ti01.from_ v i).drop a).take b)]
    exact il_cat
  have t2 := same_new (H := H2) (o := .lst ((Ti01.ints (((Ti01.from_ v i).drop a).take b)).map V.int ++ (Ti01.ints (((Ti01.from_ v i).drop (a + b)).take (v.length / 2 - (a + b)))).map V.int)) hq2
  refine ⟨q2, _, rfl, i2, Om.ways_app.mpr ⟨fun d hd => wv d (List.mem_of_mem_drop (List.mem_of_mem_take hd)), fun d hd => wv d (List.mem_of_mem_drop (List.mem_of_mem_take hd))⟩, by simp only [List.length_append, List.length_take, List.length_drop]; omega, fun u2 H3 s3 hu2 ht2 => ?_⟩
  refine ⟨by show 2 ≤ sizeLine; exact line_of (by decide), fun r hr' => ?_⟩
  have all := s1.trans (t1.trans (s2.trans (t2.trans s3)))
  have tr := same_new (H := H3) (o := .tup [.ref u, .ref u2]) hr'
  exact k r u u2 _ (all.trans tr) (all.free hr') upd_same (by rw [m1]; exact ht.same (t2.trans (s3.trans tr))) (by rw [m2]; exact ht2.same tr)
end Oc
namespace Oc
open PySem PySem.Spec PyProof.Rows L2
variable {P : Program} {w : World} {K : PySem.W.Frag} {mg : Str → Option Value} {base : Heap}
/-! ## sides_of, first_corner, edge_of -/
theorem sidesIn_app (s : List Ti01.Cell) : ∀ (l : List Ti01.Cell) (c : Ti01.Cell), Om.sidesIn s (l ++ [c]) = Om.sidesIn s l + (Om.outs s c).length
  | [], c => by simp [Om.sidesIn]
  | a :: l, c => by
    have := sidesIn_app s l c
    simp only [List.cons_append, Om.sidesIn, this]
    omega
theorem cell_at {H : Hp} {ts : List Addr} {s : List Ti01.Cell} {i : Nat} {x : V} (h : Tps H ts (s.map cl)) (hx : (ts.map V.ref)[i]? = some x) : ∃ t c, x = .ref t ∧ s[i]? = some c ∧ Tp H t (cl c) := by
  obtain ⟨t, h1, h2⟩ := ref_at hx
  obtain ⟨r, h3, h4⟩ := Tps.of_at h h1
  rw [List.getElem?_map] at h3
  cases e : s[i]? with
  | none => rw [e] at h3; cases h3
  | some c =>
    rw [e] at h3
    exact ⟨t, c, h2, rfl, by rw [Option.some.inj h3]; exact h4⟩
def spSidesOf : Sp := fun vs H Q _ => ∃ (a : Addr) (s : List Ti01.Cell), vs = [.ref a] ∧ Rw H a (s.map cl) ∧ RI H Q (Om.sides s : Nat)
theorem sc_sides_of : FnScope ["squares", "found", "square", "way"] ["squares"] (defScope (top 27)) := ⟨rfl, rfl, rfl, by decide +kernel, rfl, by decide +kernel, by decide +kernel⟩
theorem cal_sides_of (D : Df K mg "sides_of" (top 27)) (G : Glb K mg) (c_beside : Cal P w K mg base CX0 1 "beside" spBeside) : Cal P w K mg base CX0 2 "sides_of" spSidesOf := by
  refine D.ok sc_sides_of (fun vs H Q E h => by obtain ⟨_, _, rfl, _⟩ := h; rfl) (fun _ _ _ _ _ _ us hl => match us, hl with | [_], _ => rfl) (fun f cdv A outer s H vs Q E hr h => ?_)
  refine ⟨_, (pss_cons (ps_set (i := 1) sc_sides_of.nd rfl (Or.inl rfl) pe_int)
      (pss_cons (ps_for PassesOwn.never rfl (pi_list (pv 0)) (pg_name (i := 2) sc_sides_of.nd rfl (Or.inr rfl)) (pss_one (ps_aug (i := 1) sc_sides_of.nd rfl (Or.inl rfl) (pe_callB call_len_seq rfl G.b_len PySem.boot_len (by exact (pa_cons (pe_lc (own := [("way", 3)]) rfl sc_sides_of.nd (pi_range1 rfl G.b_range (by exact (pa_cons pe_int pa_nil))) (blkOk_by (own := [("way", 3)]) (N := ["squares", "found", "square", "way"]) (sc := defScope (top 27)) (by decide +kernel)) (fun _ _ _ _ _ => (pg_name (i := 3) sc_sides_of.nd rfl (Or.inl rfl))) (fun _ _ _ _ _ => by exact (pts_one (pt_cmpR (op_notInR (hu65 hr)) (pe_c c_beside hr (by decide) rfl (by exact (pa_cons (pv 2) (pa_cons (pv 3) pa_nil)))) (pv 0) rfl))) (fun _ _ _ _ _ => by exact (pv 3))) pa_nil))) ip_add)))
      (pss_one (ps_ret (pv 1))))), ?_⟩
  obtain ⟨a, s', rfl, ⟨ts, ha, hts⟩, k⟩ := h
  have hR : Rw H a (s'.map cl) := ⟨ts, ha, hts⟩
  have hlen : ts.length = s'.length := by rw [Tps.len hts, List.length_map]
  refine ⟨_, rfl, a, rfl, ⟨_, .of ha⟩, for_list (K := K) (a := a) (xs := ts.map V.ref) (fun i σ H' => ∃ x : Option V, σ = [some (.ref a), some (.int ((Om.sidesIn s' (s'.take i) : Nat) : Int)), x, none] ∧ Same H H')
    ⟨none, rfl, Same.refl H⟩ (fun i σ H' _ ⟨_, _, s1⟩ => .of (s1 _ _ ha)) ?_ ?_⟩
  · rintro i x σ H1 hx ⟨y, rfl, s1⟩
    obtain ⟨t, c, rfl, hc, ht⟩ := cell_at hts hx
    refine ⟨_, rfl, ?_⟩
    refine ⟨4, rfl, by decide, by decide, fun L hL => lc_range (lo := 0) (n := 4) (fun m H' => Same H1 H' ∧ ∃ ns : List Int, Il H' L ns ∧ ns.length = ((List.range m).filter fun w => !s'.contains (Ti01.ahead c w)).length) ⟨same_new hL, [], upd_same, rfl⟩ ?_ ?_⟩
    · rintro m H2 hm ⟨s2, ns, h2, h3⟩
      rw [show (0 : Int) + (m : Int) = (m : Int) by omega]
      refine ⟨rfl, ?_⟩
      refine ⟨_, rfl, _, rfl, t, m, c, rfl, hm, ht.same (s1.trans s2), fun p H3 s3 hp hT => ⟨_, rfl, p, _, a, _, rfl, rfl, hT, hR.same (s1.trans (s2.trans s3)), _, rfl, ?_⟩⟩
      rw [cl_has]
      have er : ((List.range (m + 1)).filter fun w => !s'.contains (Ti01.ahead c w)) = ((List.range m).filter fun w => !s'.contains (Ti01.ahead c w)) ++ (if (!s'.contains (Ti01.ahead c m)) = true then [m] else []) := by
        rw [List.range_succ, List.filter_append]
        congr 1
        rw [List.filter_cons, List.filter_nil]
      refine ite2 (fun g => ?_) (fun g => ?_)
      · rw [if_pos g] at er
        refine ⟨_, rfl, _, h2.same s3, ?_, Same.put (s2.trans s3) hL, ns ++ [(m : Int)], ?_, ?_⟩
        · rw [List.length_map, h3]
          have := List.length_filter_le (fun w => !s'.contains (Ti01.ahead c w)) (List.range m)
          rw [List.length_range] at this
          exact line_lt (by omega)
        · exact il_cat (ns := ns) (ms := [(m : Int)])
        · rw [er, List.length_append, List.length_append, h3]
          rfl
      · rw [if_neg g, List.append_nil] at er
        rw [er]
        exact ⟨s2.trans s3, ns, h2.same s3, h3⟩
    · rintro H2 ⟨s2, ns, h2, h3⟩
      refine ⟨L, _, rfl, .inl h2.sq, _, _, rfl, rfl, ?_⟩
      refine ⟨some (.ref t), ?_, s1.trans s2⟩
      rw [take_more hc, sidesIn_app, List.length_map, h3]
      rfl
  · rintro σ H1 ⟨y, rfl, s1⟩
    rw [List.length_map, hlen, List.take_of_length_le (Nat.le_refl _)]
    exact ⟨_, rfl, k H1 s1⟩
def spFirstCorner : Sp := fun vs H Q _ => ∃ (a : Addr) (s : List Ti01.Cell), vs = [.ref a] ∧ Rw H a (s.map cl) ∧ s ≠ [] ∧ s.length ≤ 1000 ∧ RT H Q (cl (Ti01.lowest s))
theorem sc_first_corner : FnScope ["squares", "lowest", "column", "row"] ["squares"] (defScope (top 28)) := ⟨rfl, rfl, rfl, by decide +kernel, rfl, by decide +kernel, by decide +kernel⟩
theorem cal_first_corner (D : Df K mg "first_corner" (top 28)) (G : Glb K mg) : Cal P w K mg base CX0 1 "first_corner" spFirstCorner := by
  refine D.ok sc_first_corner (fun vs H Q E h => by obtain ⟨_, _, rfl, _⟩ := h; rfl) (fun _ _ _ _ _ _ us hl => match us, hl with | [_], _ => rfl) (fun f cdv A outer s H vs Q E hr h => ?_)
  refine ⟨_, (pss_cons (ps_set (i := 1) sc_first_corner.nd rfl (Or.inr rfl) (pe_callB (cr_min rfl) rfl G.b_min (by decide +kernel) (by exact (pa_cons (pe_lc (own := [("column", 2), ("row", 3)]) rfl sc_first_corner.nd (pi_list (pv 0)) (blkOk_by (own := [("column", 2), ("row", 3)]) (N := ["squares", "lowest", "column", "row"]) (sc := defScope (top 28)) (by decide +kernel)) (fun _ _ _ _ _ => (pg_tupE (K := K) (n := 2) rfl rfl (pgs_cons (pg_name (i := 2) sc_first_corner.nd rfl (Or.inl rfl)) (pgs_cons (pg_name (i := 3) sc_first_corner.nd rfl (Or.inl rfl)) pgs_nil)))) (fun _ _ _ _ _ => by exact pts_nil) (fun _ _ _ _ _ => by exact (pv 3))) pa_nil))))
      (pss_one (ps_ret (pe_tup (by exact (pa_cons (pe_callB (cr_min rfl) rfl G.b_min (by decide +kernel) (by exact (pa_cons (pe_lc (own := [("column", 2), ("row", 3)]) rfl sc_first_corner.nd (pi_list (pv 0)) (blkOk_by (own := [("column", 2), ("row", 3)]) (N := ["squares", "lowest", "column", "row"]) (sc := defScope (top 28)) (by decide +kernel)) (fun _ _ _ _ _ => (pg_tupE (K := K) (n := 2) rfl rfl (pgs_cons (pg_name (i := 2) sc_first_corner.nd rfl (Or.inl rfl)) (pgs_cons (pg_name (i := 3) sc_first_corner.nd rfl (Or.inl rfl)) pgs_nil)))) (fun _ _ _ _ _ => by exact (pts_one (pt_cmpR op_eq (pv 3) (pv 1) (nomark _)))) (fun _ _ _ _ _ => by exact (pv 2))) pa_nil))) (pa_cons (pv 1) pa_nil))))))), ?_⟩
  obtain ⟨a, s', rfl, ⟨ts, ha, hts⟩, hne, hl, k⟩ := h
  have hlen : ts.length = s'.length := by rw [Tps.len hts, List.length_map]
  obtain ⟨l1, l2⟩ := Om.lowest_is hne
  refine ⟨_, rfl, a, rfl, ⟨_, .of ha⟩, fun L hL => lc_list (K := K) (a := a) (xs := ts.map V.ref) (fun i H' => Same H H' ∧ Il H' L ((s'.take i).map (·.2))) ⟨same_new hL, upd_same⟩ (fun i H' _ ⟨s1, _⟩ => .of (s1 _ _ ha)) ?_ ?_⟩
  · rintro i x H1 hx ⟨s1, h1⟩
    obtain ⟨t, c, rfl, hc, ht⟩ := cell_at hts hx
    refine ⟨t, _, rfl, (ht.same s1).sq, rfl, _, _, rfl, _, _, rfl, rfl, rfl, yesT ⟨_, rfl, _, h1, ?_, Same.put s1 hL, ?_⟩⟩
    · rw [List.length_map, List.length_map, List.length_take]
      exact line_lt (by omega)
    · rw [take_more hc, List.map_append]
      exact il_cat (ns := (s'.take i).map (·.2)) (ms := [c.2])
  · rintro H1 ⟨s1, h1⟩
    rw [List.length_map, hlen, List.take_of_length_le (Nat.le_refl _)] at h1
    refine ⟨L, _, rfl, .of h1, by rw [List.length_map]; exact List.length_pos_iff.mpr hne, fun m hm hle => ?_⟩
    have em : m = (Ti01.lowest s').2 := by
      obtain ⟨c, hc, rfl⟩ := List.mem_map.mp hm
      have q1 := hle _ (List.mem_map.mpr ⟨_, l1, rfl⟩)
      have q2 := l2 c hc
      unfold Om.lowLe at q2
      omega
    subst em
    refine ⟨_, rfl, a, rfl, ⟨_, .of (s1 _ _ ha)⟩, fun M hM => lc_list (K := K) (a := a) (xs := ts.map V.ref) (fun i H' => Same H1 H' ∧ Il H' M (((s'.take i).filter fun c => decide (c.2 = (Ti01.lowest s').2)).map (·.1))) ⟨same_new hM, upd_same⟩ (fun i H' _ ⟨s2, _⟩ => .of ((s1.trans s2) _ _ ha)) ?_ ?_⟩
    · rintro i x H2 hx ⟨s2, h2⟩
      obtain ⟨t, c, rfl, hc, ht⟩ := cell_at hts hx
      refine ⟨t, _, rfl, (ht.same (s1.trans s2)).sq, rfl, _, _, rfl, _, _, rfl, rfl, rfl, _, rfl, _, rfl, rfl, _, rfl, ?_⟩
      have er : ((s'.take (i + 1)).filter fun c => decide (c.2 = (Ti01.lowest s').2)) = ((s'.take i).filter fun c => decide (c.2 = (Ti01.lowest s').2)) ++ (if c.2 = (Ti01.lowest s').2 then [c] else []) := by
        rw [take_more hc, List.filter_append]
        congr 1
        by_cases q : c.2 = (Ti01.lowest s').2
        · rw [if_pos q]; simp [q]
        · rw [if_neg q]; simp [q]
      refine ite2 (fun g => ?_) (fun g => ?_)
      · have q : c.2 = (Ti01.lowest s').2 := V.int.inj (of_decide_eq_true g)
        rw [if_pos q] at er
        refine ⟨_, rfl, _, h2, ?_, Same.put s2 hM, ?_⟩
        · rw [List.length_map, List.length_map]
          have := List.length_filter_le (fun c => decide (c.2 = (Ti01.lowest s').2)) (s'.take i)
          rw [List.length_take] at this
          exact line_lt (by omega)
        · rw [er, List.map_append]
          exact il_cat (ns := ((s'.take i).filter fun c => decide (c.2 = (Ti01.lowest s').2)).map (·.1)) (ms := [c.1])
      · have q : ¬ c.2 = (Ti01.lowest s').2 := fun q => g (decide_eq_true (by rw [q]))
        rw [if_neg q, List.append_nil] at er
        rw [er]
        exact ⟨s2, h2⟩
    · rintro H2 ⟨s2, h2⟩
      rw [List.length_map, hlen, List.take_of_length_le (Nat.le_refl _)] at h2
      have hin : Ti01.lowest s' ∈ s'.filter fun c => decide (c.2 = (Ti01.lowest s').2) := List.mem_filter.mpr ⟨l1, decide_eq_true rfl⟩
      refine ⟨M, _, rfl, .of h2, by rw [List.length_map]; exact List.length_pos_of_mem hin, fun n hn hle2 => ?_⟩
      have en : n = (Ti01.lowest s').1 := by
        obtain ⟨c, hc, rfl⟩ := List.mem_map.mp hn
        obtain ⟨hc1, hc2⟩ := List.mem_filter.mp hc
        have q1 := hle2 _ (List.mem_map.mpr ⟨_, hin, rfl⟩)
        have q2 := l2 c hc1
        have q3 := of_decide_eq_true hc2
        unfold Om.lowLe at q2
        omega
      subst en
      refine ⟨_, rfl, by show 2 ≤ sizeLine; exact line_of (by decide), fun p hp => ?_⟩
      have s3 := s1.trans s2
      exact k p _ (Same.new s3 hp) (s3.free hp) upd_same
theorem orb_snoc (s : List Ti01.Cell) : ∀ (n : Nat) (x : Om.Sd), Om.orb s (n + 1) x = Om.orb s n x ++ [Om.itr s n x]
  | 0, _ => rfl
  | n + 1, x => by
    have := orb_snoc s n (Om.nxt s x)
    show x :: Om.orb s (n + 1) (Om.nxt s x) = x :: (Om.orb s n (Om.nxt s x) ++ [Om.itr s n (Om.nxt s x)])
    rw [this]
def spEdgeOf : Sp := fun vs H Q _ => ∃ (a : Addr) (s : List Ti01.Cell), vs = [.ref a] ∧ Rw H a (s.map cl) ∧ Om.Good s ∧ s.length ≤ 1000 ∧ RL H Q (Ti01.ints (Ti01.edge s))
theorem sc_edge_of : FnScope ["squares", "found", "corner", "way", "side"] ["squares"] (defScope (top 31)) := ⟨rfl, rfl, rfl, by decide +kernel, rfl, by decide +kernel, by decide +kernel⟩
theorem cal_edge_of (D : Df K mg "edge_of" (top 31)) (G : Glb K mg) (c_beside : Cal P w K mg base CX0 1 "beside" spBeside) (c_next_way : Cal P w K mg base CX0 2 "next_way" spNextWay)
    (c_sides_of : Cal P w K mg base CX0 2 "sides_of" spSidesOf) (c_first_corner : Cal P w K mg base CX0 1 "first_corner" spFirstCorner) : Cal P w K mg base CX0 3 "edge_of" spEdgeOf := by
  refine D.ok sc_edge_of (fun vs H Q E h => by obtain ⟨_, _, rfl, _⟩ := h; rfl) (fun _ _ _ _ _ _ us hl => match us, hl with | [_], _ => rfl) (fun f cdv A outer s H vs Q E hr h => ?_)
  refine ⟨_, (pss_cons (ps_set (i := 1) sc_edge_of.nd rfl (Or.inl rfl) (pe_lst pa_nil))
      (pss_cons (ps_set (i := 2) sc_edge_of.nd rfl (Or.inl rfl) (pe_c c_first_corner hr (by decide) rfl (by exact (pa_cons (pv 0) pa_nil))))
      (pss_cons (ps_set (i := 3) sc_edge_of.nd rfl (Or.inl rfl) pe_int)
      (pss_cons (ps_for PassesOwn.never rfl (pi_range1 rfl G.b_range (by exact (pa_cons (pe_c c_sides_of hr (by decide) rfl (by exact (pa_cons (pv 0) pa_nil))) pa_nil))) (pg_name (i := 4) sc_edge_of.nd rfl (Or.inl rfl)) (pss_cons (ps_expr (pe_bm PySem.F.plainAttrs_list PySem.F.slot_list_append PySem.F.type_list_append mt_append (pv 1) (by exact (pa_cons (pv 3) pa_nil))))
      (pss_cons (ps_set (i := 2) sc_edge_of.nd rfl (Or.inl rfl) (pe_c c_beside hr (by decide) rfl (by exact (pa_cons (pv 2) (pa_cons (pv 3) pa_nil)))))
      (pss_one (ps_set (i := 3) sc_edge_of.nd rfl (Or.inl rfl) (pe_c c_next_way hr (by decide) rfl (by exact (pa_cons (pv 0) (pa_cons (pv 2) (pa_cons (pv 3) pa_nil))))))))))
      (pss_one (ps_ret (pv 1))))))), ?_⟩
  obtain ⟨a, s', rfl, hR, hG, hl, k⟩ := h
  have R := Om.round hG
  have sb := Om.start_bnd hG.ne
  have hsz : Om.sides s' ≤ 4000 := by have := Om.sidesIn_le s' s'; unfold Om.sides; omega
  refine ⟨by show 0 ≤ sizeLine; exact Nat.zero_le _, fun F hF => ?_⟩
  have s0 : Same H (upd H F (.lst [])) := same_new hF
  refine ⟨_, rfl, a, s', rfl, hR.same s0, hG.ne, hl, fun q H1 s1 hq hT => ?_⟩
  have hF1 : Il H1 F [] := s1 _ _ upd_same
  refine ⟨_, rfl, a, s', rfl, hR.same (s0.trans s1), fun H2 s2 => ⟨_, rfl, by omega, by omega, for_range (lo := 0) (n := Om.sides s') (fun i σ H' => ∃ (t : Addr) (x : Option V), σ = [some (.ref a), some (.ref F), some (.ref t), some (.int (((Om.itr s' i (Om.start s')).2 : Nat) : Int)), x] ∧ Same H H' ∧ Il H' F (Ti01.ints ((Om.orb s' i (Om.start s')).map (·.2))) ∧ Tp H' t (cl (Om.itr s' i (Om.start s')).1))
    ⟨q, none, rfl, s0.trans (s1.trans s2), hF1.same s2, hT.same s2⟩ ?_ ?_⟩⟩
  · rintro i σ H3 hi ⟨t, x, rfl, s3, h3, ht⟩
    have hb := Om.itr_bnd (s := s') (k := i) sb
    refine ⟨_, rfl, Il.lst h3, _, rfl, F, _, _, rfl, rfl, h3, ?_, ?_⟩
    · rw [List.length_map, ints_length, List.length_map, Om.orb_length]
      exact line_lt (by omega)
    have s4 := Same.put (o := .lst ((Ti01.ints ((Om.orb s' i (Om.start s')).map (·.2))).map V.int ++ [V.int (((Om.itr s' i (Om.start s')).2 : Nat) : Int)])) s3 hF
    have ht4 := Tp.put (o := .lst ((Ti01.ints ((Om.orb s' i (Om.start s')).map (·.2))).map V.int ++ [V.int (((Om.itr s' i (Om.start s')).2 : Nat) : Int)])) ht h3
    have hF4 : Il (upd H3 F (.lst ((Ti01.ints ((Om.orb s' i (Om.start s')).map (·.2))).map V.int ++ [V.int (((Om.itr s' i (Om.start s')).2 : Nat) : Int)]))) F (Ti01.ints ((Om.orb s' (i + 1) (Om.start s')).map (·.2))) := by
      show upd _ F _ F = _
      rw [upd_same, orb_snoc, List.map_append, List.map_cons, List.map_nil, ints_snoc]
    refine ⟨_, rfl, _, rfl, t, (Om.itr s' i (Om.start s')).2, (Om.itr s' i (Om.start s')).1, rfl, hb.1, ht4, fun p H5 s5 hp hT5 => ?_⟩
    refine ⟨_, rfl, _, rfl, _, rfl, a, p, (Om.itr s' i (Om.start s')).2, s', _, rfl, hb.1, hR.same (s4.trans s5), hT5, fun H6 s6 => ?_⟩
    refine ⟨p, some (.int (0 + (i : Int))), ?_, s4.trans (s5.trans s6), hF4.same (s5.trans s6), ?_⟩
    · rw [Om.itr_succ]
      rfl
    · rw [Om.itr_succ]
      exact hT5.same s6
  · rintro σ H3 ⟨t, x, rfl, s3, h3, ht⟩
    refine ⟨_, rfl, k F H3 s3 hF ?_⟩
    rw [R.edge]
    exact h3
end Oc
namespace Oc
open PySem PySem.Spec PyProof.Rows L2
variable {P : Program} {w : World} {K : PySem.W.Frag} {mg : Str → Option Value} {base : Heap}
/-! ## covers, grids_of, lying_on, is_made_of, grid_made_of -/
theorem Rw.push {H : Hp} {F t : Addr} {rs : List (List Int)} {ns : List Int} (h : Rw H F rs) (ht : Tp H t ns) :
    ∃ acc, H F = some (.lst acc) ∧ acc.length = rs.length ∧ Rw (upd H F (.lst (acc ++ [.ref t]))) F (rs ++ [ns]) := by
  obtain ⟨ts, h1, h2⟩ := h
  refine ⟨ts.map V.ref, h1, by rw [List.length_map]; exact Tps.len h2, ts ++ [t], ?_, ?_⟩
  · rw [upd_same, List.map_append]
    rfl
  · exact Tps.append (Tps.put h2 h1) (.cons (Tp.put ht h1) .nil)
theorem cl_nodup {l : List Ti01.Cell} : (l.map cl).Nodup ↔ l.Nodup :=
  ⟨fun h => by
    have : l.Pairwise (fun a b => cl a ≠ cl b) := by
      rw [List.Nodup, List.pairwise_map] at h
      exact h
    exact this.imp fun {a b} q e => q (by rw [e]), fun h => Om.nodup_map_on (fun _ _ _ _ e => cl_inj e) h⟩
def spCovers : Sp := fun vs H Q _ => ∃ (a t : Addr) (s : List Ti01.Cell) (g : Ti01.Grid), vs = [.ref a, .ref t] ∧ Rw H a (s.map cl) ∧ Tp H t (gl g) ∧ GOk g ∧ s.length < 64 ∧ RB H Q (decide (s.map (Ti01.home g)).Nodup)
theorem sc_covers : FnScope ["squares", "grid", "column", "row"] ["squares", "grid"] (defScope (top 34)) := ⟨rfl, rfl, rfl, by decide +kernel, rfl, by decide +kernel, by decide +kernel⟩
theorem cal_covers (D : Df K mg "covers" (top 34)) (G : Glb K mg) (c_rest_of : Cal P w K mg base CX0 1 "rest_of" spRestOf) : Cal P w K mg base CX0 2 "covers" spCovers := by
  refine D.ok sc_covers (fun vs H Q E h => by obtain ⟨_, _, _, _, rfl, _⟩ := h; rfl) (fun _ _ _ _ _ _ us hl => match us, hl with | [_, _], _ => rfl) (fun f cdv A outer s H vs Q E hr h => ?_)
  refine ⟨_, (pss_one (ps_ret (pe_cmpR op_eq (pe_lenSetR rfl (hu64 hr) rfl G.b_len rfl G.b_set (pe_lc (own := [("column", 2), ("row", 3)]) rfl sc_covers.nd (pi_list (pv 0)) (blkOk_by (own := [("column", 2), ("row", 3)]) (N := ["squares", "grid", "column", "row"]) (sc := defScope (top 34)) (by decide +kernel)) (fun _ _ _ _ _ => (pg_tupE (K := K) (n := 2) rfl rfl (pgs_cons (pg_name (i := 2) sc_covers.nd rfl (Or.inl rfl)) (pgs_cons (pg_name (i := 3) sc_covers.nd rfl (Or.inl rfl)) pgs_nil)))) (fun _ _ _ _ _ => by exact pts_nil) (fun _ _ _ _ _ => by exact (pe_c c_rest_of hr (by decide) rfl (by exact (pa_cons (pv 1) (pa_cons (pv 2) (pa_cons (pv 3) pa_nil)))))))) (pe_callB call_len_seq rfl G.b_len PySem.boot_len (by exact (pa_cons (pv 0) pa_nil))) (nomark _)))), ?_⟩
  obtain ⟨a, t, s', g, rfl, ⟨ts, ha, hts⟩, ht, hg, hl, k⟩ := h
  have hlen : ts.length = s'.length := by rw [Tps.len hts, List.length_map]
  refine ⟨_, rfl, a, rfl, ⟨_, .of ha⟩, fun L hL => lc_list (K := K) (a := a) (xs := ts.map V.ref) (fun i H' => Same H H' ∧ Rw H' L (((s'.take i).map (Ti01.home g)).map cl)) ⟨same_new hL, .nil upd_same⟩ (fun i H' _ ⟨s1, _⟩ => .of (s1 _ _ ha)) ?_ ?_⟩
  · rintro i x H1 hx ⟨s1, h1⟩
    obtain ⟨u, c, rfl, hc, hu⟩ := cell_at hts hx
    refine ⟨u, _, rfl, (hu.same s1).sq, rfl, _, _, rfl, _, _, rfl, rfl, rfl, yesT ⟨_, rfl, _, rfl, _, rfl, t, c.1, c.2, g, rfl, ht.same s1, hg, fun p H2 s2 hp hT => ?_⟩⟩
    obtain ⟨acc, a1, a2, a3⟩ := Rw.push (h1.same s2) hT
    refine ⟨acc, a1, ?_, Same.put (s1.trans s2) hL, ?_⟩
    · rw [a2, List.length_map, List.length_map, List.length_take]
      exact line_lt (by omega)
    · rw [take_more hc, List.map_append, List.map_append]
      exact a3
  · rintro H1 ⟨s1, h1⟩
    rw [List.length_map, hlen, List.take_of_length_le (Nat.le_refl _)] at h1
    refine ⟨L, _, rfl, h1, by rw [List.length_map, List.length_map]; exact hl, fun n hn _ => ?_⟩
    refine ⟨_, rfl, a, _, rfl, .inl (.of (s1 _ _ ha)), rfl, ?_⟩
    have ev : decide (V.int (n : Nat) = V.int ((ts.map V.ref).length : Nat)) = decide (s'.map (Ti01.home g)).Nodup := by
      rw [decide_eq_decide, ← cl_nodup, ← hn]
      simp only [List.length_map, hlen]
      constructor
      · intro e
        have := V.int.inj e
        omega
      · intro e
        rw [e]
    rw [ev]
    exact k H1 s1
abbrev gridsB (s : List Ti01.Cell) (i m : Nat) : List Ti01.Grid := ((List.range m).map fun b => Ti01.Grid.mk (i + 1) b (s.length / (i + 1))).filter (Ti01.covers s)
abbrev gridsA (s : List Ti01.Cell) (n : Nat) : List Ti01.Grid := (List.range n).flatMap fun i => if s.length % (i + 1) = 0 then gridsB s i (i + 1) else []
theorem gridsB_le (s : List Ti01.Cell) (i m : Nat) : (gridsB s i m).length ≤ m := by
  have := List.length_filter_le (Ti01.covers s) ((List.range m).map fun b => Ti01.Grid.mk (i + 1) b (s.length / (i + 1)))
  rw [List.length_map, List.length_range] at this
  exact this
theorem gridsA_le (s : List Ti01.Cell) {n k : Nat} (hn : n ≤ k) : (gridsA s n).length ≤ n * k := by
  have := flat_le (l := List.range n) (f := fun i => if s.length % (i + 1) = 0 then gridsB s i (i + 1) else []) (k := k) fun i hi => by
    have := List.mem_range.mp hi
    have := gridsB_le s i (i + 1)
    split
    · omega
    · simp
  rw [List.length_range] at this
  exact this
def spGridsOf : Sp := fun vs H Q _ => ∃ (a : Addr) (s : List Ti01.Cell), vs = [.ref a] ∧ Rw H a (s.map cl) ∧ s.length ≤ 50 ∧ RR H Q ((Ti01.grids s).map gl)
theorem sc_grids_of : FnScope ["squares", "many", "found", "a", "d", "b"] ["squares"] (defScope (top 35)) := ⟨rfl, rfl, rfl, by decide +kernel, rfl, by decide +kernel, by decide +kernel⟩
theorem cal_grids_of (D : Df K mg "grids_of" (top 35)) (G : Glb K mg) (c_covers : Cal P w K mg base CX0 2 "covers" spCovers) : Cal P w K mg base CX0 3 "grids_of" spGridsOf := by
  refine D.ok sc_grids_of (fun vs H Q E h => by obtain ⟨_, _, rfl, _⟩ := h; rfl) (fun _ _ _ _ _ _ us hl => match us, hl with | [_], _ => rfl) (fun f cdv A outer s H vs Q E hr h => ?_)
  refine ⟨_, (pss_cons (ps_set (i := 1) sc_grids_of.nd rfl (Or.inl rfl) (pe_callB call_len_seq rfl G.b_len PySem.boot_len (by exact (pa_cons (pv 0) pa_nil))))
      (pss_cons (ps_set (i := 2) sc_grids_of.nd rfl (Or.inl rfl) (pe_lst pa_nil))
      (pss_cons (ps_for PassesOwn.never rfl (pi_range2 rfl G.b_range (by exact (pa_cons pe_int (pa_cons (pe_op op_add (pv 1) pe_int) pa_nil)))) (pg_name (i := 3) sc_grids_of.nd rfl (Or.inr rfl)) (pss_one (ps_if (pt_cmpR op_eq (pe_op op_mod (pv 1) (pv 3)) pe_int (nomark _)) (pss_cons (ps_set (i := 4) sc_grids_of.nd rfl (Or.inr rfl) (pe_op op_fdiv (pv 1) (pv 3)))
      (pss_one (ps_expr (pe_bm PySem.F.plainAttrs_list PySem.F.slot_list_extend PySem.F.type_list_extend mt_extend (pv 2) (by exact (pa_cons (pe_lc (own := [("b", 5)]) rfl sc_grids_of.nd (pi_range1 rfl G.b_range (by exact (pa_cons (pv 3) pa_nil))) (blkOk_by (own := [("b", 5)]) (N := ["squares", "many", "found", "a", "d", "b"]) (sc := defScope (top 35)) (by decide +kernel)) (fun _ _ _ _ _ => (pg_name (i := 5) sc_grids_of.nd rfl (Or.inl rfl))) (fun _ _ _ _ _ => by exact (pts_one (pt_val (pe_c c_covers hr (by decide) rfl (by exact (pa_cons (pv 0) (pa_cons (pe_tup (by exact (pa_cons (pv 3) (pa_cons (pv 5) (pa_cons (pv 4) pa_nil))))) pa_nil))))))) (fun _ _ _ _ _ => by exact (pe_tup (by exact (pa_cons (pv 3) (pa_cons (pv 5) (pa_cons (pv 4) pa_nil))))))) pa_nil)))))) pss_nil)))
      (pss_one (ps_ret (pv 2)))))), ?_⟩
  obtain ⟨a, s', rfl, hR, hl, k⟩ := h
  obtain ⟨xs, hxs, hxl⟩ := hR.lst
  rw [List.length_map] at hxl
  refine ⟨_, rfl, a, _, rfl, .inl (.of hxs), ?_⟩
  rw [hxl]
  refine ⟨by show 0 ≤ sizeLine; exact Nat.zero_le _, fun F hF => ?_⟩
  have s0 : Same H (upd H F (.lst [])) := same_new hF
  refine ⟨_, rfl, _, _, rfl, rfl, 1, _, rfl, ⟨by omega, by omega, by omega, by omega⟩, for_range (lo := 1) (n := _) (fun i σ H' => ∃ x y : Option V, σ = [some (.ref a), some (.int (s'.length : Nat)), some (.ref F), x, y, none] ∧ Same H H' ∧ Rw H' F ((gridsA s' i).map gl))
    ⟨none, none, rfl, s0, .nil upd_same⟩ ?_ ?_⟩
  · rintro i σ H1 hi ⟨x, y, rfl, s1, h1⟩
    have hi' : i < s'.length := by omega
    rw [show (1 : Int) + (i : Int) = ((i + 1 : Nat) : Int) by omega]
    refine ⟨_, rfl, _, rfl, _, _, rfl, rfl, by omega, rfl, _, rfl, ?_⟩
    have ea : gridsA s' (i + 1) = gridsA s' i ++ (if s'.length % (i + 1) = 0 then gridsB s' i (i + 1) else []) := by
      unfold gridsA
      rw [List.range_succ, List.flatMap_append, List.flatMap_cons, List.flatMap_nil, List.append_nil]
    refine ite2 (fun g => ?_) (fun g => ?_)
    · have hm : s'.length % (i + 1) = 0 := by
        have := V.int.inj (of_decide_eq_true g)
        omega
      rw [if_pos hm] at ea
      refine ⟨_, rfl, _, rfl, _, _, rfl, rfl, ⟨by omega, by omega⟩, ?_⟩
      have ed : ((s'.length : Nat) : Int) / ((i + 1 : Nat) : Int) = ((s'.length / (i + 1) : Nat) : Int) := rfl
      have hd : 0 < s'.length / (i + 1) := Nat.div_pos (by omega) (by omega)
      have hd2 : s'.length / (i + 1) ≤ 50 := Nat.le_trans (Nat.div_le_self _ _) hl
      refine ⟨_, rfl, h1.ty, ?_⟩
      refine ⟨_, rfl, _, rfl, by omega, by omega, fun L hL => ?_⟩
      refine lc_range (lo := 0) (n := i + 1) (fun m H' => Same H1 H' ∧ Rw H' L ((gridsB s' i m).map gl)) ⟨same_new hL, .nil upd_same⟩ ?_ ?_
      · rintro m H2 hm2 ⟨s2, h2⟩
        rw [show (0 : Int) + (m : Int) = (m : Int) by omega]
        refine ⟨rfl, ?_⟩
        refine ⟨_, rfl, _, rfl, _, rfl, _, rfl, by show 3 ≤ sizeLine; exact line_of (by decide), fun t ht => ?_⟩
        have s3 := same_new (H := H2) (o := .tup [.int ((i + 1 : Nat) : Int), .int (m : Int), .int (((s'.length : Nat) : Int) / ((i + 1 : Nat) : Int))]) ht
        refine ⟨a, t, s', ⟨i + 1, m, s'.length / (i + 1)⟩, rfl, hR.same (s1.trans (s2.trans s3)), upd_same, ⟨by show 0 < i + 1; omega, by show m ≤ 1000; omega, hd, by show i + 1 ≤ 1000; omega, by show s'.length / (i + 1) ≤ 1000; omega⟩, by omega, fun H3 s4 => ⟨_, rfl, ?_⟩⟩
        have hc : Ti01.covers s' ⟨i + 1, m, s'.length / (i + 1)⟩ = decide (s'.map (Ti01.home ⟨i + 1, m, s'.length / (i + 1)⟩)).Nodup := by
          unfold Ti01.covers
          have e1 : (i + 1) * (s'.length / (i + 1)) = s'.length := Nat.mul_div_cancel' (Nat.dvd_of_mod_eq_zero hm)
          have e2 : ((i + 1) * (s'.length / (i + 1)) == s'.length) = true := beq_iff_eq.mpr e1
          show (((i + 1) * (s'.length / (i + 1)) == s'.length) && _) = _
          rw [e2, Bool.true_and]
          by_cases hn : (s'.map (Ti01.home ⟨i + 1, m, s'.length / (i + 1)⟩)).Nodup
          · rw [decide_eq_true hn, Om.different_iff.mpr hn]
          · rw [decide_eq_false hn]
            exact Bool.eq_false_iff.mpr fun z => hn (Om.different_iff.mp z)
        have er : gridsB s' i (m + 1) = gridsB s' i m ++ (if decide (s'.map (Ti01.home ⟨i + 1, m, s'.length / (i + 1)⟩)).Nodup = true then [⟨i + 1, m, s'.length / (i + 1)⟩] else []) := by
          unfold gridsB
          rw [List.range_succ, List.map_append, List.filter_append, List.map_cons, List.map_nil, List.filter_cons, List.filter_nil, hc]
        refine ite2 (fun g2 => ?_) (fun g2 => ?_)
        · rw [if_pos g2] at er
          refine ⟨_, rfl, _, rfl, _, rfl, by show 3 ≤ sizeLine; exact line_of (by decide), fun u hu => ?_⟩
          obtain ⟨acc, a1, a2, a3⟩ := Rw.snoc (ns := gl ⟨i + 1, m, s'.length / (i + 1)⟩) (h2.same (s3.trans s4)) hu
          have hH2 : H1 L = none := hL
          refine ⟨acc, a1, ?_, ?_, ?_⟩
          · rw [a2, List.length_map]
            exact line_lt (Nat.le_trans (gridsB_le s' i m) (by omega))
          · exact Same.put (s2.trans (s3.trans (Same.new s4 hu))) hH2
          · rw [er, List.map_append]
            exact a3
        · rw [if_neg g2, List.append_nil] at er
          rw [er]
          exact ⟨s2.trans (s3.trans s4), h2.same (s3.trans s4)⟩
      · rintro H2 ⟨s2, h2⟩
        obtain ⟨xs, zs, q1, q2, q3, q4, q5⟩ := Rw.ext (h1.same s2) h2
        refine ⟨F, L, xs, zs, rfl, rfl, q1, q2, ?_, _, _, rfl, Same.put (s1.trans s2) hF, ?_⟩
        · rw [q3, q4, List.length_map, List.length_map]
          have b1 := gridsA_le s' (n := i) (k := 50) (by omega)
          have b2 := gridsB_le s' i (i + 1)
          have b4 : i * 50 ≤ 50 * 50 := Nat.mul_le_mul_right _ (by omega)
          exact line_of (by omega)
        · rw [ea, List.map_append]
          exact q5
    · have hm : ¬ s'.length % (i + 1) = 0 := fun hm => g (decide_eq_true (congrArg V.int (by omega)))
      rw [if_neg hm, List.append_nil] at ea
      refine ⟨_, _, rfl, s1, ?_⟩
      rw [ea]
      exact h1
  · rintro σ H1 ⟨x, y, rfl, s1, h1⟩
    have en : ((((s'.length : Nat) : Int) + 1) - 1).toNat = s'.length := by omega
    rw [en] at h1
    exact ⟨_, rfl, k F H1 s1 hF h1⟩
end Oc
namespace Oc
open PySem PySem.Spec PyProof.Rows L2
variable {P : Program} {w : World} {K : PySem.W.Frag} {mg : Str → Option Value} {base : Heap}
/-! ## lying_on, is_made_of, grid_made_of -/
def lyAt (s : List Ti01.Cell) (g : Ti01.Grid) (x y : Int) (j : Nat) : List Int := match s[j]? with
  | some c => if Ti01.home g c = Ti01.home g (x, y) then [(j : Int), x - c.1, y - c.2] else []
  | none => []
def lyM (s : List Ti01.Cell) (g : Ti01.Grid) (x y : Int) (n : Nat) : List Int := (List.range n).flatMap (lyAt s g x y)
theorem lyM_le (s : List Ti01.Cell) (g : Ti01.Grid) (x y : Int) (n : Nat) : (lyM s g x y n).length ≤ n * 3 := by
  have := flat_le (l := List.range n) (f := lyAt s g x y) (k := 3) fun j _ => by
    unfold lyAt
    split
    · split <;> simp
    · simp
  rw [List.length_range] at this
  exact this
def spLyingOn : Sp := fun vs H Q _ => ∃ (a t : Addr) (x y : Int) (s : List Ti01.Cell) (g : Ti01.Grid), vs = [.ref a, .ref t, .int x, .int y] ∧ Rw H a (s.map cl) ∧ Tp H t (gl g) ∧ GOk g ∧ s.length ≤ 50 ∧ RL H Q (lyM s g x y s.length)
theorem sc_lying_on : FnScope ["squares", "grid", "x", "y", "rest", "found", "number", "column", "row"] ["squares", "grid", "x", "y"] (defScope (top 36)) := ⟨rfl, rfl, rfl, by decide +kernel, rfl, by decide +kernel, by decide +kernel⟩
theorem cal_lying_on (D : Df K mg "lying_on" (top 36)) (G : Glb K mg) (c_rest_of : Cal P w K mg base CX0 1 "rest_of" spRestOf) : Cal P w K mg base CX0 2 "lying_on" spLyingOn := by
  refine D.ok sc_lying_on (fun vs H Q E h => by obtain ⟨_, _, _, _, _, _, rfl, _⟩ := h; rfl) (fun _ _ _ _ _ _ us hl => match us, hl with | [_, _, _, _], _ => rfl) (fun f cdv A outer s H vs Q E hr h => ?_)
  refine ⟨_, (pss_cons (ps_set (i := 4) sc_lying_on.nd rfl (Or.inl rfl) (pe_c c_rest_of hr (by decide) rfl (by exact (pa_cons (pv 1) (pa_cons (pv 2) (pa_cons (pv 3) pa_nil))))))
      (pss_cons (ps_set (i := 5) sc_lying_on.nd rfl (Or.inl rfl) (pe_lst pa_nil))
      (pss_cons (ps_for PassesOwn.never rfl (pi_enum rfl G.b_enumerate (by exact (pa_cons (pv 0) pa_nil))) (pg_tup rfl (pgs_cons (pg_name (i := 6) sc_lying_on.nd rfl (Or.inl rfl)) (pgs_cons (pg_tup rfl (pgs_cons (pg_name (i := 7) sc_lying_on.nd rfl (Or.inl rfl)) (pgs_cons (pg_name (i := 8) sc_lying_on.nd rfl (Or.inl rfl)) pgs_nil))) pgs_nil))) (pss_one (ps_if (pt_cmpR (op_eqT (hu64 hr)) (pe_c c_rest_of hr (by decide) rfl (by exact (pa_cons (pv 1) (pa_cons (pv 7) (pa_cons (pv 8) pa_nil))))) (pv 4) (nomark _)) (pss_one (ps_expr (pe_bm PySem.F.plainAttrs_list PySem.F.slot_list_extend PySem.F.type_list_extend mt_extend (pv 5) (by exact (pa_cons (pe_lst (by exact (pa_cons (pv 6) (pa_cons (pe_op op_sub (pv 2) (pv 7)) (pa_cons (pe_op op_sub (pv 3) (pv 8)) pa_nil))))) pa_nil))))) pss_nil)))
      (pss_one (ps_ret (pv 5)))))), ?_⟩
  obtain ⟨a, t, x, y, s', g, rfl, ⟨ts, ha, hts⟩, ht, hg, hl, k⟩ := h
  have hlen : ts.length = s'.length := by rw [Tps.len hts, List.length_map]
  refine ⟨_, rfl, _, rfl, _, rfl, t, x, y, g, rfl, ht, hg, fun r H1 s1 hr1 hrT => ?_⟩
  refine ⟨by show 0 ≤ sizeLine; exact Nat.zero_le _, fun F hF => ?_⟩
  have sF := same_new (o := .lst []) hF
  have hFH : H F = none := s1.free hF
  refine ⟨_, rfl, a, _, rfl, .of ((s1.trans sF) _ _ ha), for_it (walk_enum (K := K) (a := a) (xs := ts.map V.ref)) (fun i σ H' => ∃ u v z : Option V, σ = [some (.ref a), some (.ref t), some (.int x), some (.int y), some (.ref r), some (.ref F), u, v, z] ∧ Same H H' ∧ Tp H' r (cl (Ti01.home g (x, y))) ∧ Il H' F (lyM s' g x y i))
    ⟨none, none, none, rfl, s1.trans sF, hrT.same sF, upd_same⟩ (fun i σ H' _ ⟨_, _, _, _, s2, _⟩ => .of (s2 _ _ ha)) ?_ ?_⟩
  · rintro i q σ H2 H3 hi ⟨u, v, z, rfl, s2, hrT2, hF2⟩ ⟨T, x1, y1, rfl, hT, rfl, e1, e2⟩
    cases Option.some.inj e1
    obtain ⟨uu, c, rfl, hc, huu⟩ := cell_at hts e2
    have s3 := same_new (H := H2) (o := .tup [.int (i : Nat), .ref uu]) hT
    refine ⟨T, _, rfl, .of upd_same, rfl, _, _, rfl, _, _, rfl, ⟨uu, _, rfl, (huu.same (s2.trans s3)).sq, rfl, _, _, rfl, _, _, rfl, rfl, rfl, ?_⟩⟩
    refine ⟨_, rfl, _, rfl, _, rfl, t, c.1, c.2, g, rfl, ht.same (s2.trans s3), hg, fun p H4 s4 hp hpT => ?_⟩
    refine ⟨_, rfl, p, _, r, _, rfl, rfl, hpT, hrT2.same (s3.trans s4), _, rfl, ?_⟩
    have ela : lyM s' g x y (i + 1) = lyM s' g x y i ++ (if Ti01.home g c = Ti01.home g (x, y) then [((i : Nat) : Int), x - c.1, y - c.2] else []) := by
      unfold lyM
      rw [List.range_succ, List.flatMap_append, List.flatMap_cons, List.flatMap_nil, List.append_nil]
      congr 1
      unfold lyAt
      rw [hc]
    refine ite2 (fun g2 => ?_) (fun g2 => ?_)
    · have e : Ti01.home g c = Ti01.home g (x, y) := cl_inj (of_decide_eq_true g2)
      rw [if_pos e] at ela
      have hF4 := hF2.same (s3.trans s4)
      refine ⟨_, rfl, Il.lst hF4, _, rfl, _, rfl, _, rfl, _, _, rfl, rfl, _, rfl, _, rfl, _, _, rfl, rfl, by show 3 ≤ sizeLine; exact line_of (by decide), fun L hL => ?_⟩
      have s5 := same_new (H := H4) (o := .lst [.int (i : Nat), .int (x - c.1), .int (y - c.2)]) hL
      refine ⟨F, L, _, _, rfl, rfl, hF4.same s5, upd_same, ?_, _, _, _, rfl, Same.put (s2.trans (s3.trans (s4.trans s5))) hFH, ?_, ?_⟩
      · rw [List.length_map]
        have := lyM_le s' g x y i
        rw [List.length_map, hlen] at hi
        exact line_of (by simp only [List.length_cons, List.length_nil]; omega)
      · exact Tp.put (hrT2.same (s3.trans (s4.trans s5))) (hF4.same s5)
      · rw [ela]
        exact il_cat (ns := lyM s' g x y i) (ms := [((i : Nat) : Int), x - c.1, y - c.2])
    · have e : ¬ Ti01.home g c = Ti01.home g (x, y) := fun e => g2 (decide_eq_true (by rw [e]))
      rw [if_neg e, List.append_nil] at ela
      refine ⟨_, _, _, rfl, s2.trans (s3.trans s4), hrT2.same (s3.trans s4), ?_⟩
      rw [ela]
      exact hF2.same (s3.trans s4)
  · rintro σ H2 ⟨u, v, z, rfl, s2, hrT2, hF2⟩
    rw [List.length_map, hlen] at hF2
    exact ⟨_, rfl, k F H2 s2 hFH hF2⟩
def madeOf (m1 m2 : Ti01.Cell) (g : Ti01.Grid) : Bool := decide (Ti01.home g m1 = (0, 0)) && (decide (Ti01.home g m2 = (0, 0)) && decide ((m1.1 * m2.2 - m1.2 * m2.1).natAbs = g.a * g.d))
structure MOk (m : Ti01.Cell) : Prop where
  x : -1000000 < m.1 ∧ m.1 < 1000000
  y : -1000000 < m.2 ∧ m.2 < 1000000
def spIsMadeOf : Sp := fun vs H Q _ => ∃ (t p q : Addr) (g : Ti01.Grid) (m1 m2 : Ti01.Cell), vs = [.ref t, .ref p, .ref q] ∧ Tp H t (gl g) ∧ GOk g ∧ Tp H p (cl m1) ∧ Tp H q (cl m2) ∧ MOk m1 ∧ MOk m2 ∧ RB H Q (madeOf m1 m2 g)
theorem sc_is_made_of : FnScope ["grid", "one", "other", "a", "b", "d"] ["grid", "one", "other"] (defScope (top 37)) := ⟨rfl, rfl, rfl, by decide +kernel, rfl, by decide +kernel, by decide +kernel⟩
theorem cal_is_made_of (D : Df K mg "is_made_of" (top 37)) (G : Glb K mg) (c_rest_of : Cal P w K mg base CX0 1 "rest_of" spRestOf) : Cal P w K mg base CX0 2 "is_made_of" spIsMadeOf := by
  refine D.ok sc_is_made_of (fun vs H Q E h => by obtain ⟨_, _, _, _, _, _, rfl, _⟩ := h; rfl) (fun _ _ _ _ _ _ us hl => match us, hl with | [_, _, _], _ => rfl) (fun f cdv A outer s H vs Q E hr h => ?_)
  refine ⟨_, (pss_cons (ps_asg (pv 0) (pg_tup rfl (pgs_cons (pg_name (i := 3) sc_is_made_of.nd rfl (Or.inl rfl)) (pgs_cons (pg_name (i := 4) sc_is_made_of.nd rfl (Or.inl rfl)) (pgs_cons (pg_name (i := 5) sc_is_made_of.nd rfl (Or.inl rfl)) pgs_nil)))))
      (pss_cons (ps_if (PW.pt (pw_or (pt_cmpR (op_neT (hu64 hr)) (pe_c c_rest_of hr (by decide) rfl (by exact (pa_cons (pv 0) (pa_cons (pe_ix (r := rIxT K) ix_tup (pv 1) pe_int (fun _ _ => rfl)) (pa_cons (pe_ix (r := rIxT K) ix_tup (pv 1) pe_int (fun _ _ => rfl)) pa_nil))))) (pe_tup (by exact (pa_cons pe_int (pa_cons pe_int pa_nil)))) (nomark _)) (pw_or1 (pt_cmpR (op_neT (hu64 hr)) (pe_c c_rest_of hr (by decide) rfl (by exact (pa_cons (pv 0) (pa_cons (pe_ix (r := rIxT K) ix_tup (pv 2) pe_int (fun _ _ => rfl)) (pa_cons (pe_ix (r := rIxT K) ix_tup (pv 2) pe_int (fun _ _ => rfl)) pa_nil))))) (pe_tup (by exact (pa_cons pe_int (pa_cons pe_int pa_nil)))) (nomark _))))) (pss_one (ps_ret pe_bl)) pss_nil)
      (pss_one (ps_ret (pe_cmpR op_eq (pe_callB call_abs rfl G.b_abs (by decide +kernel) (by exact (pa_cons (pe_op op_sub (pe_op op_mul (pe_ix (r := rIxT K) ix_tup (pv 1) pe_int (fun _ _ => rfl)) (pe_ix (r := rIxT K) ix_tup (pv 2) pe_int (fun _ _ => rfl))) (pe_op op_mul (pe_ix (r := rIxT K) ix_tup (pv 1) pe_int (fun _ _ => rfl)) (pe_ix (r := rIxT K) ix_tup (pv 2) pe_int (fun _ _ => rfl)))) pa_nil))) (pe_op op_mul (pv 3) (pv 5)) (nomark _)))))), ?_⟩
  obtain ⟨t, p, q, g, m1, m2, rfl, ht, hg, hp, hq, o1, o2, k⟩ := h
  refine ⟨_, rfl, t, _, rfl, ht.sq, rfl, _, _, rfl, _, _, rfl, _, _, rfl, rfl, ?_⟩
  refine ⟨_, rfl, _, rfl, p, _, _, _, rfl, rfl, hp.sq, rfl, _, rfl, p, _, _, _, rfl, rfl, hp.sq, rfl, t, m1.1, m1.2, g, rfl, ht, hg, fun r1 H1 s1 h1 hT1 => ?_⟩
  refine ⟨by show 2 ≤ sizeLine; exact line_of (by decide), fun z1 hz1 => ?_⟩
  have t1 := same_new (H := H1) (o := .tup [.int 0, .int 0]) hz1
  refine ⟨r1, _, z1, cl (0, 0), rfl, rfl, hT1.same t1, upd_same, _, rfl, ?_⟩
  have c1 : ∀ c : Ti01.Cell, decide (cl c = cl (0, 0)) = decide (c = (0, 0)) := fun c => by
    rw [decide_eq_decide]
    exact ⟨fun e => cl_inj e, fun e => by rw [e]⟩
  rw [c1]
  have no : madeOf m1 m2 g = false → RB H Q false := fun e => by rw [← e]; exact k
  refine ite2 (fun g1 => ?_) (fun g1 => ?_)
  · refine iteT (no ?_ _ (s1.trans t1))
    have := (Bool.not_eq_true' _).mp g1
    unfold madeOf
    rw [show decide (Ti01.home g m1 = (0, 0)) = false from this, Bool.false_and]
  have f1 : decide (Ti01.home g m1 = (0, 0)) = true := by
    have := Bool.eq_false_iff.mpr g1
    simpa using this
  have sA := s1.trans t1
  refine ⟨_, rfl, _, rfl, q, _, _, _, rfl, rfl, (hq.same sA).sq, rfl, _, rfl, q, _, _, _, rfl, rfl, (hq.same sA).sq, rfl, t, m2.1, m2.2, g, rfl, ht.same sA, hg, fun r2 H2 s2 h2 hT2 => ?_⟩
  refine ⟨by show 2 ≤ sizeLine; exact line_of (by decide), fun z2 hz2 => ?_⟩
  have t2 := same_new (H := H2) (o := .tup [.int 0, .int 0]) hz2
  refine ⟨r2, _, z2, cl (0, 0), rfl, rfl, hT2.same t2, upd_same, _, rfl, ?_⟩
  rw [c1]
  have sB := sA.trans (s2.trans t2)
  refine ite2 (fun g2 => ?_) (fun g2 => ?_)
  · refine no ?_ _ sB
    have := (Bool.not_eq_true' _).mp g2
    unfold madeOf
    rw [show decide (Ti01.home g m2 = (0, 0)) = false from this, Bool.false_and, Bool.and_false]
  have f2 : decide (Ti01.home g m2 = (0, 0)) = true := by
    have := Bool.eq_false_iff.mpr g2
    simpa using this
  have x1 := o1.x
  have y1 := o1.y
  have x2 := o2.x
  have y2 := o2.y
  have a1 := hg.a1
  refine ⟨_, rfl, p, _, _, _, rfl, rfl, (hp.same sB).sq, rfl, _, rfl, q, _, _, _, rfl, rfl, (hq.same sB).sq, rfl, _, _, rfl, rfl, .inl ⟨by omega, by omega⟩, ?_⟩
  refine ⟨_, rfl, p, _, _, _, rfl, rfl, (hp.same sB).sq, rfl, _, rfl, q, _, _, _, rfl, rfl, (hq.same sB).sq, rfl, _, _, rfl, rfl, .inl ⟨by omega, by omega⟩, _, _, rfl, rfl, _, rfl, ?_⟩
  refine ⟨_, rfl, _, rfl, _, _, rfl, rfl, .inl ⟨by omega, by omega⟩, rfl, ?_⟩
  have ev : decide (V.int (if m1.1 * m2.2 - m1.2 * m2.1 < 0 then -(m1.1 * m2.2 - m1.2 * m2.1) else m1.1 * m2.2 - m1.2 * m2.1) = V.int ((g.a : Int) * (g.d : Int))) = madeOf m1 m2 g := by
    unfold madeOf
    rw [f1, f2, Bool.true_and, Bool.true_and, decide_eq_decide]
    have e : (g.a : Int) * (g.d : Int) = ((g.a * g.d : Nat) : Int) := (Int.natCast_mul ..).symm
    rw [e]
    generalize m1.1 * m2.2 - m1.2 * m2.1 = z
    generalize g.a * g.d = n
    constructor
    · intro h
      have := V.int.inj h
      split at this <;> omega
    · intro h
      congr 1
      split <;> omega
  have kk := k _ sB
  rw [← ev] at kk
  exact kk
/-- the places at which p holds -/
def pickAt {α : Type} (p : α → Bool) (l : List α) (n : Nat) : List Nat := (List.range n).filter fun i => match l[i]? with
  | some x => p x
  | none => false
theorem pickAt_succ {α : Type} {p : α → Bool} {l : List α} {n : Nat} {x : α} (h : l[n]? = some x) : pickAt p l (n + 1) = pickAt p l n ++ (if p x = true then [n] else []) := by
  unfold pickAt
  rw [List.range_succ, List.filter_append, List.filter_cons, List.filter_nil]
  simp only [h]
theorem pickAt_le {α : Type} (p : α → Bool) (l : List α) (n : Nat) : (pickAt p l n).length ≤ n := by
  have := List.length_filter_le (fun i => match l[i]? with | some x => p x | none => false) (List.range n)
  rw [List.length_range] at this
  exact this
def spGridMadeOf : Sp := fun vs H Q _ => ∃ (a p q : Addr) (gs : List Ti01.Grid) (m1 m2 : Ti01.Cell), vs = [.ref a, .ref p, .ref q] ∧ Rw H a (gs.map gl) ∧ (∀ g ∈ gs, GOk g) ∧ gs.length ≤ 10000 ∧ Tp H p (cl m1) ∧ Tp H q (cl m2) ∧ MOk m1 ∧ MOk m2 ∧
  ∃ n r, pickAt (madeOf m1 m2) gs gs.length = n :: r ∧ RI H Q (n : Nat)
theorem sc_grid_made_of : FnScope ["grids", "one", "other", "numbers", "number", "grid"] ["grids", "one", "other"] (defScope (top 38)) := ⟨rfl, rfl, rfl, by decide +kernel, rfl, by decide +kernel, by decide +kernel⟩
theorem cal_grid_made_of (D : Df K mg "grid_made_of" (top 38)) (G : Glb K mg) (c_is_made_of : Cal P w K mg base CX0 2 "is_made_of" spIsMadeOf) : Cal P w K mg base CX0 3 "grid_made_of" spGridMadeOf := by
  refine D.ok sc_grid_made_of (fun vs H Q E h => by obtain ⟨_, _, _, _, _, _, rfl, _⟩ := h; rfl) (fun _ _ _ _ _ _ us hl => match us, hl with | [_, _, _], _ => rfl) (fun f cdv A outer s H vs Q E hr h => ?_)
  refine ⟨_, (pss_cons (ps_setLc (i := 3) (own := [("number", 4), ("grid", 5)]) rfl sc_grid_made_of.nd rfl rfl (sw_true rfl rfl rfl (by decide +kernel)) (pi_enum rfl G.b_enumerate (by exact (pa_cons (pv 0) pa_nil))) (blkOk_by (own := [("number", 4), ("grid", 5)]) (N := ["grids", "one", "other", "numbers", "number", "grid"]) (sc := defScope (top 38)) (by decide +kernel)) (fun _ _ _ _ _ => (pg_tupE (K := K) (n := 2) rfl rfl (pgs_cons (pg_name (i := 4) sc_grid_made_of.nd rfl (Or.inl rfl)) (pgs_cons (pg_name (i := 5) sc_grid_made_of.nd rfl (Or.inl rfl)) pgs_nil)))) (fun _ _ _ _ _ => by exact (pts_one (pt_val (pe_c c_is_made_of hr (by decide) rfl (by exact (pa_cons (pv 5) (pa_cons (pv 1) (pa_cons (pv 2) pa_nil)))))))) (fun _ _ _ _ _ => by exact (pv 4)))
      (pss_one (ps_ret (pe_ix (r := rIxL K) ix_list (pv 3) pe_int (fun _ _ => rfl))))), ?_⟩
  obtain ⟨a, p, q, gs, m1, m2, rfl, ⟨ts, ha, hts⟩, hgs, hl, hp, hq, o1, o2, n, r, hn, k⟩ := h
  have hlen : ts.length = gs.length := by rw [Tps.len hts, List.length_map]
  refine ⟨_, rfl, a, _, rfl, .of ha, fun L hL => lc_it (walk_enum (K := K) (a := a) (xs := ts.map V.ref)) (fun i H' => Same H H' ∧ Il H' L (Ti01.ints (pickAt (madeOf m1 m2) gs i))) ⟨same_new hL, upd_same⟩ (fun i H' _ ⟨s1, _⟩ => .of (s1 _ _ ha)) ?_ ?_⟩
  · rintro i x H1 H2 hi ⟨s1, h1⟩ ⟨T, x1, y1, rfl, hT, rfl, e1, e2⟩
    cases Option.some.inj e1
    obtain ⟨u, hu, rfl⟩ := ref_at e2
    obtain ⟨row, hrow, hTu⟩ := Tps.of_at hts hu
    rw [List.getElem?_map] at hrow
    obtain ⟨g, hg, rfl⟩ : ∃ g, gs[i]? = some g ∧ row = gl g := by
      cases e : gs[i]? with
      | none => rw [e] at hrow; cases hrow
      | some g => rw [e] at hrow; exact ⟨g, rfl, (Option.some.inj hrow).symm⟩
    have s2 := same_new (H := H1) (o := .tup [.int (i : Nat), .ref u]) hT
    refine ⟨T, _, rfl, .of upd_same, rfl, _, _, rfl, _, _, rfl, rfl, rfl, ?_⟩
    have er := pickAt_succ (p := madeOf m1 m2) hg
    have s3 := s1.trans s2
    refine ⟨_, rfl, _, rfl, _, rfl, u, p, q, g, m1, m2, rfl, hTu.same s3, hgs g (List.mem_of_getElem? hg), hp.same s3, hq.same s3, o1, o2, fun H3 s4 => ⟨_, rfl, ?_⟩⟩
    refine ite2 (fun g2 => ?_) (fun g2 => ?_)
    · rw [if_pos g2] at er
      refine ⟨_, rfl, _, h1.same (s2.trans s4), ?_, Same.put (s3.trans s4) hL, ?_⟩
      · rw [List.length_map, ints_length]
        have := pickAt_le (madeOf m1 m2) gs i
        rw [List.length_map, hlen] at hi
        exact line_lt (by omega)
      · rw [er, ints_app]
        exact il_cat (ns := Ti01.ints (pickAt (madeOf m1 m2) gs i)) (ms := [((i : Nat) : Int)])
    · rw [if_neg g2, List.append_nil] at er
      rw [er]
      exact ⟨s3.trans s4, h1.same (s2.trans s4)⟩
  · rintro H1 ⟨s1, h1⟩
    rw [List.length_map, hlen, hn] at h1
    exact ⟨_, rfl, L, _, _, _, rfl, rfl, h1.sq, at_of (j := 0) rfl rfl, k H1 s1⟩
end Oc
namespace Oc
open PySem PySem.Spec PyProof.Rows L2
variable {P : Program} {w : World} {K : PySem.W.Frag} {mg : Str → Option Value} {base : Heap}
/-! ## squares_about, reached_in, reached -/
abbrev aboutR (s : List Ti01.Cell) (j m : Nat) : List Ti01.Cell := ((List.range m).map fun (i : Nat) => ((-1 + (i : Int), -1 + (j : Int)) : Ti01.Cell)).filter fun c => !s.contains c
abbrev aboutN (s : List Ti01.Cell) (n : Nat) : List Ti01.Cell := (List.range n).flatMap fun j => aboutR s j 14
abbrev aboutM (s : List Ti01.Cell) : List Ti01.Cell := aboutN s 14
theorem aboutR_le (s : List Ti01.Cell) (j m : Nat) : (aboutR s j m).length ≤ m := by
  have := List.length_filter_le (fun c => !s.contains c) ((List.range m).map fun (i : Nat) => ((-1 + (i : Int), -1 + (j : Int)) : Ti01.Cell))
  rw [List.length_map, List.length_range] at this
  exact this
theorem aboutN_le (s : List Ti01.Cell) (n : Nat) : (aboutN s n).length ≤ n * 14 := by
  have := flat_le (l := List.range n) (f := fun j => aboutR s j 14) (k := 14) fun j _ => aboutR_le s j 14
  rw [List.length_range] at this
  exact this
def spSquaresAbout : Sp := fun vs H Q _ => ∃ (a : Addr) (s : List Ti01.Cell), vs = [.ref a] ∧ Rw H a (s.map cl) ∧ RR H Q ((aboutM s).map cl)
theorem sc_squares_about : FnScope ["squares", "found", "row", "column"] ["squares"] (defScope (top 14)) := ⟨rfl, rfl, rfl, by decide +kernel, rfl, by decide +kernel, by decide +kernel⟩
theorem cal_squares_about (D : Df K mg "squares_about" (top 14)) (G : Glb K mg) : Cal P w K mg base CX0 1 "squares_about" spSquaresAbout := by
  refine D.ok sc_squares_about (fun vs H Q E h => by obtain ⟨_, _, rfl, _⟩ := h; rfl) (fun _ _ _ _ _ _ us hl => match us, hl with | [_], _ => rfl) (fun f cdv A outer s H vs Q E hr h => ?_)
  refine ⟨_, (pss_cons (ps_set (i := 1) sc_squares_about.nd rfl (Or.inl rfl) (pe_lst pa_nil))
      (pss_cons (ps_for PassesOwn.never rfl (pi_range2 rfl G.b_range (by exact (pa_cons (pe_un un_neg pe_int) (pa_cons (pe_op op_add (pe_ci G.c_LAST (by exact rfl)) pe_int) pa_nil)))) (pg_name (i := 2) sc_squares_about.nd rfl (Or.inr rfl)) (pss_one (ps_expr (pe_bm PySem.F.plainAttrs_list PySem.F.slot_list_extend PySem.F.type_list_extend mt_extend (pv 1) (by exact (pa_cons (pe_lc (own := [("column", 3)]) rfl sc_squares_about.nd (pi_range2 rfl G.b_range (by exact (pa_cons (pe_un un_neg pe_int) (pa_cons (pe_op op_add (pe_ci G.c_LAST (by exact rfl)) pe_int) pa_nil)))) (blkOk_by (own := [("column", 3)]) (N := ["squares", "found", "row", "column"]) (sc := defScope (top 14)) (by decide +kernel)) (fun _ _ _ _ _ => (pg_name (i := 3) sc_squares_about.nd rfl (Or.inl rfl))) (fun _ _ _ _ _ => by exact (pts_one (pt_cmpR (op_notInR (hu65 hr)) (pe_tup (by exact (pa_cons (pv 3) (pa_cons (pv 2) pa_nil)))) (pv 0) rfl))) (fun _ _ _ _ _ => by exact (pe_tup (by exact (pa_cons (pv 3) (pa_cons (pv 2) pa_nil)))))) pa_nil))))))
      (pss_one (ps_ret (pv 1))))), ?_⟩
  obtain ⟨a, s', rfl, hR, k⟩ := h
  refine ⟨by show 0 ≤ sizeLine; exact Nat.zero_le _, fun F hF => ?_⟩
  have s0 : Same H (upd H F (.lst [])) := same_new hF
  refine ⟨1, rfl, _, _, rfl, rfl, -1, _, rfl, ⟨by decide, by decide, by decide, by decide⟩, for_range (lo := -1) (n := 14) (fun j σ H' => ∃ x : Option V, σ = [some (.ref a), some (.ref F), x, none] ∧ Same H H' ∧ Rw H' F ((aboutN s' j).map cl))
    ⟨none, rfl, s0, .nil upd_same⟩ ?_ ?_⟩
  · rintro j σ H1 hj ⟨x, rfl, s1, h1⟩
    refine ⟨_, rfl, h1.ty, ?_⟩
    refine ⟨1, rfl, _, _, rfl, rfl, -1, _, rfl, ⟨by decide, by decide, by decide, by decide⟩, fun L hL => ?_⟩
    refine lc_range (lo := -1) (n := 14) (fun m H' => Same H1 H' ∧ Rw H' L ((aboutR s' j m).map cl)) ⟨same_new hL, .nil upd_same⟩ ?_ ?_
    · rintro m H2 hm ⟨s2, h2⟩
      refine ⟨rfl, ?_⟩
      refine ⟨_, rfl, _, rfl, by show 2 ≤ sizeLine; exact line_of (by decide), fun t ht => ?_⟩
      have s3 := same_new (H := H2) (o := .tup [.int (-1 + (m : Int)), .int (-1 + (j : Int))]) ht
      refine ⟨_, rfl, t, cl (-1 + (m : Int), -1 + (j : Int)), a, _, rfl, rfl, upd_same, hR.same (s1.trans (s2.trans s3)), _, rfl, ?_⟩
      rw [cl_has]
      have er : aboutR s' j (m + 1) = aboutR s' j m ++ (if (!s'.contains ((-1 + (m : Int), -1 + (j : Int)) : Ti01.Cell)) = true then [(-1 + (m : Int), -1 + (j : Int))] else []) := by
        unfold aboutR
        rw [List.range_succ, List.map_append, List.filter_append, List.map_cons, List.map_nil, List.filter_cons, List.filter_nil]
      refine ite2 (fun g => ?_) (fun g => ?_)
      · rw [if_pos g] at er
        refine ⟨_, rfl, _, rfl, by show 2 ≤ sizeLine; exact line_of (by decide), fun u hu => ?_⟩
        obtain ⟨acc, a1, a2, a3⟩ := Rw.snoc (ns := cl (-1 + (m : Int), -1 + (j : Int))) (h2.same s3) hu
        refine ⟨acc, a1, ?_, ?_, ?_⟩
        · rw [a2, List.length_map]
          exact line_lt (Nat.le_trans (aboutR_le s' j m) (by omega))
        · exact Same.put (s2.trans (Same.new s3 hu)) hL
        · rw [er, List.map_append]
          exact a3
      · rw [if_neg g, List.append_nil] at er
        rw [er]
        exact ⟨s2.trans s3, h2.same s3⟩
    · rintro H2 ⟨s2, h2⟩
      obtain ⟨xs, zs, q1, q2, q3, q4, q5⟩ := Rw.ext (h1.same s2) h2
      refine ⟨F, L, xs, zs, rfl, rfl, q1, q2, ?_, _, rfl, Same.put (s1.trans s2) hF, ?_⟩
      · rw [q3, q4, List.length_map, List.length_map]
        have b1 := aboutN_le s' j
        have b2 := aboutR_le s' j 14
        exact line_of (by omega)
      · have ea : aboutN s' (j + 1) = aboutN s' j ++ aboutR s' j 14 := by
          unfold aboutN
          rw [List.range_succ, List.flatMap_append, List.flatMap_cons, List.flatMap_nil, List.append_nil]
        rw [ea, List.map_append]
        exact q5
  · rintro σ H1 ⟨x, rfl, s1, h1⟩
    exact ⟨_, rfl, k F H1 s1 hF h1⟩
/-- the last of a list of tuples taken off -/
theorem Rw.popped {H : Hp} {F : Addr} {rs : List (List Int)} {r : List Int} (h : Rw H F (rs ++ [r])) : ∃ t xs, H F = some (.lst xs) ∧ xs[xs.length - 1]? = some (.ref t) ∧ Tp H t r ∧ Rw (upd H F (.lst xs.dropLast)) F rs := by
  obtain ⟨ts, h1, h2⟩ := h
  have hl := Tps.len h2
  rw [List.length_append, List.length_singleton] at hl
  have hne : ts ≠ [] := fun e => by rw [e] at hl; simp at hl
  obtain ⟨t, h3, h4⟩ := Tps.at (i := rs.length) (r := r) h2 (by simp)
  have e : ts = ts.dropLast ++ [t] := by
    have e1 := List.dropLast_concat_getLast hne
    have e2 : ts.getLast hne = t := by
      rw [List.getLast_eq_getElem]
      have e3 : ts[ts.length - 1]? = some t := by rw [show ts.length - 1 = rs.length by omega]; exact h3
      exact (List.getElem?_eq_some_iff.mp e3).2
    rw [e2] at e1
    exact e1.symm
  have hd : Tps H ts.dropLast rs := by
    have go : ∀ {us : List Addr} {qs : List (List Int)} {u : Addr} {q : List Int}, Tps H (us ++ [u]) (qs ++ [q]) → Tps H us qs := by
      intro us
      induction us with
      | nil =>
        intro qs u q hh
        cases qs with
        | nil => exact .nil
        | cons a b =>
          have := Tps.len hh
          simp at this
      | cons a us ih =>
        intro qs u q hh
        cases qs with
        | nil =>
          have := Tps.len hh
          simp at this
        | cons b qs =>
          cases hh with
          | cons x y => exact .cons x (ih y)
    rw [e] at h2
    exact go h2
  refine ⟨t, ts.map V.ref, h1, ?_, h4, ts.dropLast, ?_, Tps.put hd h1⟩
  · rw [List.length_map, List.getElem?_map, show ts.length - 1 = rs.length by omega, h3]
    rfl
  · rw [upd_same, List.map_dropLast]
abbrev Kd (H : Hp) (d : Addr) (ks : List Ti01.Cell) : Prop := H d = some (.dT ((ks.map cl).map kt))
theorem Kd.get {H : Hp} {d t : Addr} {ks : List Ti01.Cell} {c : Ti01.Cell} (h : Kd H d ks) (ht : Tp H t (cl c)) : ∃ o, DGet H d (.ref t) o ∧ o.isSome = ks.contains c :=
  ⟨_, DGet.t (k := (cl c).map Sum.inl) h (by rw [kt_map]; exact ht), by rw [valV_kt, cl_has]⟩
theorem Kd.put {H : Hp} {d t : Addr} {ks : List Ti01.Cell} {c : Ti01.Cell} (h : Kd H d ks) (ht : Tp H t (cl c)) (hn : ks.contains c = false) (hl : ks.length ≤ 1000) : DPut H d (.ref t) (.bl true) (upd H d (.dT (((ks ++ [c]).map cl).map kt))) := by
  have p := DPut.t (k := (cl c).map Sum.inl) (v := .bl true) h (by rw [kt_map]; exact ht) (by rw [List.length_map, List.length_map]; exact line_lt (by omega))
  have e : putK ((ks.map cl).map kt) ((cl c).map Sum.inl) (.bl true) = ((ks ++ [c]).map cl).map kt := by
    rw [putK_new, List.map_append, List.map_append]
    · rfl
    · have := valV_kt (ks.map cl) (cl c)
      rw [cl_has, hn] at this
      exact Option.isSome_eq_false_iff.mp this |> fun h => Option.isNone_iff_eq_none.mp h
  rw [e] at p
  exact p
/-- what the search knows: ks known, ws waiting; x is being looked at (its first n ways done), where there is one -/
structure Look (tl : List Ti01.Cell) (b : Ti01.Cell) (ks ws : List Ti01.Cell) (here : Option (Ti01.Cell × Nat)) : Prop where
  nk : ks.Nodup
  nw : ws.Nodup
  wk : ∀ x ∈ ws, x ∈ ks
  kt : ∀ x ∈ ks, x ∈ tl
  hb : b ∈ ks
  re : ∀ x ∈ ks, Om.Reach tl b x
  cl : ∀ x ∈ ks, x ∉ ws → (∀ p, here = some p → p.1 ≠ x) → ∀ w, w < 4 → Ti01.ahead x w ∈ tl → Ti01.ahead x w ∈ ks
  at' : ∀ p, here = some p → p.1 ∈ ks ∧ p.1 ∉ ws ∧ ∀ w, w < p.2 → Ti01.ahead p.1 w ∈ tl → Ti01.ahead p.1 w ∈ ks
theorem Look.pop {tl : List Ti01.Cell} {b x : Ti01.Cell} {ks ws : List Ti01.Cell} (L : Look tl b ks (ws ++ [x]) none) : Look tl b ks ws (some (x, 0)) := by
  have nd := L.nw
  rw [List.nodup_append] at nd
  have hx : x ∉ ws := fun h => nd.2.2 x h x (by simp) rfl
  refine ⟨L.nk, nd.1, fun y hy => L.wk y (by simp [hy]), L.kt, L.hb, L.re, fun y hy hw hh => L.cl y hy (fun h => ?_) (fun p e => by cases e), fun p e => ?_⟩
  · rcases List.mem_append.mp h with h | h
    · exact hw h
    · exact hh (x, 0) rfl (List.mem_singleton.mp h).symm
  · cases e
    exact ⟨L.wk x (by simp), hx, fun w hw => absurd hw (Nat.not_lt_zero _)⟩
theorem Look.skip {tl : List Ti01.Cell} {b x : Ti01.Cell} {ks ws : List Ti01.Cell} {n : Nat} (L : Look tl b ks ws (some (x, n))) (h : Ti01.ahead x n ∈ tl → Ti01.ahead x n ∈ ks) : Look tl b ks ws (some (x, n + 1)) := by
  refine ⟨L.nk, L.nw, L.wk, L.kt, L.hb, L.re, fun y hy hw hh => L.cl y hy hw (fun p e => by cases e; exact hh (x, n + 1) rfl), fun p e => ?_⟩
  cases e
  obtain ⟨h1, h2, h3⟩ := L.at' _ rfl
  refine ⟨h1, h2, fun w hw => ?_⟩
  by_cases e : w = n
  · subst e; exact h
  · exact h3 w (by show w < n; have : w < n + 1 := hw; omega)
theorem Look.add {tl : List Ti01.Cell} {b x : Ti01.Cell} {ks ws : List Ti01.Cell} {n : Nat} (L : Look tl b ks ws (some (x, n))) (hn : n < 4) (h1 : Ti01.ahead x n ∈ tl) (h2 : Ti01.ahead x n ∉ ks) :
    Look tl b (ks ++ [Ti01.ahead x n]) (ws ++ [Ti01.ahead x n]) (some (x, n + 1)) := by
  obtain ⟨a1, a2, a3⟩ := L.at' _ rfl
  have nd : ∀ l : List Ti01.Cell, l.Nodup → Ti01.ahead x n ∉ l → (l ++ [Ti01.ahead x n]).Nodup := fun l hl hx => by
    rw [List.nodup_append]
    exact ⟨hl, by simp, fun a ha c hc e => hx (by rw [← List.mem_singleton.mp hc, ← e]; exact ha)⟩
  refine ⟨nd _ L.nk h2, nd _ L.nw fun h => h2 (L.wk _ h), fun y hy => ?_, fun y hy => ?_, List.mem_append_left _ L.hb, fun y hy => ?_, fun y hy hw hh => ?_, fun p e => ?_⟩
  · rcases List.mem_append.mp hy with hy | hy
    · exact List.mem_append_left _ (L.wk y hy)
    · exact List.mem_append_right _ hy
  · rcases List.mem_append.mp hy with hy | hy
    · exact L.kt y hy
    · rw [List.mem_singleton.mp hy]; exact h1
  · rcases List.mem_append.mp hy with hy | hy
    · exact L.re y hy
    · rw [List.mem_singleton.mp hy]
      exact .step (L.re x a1) hn h1
  · have hy' : y ∈ ks := by
      rcases List.mem_append.mp hy with hy | hy
      · exact hy
      · exact absurd (List.mem_append_right _ hy) hw
    intro w hw4 hin
    exact List.mem_append_left _ (L.cl y hy' (fun q => hw (List.mem_append_left _ q)) (fun p e => by cases e; exact hh (x, n + 1) rfl) w hw4 hin)
  · cases e
    refine ⟨List.mem_append_left _ a1, fun hw => ?_, fun w hw hin => ?_⟩
    · rcases List.mem_append.mp hw with hw | hw
      · exact a2 hw
      · exact h2 (by rw [← List.mem_singleton.mp hw]; exact a1)
    · by_cases e : w = n
      · subst e; exact List.mem_append_right _ (by simp)
      · exact List.mem_append_left _ (a3 w (by show w < n; have : w < n + 1 := hw; omega) hin)
theorem Look.done {tl : List Ti01.Cell} {b x : Ti01.Cell} {ks ws : List Ti01.Cell} (L : Look tl b ks ws (some (x, 4))) : Look tl b ks ws none := by
  obtain ⟨a1, a2, a3⟩ := L.at' _ rfl
  refine ⟨L.nk, L.nw, L.wk, L.kt, L.hb, L.re, fun y hy hw _ w hw4 hin => ?_, fun p e => by cases e⟩
  by_cases e : x = y
  · subst e; exact a3 w hw4 hin
  · exact L.cl y hy hw (fun p e' => by cases e'; exact e) w hw4 hin
theorem Look.all {tl : List Ti01.Cell} {b : Ti01.Cell} {ks : List Ti01.Cell} (L : Look tl b ks [] none) (x : Ti01.Cell) : x ∈ ks ↔ Om.Reach tl b x := by
  refine ⟨L.re x, fun h => ?_⟩
  induction h with
  | base => exact L.hb
  | step _ hw hin ih => exact L.cl _ ih (by simp) (fun p e => by cases e) _ hw hin
theorem Look.start {tl : List Ti01.Cell} {b : Ti01.Cell} (h : b ∈ tl) : Look tl b [b] [b] none := by
  refine ⟨by simp, by simp, fun x hx => hx, fun x hx => by rw [List.mem_singleton.mp hx]; exact h, by simp, fun x hx => by rw [List.mem_singleton.mp hx]; exact .base, fun x hx hn => absurd hx hn, fun p e => by cases e⟩
theorem Look.le {tl : List Ti01.Cell} {b : Ti01.Cell} {ks ws : List Ti01.Cell} {o : Option (Ti01.Cell × Nat)} (L : Look tl b ks ws o) : ks.length ≤ tl.length := Om.sub_len L.nk L.kt
/-- a list as long as what is come to -/
def RN (H : Hp) (Q : VK) (tl : List Ti01.Cell) (b : Ti01.Cell) : Prop := ∀ (p : Addr) (H' : Hp) (xs : List V) (ks : List Ti01.Cell), Same H H' → H' p = some (.lst xs) → xs.length = ks.length → ks.Nodup → (∀ x, x ∈ ks ↔ Om.Reach tl b x) → Q (.ref p) H'
def spReachedIn : Sp := fun vs H Q _ => ∃ (t d : Addr) (b : Ti01.Cell) (tl : List Ti01.Cell), vs = [.ref t, .ref d] ∧ Tp H t (cl b) ∧ Kd H d tl ∧ b ∈ tl ∧ tl.length ≤ 900 ∧ RN H Q tl b
theorem sc_reached_in : FnScope ["begun", "there", "known", "waiting", "here", "way", "other"] ["begun", "there"] (defScope (top 13)) := ⟨rfl, rfl, rfl, by decide +kernel, rfl, by decide +kernel, by decide +kernel⟩
theorem cal_reached_in (D : Df K mg "reached_in" (top 13)) (G : Glb K mg) (c_beside : Cal P w K mg base CX0 1 "beside" spBeside) : Cal P w K mg base CX0 2 "reached_in" spReachedIn := by
  refine D.ok sc_reached_in (fun vs H Q E h => by obtain ⟨_, _, _, _, rfl, _⟩ := h; rfl) (fun _ _ _ _ _ _ us hl => match us, hl with | [_, _], _ => rfl) (fun f cdv A outer s H vs Q E hr h => ?_)
  refine ⟨_, (pss_cons (ps_set (i := 2) sc_reached_in.nd rfl (Or.inl rfl) (pe_callTy (cr_dictR rfl (hu64 hr)) rfl G.b_dict (by decide +kernel) (by exact (pa_cons (pe_lst (by exact (pa_cons (pe_tup (by exact (pa_cons (pv 0) (pa_cons pe_bl pa_nil)))) pa_nil))) pa_nil))))
      (pss_cons (ps_set (i := 3) sc_reached_in.nd rfl (Or.inl rfl) (pe_lst (by exact (pa_cons (pv 0) pa_nil))))
      (pss_cons (ps_while PassesOwn.never (pt_cmpR (op_neN (hu64 hr)) (pv 3) (pe_lst pa_nil) (nomark _)) (pss_cons (ps_set (i := 4) sc_reached_in.nd rfl (Or.inl rfl) (pe_bm0 PySem.F.plainAttrs_list PySem.F.slot_list_pop PySem.F.type_list_pop mt_pop (pv 3)))
      (pss_one (ps_for PassesOwn.never rfl (pi_range1 rfl G.b_range (by exact (pa_cons pe_int pa_nil))) (pg_name (i := 5) sc_reached_in.nd rfl (Or.inl rfl)) (pss_cons (ps_set (i := 6) sc_reached_in.nd rfl (Or.inl rfl) (pe_c c_beside hr (by decide) rfl (by exact (pa_cons (pv 4) (pa_cons (pv 5) pa_nil)))))
      (pss_one (ps_if (PW.pt (pw_and (pt_cmp (pc_din (hu_of hr) (pv 6) (pv 1))) (pw_and1 (pt_cmp (pc_dnotin (hu_of hr) (pv 6) (pv 2)))))) (pss_cons (ps_dput (hu_of hr) (pv 2) (pv 6) pe_bl rfl)
      (pss_one (ps_expr (pe_bm PySem.F.plainAttrs_list PySem.F.slot_list_append PySem.F.type_list_append mt_append (pv 3) (by exact (pa_cons (pv 6) pa_nil)))))) pss_nil)))))))
      (pss_one (ps_ret (pe_callTy (call_list_dT rfl) rfl G.b_list (by decide +kernel) (by exact (pa_cons (pv 2) pa_nil)))))))), ?_⟩
  obtain ⟨t, d, b, tl, rfl, ht, hd, hb, hl, k⟩ := h
  refine ⟨_, rfl, by show 2 ≤ sizeLine; exact line_of (by decide), fun p hp => ⟨by show 1 ≤ sizeLine; exact line_of (by decide), fun l hl' => ?_⟩⟩
  have s1 := Same.new (same_new (H := H) (o := .tup [.ref t, .bl true]) hp) (o := .lst [.ref p]) hl'
  have hpl : p ≠ l := ne_of_none upd_same hl'
  refine ⟨l, [(p, t)], [cl b], rfl, upd_same, .cons ⟨(upd_ne hpl).trans upd_same, ht.same s1⟩ .nil, by simp, fun N hN => ?_⟩
  have s2 := Same.new s1 (o := .dT ([cl b].map kt)) hN
  refine ⟨_, rfl, by show 1 ≤ sizeLine; exact line_of (by decide), fun W hW => ?_⟩
  have s3 := Same.new s2 (o := .lst [.ref t]) hW
  have hNW : N ≠ W := ne_of_none upd_same hW
  have hNH : H N = none := s1.free hN
  have hWH : H W = none := s2.free hW
  refine ⟨fun m σ H' => ∃ (ks ws : List Ti01.Cell) (x y z : Option V), σ = [some (.ref t), some (.ref d), some (.ref N), some (.ref W), x, y, z] ∧ Same H H' ∧ Kd H' N ks ∧ Rw H' W (ws.map cl) ∧ Look tl b ks ws none ∧ m = 2 * (tl.length - ks.length) + ws.length,
    ⟨_, [b], [b], none, none, none, rfl, s3, (upd_ne hNW).trans upd_same, ⟨[t], upd_same, .cons (ht.same s3) .nil⟩, Look.start hb, rfl⟩, ?_⟩
  rintro m σ H1 ⟨ks, ws, x, y, z, rfl, s4, hk, hw, L, rfl⟩
  refine ⟨_, rfl, by show 0 ≤ sizeLine; exact Nat.zero_le _, fun q hq => ?_⟩
  have s5 := Same.new s4 (o := .lst []) hq
  have sq := same_new (H := H1) (o := .lst []) hq
  have hw5 := hw.same sq
  have hk5 : Kd (upd H1 q (.lst [])) N ks := sq _ _ hk
  refine ⟨W, _, q, rfl, rfl, hw5, upd_same, _, rfl, ?_⟩
  refine ite2 (fun g => ?_) (fun g => ?_)
  · have hne : ws ≠ [] := fun e => by
      rw [e] at g
      simp at g
    obtain ⟨ws0, xl, rfl⟩ : ∃ ws0 xl, ws = ws0 ++ [xl] := ⟨ws.dropLast, ws.getLast hne, (List.dropLast_concat_getLast hne).symm⟩
    rw [List.map_append] at hw5
    obtain ⟨u, xs, w1, w2, w3, w4⟩ := Rw.popped hw5
    refine ⟨fun σ' H' => ∃ m', m' < _ ∧ ∃ (ks ws : List Ti01.Cell) (x y z : Option V), σ' = [some (.ref t), some (.ref d), some (.ref N), some (.ref W), x, y, z] ∧ Same H H' ∧ Kd H' N ks ∧ Rw H' W (ws.map cl) ∧ Look tl b ks ws none ∧ m' = 2 * (tl.length - ks.length) + ws.length, fun σ' H' z => z, ?_⟩
    refine ⟨_, rfl, Or.inl ⟨rfl, _, Or.inl (Or.inl w1)⟩, W, xs, _, rfl, rfl, w1, w2, ?_⟩
    have hNW' : N ≠ W := hNW
    have k6 : Kd (upd (upd H1 q (.lst [])) W (.lst xs.dropLast)) N ks := by
      show upd _ W _ N = _
      rw [upd_ne hNW']
      exact hk5
    refine ⟨4, rfl, by decide, by decide, for_range (lo := 0) (n := 4) (fun i σ H' => ∃ (ks' ws' : List Ti01.Cell) (y z : Option V), σ = [some (.ref t), some (.ref d), some (.ref N), some (.ref W), some (.ref u), y, z] ∧ Same H H' ∧ Tp H' u (cl xl) ∧ Kd H' N ks' ∧ Rw H' W (ws'.map cl) ∧ Look tl b ks' ws' (some (xl, i)) ∧ 2 * (tl.length - ks'.length) + ws'.length < 2 * (tl.length - ks.length) + (ws0 ++ [xl]).length)
      ⟨ks, ws0, y, z, rfl, Same.put s5 hWH, Tp.put w3 w1, k6, w4, L.pop, by rw [List.length_append, List.length_singleton]; omega⟩ ?_ ?_⟩
    · rintro i σ H2 hi ⟨ks', ws', y, z, rfl, s6, hu, hk', hw', L', hm⟩
      rw [show (0 : Int) + (i : Int) = (i : Int) by omega]
      refine ⟨_, rfl, _, rfl, u, i, xl, rfl, hi, hu, fun o H3 s7 ho hoT => ?_⟩
      have hk3 : Kd H3 N ks' := s7 _ _ hk'
      have hd3 : Kd H3 d tl := (s6.trans s7) _ _ hd
      obtain ⟨o1, g1, e1⟩ := Kd.get hd3 hoT
      obtain ⟨o2, g2, e2⟩ := Kd.get hk3 hoT
      have s8 := s6.trans s7
      have skip : (Ti01.ahead xl i ∈ tl → Ti01.ahead xl i ∈ ks') → ∃ (ks' ws' : List Ti01.Cell) (y z : Option V), ([some (.ref t), some (.ref d), some (.ref N), some (.ref W), some (.ref u), some (.int (i : Int)), some (.ref o)] : List (Option V)) = [some (.ref t), some (.ref d), some (.ref N), some (.ref W), some (.ref u), y, z] ∧ Same H H3 ∧ Tp H3 u (cl xl) ∧ Kd H3 N ks' ∧ Rw H3 W (ws'.map cl) ∧ Look tl b ks' ws' (some (xl, i + 1)) ∧ 2 * (tl.length - ks'.length) + ws'.length < 2 * (tl.length - ks.length) + (ws0 ++ [xl]).length := fun hh =>
        ⟨ks', ws', _, _, rfl, s8, hu.same s7, hk3, hw'.same s7, L'.skip hh, hm⟩
      refine ⟨_, rfl, _, rfl, d, o1, rfl, g1, _, rfl, ?_⟩
      rw [e1]
      refine ite2 (fun c1 => ?_) (fun c1 => ?_)
      · have hin : Ti01.ahead xl i ∈ tl := by simpa using c1
        refine ⟨_, rfl, _, rfl, N, o2, rfl, g2, _, rfl, ?_⟩
        rw [e2]
        refine ite2 (fun c2 => ?_) (fun c2 => ?_)
        · have hno : Ti01.ahead xl i ∉ ks' := by simpa using c2
          have hno' : ks'.contains (Ti01.ahead xl i) = false := by simpa using c2
          have hle := L'.le
          refine ⟨_, rfl, _, rfl, N, _, rfl, Kd.put hk3 hoT hno' (by omega), ?_⟩
          have LA := L'.add hi hin hno
          have le2 := LA.le
          rw [List.length_append, List.length_singleton] at le2
          have oN : o ≠ N := ne_of hoT hk3 (fun z => nomatch z)
          have uN : u ≠ N := ne_of (hu.same s7) hk3 (fun z => nomatch z)
          have WN : W ≠ N := Ne.symm hNW
          have s9 := Same.put (o := .dT (((ks' ++ [Ti01.ahead xl i]).map cl).map kt)) s8 hNH
          have hw3 := hw'.same s7
          have hw9 : Rw (upd H3 N (.dT (((ks' ++ [Ti01.ahead xl i]).map cl).map kt))) W (ws'.map cl) := by
            obtain ⟨us, v1, v2⟩ := hw3
            refine ⟨us, (upd_ne WN).trans v1, Paired.mapP v2 fun a r q => ?_⟩
            show upd H3 N _ a = _
            rw [upd_ne (ne_of q hk3 (fun z => nomatch z))]
            exact q
          have ho9 : Tp (upd H3 N (.dT (((ks' ++ [Ti01.ahead xl i]).map cl).map kt))) o (cl (Ti01.ahead xl i)) := (upd_ne oN).trans hoT
          have hu9 : Tp (upd H3 N (.dT (((ks' ++ [Ti01.ahead xl i]).map cl).map kt))) u (cl xl) := (upd_ne uN).trans (hu.same s7)
          obtain ⟨acc, a1, a2, a3⟩ := Rw.push hw9 ho9
          refine ⟨_, rfl, hw9.ty, _, rfl, W, acc, _, rfl, rfl, a1, ?_, ?_⟩
          · rw [a2, List.length_map]
            have := Om.sub_len LA.nw LA.wk
            rw [List.length_append, List.length_append, List.length_singleton] at this
            exact line_lt (by omega)
          refine ⟨ks' ++ [Ti01.ahead xl i], ws' ++ [Ti01.ahead xl i], _, _, rfl, Same.put s9 hWH, Tp.put hu9 a1, ?_, ?_, LA, ?_⟩
          · show upd _ W _ N = _
            rw [upd_ne hNW, upd_same]
          · have em : (ws' ++ [Ti01.ahead xl i]).map cl = ws'.map cl ++ [cl (Ti01.ahead xl i)] := by rw [List.map_append]; rfl
            rw [em]
            exact a3
          · rw [List.length_append, List.length_append, List.length_singleton]
            omega
        · exact skip fun _ => by simpa using c2
      · exact iteF (skip fun hin => absurd (by simpa using hin) c1)
    · rintro σ H2 ⟨ks', ws', y, z, rfl, s6, hu, hk', hw', L', hm⟩
      exact ⟨_, hm, ks', ws', _, _, _, rfl, s6, hk', hw', L'.done, rfl⟩
  · have hnil : ws = [] := by
      have : decide (ws.map cl = []) = true := by simpa using g
      simpa using this
    subst hnil
    refine ⟨_, rfl, N, _, rfl, .inl hk5, fun r bs hr' hbs => ?_⟩
    refine k r _ _ ks (Same.new s5 hr') upd_same ?_ L.nk L.all
    have := Paired.length hbs
    rw [List.length_map] at this ⊢
    rw [← this, List.length_map]
end Oc
namespace Oc
open PySem PySem.Spec PyProof.Rows L2
variable {P : Program} {w : World} {K : PySem.W.Frag} {mg : Str → Option Value} {base : Heap}
/-! ## reached, look_shape, squares_in -/
def spReached : Sp := fun vs H Q _ => ∃ (t a : Addr) (b : Ti01.Cell) (tl : List Ti01.Cell), vs = [.ref t, .ref a] ∧ Tp H t (cl b) ∧ Rw H a (tl.map cl) ∧ tl.Nodup ∧ b ∈ tl ∧ tl.length ≤ 900 ∧ RN H Q tl b
theorem Prs.same {H H' : Hp} {ps : List (Addr × Addr)} {rs : List (List Int)} (h : Prs H ps rs) (s : Same H H') : Prs H' ps rs := Paired.mapP h fun _ _ q => ⟨s _ _ q.1, q.2.same s⟩
theorem Prs.put {H : Hp} {ps : List (Addr × Addr)} {rs : List (List Int)} {F : Addr} {o : HO} {xs : List V} (h : Prs H ps rs) (hF : H F = some (.lst xs)) : Prs (upd H F o) ps rs := Paired.mapP h fun p r q =>
  ⟨(upd_ne (ne_of q.1 hF (fun z => nomatch z))).trans q.1, Tp.put q.2 hF⟩
theorem Prs.snoc {H : Hp} : ∀ {ps : List (Addr × Addr)} {rs : List (List Int)} {p : Addr × Addr} {r : List Int}, Prs H ps rs → H p.1 = some (.tup [.ref p.2, .bl true]) → Tp H p.2 r → Prs H (ps ++ [p]) (rs ++ [r])
  | _, _, _, _, .nil, h1, h2 => .cons ⟨h1, h2⟩ .nil
  | _, _, _, _, .cons a t, h1, h2 => .cons a (Prs.snoc t h1 h2)
theorem sc_reached : FnScope ["begun", "some", "square"] ["begun", "some"] (defScope (top 12)) := ⟨rfl, rfl, rfl, by decide +kernel, rfl, by decide +kernel, by decide +kernel⟩
theorem cal_reached (D : Df K mg "reached" (top 12)) (G : Glb K mg) (c_reached_in : Cal P w K mg base CX0 2 "reached_in" spReachedIn) : Cal P w K mg base CX0 3 "reached" spReached := by
  refine D.ok sc_reached (fun vs H Q E h => by obtain ⟨_, _, _, _, rfl, _⟩ := h; rfl) (fun _ _ _ _ _ _ us hl => match us, hl with | [_, _], _ => rfl) (fun f cdv A outer s H vs Q E hr h => ?_)
  refine ⟨_, (pss_one (ps_ret (pe_c c_reached_in hr (by decide) rfl (by exact (pa_cons (pv 0) (pa_cons (pe_callTy (cr_dictR rfl (hu64 hr)) rfl G.b_dict (by decide +kernel) (by exact (pa_cons (pe_lc (own := [("square", 2)]) rfl sc_reached.nd (pi_list (pv 1)) (blkOk_by (own := [("square", 2)]) (N := ["begun", "some", "square"]) (sc := defScope (top 12)) (by decide +kernel)) (fun _ _ _ _ _ => (pg_name (i := 2) sc_reached.nd rfl (Or.inl rfl))) (fun _ _ _ _ _ => by exact pts_nil) (fun _ _ _ _ _ => by exact (pe_tup (by exact (pa_cons (pv 2) (pa_cons pe_bl pa_nil)))))) pa_nil))) pa_nil)))))), ?_⟩
  obtain ⟨t, a, b, tl, rfl, ht, ⟨ts, ha, hts⟩, hnd, hb, hl, k⟩ := h
  have hlen : ts.length = tl.length := by rw [Tps.len hts, List.length_map]
  refine ⟨_, rfl, _, rfl, a, rfl, ⟨_, .of ha⟩, fun L hL => lc_list (K := K) (a := a) (xs := ts.map V.ref) (fun i H' => Same H H' ∧ ∃ ps : List (Addr × Addr), H' L = some (.lst (ps.map fun p => V.ref p.1)) ∧ ps.length = i ∧ Prs H' ps ((tl.take i).map cl)) ⟨same_new hL, [], upd_same, rfl, .nil⟩ (fun i H' _ ⟨s1, _⟩ => .of (s1 _ _ ha)) ?_ ?_⟩
  · rintro i x H1 hx ⟨s1, ps, h1, h2, h3⟩
    obtain ⟨u, c, rfl, hc, hu⟩ := cell_at hts hx
    refine ⟨rfl, yesT ⟨_, rfl, by show 2 ≤ sizeLine; exact line_of (by decide), fun p hp => ?_⟩⟩
    have s2 := same_new (H := H1) (o := .tup [.ref u, .bl true]) hp
    have hi : i < tl.length := (List.getElem?_eq_some_iff.mp hc).1
    refine ⟨_, s2 _ _ h1, ?_, Same.put (s1.trans s2) hL, ps ++ [(p, u)], ?_, ?_, ?_⟩
    · rw [List.length_map, h2]
      exact line_lt (by omega)
    · rw [upd_same, List.map_append]
      rfl
    · rw [List.length_append, h2]
      rfl
    · rw [take_more hc, List.map_append]
      exact Prs.put (Prs.snoc (h3.same s2) (by show upd H1 p _ p = _; exact upd_same) (hu.same (s1.trans s2))) (s2 _ _ h1)
  · rintro H1 ⟨s1, ps, h1, h2, h3⟩
    rw [List.length_map, hlen, List.take_of_length_le (Nat.le_refl _)] at h3
    refine ⟨L, ps, _, rfl, h1, h3, cl_nodup.mpr hnd, fun d hd => ?_⟩
    have s2 := s1.trans (same_new (H := H1) (o := .dT ((tl.map cl).map kt)) hd)
    exact ⟨t, d, b, tl, rfl, ht.same s2, upd_same, hb, hl, fun p H' xs ks s3 g1 g2 g3 g4 => k p H' xs ks (s2.trans s3) g1 g2 g3 g4⟩
/-! joined, by the number come to -/
theorem reach_in {t : List Ti01.Cell} {c x : Ti01.Cell} (hc : c ∈ t) (h : Om.Reach t c x) : x ∈ t := by
  induction h with
  | base => exact hc
  | step _ _ hin _ => exact hin
theorem reach_congr {t t' : List Ti01.Cell} {c x : Ti01.Cell} (e : ∀ y, y ∈ t → y ∈ t') (h : Om.Reach t c x) : Om.Reach t' c x := by
  induction h with
  | base => exact .base
  | step _ hw hin ih => exact .step ih hw (e _ hin)
theorem joined_len {c : Ti01.Cell} {r ks : List Ti01.Cell} (nd : (c :: r).Nodup) (hk : ks.Nodup) (h : ∀ x, x ∈ ks ↔ Om.Reach (c :: r) c x) : ks.length < (c :: r).length ↔ Ti01.joined (c :: r) = false := by
  have sub : ∀ x ∈ ks, x ∈ c :: r := fun x hx => reach_in List.mem_cons_self ((h x).mp hx)
  constructor
  · intro hl
    refine Bool.eq_false_iff.mpr fun hj => ?_
    obtain ⟨c', r', e, all⟩ := Om.joined_reach hj
    cases e
    have := Om.sub_len nd fun x hx => (h x).mpr (all x hx)
    omega
  · intro hj
    refine Classical.byContradiction fun hn => ?_
    have all : ∀ x ∈ c :: r, x ∈ ks := Om.sub_all hk sub (by omega)
    have := Om.reach_joined nd fun x hx => (h x).mp (all x hx)
    rw [this] at hj
    cases hj
theorem mem_about {s : List Ti01.Cell} (c : Ti01.Cell) : c ∈ aboutM s ↔ c ∈ Ti01.around s := by
  rw [Om.mem_around]
  obtain ⟨a, b⟩ := c
  simp only [aboutM, aboutN, aboutR, List.mem_flatMap, List.mem_range, List.mem_filter, List.mem_map, Prod.mk.injEq, Bool.not_eq_true', List.contains_eq_mem, decide_eq_false_iff_not]
  constructor
  · rintro ⟨j, hj, ⟨i, hi, rfl, rfl⟩, h⟩
    exact ⟨by omega, h⟩
  · rintro ⟨h1, h2⟩
    exact ⟨(b + 1).toNat, by omega, ⟨(a + 1).toNat, by omega, by omega, by omega⟩, h2⟩
theorem about_nodup (s : List Ti01.Cell) : (aboutM s).Nodup := by
  refine Om.flat_nodup (fun c => (c.2 + 1).toNat) List.nodup_range (fun j _ => List.Pairwise.filter _ (Om.nodup_map_on (fun x _ y _ e => ?_) List.nodup_range)) fun j _ c hc => ?_
  · simp only [Prod.mk.injEq] at e
    omega
  · obtain ⟨h1, _⟩ := List.mem_filter.mp hc
    obtain ⟨i, _, rfl⟩ := List.mem_map.mp h1
    show (-1 + (j : Int) + 1).toNat = j
    omega
theorem around_nodup (s : List Ti01.Cell) : (Ti01.around s).Nodup := by
  unfold Ti01.around
  refine List.Pairwise.filter _ (Om.flat_nodup (fun c => (c.1 + 1).toNat) List.nodup_range (fun j _ => Om.nodup_map_on (fun x _ y _ e => ?_) List.nodup_range) fun j _ c hc => ?_)
  · simp only [Prod.mk.injEq] at e
    omega
  · obtain ⟨i, _, rfl⟩ := List.mem_map.mp hc
    show ((j : Int) - 1 + 1).toNat = j
    omega
theorem around_head {s : List Ti01.Cell} (h : ((-1, -1) : Ti01.Cell) ∉ s) : ∃ r, Ti01.around s = (-1, -1) :: r := by
  unfold Ti01.around
  obtain ⟨q, hq⟩ : ∃ q, ((List.range 14).flatMap fun (x : Nat) => (List.range 14).map fun (y : Nat) => (((x : Int) - 1, (y : Int) - 1) : Ti01.Cell)) = (-1, -1) :: q := ⟨_, rfl⟩
  rw [hq, List.filter_cons, if_pos (by simpa using h)]
  exact ⟨_, rfl⟩
theorem about_head {s : List Ti01.Cell} (h : ((-1, -1) : Ti01.Cell) ∉ s) : ∃ r, aboutM s = (-1, -1) :: r := by
  have e : aboutM s = ((List.range 14).flatMap fun (j : Nat) => ((List.range 14).map fun (i : Nat) => ((-1 + (i : Int), -1 + (j : Int)) : Ti01.Cell))).filter fun c => !s.contains c := by
    rw [List.filter_flatMap]
  rw [e]
  obtain ⟨q, hq⟩ : ∃ q, ((List.range 14).flatMap fun (j : Nat) => ((List.range 14).map fun (i : Nat) => ((-1 + (i : Int), -1 + (j : Int)) : Ti01.Cell))) = (-1, -1) :: q := ⟨_, rfl⟩
  rw [hq, List.filter_cons, if_pos (by simpa using h)]
  exact ⟨_, rfl⟩
theorem about_joined {s ks : List Ti01.Cell} (h : ((-1, -1) : Ti01.Cell) ∉ s) (hk : ks.Nodup) (hm : ∀ x, x ∈ ks ↔ Om.Reach (aboutM s) (-1, -1) x) : ks.length < (aboutM s).length ↔ Ti01.joined (Ti01.around s) = false := by
  obtain ⟨r, e⟩ := around_head h
  have nd := around_nodup s
  have l1 := Om.sub_len (about_nodup s) fun x hx => (mem_about x).mp hx
  have l2 := Om.sub_len nd fun x hx => (mem_about x).mpr hx
  have el : (aboutM s).length = (Ti01.around s).length := by omega
  rw [el]
  have hm' : ∀ x, x ∈ ks ↔ Om.Reach (Ti01.around s) (-1, -1) x := fun x => (hm x).trans ⟨reach_congr fun y => (mem_about y).mp, reach_congr fun y => (mem_about y).mpr⟩
  rw [e] at nd hm' ⊢
  exact joined_len nd hk hm'
/-- refused by a number -/
def Rf (C : Addr) (H : Hp) (E : XK) (z : Int) : Prop := ∀ H' d, Same H H' → H' d = some (.xd [(("number" : Str), .int z)]) → E (.ref C) (some d) H'
theorem Rf.same {C : Addr} {H H' : Hp} {E : XK} {z : Int} (h : Rf C H E z) (s : Same H H') : Rf C H' E z := fun H2 d s2 hd => h H2 d (s.trans s2) hd
variable {C fI : Addr}
def spLookShape (C : Addr) : Sp := fun vs H Q E => ∃ (a : Addr) (s : List Ti01.Cell), vs = [.ref a] ∧ Rw H a (s.map cl) ∧ s ≠ [] ∧ s.Nodup ∧ (∀ c ∈ s, (0 ≤ c.1 ∧ c.1 ≤ 11) ∧ 0 ≤ c.2 ∧ c.2 ≤ 11) ∧ s.length ≤ 12 ∧
  (Ti01.whole s = true → ∀ H', Same H H' → Q .non H') ∧ (Ti01.whole s = false → Rf C H E (-6))
theorem sc_look_shape : FnScope ["squares", "about"] ["squares"] (defScope (top 15)) := ⟨rfl, rfl, rfl, by decide +kernel, rfl, by decide +kernel, by decide +kernel⟩
theorem cal_look_shape (D : Df K mg "look_shape" (top 15)) (G : Glb K mg) (TR : PySem.RefX.RefTxt K mg C fI) (c_squares_about : Cal P w K mg base CX0 1 "squares_about" spSquaresAbout) (c_reached : Cal P w K mg base CX0 3 "reached" spReached) :
    Cal P w K mg base (L2.CX P w) 4 "look_shape" (spLookShape C) := by
  refine D.okX sc_look_shape (fun vs H Q E h => by obtain ⟨_, _, rfl, _⟩ := h; rfl) (fun _ _ _ _ _ _ us hl => match us, hl with | [_], _ => rfl) (fun f cdv A outer s H vs Q E hr h => ?_)
  refine ⟨_, (pss_cons (ps_set (i := 1) sc_look_shape.nd rfl (Or.inl rfl) (pe_c c_squares_about hr (by decide) rfl (by exact (pa_cons (pv 0) pa_nil))))
      (pss_one (ps_if (PW.pt (pw_or (pt_cmpR op_lt (pe_callB call_len_seq rfl G.b_len PySem.boot_len (by exact (pa_cons (pe_c c_reached hr (by decide) rfl (by exact (pa_cons (pe_ix (r := rIxL K) ix_list (pv 0) pe_int (fun _ _ => rfl)) (pa_cons (pv 0) pa_nil)))) pa_nil))) (pe_callB call_len_seq rfl G.b_len PySem.boot_len (by exact (pa_cons (pv 0) pa_nil))) (nomark _)) (pw_or1 (pt_cmpR op_lt (pe_callB call_len_seq rfl G.b_len PySem.boot_len (by exact (pa_cons (pe_c c_reached hr (by decide) rfl (by exact (pa_cons (pe_ix (r := rIxL K) ix_list (pv 1) pe_int (fun _ _ => rfl)) (pa_cons (pv 1) pa_nil)))) pa_nil))) (pe_callB call_len_seq rfl G.b_len PySem.boot_len (by exact (pa_cons (pv 1) pa_nil))) (nomark _))))) (pss_one (ps_raiseRef rfl TR hr (takes_of rfl rfl rfl rfl) (by exact (pa_cons (pe_ci G.c_NO_SHAPE (by exact rfl)) pa_nil)))) pss_nil))), ?_⟩
  obtain ⟨a, s', rfl, hR, hne, hnd, hrng, hl, k1, k2⟩ := h
  have hm1 : ((-1, -1) : Ti01.Cell) ∉ s' := fun h => by
    have := (hrng _ h).1.1
    simp at this
  cases s' with
  | nil => exact absurd rfl hne
  | cons c0 r0 =>
    refine ⟨_, rfl, a, _, rfl, hR, fun ab H1 s1 hab hA => ?_⟩
    have hR1 := hR.same s1
    obtain ⟨ts, q1, q2⟩ := id hR1
    obtain ⟨t0, g1, g2⟩ := Tps.at (i := 0) (r := cl c0) q2 rfl
    obtain ⟨us, q3, q4⟩ := id hA
    obtain ⟨ra, era⟩ := about_head hm1
    rw [era] at q4
    obtain ⟨u0, g3, g4⟩ := Tps.at (i := 0) (r := cl (-1, -1)) q4 rfl
    have hlt : ts.length = (c0 :: r0).length := by rw [Tps.len q2, List.length_map]
    have hlu : us.length = (aboutM (c0 :: r0)).length := by rw [Tps.len q4, List.length_map, era]
    have hal : (aboutM (c0 :: r0)).length ≤ 900 := Nat.le_trans (aboutN_le _ 14) (by decide)
    refine ⟨_, rfl, a, _, _, _, rfl, rfl, .of q1, at_of (j := 0) rfl (by rw [List.getElem?_map, g1]; rfl), _, rfl, t0, a, c0, c0 :: r0, rfl, g2, hR1, hnd, by simp, by omega, fun p H2 xs ks s2 e1 e2 e3 e4 => ?_⟩
    have hR2 := hR1.same s2
    refine ⟨p, xs, rfl, .inl (.of e1), _, rfl, a, _, rfl, .inl (.of (s2 _ _ q1)), _, _, rfl, rfl, _, rfl, ?_⟩
    have jl := joined_len hnd e3 e4
    have hR02 := s1.trans s2
    refine ite2 (fun g => iteT ?_) (fun g => ?_)
    · have hj : Ti01.joined (c0 :: r0) = false := jl.mp (by
        have := of_decide_eq_true g
        rw [List.length_map, hlt, e2] at this
        omega)
      have hw : Ti01.whole (c0 :: r0) = false := by unfold Ti01.whole; rw [hj]; rfl
      exact ⟨_, rfl, fun d hd => k2 hw _ d (Same.new hR02 hd) upd_same⟩
    · have hj : Ti01.joined (c0 :: r0) = true := by
        cases hb : Ti01.joined (c0 :: r0) with
        | true => rfl
        | false =>
          exfalso
          apply g
          apply decide_eq_true
          have := jl.mpr hb
          rw [List.length_map, hlt, e2]
          omega
      have hA2 := hA.same s2
      refine ⟨_, rfl, ab, _, _, _, rfl, rfl, .of (s2 _ _ q3), at_of (j := 0) rfl (by rw [List.getElem?_map, g3]; rfl), _, rfl, u0, ab, (-1, -1), aboutM (c0 :: r0), rfl, g4.same s2, hA2, about_nodup _, by rw [era]; simp, hal, fun p' H3 xs' ks' s3 f1 f2 f3 f4 => ?_⟩
      refine ⟨p', xs', rfl, .inl (.of f1), _, rfl, ab, _, rfl, .inl (.of (s3 _ _ (s2 _ _ q3))), _, _, rfl, rfl, _, rfl, ?_⟩
      have ja := about_joined hm1 f3 f4
      have hR03 := hR02.trans s3
      refine ite2 (fun g' => ?_) (fun g' => ?_)
      · have hj2 : Ti01.joined (Ti01.around (c0 :: r0)) = false := ja.mp (by
          have := of_decide_eq_true g'
          rw [List.length_map, hlu, f2] at this
          omega)
        have hw : Ti01.whole (c0 :: r0) = false := by unfold Ti01.whole; rw [hj2, Bool.and_false]
        exact ⟨_, rfl, fun d hd => k2 hw _ d (Same.new hR03 hd) upd_same⟩
      · have hj2 : Ti01.joined (Ti01.around (c0 :: r0)) = true := by
          cases hb : Ti01.joined (Ti01.around (c0 :: r0)) with
          | true => rfl
          | false =>
            exfalso
            apply g'
            apply decide_eq_true
            have := ja.mpr hb
            rw [List.length_map, hlu, f2]
            omega
        exact k1 (by unfold Ti01.whole; rw [hj, hj2]; rfl) H3 hR03
def sqOf (ns : List Int) : List Ti01.Cell := (evens ns).zip (evens (ns.drop 1))
structure SqOk (ns : List Int) : Prop where
  ev : ns.length % 2 = 0
  lo : 1 ≤ ns.length / 2
  hi : ns.length / 2 ≤ 12
  le : ∀ x ∈ ns, x ≤ 11
  nd : (sqOf ns).Nodup
theorem evens_ev {α : Type} : ∀ l : List α, (evens l).length = (l.length + 1) / 2
  | [] => by simp [evens]
  | [_] => by simp [evens]
  | _ :: _ :: r => by
    have := evens_ev r
    simp only [evens, List.length_cons, this]
    omega
def spSquaresIn (C : Addr) : Sp := fun vs H Q E => ∃ (a : Addr) (ns : List Int), vs = [.ref a] ∧ Il H a ns ∧ (SqOk ns → RR H Q ((sqOf ns).map cl)) ∧ (¬ SqOk ns → Rf C H E (-1))
theorem sc_squares_in : FnScope ["numbers", "found", "column", "row"] ["numbers"] (defScope (top 10)) := ⟨rfl, rfl, rfl, by decide +kernel, rfl, by decide +kernel, by decide +kernel⟩
theorem cal_squares_in (D : Df K mg "squares_in" (top 10)) (G : Glb K mg) (TR : PySem.RefX.RefTxt K mg C fI) : Cal P w K mg base (L2.CX P w) 1 "squares_in" (spSquaresIn C) := by
  refine D.okX sc_squares_in (fun vs H Q E h => by obtain ⟨_, _, rfl, _⟩ := h; rfl) (fun _ _ _ _ _ _ us hl => match us, hl with | [_], _ => rfl) (fun f cdv A outer s H vs Q E hr h => ?_)
  refine ⟨_, (pss_cons (ps_if (PW.pt (pw_or (pt_cmpR op_ne (pe_op op_mod (pe_callB call_len_seq rfl G.b_len PySem.boot_len (by exact (pa_cons (pv 0) pa_nil))) pe_int) pe_int (nomark _)) (pw_or (pt_not (pt_chain op_le op_le pe_int (pe_op op_fdiv (pe_callB call_len_seq rfl G.b_len PySem.boot_len (by exact (pa_cons (pv 0) pa_nil))) pe_int) (pe_ci G.c_MOST_SQUARES (by exact rfl)))) (pw_or1 (pt_cmpR op_gt (pe_callB (cr_max rfl) rfl G.b_max (by decide +kernel) (by exact (pa_cons (pv 0) pa_nil))) (pe_ci G.c_LAST (by exact rfl)) (nomark _)))))) (pss_one (ps_raiseRef rfl TR hr (takes_of rfl rfl rfl rfl) (by exact (pa_cons (pe_ci G.c_NOT_SO (by exact rfl)) pa_nil)))) pss_nil)
      (pss_cons (ps_setLc (i := 1) (own := [("column", 2), ("row", 3)]) rfl sc_squares_in.nd rfl rfl (sw_true rfl rfl rfl (by decide +kernel)) (pi_zip rfl G.b_zip (by exact (pa_cons (pe_two0 (pv 0)) (pa_cons (pe_two1 (pv 0)) pa_nil)))) (blkOk_by (own := [("column", 2), ("row", 3)]) (N := ["numbers", "found", "column", "row"]) (sc := defScope (top 10)) (by decide +kernel)) (fun _ _ _ _ _ => (pg_tupE (K := K) (n := 2) rfl rfl (pgs_cons (pg_name (i := 2) sc_squares_in.nd rfl (Or.inl rfl)) (pgs_cons (pg_name (i := 3) sc_squares_in.nd rfl (Or.inl rfl)) pgs_nil)))) (fun _ _ _ _ _ => by exact pts_nil) (fun _ _ _ _ _ => by exact (pe_tup (by exact (pa_cons (pv 2) (pa_cons (pv 3) pa_nil))))))
      (pss_cons (ps_if (pt_cmpR op_lt (pe_lenSetR rfl (hu64 hr) rfl G.b_len rfl G.b_set (pv 1)) (pe_callB call_len_seq rfl G.b_len PySem.boot_len (by exact (pa_cons (pv 1) pa_nil))) (nomark _)) (pss_one (ps_raiseRef rfl TR hr (takes_of rfl rfl rfl rfl) (by exact (pa_cons (pe_ci G.c_NOT_SO (by exact rfl)) pa_nil)))) pss_nil)
      (pss_one (ps_ret (pv 1)))))), ?_⟩
  obtain ⟨a, ns, rfl, ha, k1, k2⟩ := h
  have ln : (ns.map V.int).length = ns.length := List.length_map ..
  have no : ¬ SqOk ns → ∀ H', Same H H' → ∃ v, ([V.int (-1)] : List V) = [v] ∧ ∀ d, H' d = none → E (.ref C) (some d) (upd H' d (.xd [(("number" : Str), v)])) := fun hn H' s' => ⟨_, rfl, fun d hd => k2 hn _ d (Same.new s' hd) upd_same⟩
  refine ⟨_, rfl, a, _, rfl, .inl ha.sq, _, _, rfl, rfl, by show (0 : Int) < 2; decide, rfl, _, rfl, ?_⟩
  rw [ln]
  refine ite2 (fun g => iteT (no (fun z => ?_) H (Same.refl H))) (fun g => ?_)
  · have h1 := z.ev
    have h2 : ((ns.length : Nat) : Int) % 2 = 0 := by omega
    have g' : (!decide (V.int (((ns.length : Nat) : Int) % 2) = V.int 0)) = true := g
    rw [h2] at g'
    simp at g'
  have hev : ns.length % 2 = 0 := by
    have h1 : decide (V.int (((ns.length : Nat) : Int) % 2) = V.int 0) = true := by simpa using g
    have := V.int.inj (of_decide_eq_true h1)
    omega
  have dv : CDiv ((ns.length : Nat) : Int) 2 := ⟨by decide, by decide⟩
  refine ⟨_, rfl, a, _, rfl, .inl ha.sq, _, _, rfl, rfl, by rw [ln]; exact dv, _, _, rfl, rfl, _, rfl, ?_⟩
  rw [ln]
  refine ite2 (fun g2 => ?_) (fun g2 => ?_)
  · have hlo : 1 ≤ ns.length / 2 := by
      have := of_decide_eq_true g2
      omega
    refine ⟨_, _, rfl, rfl, _, rfl, ?_⟩
    refine ite2 (fun g3 => iteT (no (fun z => ?_) H (Same.refl H))) (fun g3 => ?_)
    · have h1 := z.hi
      have h2 : decide (((ns.length : Nat) : Int) / 2 ≤ 12) = true := decide_eq_true (by omega)
      rw [h2] at g3
      simp at g3
    have hhi : ns.length / 2 ≤ 12 := by
      have h1 : decide (((ns.length : Nat) : Int) / 2 ≤ 12) = true := by simpa using g3
      have := of_decide_eq_true h1
      omega
    refine ⟨_, rfl, a, ns, rfl, ha.sq, by omega, fun m hm hle => ⟨_, _, rfl, rfl, _, rfl, ?_⟩⟩
    refine ite2 (fun g4 => no (fun z => ?_) H (Same.refl H)) (fun g4 => ?_)
    · have h1 := z.le m hm
      have h2 := of_decide_eq_true g4
      omega
    have hle11 : ∀ x ∈ ns, x ≤ 11 := fun x hx => by
      have h1 := hle x hx
      have h2 : ¬ (11 : Int) < m := fun z => g4 (decide_eq_true z)
      omega
    -- found = [..]
    refine ⟨_, rfl, a, _, rfl, ha.sq, fun p hp => ⟨_, rfl, a, _, rfl, (ha.same (same_new hp)).sq, fun q hq => ?_⟩⟩
    have s2 := Same.new (same_new (H := H) (o := .lst (evens ((ns.map V.int).drop 0))) hp) (o := .lst (evens ((ns.map V.int).drop 1))) hq
    have hpq : p ≠ q := ne_of_none upd_same hq
    have ep : evens ((ns.map V.int).drop 0) = (evens ns).map V.int := by rw [List.drop_zero, evens_map]
    have eq' : evens ((ns.map V.int).drop 1) = (evens (ns.drop 1)).map V.int := by rw [← List.map_drop, evens_map]
    have l1 : (evens ns).length = ns.length / 2 := by rw [evens_ev]; omega
    have l2 : (evens (ns.drop 1)).length = ns.length / 2 := by rw [evens_ev, List.length_drop]; omega
    have lz : (sqOf ns).length = ns.length / 2 := by unfold sqOf; rw [List.length_zip, l1, l2]; omega
    rw [ep] at hq
    rw [ep, eq'] at s2 ⊢
    refine ⟨p, q, (evens ns).map V.int, (evens (ns.drop 1)).map V.int, rfl, .of ((upd_ne hpq).trans upd_same), .of upd_same, fun L hL => ?_⟩
    refine lc_it (walk_zip (K := K) (a := p) (b := q) (xs := (evens ns).map V.int) (ys := (evens (ns.drop 1)).map V.int) (n := ns.length / 2) (by rw [List.length_map, List.length_map, l1, l2]; omega))
      (fun i H' => Same (upd (upd H p (.lst ((evens ns).map V.int))) q (.lst ((evens (ns.drop 1)).map V.int))) H' ∧ Rw H' L (((sqOf ns).take i).map cl)) ⟨same_new hL, .nil upd_same⟩ (fun i H' _ ⟨s3, _⟩ => ⟨.of (s3 _ _ ((upd_ne hpq).trans upd_same)), .of (s3 _ _ upd_same)⟩) ?_ ?_
    · rintro i x H1 H2 hi ⟨s3, h3⟩ ⟨T, x1, y1, rfl, hT, rfl, e1, e2⟩
      obtain ⟨n1, hn1, rfl⟩ := int_at e1
      obtain ⟨n2, hn2, rfl⟩ := int_at e2
      have hc : (sqOf ns)[i]? = some (n1, n2) := List.getElem?_zip_eq_some (z := (n1, n2)) |>.mpr ⟨hn1, hn2⟩
      have s4 := same_new (H := H1) (o := .tup [.int n1, .int n2]) hT
      refine ⟨T, _, rfl, .of upd_same, rfl, _, _, rfl, _, _, rfl, rfl, rfl, yesT ⟨_, rfl, _, rfl, by show 2 ≤ sizeLine; exact line_of (by decide), fun u hu => ?_⟩⟩
      obtain ⟨acc, a1, a2, a3⟩ := Rw.snoc (ns := cl (n1, n2)) (h3.same s4) hu
      refine ⟨acc, a1, ?_, Same.put (s3.trans (Same.new s4 hu)) hL, ?_⟩
      · rw [a2, List.length_map, List.length_take]
        exact line_lt (by omega)
      · rw [take_more hc, List.map_append]
        exact a3
    · rintro H1 ⟨s3, h3⟩
      rw [List.take_of_length_le (by omega)] at h3
      have s5 := s2.trans s3
      have hLH : H L = none := s2.free hL
      obtain ⟨xs, z1, z2⟩ := h3.lst
      rw [List.length_map] at z2
      refine ⟨_, rfl, L, _, rfl, h3, by rw [List.length_map]; omega, fun n hn hnl => ?_⟩
      refine ⟨_, rfl, L, _, rfl, .inl (.of z1), _, _, rfl, rfl, _, rfl, ?_⟩
      rw [List.length_map] at hn hnl
      refine ite2 (fun g5 => no (fun z => ?_) H1 s5) (fun g5 => ?_)
      · have h1 := hn.mpr (cl_nodup.mpr z.nd)
        have h2 := of_decide_eq_true g5
        omega
      · have hnd : (sqOf ns).Nodup := cl_nodup.mp (hn.mp (by
          have h1 : ¬ ((n : Nat) : Int) < ((xs.length : Nat) : Int) := fun z => g5 (decide_eq_true z)
          omega))
        exact ⟨_, rfl, k1 ⟨hev, hlo, hhi, hle11, hnd⟩ L H1 s5 hLH h3⟩
  · refine ⟨_, rfl, iteT (iteT (no (fun z => ?_) H (Same.refl H)))⟩
    have h1 := z.lo
    apply g2
    apply decide_eq_true
    omega
end Oc
namespace Oc
open PySem PySem.Spec PyProof.Rows L2
variable {P : Program} {w : World} {K : PySem.W.Frag} {mg : Str → Option Value} {base : Heap}
/-! ## told_in_order -/
def spToldInOrder : Sp := fun vs H Q _ => ∃ (a : Addr) (rows : List (List Int)), vs = [.ref a] ∧ Rw H a rows ∧ rows.length ≤ 1000000 ∧ rows.flatten.length ≤ 1000000 ∧ RL H Q ((rows.length : Int) :: rows.flatten)
theorem sc_told_in_order : FnScope ["some", "found", "one"] ["some"] (defScope (top 42)) := ⟨rfl, rfl, rfl, by decide +kernel, rfl, by decide +kernel, by decide +kernel⟩
theorem cal_told_in_order (D : Df K mg "told_in_order" (top 42)) (G : Glb K mg) : Cal P w K mg base CX0 1 "told_in_order" spToldInOrder := by
  refine D.ok sc_told_in_order (fun vs H Q E h => by obtain ⟨_, _, rfl, _⟩ := h; rfl) (fun _ _ _ _ _ _ us hl => match us, hl with | [_], _ => rfl) (fun f cdv A outer s H vs Q E hr h => ?_)
  refine ⟨_, (pss_cons (ps_set (i := 1) sc_told_in_order.nd rfl (Or.inl rfl) (pe_lst (by exact (pa_cons (pe_callB call_len_seq rfl G.b_len PySem.boot_len (by exact (pa_cons (pv 0) pa_nil))) pa_nil))))
      (pss_cons (ps_for PassesOwn.never rfl (pi_list (pv 0)) (pg_name (i := 2) sc_told_in_order.nd rfl (Or.inl rfl)) (pss_one (ps_expr (pe_bm PySem.F.plainAttrs_list PySem.F.slot_list_extend PySem.F.type_list_extend mt_extend (pv 1) (by exact (pa_cons (pe_callTy call_list_of rfl G.b_list (by decide +kernel) (by exact (pa_cons (pv 2) pa_nil))) pa_nil))))))
      (pss_one (ps_ret (pv 1))))), ?_⟩
  obtain ⟨a, rows, rfl, ⟨ts, ha, hts⟩, hl, hfl, k⟩ := h
  have hlen : ts.length = rows.length := Tps.len hts
  have hRw : Rw H a rows := ⟨ts, ha, hts⟩
  refine ⟨_, rfl, a, _, rfl, .inl (.of ha), by show 1 ≤ sizeLine; exact line_of (by decide), fun F hF => ?_⟩
  rw [List.length_map, hlen]
  have s0 := same_new (H := H) (o := .lst [.int (rows.length : Nat)]) hF
  refine ⟨_, rfl, a, rfl, ⟨_, .of (s0 _ _ ha)⟩, for_list (K := K) (a := a) (xs := ts.map V.ref) (fun i σ H' => ∃ x : Option V, σ = [some (.ref a), some (.ref F), x] ∧ Same H H' ∧ Il H' F ((rows.length : Int) :: (rows.take i).flatten))
    ⟨none, rfl, s0, upd_same⟩ (fun i σ H' _ ⟨_, _, s1, _⟩ => .of (s1 _ _ ha)) ?_ ?_⟩
  · rintro i x σ H1 hx ⟨y, rfl, s1, h1⟩
    obtain ⟨t, ht, rfl⟩ := ref_at hx
    obtain ⟨r, hr1, hT⟩ := Tps.of_at hts ht
    refine ⟨_, rfl, Il.lst h1, _, rfl, t, _, rfl, .inr (hT.same s1).sq, fun L hL => ?_⟩
    have s2 := same_new (H := H1) (o := .lst (r.map V.int)) hL
    have er : (rows.take (i + 1)).flatten = (rows.take i).flatten ++ r := by
      rw [take_more hr1, List.flatten_append]
      simp
    have hle : ((rows.take i).flatten ++ r).length ≤ 1000000 := by
      rw [← er]
      refine Nat.le_trans ?_ hfl
      conv => rhs; rw [← List.take_append_drop (i + 1) rows, List.flatten_append, List.length_append]
      exact Nat.le_add_right _ _
    rw [List.length_append] at hle
    refine ⟨F, L, _, _, rfl, rfl, s2 _ _ h1, upd_same, ?_, _, rfl, Same.put (s1.trans s2) hF, ?_⟩
    · rw [List.length_map, List.length_map, List.length_cons]
      exact line_of (by omega)
    · rw [er, ← List.cons_append]
      exact il_cat (ns := (rows.length : Int) :: (rows.take i).flatten) (ms := r)
  · rintro σ H1 ⟨y, rfl, s1, h1⟩
    rw [List.length_map, hlen, List.take_of_length_le (Nat.le_refl _)] at h1
    exact ⟨_, rfl, k F H1 s1 hF h1⟩
/-! ## the desk -/
def dF (q e : Addr) : List (Str × V) := [("squares", .ref q), ("edge", .ref e)]
theorem lk_here {k : Str} {v : V} {r : List (Str × V)} : List.lookup k ((k, v) :: r) = some v := by
  have e : (k == k) = true := beq_self_eq_true k
  simp only [List.lookup, e]
theorem lk_past {k g : Str} {v : V} {r : List (Str × V)} (h : (k == g) = false) : List.lookup k ((g, v) :: r) = List.lookup k r := by
  simp only [List.lookup, h]
theorem dF_squares (q e : Addr) : (dF q e).lookup ("squares" : Str) = some (.ref q) := lk_here
theorem dF_edge (q e : Addr) : (dF q e).lookup ("edge" : Str) = some (.ref e) := (lk_past (by decide +kernel)).trans lk_here
theorem put_here {f : Str} {v x : V} {r : List (Str × V)} : putF f v ((f, x) :: r) = (f, v) :: r := if_pos rfl
theorem put_past {f g : Str} {v x : V} {r : List (Str × V)} (h : ¬ g = f) : putF f v ((g, x) :: r) = (g, x) :: putF f v r := if_neg h
theorem dF_putS (q e r : Addr) : putF "squares" (.ref r) (dF q e) = dF r e := put_here
theorem dF_putE (q e r : Addr) : putF "edge" (.ref r) (dF q e) = dF q r := (put_past (by decide +kernel)).trans (congrArg _ put_here)
theorem dF_new (q e : Addr) : putF "edge" (.ref e) (putF "squares" (.ref q) []) = dF q e := (put_past (by decide +kernel)).trans rfl
/-- N: where its lists lie -/
structure DeskAt (C : Addr) (N : Addr → Prop) (H : Hp) (a : Addr) (s : List Ti01.Cell) : Prop where
  ex : ∃ dx q e, H a = some (.ins C dx (dF q e)) ∧ Rw H q (s.map cl) ∧ Il H e (Ti01.ints (Ti01.edge s)) ∧ N q ∧ N e
  good : Om.Good s
  few : s.length ≤ 12
theorem DeskAt.same {C : Addr} {N : Addr → Prop} {H H' : Hp} {a : Addr} {s : List Ti01.Cell} (h : DeskAt C N H a s) (e : Same H H') : DeskAt C N H' a s :=
  let ⟨dx, q, d, h1, h2, h3, h4⟩ := h.ex; ⟨⟨dx, q, d, e _ _ h1, h2.same e, h3.same e, h4⟩, h.good, h.few⟩
theorem edge_len {s : List Ti01.Cell} (G : Om.Good s) (h : s.length ≤ 12) : (Ti01.edge s).length ≤ 48 := by
  rw [(Om.round G).edge, List.length_map, Om.orb_length]
  have := Om.sidesIn_le s s
  unfold Om.sides
  omega
/-- all that was tracked, but the desk, is as it was -/
def But (a : Addr) (H H' : Hp) : Prop := ∀ b o, H b = some o → b ≠ a → H' b = some o
theorem But.of {a : Addr} {H H' : Hp} (s : Same H H') : But a H H' := fun b o e _ => s b o e
/-- what a call answers: a list, new; or its number alone, below 0, by a refusal -/
structure Ans (CD CR : Addr) (N : Addr → Prop) (H : Hp) (a : Addr) (Q : VK) (E : XK) (r : List Ti01.Cell × List Int) : Prop where
  ret : ∀ p H', But a H H' → H p = none → DeskAt CD N H' a r.1 → Il H' p r.2 → Q (.ref p) H'
  no : ∀ d H' z, But a H H' → H' d = some (.xd [(("number" : Str), .int z)]) → DeskAt CD N H' a r.1 → r.2 = [z] → E (.ref CR) (some d) H'
structure DkTxt (K : PySem.W.Frag) (CD : Addr) : Prop where
  cl : Cls K CD
  nS : NoAttr K CD "squares"
  nE : NoAttr K CD "edge"
variable {CD C fI : Addr}
def spDeed (CD C : Addr) (n : Nat) (Told : List Int → Prop) : Sp := fun vs H Q E => ∃ (N : Addr → Prop) (a t : Addr) (s : List Ti01.Cell) (tl : List Int), vs = [.ref a, .ref t] ∧ (∀ b, H b = none → N b) ∧ DeskAt CD N H a s ∧ Il H t tl ∧ Told tl ∧ Ans CD C N H a Q E (Ti01Neutral.step s ((n : Int) :: tl))
def T0 (tl : List Int) : Prop := tl = []
def T3 (tl : List Int) : Prop := ∃ i a b : Nat, tl = Ti01.ints [i, a, b] ∧ i ≤ 4294967295 ∧ a ≤ 4294967295 ∧ b ≤ 4294967295
def TS (tl : List Int) : Prop := ∀ x ∈ tl, 0 ≤ x ∧ x ≤ 4294967295
theorem Ans.same {N : Addr → Prop} {H H' : Hp} {a : Addr} {Q : VK} {E : XK} {s : List Ti01.Cell} {l : List Int} (A : Ans CD C N H a Q E (s, l)) (hd : DeskAt CD N H a s) {p : Addr} (e : Same H H') (hp : H p = none) (h : Il H' p l) : Q (.ref p) H' :=
  A.ret p H' (.of e) hp (hd.same e) h
theorem Ans.rf {N : Addr → Prop} {H : Hp} {a : Addr} {Q : VK} {E : XK} {s : List Ti01.Cell} {z : Int} (A : Ans CD C N H a Q E (s, [z])) (hd : DeskAt CD N H a s) : Rf C H E z := fun H' d e h => A.no d H' z (.of e) h (hd.same e) rfl
theorem step_0 (s : List Ti01.Cell) : Ti01Neutral.step s [1] = (s, Ti01.told (Ti01.edge s)) := rfl
theorem sc_tell_edge : FnScope ["desk", "told"] ["desk", "told"] (defScope (top 46)) := ⟨rfl, rfl, rfl, by decide +kernel, rfl, by decide +kernel, by decide +kernel⟩
theorem cal_tell_edge (D : Df K mg "tell_edge" (top 46)) (G : Glb K mg) (DK : DkTxt K CD) : Cal P w K mg base (L2.CX P w) 1 "tell_edge" (spDeed CD C 1 T0) := by
  refine D.okX sc_tell_edge (fun vs H Q E h => by obtain ⟨_, _, _, _, _, rfl, _⟩ := h; rfl) (fun _ _ _ _ _ _ us hl => match us, hl with | [_, _], _ => rfl) (fun f cdv A outer s H vs Q E hr h => ?_)
  refine ⟨_, (pss_one (ps_ret (pe_op op_cat (pe_lst (by exact (pa_cons (pe_callB call_len_seq rfl G.b_len PySem.boot_len (by exact (pa_cons (pe_fld (pv 0) rfl) pa_nil))) pa_nil))) (pe_fld (pv 0) rfl)))), ?_⟩
  obtain ⟨N, a, t, s', tl, rfl, hN, hd, ht, rfl, A⟩ := h
  obtain ⟨dx, q, e, d1, d2, d3, _, _⟩ := hd.ex
  have le := edge_len hd.good hd.few
  refine ⟨_, rfl, a, CD, dx, _, _, rfl, d1, DK.cl, DK.nE, dF_edge q e, e, _, rfl, .inl d3.sq, by show 1 ≤ sizeLine; exact line_of (by decide), fun p hp => ?_⟩
  have s1 := same_new (H := H) (o := .lst [.int (((Ti01.ints (Ti01.edge s')).map V.int).length : Nat)]) hp
  refine ⟨_, rfl, a, CD, dx, _, _, rfl, s1 _ _ d1, DK.cl, DK.nE, dF_edge q e, p, e, _, _, rfl, rfl, upd_same, d3.same s1, ?_, fun r hr' => ?_⟩
  · rw [List.length_map, ints_length]
    exact line_of (by simp only [List.length_cons, List.length_nil]; omega)
  · refine A.same hd (Same.new s1 hr') (s1.free hr') ?_
    show upd _ r _ r = _
    rw [upd_same, List.length_map, ints_length]
    rfl
theorem sc_look_cut : FnScope ["desk", "told", "i", "a", "b"] ["desk", "told"] (defScope (top 43)) := ⟨rfl, rfl, rfl, by decide +kernel, rfl, by decide +kernel, by decide +kernel⟩
def spLookCut (CD C : Addr) : Sp := fun vs H Q E => ∃ (N : Addr → Prop) (a t : Addr) (s : List Ti01.Cell) (i x y : Nat), vs = [.ref a, .ref t] ∧ DeskAt CD N H a s ∧ Il H t (Ti01.ints [i, x, y]) ∧
  (Om.isCutM (Ti01.edge s) i x y = true → ∀ H', Same H H' → Q .non H') ∧ (Om.isCutM (Ti01.edge s) i x y = false → Rf C H E (-3))
theorem cal_look_cut (D : Df K mg "look_cut" (top 43)) (G : Glb K mg) (DK : DkTxt K CD) (TR : PySem.RefX.RefTxt K mg C fI) (c_is_cut : Cal P w K mg base CX0 3 "is_cut" spIsCut) : Cal P w K mg base (L2.CX P w) 4 "look_cut" (spLookCut CD C) := by
  refine D.okX sc_look_cut (fun vs H Q E h => by obtain ⟨_, _, _, _, _, _, _, rfl, _⟩ := h; rfl) (fun _ _ _ _ _ _ us hl => match us, hl with | [_, _], _ => rfl) (fun f cdv A outer s H vs Q E hr h => ?_)
  refine ⟨_, (pss_cons (ps_asg (pv 1) (pg_unl rfl (pgs_cons (pg_name (i := 2) sc_look_cut.nd rfl (Or.inl rfl)) (pgs_cons (pg_name (i := 3) sc_look_cut.nd rfl (Or.inl rfl)) (pgs_cons (pg_name (i := 4) sc_look_cut.nd rfl (Or.inl rfl)) pgs_nil)))))
      (pss_one (ps_if (pt_not (pt_val (pe_c c_is_cut hr (by decide) rfl (by exact (pa_cons (pe_fld (pv 0) rfl) (pa_cons (pv 2) (pa_cons (pv 3) (pa_cons (pv 4) pa_nil)))))))) (pss_one (ps_raiseRef rfl TR hr (takes_of rfl rfl rfl rfl) (by exact (pa_cons (pe_ci G.c_NO_CUT (by exact rfl)) pa_nil)))) pss_nil))), ?_⟩
  obtain ⟨N, a, t, s', i, x, y, rfl, hd, ht, k1, k2⟩ := h
  obtain ⟨dx, q, e, d1, d2, d3, _, _⟩ := hd.ex
  have le := edge_len hd.good hd.few
  refine ⟨_, rfl, t, _, rfl, ht.sq, rfl, _, _, rfl, _, _, rfl, _, _, rfl, rfl, ?_⟩
  refine ⟨_, rfl, a, CD, dx, _, _, rfl, d1, DK.cl, DK.nE, dF_edge q e, _, rfl, _, rfl, _, rfl, e, i, x, y, _, rfl, d3, by omega, fun H1 s1 => ⟨_, rfl, ?_⟩⟩
  refine ite2 (fun g => ?_) (fun g => ?_)
  · exact ⟨_, rfl, fun d hd' => k2 (by simpa using g) _ d (Same.new s1 hd') upd_same⟩
  · exact k1 (by simpa using g) H1 s1
theorem sc_cut_moves : FnScope ["desk", "told", "i", "a", "b"] ["desk", "told"] (defScope (top 44)) := ⟨rfl, rfl, rfl, by decide +kernel, rfl, by decide +kernel, by decide +kernel⟩
def spCutMoves (CD C : Addr) : Sp := fun vs H Q E => ∃ (N : Addr → Prop) (a t : Addr) (s : List Ti01.Cell) (i x y : Nat), vs = [.ref a, .ref t] ∧ DeskAt CD N H a s ∧ Il H t (Ti01.ints [i, x, y]) ∧
  (Om.isCutM (Ti01.edge s) i x y = true → ∀ p u v H', Same H H' → H p = none → H' p = some (.tup [.ref u, .ref v]) → Tp H' u (cl (Ti01.moves (Ti01.edge s) (i, x, y)).1) → Tp H' v (cl (Ti01.moves (Ti01.edge s) (i, x, y)).2) → Q (.ref p) H') ∧
  (Om.isCutM (Ti01.edge s) i x y = false → Rf C H E (-3))
theorem cal_cut_moves (D : Df K mg "cut_moves" (top 44)) (G : Glb K mg) (DK : DkTxt K CD) (c_look_cut : Cal P w K mg base (L2.CX P w) 4 "look_cut" (spLookCut CD C)) (c_moves_of : Cal P w K mg base CX0 3 "moves_of" spMovesOf) : Cal P w K mg base (L2.CX P w) 5 "cut_moves" (spCutMoves CD C) := by
  refine D.okX sc_cut_moves (fun vs H Q E h => by obtain ⟨_, _, _, _, _, _, _, rfl, _⟩ := h; rfl) (fun _ _ _ _ _ _ us hl => match us, hl with | [_, _], _ => rfl) (fun f cdv A outer s H vs Q E hr h => ?_)
  refine ⟨_, (pss_cons (ps_expr (pe_cX c_look_cut hr (by decide) (takes_of rfl rfl rfl rfl) rfl (by exact (pa_cons (pv 0) (pa_cons (pv 1) pa_nil)))))
      (pss_cons (ps_asg (pv 1) (pg_unl rfl (pgs_cons (pg_name (i := 2) sc_cut_moves.nd rfl (Or.inl rfl)) (pgs_cons (pg_name (i := 3) sc_cut_moves.nd rfl (Or.inl rfl)) (pgs_cons (pg_name (i := 4) sc_cut_moves.nd rfl (Or.inl rfl)) pgs_nil)))))
      (pss_one (ps_ret (pe_c c_moves_of hr (by decide) rfl (by exact (pa_cons (pe_fld (pv 0) rfl) (pa_cons (pv 2) (pa_cons (pv 3) (pa_cons (pv 4) pa_nil)))))))))), ?_⟩
  obtain ⟨N, a, t, s', i, x, y, rfl, hd, ht, k1, k2⟩ := h
  have le := edge_len hd.good hd.few
  refine ⟨_, rfl, _, rfl, N, a, t, s', i, x, y, rfl, hd, ht, fun hc H1 s1 => ?_, k2⟩
  obtain ⟨dx, q, e, d1, d2, d3, _, _⟩ := (hd.same s1).ex
  have hab : x + y ≤ (Ti01.edge s').length / 2 := by
    unfold Om.isCutM at hc
    simp only [Bool.and_eq_true, decide_eq_true_eq] at hc
    exact hc.2.2.2.1
  refine ⟨_, rfl, t, _, rfl, (ht.same s1).sq, rfl, _, _, rfl, _, _, rfl, _, _, rfl, rfl, ?_⟩
  refine ⟨_, rfl, a, CD, dx, _, _, rfl, d1, DK.cl, DK.nE, dF_edge q e, _, rfl, _, rfl, _, rfl, e, i, x, y, _, rfl, d3, Om.edge_ways hd.good, by omega, hab, fun p u v H2 s2 hp h2 hu hv => ?_⟩
  exact k1 hc p u v H2 (s1.trans s2) (s1.free hp) h2 hu hv
end Oc
namespace Oc
open PySem PySem.Spec PyProof.Rows L2
/-! ## plain: what the calls ask -/
theorem nat_ok {n : Nat} (h : n ≤ 4294967295) : Ti01Neutral.nat (n : Int) = true := by
  unfold Ti01Neutral.nat
  rw [Bool.and_eq_true]
  exact ⟨decide_eq_true (by omega), decide_eq_true (by omega)⟩
theorem call_3 {n i a b : Nat} (hn : n ≤ 4294967295) (h1 : i ≤ 4294967295) (h2 : a ≤ 4294967295) (h3 : b ≤ 4294967295) : Ti01Neutral.callOf ((n : Int) :: Ti01.ints [i, a, b]) = Ti01Neutral.callIn [n, i, a, b] := by
  unfold Ti01Neutral.callOf
  have e : ((n : Int) :: Ti01.ints [i, a, b]).all Ti01Neutral.nat = true := by
    show (Ti01Neutral.nat n && (Ti01Neutral.nat i && (Ti01Neutral.nat a && (Ti01Neutral.nat b && true)))) = true
    rw [nat_ok hn, nat_ok h1, nat_ok h2, nat_ok h3]
    rfl
  rw [e, if_neg (by decide)]
  rfl
theorem step_of (s : List Ti01.Cell) {c : List Int} {x : Ti01.Call} (h : Ti01Neutral.callOf c = some x) : Ti01Neutral.step s c = Ti01.step s x := by
  unfold Ti01Neutral.step
  rw [h]
theorem step_4 (s : List Ti01.Cell) {i a b : Nat} (h1 : i ≤ 4294967295) (h2 : a ≤ 4294967295) (h3 : b ≤ 4294967295) : Ti01Neutral.step s (((4 : Nat) : Int) :: Ti01.ints [i, a, b]) = Ti01.step s (.moves i a b) := step_of s ((call_3 (n := 4) (by decide) h1 h2 h3).trans rfl)
theorem step_6 (s : List Ti01.Cell) {i a b : Nat} (h1 : i ≤ 4294967295) (h2 : a ≤ 4294967295) (h3 : b ≤ 4294967295) : Ti01Neutral.step s (((6 : Nat) : Int) :: Ti01.ints [i, a, b]) = Ti01.step s (.on i a b) := step_of s ((call_3 (n := 6) (by decide) h1 h2 h3).trans rfl)
theorem step_7 (s : List Ti01.Cell) {i a b : Nat} (h1 : i ≤ 4294967295) (h2 : a ≤ 4294967295) (h3 : b ≤ 4294967295) : Ti01Neutral.step s (((7 : Nat) : Int) :: Ti01.ints [i, a, b]) = Ti01.step s (.gridOf i a b) := step_of s ((call_3 (n := 7) (by decide) h1 h2 h3).trans rfl)
theorem step_s (s : List Ti01.Cell) {tl : List Int} (h : TS tl) : Ti01Neutral.step s (((0 : Nat) : Int) :: tl) = Ti01.step s (.shape (tl.map Int.toNat)) := by
  refine step_of s ?_
  unfold Ti01Neutral.callOf
  have e : (((0 : Nat) : Int) :: tl).all Ti01Neutral.nat = true := by
    rw [List.all_eq_true]
    intro x hx
    rcases List.mem_cons.mp hx with rfl | hx
    · exact nat_ok (by decide)
    · have := h x hx
      unfold Ti01Neutral.nat
      rw [Bool.and_eq_true]
      exact ⟨decide_eq_true this.1, decide_eq_true (by omega)⟩
  have e2 : Ti01Neutral.callIn ((((0 : Nat) : Int) :: tl).map Int.toNat) = some (.shape (tl.map Int.toNat)) := rfl
  rw [e, if_neg (by decide), e2]
theorem sqOf_cons (x y : Int) (l : List Int) : sqOf (x :: y :: l) = (x, y) :: sqOf l := by
  unfold sqOf
  cases l with
  | nil => rfl
  | cons a r => simp [evens]
theorem evens_mem {α : Type} : ∀ {l : List α} {x : α}, x ∈ evens l → x ∈ l
  | [], _, h => h
  | [_], _, h => h
  | a :: b :: r, x, h => by
    rcases List.mem_cons.mp h with rfl | h
    · exact List.mem_cons_self
    · exact List.mem_cons_of_mem _ (List.mem_cons_of_mem _ (evens_mem h))
theorem sqOf_mem {l : List Int} {c : Ti01.Cell} (h : c ∈ sqOf l) : c.1 ∈ l ∧ c.2 ∈ l := by
  have := List.of_mem_zip (a := c.1) (b := c.2) h
  exact ⟨evens_mem this.1, List.mem_of_mem_drop (evens_mem this.2)⟩
theorem sqOf_len (l : List Int) : (sqOf l).length = l.length / 2 := by
  unfold sqOf
  rw [List.length_zip, evens_ev, evens_ev, List.length_drop]
  omega
theorem pairs_some : ∀ {l : List Int}, (∀ x ∈ l, 0 ≤ x) → l.length % 2 = 0 → (∀ x ∈ l, x ≤ 11) → Ti01.pairs (l.map Int.toNat) = some (sqOf l)
  | [], _, _, _ => rfl
  | [_], _, h, _ => by simp at h
  | x :: y :: l, h0, he, h1 => by
    have ih := pairs_some (l := l) (fun z hz => h0 z (by simp [hz])) (by simp only [List.length_cons] at he; omega) (fun z hz => h1 z (by simp [hz]))
    have ax := h0 x (by simp)
    have ay := h0 y (by simp)
    have bx := h1 x (by simp)
    have byy := h1 y (by simp)
    rw [sqOf_cons]
    show (if x.toNat ≤ 11 ∧ y.toNat ≤ 11 then (Ti01.pairs (l.map Int.toNat)).map fun r => (((x.toNat : Int), (y.toNat : Int)) : Ti01.Cell) :: r else none) = _
    rw [if_pos ⟨by omega, by omega⟩, ih, Int.toNat_of_nonneg ax, Int.toNat_of_nonneg ay]
    rfl
theorem pairs_back : ∀ {l : List Int} {t : List Ti01.Cell}, (∀ x ∈ l, 0 ≤ x) → Ti01.pairs (l.map Int.toNat) = some t → l.length % 2 = 0 ∧ (∀ x ∈ l, x ≤ 11) ∧ t = sqOf l
  | [], t, _, h => ⟨rfl, by simp, (Option.some.inj h).symm⟩
  | [_], _, _, h => nomatch h
  | x :: y :: l, t, h0, h => by
    have h' : (if x.toNat ≤ 11 ∧ y.toNat ≤ 11 then (Ti01.pairs (l.map Int.toNat)).map fun r => (((x.toNat : Int), (y.toNat : Int)) : Ti01.Cell) :: r else none) = some t := h
    have ax := h0 x (by simp)
    have ay := h0 y (by simp)
    split at h'
    · rename_i g
      cases e : Ti01.pairs (l.map Int.toNat) with
      | none => rw [e] at h'; nomatch h'
      | some r =>
        obtain ⟨q1, q2, q3⟩ := pairs_back (l := l) (fun z hz => h0 z (by simp [hz])) e
        rw [e] at h'
        have ht : (((x.toNat : Int), (y.toNat : Int)) : Ti01.Cell) :: r = t := Option.some.inj h'
        rw [Int.toNat_of_nonneg ax, Int.toNat_of_nonneg ay, q3] at ht
        refine ⟨by simp only [List.length_cons]; omega, ?_, by rw [sqOf_cons, ht]⟩
        intro z hz
        rcases List.mem_cons.mp hz with rfl | hz
        · omega
        · rcases List.mem_cons.mp hz with rfl | hz
          · omega
          · exact q2 z hz
    · nomatch h'
theorem isShape_iff (t : List Ti01.Cell) : Ti01.isShape t = true ↔ t ≠ [] ∧ t.length ≤ 12 ∧ t.Nodup := by
  unfold Ti01.isShape
  rw [Bool.and_eq_true, Bool.and_eq_true, Om.different_iff, decide_eq_true_eq]
  cases t <;> simp
theorem step_bad (s : List Ti01.Cell) {tl : List Int} (h : TS tl) (hn : ¬ SqOk tl) : Ti01Neutral.step s (((0 : Nat) : Int) :: tl) = (s, [-1]) := by
  rw [step_s s h]
  have h0 : ∀ x ∈ tl, 0 ≤ x := fun x hx => (h x hx).1
  unfold Ti01.step
  cases e : Ti01.pairs (tl.map Int.toNat) with
  | none => simp only [e]
  | some t =>
    obtain ⟨q1, q2, rfl⟩ := pairs_back h0 e
    have : Ti01.isShape (sqOf tl) = false := by
      rw [← Bool.not_eq_true, isShape_iff]
      rintro ⟨a, b, c⟩
      apply hn
      have := sqOf_len tl
      have := List.length_pos_iff.mpr a
      exact ⟨q1, by omega, by omega, q2, c⟩
    simp only [e, this, if_true]
theorem SqOk.shape {tl : List Int} (h : SqOk tl) : Ti01.isShape (sqOf tl) = true := by
  rw [isShape_iff]
  have := sqOf_len tl
  have := h.lo
  have := h.hi
  exact ⟨List.length_pos_iff.mp (by omega), by omega, h.nd⟩
theorem step_hole (s : List Ti01.Cell) {tl : List Int} (h : TS tl) (ho : SqOk tl) (hw : Ti01.whole (sqOf tl) = false) : Ti01Neutral.step s (((0 : Nat) : Int) :: tl) = (s, [-6]) := by
  rw [step_s s h]
  unfold Ti01.step
  simp only [pairs_some (fun x hx => (h x hx).1) ho.ev ho.le, ho.shape, hw, if_true]
  rfl
theorem step_good (s : List Ti01.Cell) {tl : List Int} (h : TS tl) (ho : SqOk tl) (hw : Ti01.whole (sqOf tl) = true) : Ti01Neutral.step s (((0 : Nat) : Int) :: tl) = (sqOf tl, Ti01.ints [(Ti01.edge (sqOf tl)).length]) := by
  rw [step_s s h]
  unfold Ti01.step
  simp only [pairs_some (fun x hx => (h x hx).1) ho.ev ho.le, ho.shape, hw]
  rfl
theorem sqOf_rng {tl : List Int} (h : TS tl) (ho : SqOk tl) : ∀ c ∈ sqOf tl, (0 ≤ c.1 ∧ c.1 ≤ 11) ∧ 0 ≤ c.2 ∧ c.2 ≤ 11 := fun c hc => by
  obtain ⟨a, b⟩ := sqOf_mem hc
  exact ⟨⟨(h _ a).1, ho.le _ a⟩, (h _ b).1, ho.le _ b⟩
theorem sqOf_good {tl : List Int} (h : TS tl) (ho : SqOk tl) (hw : Ti01.whole (sqOf tl) = true) : Om.Good (sqOf tl) := by
  obtain ⟨a, b, c⟩ := (isShape_iff _).mp ho.shape
  unfold Ti01.whole at hw
  rw [Bool.and_eq_true] at hw
  exact ⟨a, c, sqOf_rng h ho, hw.1, hw.2⟩
/-! one place alone -/
theorem one_some {α β : Type} {f : α → Option β} {l : List α} {a : α} {v : β} (ha : a ∈ l) (hv : f a = some v) (ho : ∀ x ∈ l, x ≠ a → f x = none) : l.findSome? f = some v := by
  induction l with
  | nil => simp at ha
  | cons x l ih =>
    by_cases e : x = a
    · subst e
      rw [List.findSome?_cons, hv]
    · rw [List.findSome?_cons, ho x List.mem_cons_self e]
      exact ih ((List.mem_cons.mp ha).resolve_left (Ne.symm e)) fun y hy => ho y (List.mem_cons_of_mem _ hy)
theorem none_flat {α β : Type} {f : α → List β} : ∀ {l : List α}, (∀ x ∈ l, f x = []) → l.flatMap f = []
  | [], _ => rfl
  | a :: l, h => by
    rw [List.flatMap_cons, h a List.mem_cons_self, none_flat fun x hx => h x (List.mem_cons_of_mem _ hx)]
    rfl
theorem one_flat {α β : Type} [DecidableEq α] {f : α → List β} {l : List α} {a : α} (nd : l.Nodup) (ha : a ∈ l) (ho : ∀ x ∈ l, x ≠ a → f x = []) : l.flatMap f = f a := by
  induction l with
  | nil => simp at ha
  | cons x l ih =>
    obtain ⟨n1, n2⟩ := List.nodup_cons.mp nd
    by_cases e : x = a
    · subst e
      rw [List.flatMap_cons, none_flat fun y hy => ho y (List.mem_cons_of_mem _ hy) fun e => n1 (e ▸ hy), List.append_nil]
    · rw [List.flatMap_cons, ho x List.mem_cons_self e, List.nil_append]
      exact ih n2 ((List.mem_cons.mp ha).resolve_left (Ne.symm e)) fun y hy => ho y (List.mem_cons_of_mem _ hy)
theorem on_one {s : List Ti01.Cell} {g : Ti01.Grid} (C : Om.Cover s g) (c : Ti01.Cell) : ∃ (j : Nat) (t : Ti01.Cell), s[j]? = some t ∧ lyM s g c.1 c.2 s.length = [(j : Int), c.1 - t.1, c.2 - t.2] ∧ Ti01.on s g c = some (j, (c.1 - t.1, c.2 - t.2)) := by
  obtain ⟨t, ht, he⟩ := Om.cover_one C c
  obtain ⟨j, hj⟩ := List.getElem?_of_mem ht
  have hlt : j < s.length := (List.getElem?_eq_some_iff.mp hj).1
  have uq : ∀ i x, s[i]? = some x → Ti01.home g x = Ti01.home g c → i = j := fun i x hx e => by
    have h1 : (s.map (Ti01.home g))[i]? = some (Ti01.home g c) := by rw [List.getElem?_map, hx, Option.map_some, e]
    have h2 : (s.map (Ti01.home g))[j]? = some (Ti01.home g c) := by rw [List.getElem?_map, hj, Option.map_some, he]
    have hil : i < (s.map (Ti01.home g)).length := (List.getElem?_eq_some_iff.mp h1).1
    exact (List.getElem?_inj hil C.nd).mp (h1.trans h2.symm)
  refine ⟨j, t, hj, ?_, ?_⟩
  · unfold lyM
    rw [one_flat List.nodup_range (List.mem_range.mpr hlt)]
    · unfold lyAt
      simp only [hj]
      exact if_pos he
    · intro i hi hne
      unfold lyAt
      cases e : s[i]? with
      | none => rfl
      | some x => exact if_neg fun z => hne (uq i x e z)
  · unfold Ti01.on
    apply one_some (List.mem_range.mpr hlt)
    · simp only [hj]
      exact if_pos he
    · intro i hi hne
      cases e : s[i]? with
      | none => rfl
      | some x => exact if_neg fun z => hne (uq i x e z)
theorem pick_more {α : Type} (p : α → Bool) (l : List α) (m : Nat) : ∃ r, pickAt p l (m + 1) = pickAt p l m ++ r := by
  unfold pickAt
  rw [List.range_succ, List.filter_append]
  exact ⟨_, rfl⟩
theorem pick_first {α : Type} {p q : α → Bool} {l : List α} (h : ∀ x ∈ l, q x = p x) {n : Nat} (hn : l.findIdx? p = some n) : ∃ r, pickAt q l l.length = n :: r := by
  obtain ⟨hlt, hp, hb⟩ := List.findIdx?_eq_some_iff_getElem.mp hn
  have eq : ∀ i : Nat, (match l[i]? with | some x => q x | none => false) = (match l[i]? with | some x => p x | none => false) := fun i => by
    cases e : l[i]? with
    | none => rfl
    | some x => exact h x (List.mem_of_getElem? e)
  have e0 : ((List.range n).filter fun i => match l[i]? with | some x => q x | none => false) = [] := by
    rw [List.filter_eq_nil_iff]
    intro i hi
    have hi := List.mem_range.mp hi
    show ¬ (match l[i]? with | some x => q x | none => false) = true
    rw [eq, List.getElem?_eq_getElem (Nat.lt_trans hi hlt)]
    exact hb i hi
  show ∃ r, pickAt q l l.length = n :: r
  have ex : pickAt q l n = [] := e0
  have go : ∀ k, ∃ r, pickAt q l (n + 1 + k) = n :: r := fun k => by
    induction k with
    | zero =>
      rw [Nat.add_zero, pickAt_succ (List.getElem?_eq_getElem hlt), ex, h _ (List.getElem_mem hlt), if_pos hp]
      exact ⟨[], rfl⟩
    | succ k ih =>
      obtain ⟨r, hr⟩ := ih
      obtain ⟨r2, h2⟩ := pick_more q l (n + 1 + k)
      refine ⟨r ++ r2, ?_⟩
      rw [show n + 1 + (k + 1) = n + 1 + k + 1 from rfl, h2, hr]
      rfl
  have := go (l.length - (n + 1))
  rw [show n + 1 + (l.length - (n + 1)) = l.length by omega] at this
  exact this
theorem grid_one {s : List Ti01.Cell} (G : Om.Good s) {i a b : Nat} (h : (i, a, b) ∈ Ti01.cuts (Ti01.edge s)) :
    ∃ n r, pickAt (madeOf (Ti01.moves (Ti01.edge s) (i, a, b)).1 (Ti01.moves (Ti01.edge s) (i, a, b)).2) (Ti01.grids s) (Ti01.grids s).length = n :: r ∧
      (Ti01.grids s).findIdx? (fun g => Ti01.isIn g (Ti01.moves (Ti01.edge s) (i, a, b)).1 && Ti01.isIn g (Ti01.moves (Ti01.edge s) (i, a, b)).2) = some n := by
  obtain ⟨hd, _⟩ := Om.cut_det G h
  obtain ⟨g, hg, h1, h2⟩ := Om.cut_grid G h
  cases e : (Ti01.grids s).findIdx? (fun g => Ti01.isIn g (Ti01.moves (Ti01.edge s) (i, a, b)).1 && Ti01.isIn g (Ti01.moves (Ti01.edge s) (i, a, b)).2) with
  | none =>
    have := List.findIdx?_eq_none_iff.mp e g hg
    simp [h1, h2] at this
  | some n =>
    obtain ⟨r, hr⟩ := pick_first (p := fun g => Ti01.isIn g (Ti01.moves (Ti01.edge s) (i, a, b)).1 && Ti01.isIn g (Ti01.moves (Ti01.edge s) (i, a, b)).2) (q := madeOf (Ti01.moves (Ti01.edge s) (i, a, b)).1 (Ti01.moves (Ti01.edge s) (i, a, b)).2) (l := Ti01.grids s) (fun x hx => by
      have C := (Om.mem_grids.mp hx).2.ad
      unfold madeOf Ti01.isIn
      rw [hd, C, Int.natAbs_natCast, decide_eq_true rfl, Bool.and_true, Bool.eq_iff_iff, Bool.and_eq_true, Bool.and_eq_true, decide_eq_true_eq, decide_eq_true_eq, beq_iff_eq, beq_iff_eq]) e
    exact ⟨n, r, hr, rfl⟩
theorem gone_le : ∀ (v : List Nat) (p : Ti01.Cell), (p.1 - v.length ≤ (v.foldl Ti01.ahead p).1 ∧ (v.foldl Ti01.ahead p).1 ≤ p.1 + v.length) ∧ p.2 - v.length ≤ (v.foldl Ti01.ahead p).2 ∧ (v.foldl Ti01.ahead p).2 ≤ p.2 + v.length
  | [], p => by simp
  | d :: v, p => by
    have ih := gone_le v (Ti01.ahead p d)
    rw [List.foldl_cons, List.length_cons]
    have h : (p.1 - 1 ≤ (Ti01.ahead p d).1 ∧ (Ti01.ahead p d).1 ≤ p.1 + 1) ∧ p.2 - 1 ≤ (Ti01.ahead p d).2 ∧ (Ti01.ahead p d).2 ≤ p.2 + 1 := by
      unfold Ti01.ahead
      split <;> (dsimp only; omega)
    omega
theorem gone_ok {v : List Nat} (h : v.length ≤ 1000) : MOk (Ti01.gone v) := by
  have := gone_le v (0, 0)
  unfold Ti01.gone
  dsimp only at this
  exact ⟨by omega, by omega⟩
theorem moves_ok {v : List Nat} (h : v.length ≤ 1000) (c : Nat × Nat × Nat) : MOk (Ti01.moves v c).1 ∧ MOk (Ti01.moves v c).2 := by
  unfold Ti01.moves
  have l : (Ti01.from_ v c.1).length = v.length := Om.from_length v
  refine ⟨gone_ok ?_, gone_ok ?_⟩
  · rw [List.length_take]
    omega
  · rw [List.length_take, List.length_drop]
    omega
theorem cover_ok {s : List Ti01.Cell} (h : s.length ≤ 50) {g : Ti01.Grid} (hg : g ∈ Ti01.grids s) : g.a ≤ 50 ∧ g.b ≤ 50 ∧ g.d ≤ 50 ∧ 1 ≤ g.a ∧ 1 ≤ g.d := by
  obtain ⟨hn, C⟩ := Om.mem_grids.mp hg
  have h1 := C.a
  have h2 := C.d
  have h3 := C.b
  have h4 := C.ad
  have h5 : g.a ≤ g.a * g.d := Nat.le_mul_of_pos_right _ h2
  have h6 : g.d ≤ g.a * g.d := Nat.le_mul_of_pos_left _ h1
  omega
theorem c3_flat : ∀ l : List (Nat × Nat × Nat), (l.map c3).flatten = Ti01.ints (l.flatMap fun c => [c.1, c.2.1, c.2.2])
  | [] => rfl
  | c :: l => by
    rw [List.map_cons, List.flatten_cons, c3_flat l, List.flatMap_cons, ints_app]
    rfl
theorem gl_flat : ∀ l : List Ti01.Grid, (l.map gl).flatten = Ti01.ints (l.flatMap fun g => [g.a, g.b, g.d])
  | [] => rfl
  | c :: l => by
    rw [List.map_cons, List.flatten_cons, gl_flat l, List.flatMap_cons, ints_app]
    rfl
theorem cuts_has (v : List Nat) (i a b : Nat) : (Ti01.cuts v).contains (i, a, b) = Om.isCutM v i a b := by
  rw [Bool.eq_iff_iff, List.contains_iff_mem]
  exact Om.mem_cuts
theorem c3_len : ∀ l : List (Nat × Nat × Nat), ((l.map c3).flatten).length = l.length * 3
  | [] => rfl
  | c :: l => by
    rw [List.map_cons, List.flatten_cons, List.length_append, c3_len l]
    simp only [List.length_cons, List.length_nil]
    omega
theorem gl_len : ∀ l : List Ti01.Grid, ((l.map gl).flatten).length = l.length * 3
  | [] => rfl
  | c :: l => by
    rw [List.map_cons, List.flatten_cons, List.length_append, gl_len l]
    simp only [List.length_cons, List.length_nil]
    omega
theorem grids_le (s : List Ti01.Cell) : (Ti01.grids s).length ≤ s.length * s.length := gridsA_le s (Nat.le_refl _)
end Oc
namespace Oc
open PySem PySem.Spec PyProof.Rows L2
variable {P : Program} {w : World} {K : PySem.W.Frag} {mg : Str → Option Value} {base : Heap} {CD C fI : Addr}
/-! ## the deeds -/
theorem iota {v : List Nat} {l : List Int} (h : l = Ti01.ints v) {H : Hp} {p : Addr} (q : Il H p (Ti01.ints v)) : Il H p l := h ▸ q
theorem sc_tell_cut : FnScope ["desk", "told", "cuts"] ["desk", "told"] (defScope (top 47)) := ⟨rfl, rfl, rfl, by decide +kernel, rfl, by decide +kernel, by decide +kernel⟩
theorem cal_tell_cut (D : Df K mg "tell_cut" (top 47)) (G : Glb K mg) (DK : DkTxt K CD) (TR : PySem.RefX.RefTxt K mg C fI) (c_cuts_of : Cal P w K mg base CX0 4 "cuts_of" spCutsOf) : Cal P w K mg base (L2.CX P w) 5 "tell_cut" (spDeed CD C 2 T0) := by
  refine D.okX sc_tell_cut (fun vs H Q E h => by obtain ⟨_, _, _, _, _, rfl, _⟩ := h; rfl) (fun _ _ _ _ _ _ us hl => match us, hl with | [_, _], _ => rfl) (fun f cdv A outer s H vs Q E hr h => ?_)
  refine ⟨_, (pss_cons (ps_set (i := 2) sc_tell_cut.nd rfl (Or.inl rfl) (pe_c c_cuts_of hr (by decide) rfl (by exact (pa_cons (pe_fld (pv 0) rfl) pa_nil))))
      (pss_cons (ps_if (pt_cmpR (op_eqN (hu64 hr)) (pv 2) (pe_lst pa_nil) (nomark _)) (pss_one (ps_raiseRef rfl TR hr (takes_of rfl rfl rfl rfl) (by exact (pa_cons (pe_ci G.c_NO_CUT (by exact rfl)) pa_nil)))) pss_nil)
      (pss_one (ps_ret (pe_callTy call_list_of rfl G.b_list (by decide +kernel) (by exact (pa_cons (pe_ix (r := rIxL K) ix_list (pv 2) pe_int (fun _ _ => rfl)) pa_nil))))))), ?_⟩
  obtain ⟨N, a, t, s', tl, rfl, hN, hd, ht, rfl, A⟩ := h
  obtain ⟨dx, q, e, d1, d2, d3, _, _⟩ := hd.ex
  have le := edge_len hd.good hd.few
  have es : Ti01Neutral.step s' [((2 : Nat) : Int)] = (s', match Ti01.cuts (Ti01.edge s') with | [] => [-3] | c :: _ => Ti01.ints [c.1, c.2.1, c.2.2]) := rfl
  rw [es, Om.cuts_eq] at A
  refine ⟨_, rfl, a, CD, dx, _, _, rfl, d1, DK.cl, DK.nE, dF_edge q e, e, _, rfl, d3, by omega, fun p H1 s1 hp hT => ?_⟩
  refine ⟨_, rfl, by show 0 ≤ sizeLine; exact Nat.zero_le _, fun z hz => ?_⟩
  have s2 := same_new (H := H1) (o := .lst []) hz
  refine ⟨p, _, z, rfl, rfl, hT.same s2, upd_same, _, rfl, ?_⟩
  refine ite2 (fun g => ?_) (fun g => ?_)
  · have h1 : (Om.cutsM (Ti01.edge s')).map c3 = [] := of_decide_eq_true g
    have hc : Om.cutsM (Ti01.edge s') = [] := by simpa using h1
    rw [hc] at A
    exact ⟨_, rfl, fun d hd' => A.rf hd _ d (Same.new (s1.trans s2) hd') upd_same⟩
  · cases hc : Om.cutsM (Ti01.edge s') with
    | nil => exact absurd (decide_eq_true (by rw [hc]; rfl)) g
    | cons c r =>
      rw [hc] at A hT
      obtain ⟨ts, t1, t2⟩ := hT
      obtain ⟨u, u1, u2⟩ := Tps.at (i := 0) t2 rfl
      refine ⟨_, rfl, p, _, _, _, rfl, rfl, .of (s2 _ _ t1), at_of (j := 0) rfl (by rw [List.getElem?_map, u1]; rfl), u, _, rfl, .inr (u2.same s2).sq, fun l hl => ?_⟩
      exact A.same hd (Same.new (s1.trans s2) hl) ((s1.trans s2).free hl) upd_same
theorem sc_tell_cuts : FnScope ["desk", "told"] ["desk", "told"] (defScope (top 48)) := ⟨rfl, rfl, rfl, by decide +kernel, rfl, by decide +kernel, by decide +kernel⟩
theorem cal_tell_cuts (D : Df K mg "tell_cuts" (top 48)) (G : Glb K mg) (DK : DkTxt K CD) (c_told_in_order : Cal P w K mg base CX0 1 "told_in_order" spToldInOrder) (c_cuts_of : Cal P w K mg base CX0 4 "cuts_of" spCutsOf) : Cal P w K mg base (L2.CX P w) 5 "tell_cuts" (spDeed CD C 3 T0) := by
  refine D.okX sc_tell_cuts (fun vs H Q E h => by obtain ⟨_, _, _, _, _, rfl, _⟩ := h; rfl) (fun _ _ _ _ _ _ us hl => match us, hl with | [_, _], _ => rfl) (fun f cdv A outer s H vs Q E hr h => ?_)
  refine ⟨_, (pss_one (ps_ret (pe_c c_told_in_order hr (by decide) rfl (by exact (pa_cons (pe_c c_cuts_of hr (by decide) rfl (by exact (pa_cons (pe_fld (pv 0) rfl) pa_nil))) pa_nil))))), ?_⟩
  obtain ⟨N, a, t, s', tl, rfl, hN, hd, ht, rfl, A⟩ := h
  obtain ⟨dx, q, e, d1, d2, d3, _, _⟩ := hd.ex
  have le := edge_len hd.good hd.few
  have es : Ti01Neutral.step s' [((3 : Nat) : Int)] = (s', ((Ti01.cuts (Ti01.edge s')).length : Int) :: Ti01.ints ((Ti01.cuts (Ti01.edge s')).flatMap fun c => [c.1, c.2.1, c.2.2])) := rfl
  rw [es, Om.cuts_eq, ← c3_flat] at A
  have cle := cuts_le (Ti01.edge s') le
  refine ⟨_, rfl, a, CD, dx, _, _, rfl, d1, DK.cl, DK.nE, dF_edge q e, e, _, rfl, d3, by omega, fun p H1 s1 hp hT => ?_⟩
  refine ⟨p, _, rfl, hT, by rw [List.length_map]; omega, by rw [c3_len]; omega, fun p2 H2 s2 hp2 hT2 => ?_⟩
  rw [List.length_map] at hT2
  exact A.same hd (s1.trans s2) (s1.free hp2) hT2
theorem sc_tell_grids : FnScope ["desk", "told"] ["desk", "told"] (defScope (top 50)) := ⟨rfl, rfl, rfl, by decide +kernel, rfl, by decide +kernel, by decide +kernel⟩
theorem cal_tell_grids (D : Df K mg "tell_grids" (top 50)) (G : Glb K mg) (DK : DkTxt K CD) (c_told_in_order : Cal P w K mg base CX0 1 "told_in_order" spToldInOrder) (c_grids_of : Cal P w K mg base CX0 3 "grids_of" spGridsOf) : Cal P w K mg base (L2.CX P w) 4 "tell_grids" (spDeed CD C 5 T0) := by
  refine D.okX sc_tell_grids (fun vs H Q E h => by obtain ⟨_, _, _, _, _, rfl, _⟩ := h; rfl) (fun _ _ _ _ _ _ us hl => match us, hl with | [_, _], _ => rfl) (fun f cdv A outer s H vs Q E hr h => ?_)
  refine ⟨_, (pss_one (ps_ret (pe_c c_told_in_order hr (by decide) rfl (by exact (pa_cons (pe_c c_grids_of hr (by decide) rfl (by exact (pa_cons (pe_fld (pv 0) rfl) pa_nil))) pa_nil))))), ?_⟩
  obtain ⟨N, a, t, s', tl, rfl, hN, hd, ht, rfl, A⟩ := h
  obtain ⟨dx, q, e, d1, d2, d3, _, _⟩ := hd.ex
  have hf := hd.few
  have es : Ti01Neutral.step s' [((5 : Nat) : Int)] = (s', ((Ti01.grids s').length : Int) :: Ti01.ints ((Ti01.grids s').flatMap fun g => [g.a, g.b, g.d])) := rfl
  rw [es, ← gl_flat] at A
  have gle := grids_le s'
  have g2 : s'.length * s'.length ≤ 12 * 12 := Nat.mul_le_mul hf hf
  refine ⟨_, rfl, a, CD, dx, _, _, rfl, d1, DK.cl, DK.nS, dF_squares q e, q, _, rfl, d2, by omega, fun p H1 s1 hp hT => ?_⟩
  refine ⟨p, _, rfl, hT, by rw [List.length_map]; omega, by rw [gl_len]; omega, fun p2 H2 s2 hp2 hT2 => ?_⟩
  rw [List.length_map] at hT2
  exact A.same hd (s1.trans s2) (s1.free hp2) hT2
theorem sc_tell_tiles : FnScope ["desk", "told"] ["desk", "told"] (defScope (top 53)) := ⟨rfl, rfl, rfl, by decide +kernel, rfl, by decide +kernel, by decide +kernel⟩
theorem cal_tell_tiles (D : Df K mg "tell_tiles" (top 53)) (G : Glb K mg) (DK : DkTxt K CD) (c_cuts_of : Cal P w K mg base CX0 4 "cuts_of" spCutsOf) : Cal P w K mg base (L2.CX P w) 5 "tell_tiles" (spDeed CD C 8 T0) := by
  refine D.okX sc_tell_tiles (fun vs H Q E h => by obtain ⟨_, _, _, _, _, rfl, _⟩ := h; rfl) (fun _ _ _ _ _ _ us hl => match us, hl with | [_, _], _ => rfl) (fun f cdv A outer s H vs Q E hr h => ?_)
  refine ⟨_, (pss_one (ps_ret (pe_lst (by exact (pa_cons (pe_callTy call_int1 rfl G.b_int (by decide +kernel) (by exact (pa_cons (pe_cmpR (op_neN (hu64 hr)) (pe_c c_cuts_of hr (by decide) rfl (by exact (pa_cons (pe_fld (pv 0) rfl) pa_nil))) (pe_lst pa_nil) (nomark _)) pa_nil))) pa_nil))))), ?_⟩
  obtain ⟨N, a, t, s', tl, rfl, hN, hd, ht, rfl, A⟩ := h
  obtain ⟨dx, q, e, d1, d2, d3, _, _⟩ := hd.ex
  have le := edge_len hd.good hd.few
  have es : Ti01Neutral.step s' [((8 : Nat) : Int)] = (s', Ti01.ints [if (Ti01.cuts (Ti01.edge s')).isEmpty = true then 0 else 1]) := rfl
  rw [es, Om.cuts_eq] at A
  refine ⟨_, rfl, a, CD, dx, _, _, rfl, d1, DK.cl, DK.nE, dF_edge q e, e, _, rfl, d3, by omega, fun p H1 s1 hp hT => ?_⟩
  refine ⟨by show 0 ≤ sizeLine; exact Nat.zero_le _, fun z hz => ?_⟩
  have s2 := same_new (H := H1) (o := .lst []) hz
  refine ⟨p, _, z, rfl, rfl, hT.same s2, upd_same, .inr ⟨_, rfl, by show 1 ≤ sizeLine; exact line_of (by decide), fun l hl => ?_⟩⟩
  refine A.same hd (Same.new (s1.trans s2) hl) ((s1.trans s2).free hl) ?_
  show upd _ l _ l = _
  rw [upd_same]
  cases Om.cutsM (Ti01.edge s') <;> rfl
theorem sc_tell_moves : FnScope ["desk", "told", "one", "other"] ["desk", "told"] (defScope (top 49)) := ⟨rfl, rfl, rfl, by decide +kernel, rfl, by decide +kernel, by decide +kernel⟩
theorem cal_tell_moves (D : Df K mg "tell_moves" (top 49)) (G : Glb K mg) (DK : DkTxt K CD) (c_cut_moves : Cal P w K mg base (L2.CX P w) 5 "cut_moves" (spCutMoves CD C)) : Cal P w K mg base (L2.CX P w) 6 "tell_moves" (spDeed CD C 4 T3) := by
  refine D.okX sc_tell_moves (fun vs H Q E h => by obtain ⟨_, _, _, _, _, rfl, _⟩ := h; rfl) (fun _ _ _ _ _ _ us hl => match us, hl with | [_, _], _ => rfl) (fun f cdv A outer s H vs Q E hr h => ?_)
  refine ⟨_, (pss_cons (ps_asg (pe_cX c_cut_moves hr (by decide) (takes_of rfl rfl rfl rfl) rfl (by exact (pa_cons (pv 0) (pa_cons (pv 1) pa_nil)))) (pg_tup rfl (pgs_cons (pg_name (i := 2) sc_tell_moves.nd rfl (Or.inl rfl)) (pgs_cons (pg_name (i := 3) sc_tell_moves.nd rfl (Or.inl rfl)) pgs_nil))))
      (pss_one (ps_ret (pe_op op_cat (pe_callTy call_list_of rfl G.b_list (by decide +kernel) (by exact (pa_cons (pv 2) pa_nil))) (pe_callTy call_list_of rfl G.b_list (by decide +kernel) (by exact (pa_cons (pv 3) pa_nil))))))), ?_⟩
  obtain ⟨N, a, t, s', tl, rfl, hN, hd, ht, ⟨i, x, y, rfl, b1, b2, b3⟩, A⟩ := h
  rw [step_4 s' b1 b2 b3] at A
  have es : Ti01.step s' (.moves i x y) = (s', if (Ti01.cuts (Ti01.edge s')).contains (i, x, y) = false then [-3] else [(Ti01.moves (Ti01.edge s') (i, x, y)).1.1, (Ti01.moves (Ti01.edge s') (i, x, y)).1.2, (Ti01.moves (Ti01.edge s') (i, x, y)).2.1, (Ti01.moves (Ti01.edge s') (i, x, y)).2.2]) := rfl
  rw [es, cuts_has] at A
  refine ⟨_, rfl, _, rfl, N, a, t, s', i, x, y, rfl, hd, ht, fun hc p u v H1 s1 hp h1 hu hv => ?_, fun hc => ?_⟩
  · rw [hc, if_neg (by decide)] at A
    refine ⟨p, _, rfl, .of h1, rfl, _, _, rfl, _, _, rfl, rfl, ?_⟩
    refine ⟨_, rfl, u, _, rfl, .inr hu.sq, fun l1 hl1 => ?_⟩
    have s2 := same_new (H := H1) (o := .lst ((cl (Ti01.moves (Ti01.edge s') (i, x, y)).1).map V.int)) hl1
    refine ⟨_, rfl, v, _, rfl, .inr (hv.same s2).sq, fun l2 hl2 => ?_⟩
    have s3 := same_new (H := upd H1 l1 (.lst ((cl (Ti01.moves (Ti01.edge s') (i, x, y)).1).map V.int))) (o := .lst ((cl (Ti01.moves (Ti01.edge s') (i, x, y)).2).map V.int)) hl2
    refine ⟨l1, l2, _, _, rfl, rfl, s3 _ _ upd_same, upd_same, by show 4 ≤ sizeLine; exact line_of (by decide), fun l3 hl3 => ?_⟩
    exact A.same hd (Same.new (s1.trans (s2.trans s3)) hl3) ((s1.trans (s2.trans s3)).free hl3) upd_same
  · rw [hc, if_pos rfl] at A
    exact A.rf hd
theorem sc_tell_grid : FnScope ["desk", "told", "one", "other"] ["desk", "told"] (defScope (top 52)) := ⟨rfl, rfl, rfl, by decide +kernel, rfl, by decide +kernel, by decide +kernel⟩
theorem cal_tell_grid (D : Df K mg "tell_grid" (top 52)) (G : Glb K mg) (DK : DkTxt K CD) (c_cut_moves : Cal P w K mg base (L2.CX P w) 5 "cut_moves" (spCutMoves CD C)) (c_grids_of : Cal P w K mg base CX0 3 "grids_of" spGridsOf) (c_grid_made_of : Cal P w K mg base CX0 3 "grid_made_of" spGridMadeOf) : Cal P w K mg base (L2.CX P w) 6 "tell_grid" (spDeed CD C 7 T3) := by
  refine D.okX sc_tell_grid (fun vs H Q E h => by obtain ⟨_, _, _, _, _, rfl, _⟩ := h; rfl) (fun _ _ _ _ _ _ us hl => match us, hl with | [_, _], _ => rfl) (fun f cdv A outer s H vs Q E hr h => ?_)
  refine ⟨_, (pss_cons (ps_asg (pe_cX c_cut_moves hr (by decide) (takes_of rfl rfl rfl rfl) rfl (by exact (pa_cons (pv 0) (pa_cons (pv 1) pa_nil)))) (pg_tup rfl (pgs_cons (pg_name (i := 2) sc_tell_grid.nd rfl (Or.inl rfl)) (pgs_cons (pg_name (i := 3) sc_tell_grid.nd rfl (Or.inl rfl)) pgs_nil))))
      (pss_one (ps_ret (pe_lst (by exact (pa_cons (pe_c c_grid_made_of hr (by decide) rfl (by exact (pa_cons (pe_c c_grids_of hr (by decide) rfl (by exact (pa_cons (pe_fld (pv 0) rfl) pa_nil))) (pa_cons (pv 2) (pa_cons (pv 3) pa_nil))))) pa_nil)))))), ?_⟩
  obtain ⟨N, a, t, s', tl, rfl, hN, hd, ht, ⟨i, x, y, rfl, b1, b2, b3⟩, A⟩ := h
  rw [step_7 s' b1 b2 b3] at A
  have hf := hd.few
  have le := edge_len hd.good hd.few
  have gle := grids_le s'
  have g2 : s'.length * s'.length ≤ 12 * 12 := Nat.mul_le_mul hf hf
  have es : Ti01.step s' (.gridOf i x y) = (s', if (Ti01.cuts (Ti01.edge s')).contains (i, x, y) = false then [-3] else match (Ti01.grids s').findIdx? fun g => Ti01.isIn g (Ti01.moves (Ti01.edge s') (i, x, y)).1 && Ti01.isIn g (Ti01.moves (Ti01.edge s') (i, x, y)).2 with
    | none => [-3]
    | some n => Ti01.ints [n]) := rfl
  rw [es, cuts_has] at A
  refine ⟨_, rfl, _, rfl, N, a, t, s', i, x, y, rfl, hd, ht, fun hc p u v H1 s1 hp h1 hu hv => ?_, fun hc => ?_⟩
  · rw [hc, if_neg (by decide)] at A
    obtain ⟨n, r, e1, e2⟩ := grid_one hd.good (Om.mem_cuts.mpr hc)
    rw [e2] at A
    obtain ⟨dx, q, e, d1, d2, d3, _, _⟩ := (hd.same s1).ex
    obtain ⟨m1, m2⟩ := moves_ok (v := Ti01.edge s') (by omega) (i, x, y)
    refine ⟨p, _, rfl, .of h1, rfl, _, _, rfl, _, _, rfl, rfl, ?_⟩
    refine ⟨_, rfl, a, CD, dx, _, _, rfl, d1, DK.cl, DK.nS, dF_squares q e, q, _, rfl, d2, by omega, fun p2 H2 s2 hp2 hT2 => ?_⟩
    refine ⟨_, rfl, _, rfl, p2, u, v, _, _, _, rfl, hT2, fun g hg => ?_, by omega, hu.same s2, hv.same s2, m1, m2, n, r, e1, fun H3 s3 => ⟨by show 1 ≤ sizeLine; exact line_of (by decide), fun l hl => ?_⟩⟩
    · obtain ⟨q1, q2, q3, q4, q5⟩ := cover_ok (by omega) hg
      exact ⟨by omega, by omega, by omega, by omega, by omega⟩
    · exact A.same hd (Same.new (s1.trans (s2.trans s3)) hl) ((s1.trans (s2.trans s3)).free hl) upd_same
  · rw [hc, if_pos rfl] at A
    exact A.rf hd
theorem sc_tell_on : FnScope ["desk", "told", "n", "x", "y", "grids"] ["desk", "told"] (defScope (top 51)) := ⟨rfl, rfl, rfl, by decide +kernel, rfl, by decide +kernel, by decide +kernel⟩
theorem cal_tell_on (D : Df K mg "tell_on" (top 51)) (G : Glb K mg) (DK : DkTxt K CD) (TR : PySem.RefX.RefTxt K mg C fI) (c_grids_of : Cal P w K mg base CX0 3 "grids_of" spGridsOf) (c_lying_on : Cal P w K mg base CX0 2 "lying_on" spLyingOn) : Cal P w K mg base (L2.CX P w) 4 "tell_on" (spDeed CD C 6 T3) := by
  refine D.okX sc_tell_on (fun vs H Q E h => by obtain ⟨_, _, _, _, _, rfl, _⟩ := h; rfl) (fun _ _ _ _ _ _ us hl => match us, hl with | [_, _], _ => rfl) (fun f cdv A outer s H vs Q E hr h => ?_)
  refine ⟨_, (pss_cons (ps_asg (pv 1) (pg_unl rfl (pgs_cons (pg_name (i := 2) sc_tell_on.nd rfl (Or.inl rfl)) (pgs_cons (pg_name (i := 3) sc_tell_on.nd rfl (Or.inl rfl)) (pgs_cons (pg_name (i := 4) sc_tell_on.nd rfl (Or.inl rfl)) pgs_nil)))))
      (pss_cons (ps_if (PW.pt (pw_or (pt_cmpR op_gt (pv 3) (pe_ci G.c_MOST_FAR (by exact rfl)) (nomark _)) (pw_or1 (pt_cmpR op_gt (pv 4) (pe_ci G.c_MOST_FAR (by exact rfl)) (nomark _))))) (pss_one (ps_raiseRef rfl TR hr (takes_of rfl rfl rfl rfl) (by exact (pa_cons (pe_ci G.c_NOT_SO (by exact rfl)) pa_nil)))) pss_nil)
      (pss_cons (ps_set (i := 5) sc_tell_on.nd rfl (Or.inl rfl) (pe_c c_grids_of hr (by decide) rfl (by exact (pa_cons (pe_fld (pv 0) rfl) pa_nil))))
      (pss_cons (ps_if (pt_cmpR op_ge (pv 2) (pe_callB call_len_seq rfl G.b_len PySem.boot_len (by exact (pa_cons (pv 5) pa_nil))) (nomark _)) (pss_one (ps_raiseRef rfl TR hr (takes_of rfl rfl rfl rfl) (by exact (pa_cons (pe_ci G.c_NO_GRID (by exact rfl)) pa_nil)))) pss_nil)
      (pss_one (ps_ret (pe_c c_lying_on hr (by decide) rfl (by exact (pa_cons (pe_fld (pv 0) rfl) (pa_cons (pe_ix (r := rIxL K) ix_list (pv 5) (pv 2) (fun _ _ => rfl)) (pa_cons (pv 3) (pa_cons (pv 4) pa_nil)))))))))))), ?_⟩
  obtain ⟨N, a, t, s', tl, rfl, hN, hd, ht, ⟨n, x, y, rfl, b1, b2, b3⟩, A⟩ := h
  rw [step_6 s' b1 b2 b3] at A
  have hf := hd.few
  have gle := grids_le s'
  have g2 : s'.length * s'.length ≤ 12 * 12 := Nat.mul_le_mul hf hf
  have es : Ti01.step s' (.on n x y) = (s', if 1000 < x ∨ 1000 < y then [-1] else match (Ti01.grids s')[n]? with
    | none => [-2]
    | some g => match Ti01.on s' g ((x : Int), (y : Int)) with
      | none => [-3]
      | some r => [(r.1 : Int), r.2.1, r.2.2]) := rfl
  rw [es] at A
  obtain ⟨dx, q, e, d1, d2, d3, _, _⟩ := hd.ex
  refine ⟨_, rfl, t, _, rfl, ht.sq, rfl, _, _, rfl, _, _, rfl, _, _, rfl, rfl, ?_⟩
  have bad : (1000 < x ∨ 1000 < y) → ∃ v, ([V.int (-1)] : List V) = [v] ∧ ∀ d, H d = none → E (.ref C) (some d) (upd H d (.xd [(("number" : Str), v)])) := fun hx => by
    rw [if_pos hx] at A
    exact ⟨_, rfl, fun d hd' => A.rf hd _ d (same_new hd') upd_same⟩
  refine ⟨_, rfl, _, _, rfl, rfl, _, rfl, ?_⟩
  refine ite2 (fun gx => iteT (bad (.inl (by have h1 : (1000 : Int) < ((x : Nat) : Int) := of_decide_eq_true gx; omega)))) (fun gx => ?_)
  refine ⟨_, rfl, _, _, rfl, rfl, _, rfl, ?_⟩
  refine ite2 (fun gy => bad (.inr (by have h1 : (1000 : Int) < ((y : Nat) : Int) := of_decide_eq_true gy; omega))) (fun gy => ?_)
  have nx : ¬ (1000 < x ∨ 1000 < y) := fun h => by
    have h1 : ¬ (1000 : Int) < ((x : Nat) : Int) := fun z => gx (decide_eq_true z)
    have h2 : ¬ (1000 : Int) < ((y : Nat) : Int) := fun z => gy (decide_eq_true z)
    omega
  rw [if_neg nx] at A
  refine ⟨_, rfl, a, CD, dx, _, _, rfl, d1, DK.cl, DK.nS, dF_squares q e, q, _, rfl, d2, by omega, fun p H1 s1 hp hT => ?_⟩
  obtain ⟨ts, t1, t2⟩ := hT
  have hlen : (ts.map V.ref).length = (Ti01.grids s').length := by rw [List.length_map, Tps.len t2, List.length_map]
  refine ⟨_, rfl, _, rfl, p, _, rfl, .inl (.of t1), _, _, rfl, rfl, _, rfl, ?_⟩
  rw [hlen]
  refine ite2 (fun gn => ?_) (fun gn => ?_)
  · have : (Ti01.grids s')[n]? = none := List.getElem?_eq_none_iff.mpr (by have h1 : (((Ti01.grids s').length : Nat) : Int) ≤ ((n : Nat) : Int) := of_decide_eq_true gn; omega)
    rw [this] at A
    exact ⟨_, rfl, fun d hd' => A.rf hd _ d (Same.new s1 hd') upd_same⟩
  · have hn : n < (Ti01.grids s').length := by
      have h1 : ¬ (((Ti01.grids s').length : Nat) : Int) ≤ ((n : Nat) : Int) := fun z => gn (decide_eq_true z)
      omega
    have hg := List.getElem?_eq_getElem hn
    rw [hg] at A
    have hm := List.getElem_mem hn
    generalize (Ti01.grids s')[n] = g at A hg hm
    obtain ⟨u, u1, u2⟩ := Tps.at (i := n) (r := gl g) t2 (by rw [List.getElem?_map, hg]; rfl)
    obtain ⟨j, c, j1, j2, j3⟩ := on_one (Om.mem_grids.mp hm).2 ((x : Int), (y : Int))
    replace A : Ans CD C N H a Q E (s', match Ti01.on s' g ((x : Int), (y : Int)) with
      | none => [-3]
      | some r => [(r.1 : Int), r.2.1, r.2.2]) := A
    rw [j3] at A
    obtain ⟨dx', q', e', d1', d2', d3', _, _⟩ := (hd.same s1).ex
    refine ⟨_, rfl, a, CD, dx', _, _, rfl, d1', DK.cl, DK.nS, dF_squares q' e', _, rfl, _, rfl, p, _, _, _, rfl, rfl, .of t1, at_of (j := n) rfl (by rw [List.getElem?_map, u1]; rfl), _, rfl, _, rfl, q', u, _, _, s', g, rfl, d2', u2, ?_, by omega, fun p2 H2 s2 hp2 hT2 => ?_⟩
    · obtain ⟨q1, q2, q3, q4, q5⟩ := cover_ok (by omega) hm
      exact ⟨by omega, by omega, by omega, by omega, by omega⟩
    · rw [j2] at hT2
      exact A.same hd (s1.trans s2) (s1.free hp2) hT2
end Oc
namespace Oc
open PySem PySem.Spec PyProof.Rows L2
variable {P : Program} {w : World} {K : PySem.W.Frag} {mg : Str → Option Value} {base : Heap} {CD C fI : Addr}
theorem dF_len (q e : Addr) : (dF q e).length < 1000 := by show 2 < 1000; decide
theorem sc_set_shape : FnScope ["desk", "told", "squares"] ["desk", "told"] (defScope (top 45)) := ⟨rfl, rfl, rfl, by decide +kernel, rfl, by decide +kernel, by decide +kernel⟩
theorem cal_set_shape (D : Df K mg "set_shape" (top 45)) (G : Glb K mg) (DK : DkTxt K CD) (c_squares_in : Cal P w K mg base (L2.CX P w) 1 "squares_in" (spSquaresIn C)) (c_look_shape : Cal P w K mg base (L2.CX P w) 4 "look_shape" (spLookShape C)) (c_edge_of : Cal P w K mg base CX0 3 "edge_of" spEdgeOf) : Cal P w K mg base (L2.CX P w) 5 "set_shape" (spDeed CD C 0 TS) := by
  refine D.okX sc_set_shape (fun vs H Q E h => by obtain ⟨_, _, _, _, _, rfl, _⟩ := h; rfl) (fun _ _ _ _ _ _ us hl => match us, hl with | [_, _], _ => rfl) (fun f cdv A outer s H vs Q E hr h => ?_)
  refine ⟨_, (pss_cons (ps_set (i := 2) sc_set_shape.nd rfl (Or.inl rfl) (pe_cX c_squares_in hr (by decide) (takes_of rfl rfl rfl rfl) rfl (by exact (pa_cons (pv 1) pa_nil))))
      (pss_cons (ps_expr (pe_cX c_look_shape hr (by decide) (takes_of rfl rfl rfl rfl) rfl (by exact (pa_cons (pv 2) pa_nil))))
      (pss_cons (ps_fld (pv 0) (pv 2) rfl)
      (pss_cons (ps_fld (pv 0) (pe_c c_edge_of hr (by decide) rfl (by exact (pa_cons (pv 2) pa_nil))) rfl)
      (pss_one (ps_ret (pe_lst (by exact (pa_cons (pe_callB call_len_seq rfl G.b_len PySem.boot_len (by exact (pa_cons (pe_fld (pv 0) rfl) pa_nil))) pa_nil))))))))), ?_⟩
  obtain ⟨N, a, t, s', tl, rfl, hN, hd, ht, hT, A⟩ := h
  refine ⟨_, rfl, t, tl, rfl, ht, fun ho p H1 s1 hp hR => ?_, fun hn => ?_⟩
  · have hl : (sqOf tl).length ≤ 12 := by rw [sqOf_len]; exact ho.hi
    obtain ⟨sn1, sn2, sn3⟩ := (isShape_iff _).mp ho.shape
    refine ⟨_, rfl, p, sqOf tl, rfl, hR, sn1, sn3, sqOf_rng hT ho, hl, fun hw H2 s2 => ?_, fun hw => ?_⟩
    · have hg := sqOf_good hT ho hw
      rw [step_good s' hT ho hw] at A
      obtain ⟨dx, q, e, d1, d2, d3, _, _⟩ := ((hd.same s1).same s2).ex
      have hR2 := hR.same s2
      refine ⟨_, rfl, _, rfl, a, CD, dx, _, rfl, d1, DK.cl, DK.nS, dF_len q e, ?_⟩
      rw [dF_putS]
      have pa : p ≠ a := fun z => by
        subst z
        exact absurd (hd.ex) (by rintro ⟨_, _, _, z, _⟩; rw [hp] at z; cases z)
      have hR3 : Rw (upd H2 a (.ins CD dx (dF p e))) p ((sqOf tl).map cl) := by
        obtain ⟨ts, t1, t2⟩ := hR2
        refine ⟨ts, (upd_ne pa).trans t1, Paired.mapP t2 fun b r qq => ?_⟩
        show upd H2 a _ b = _
        rw [upd_ne (ne_of qq d1 (fun z => nomatch z))]
        exact qq
      refine ⟨_, rfl, p, sqOf tl, rfl, hR3, hg, by omega, fun v H3 s3 hv hI => ?_⟩
      have d1' : H3 a = some (.ins CD dx (dF p e)) := s3 _ _ upd_same
      refine ⟨_, rfl, a, CD, dx, _, rfl, d1', DK.cl, DK.nE, dF_len p e, ?_⟩
      rw [dF_putE]
      have le := edge_len hg hl
      have va : v ≠ a := fun z => by
        subst z
        rw [upd_same] at hv
        cases hv
      have hR4 : Rw (upd H3 a (.ins CD dx (dF p v))) p ((sqOf tl).map cl) := by
        obtain ⟨ts, t1, t2⟩ := hR3.same s3
        refine ⟨ts, (upd_ne pa).trans t1, Paired.mapP t2 fun b r qq => ?_⟩
        show upd H3 a _ b = _
        rw [upd_ne (ne_of qq d1' (fun z => nomatch z))]
        exact qq
      have hI4 : Il (upd H3 a (.ins CD dx (dF p v))) v (Ti01.ints (Ti01.edge (sqOf tl))) := (upd_ne va).trans hI
      refine ⟨_, rfl, a, CD, dx, _, _, rfl, upd_same, DK.cl, DK.nE, dF_edge p v, v, _, rfl, .inl hI4.sq, by show 1 ≤ sizeLine; exact line_of (by decide), fun r hr' => ?_⟩
      rw [List.length_map, ints_length]
      have sr := same_new (H := upd H3 a (.ins CD dx (dF p v))) (o := .lst [.int ((Ti01.edge (sqOf tl)).length : Nat)]) hr'
      have keep : But a H (upd (upd H3 a (.ins CD dx (dF p v))) r (.lst [.int ((Ti01.edge (sqOf tl)).length : Nat)])) := fun b o hb hne => by
        refine sr _ _ ?_
        rw [upd_ne hne]
        refine s3 _ _ ?_
        rw [upd_ne hne]
        exact s2 _ _ (s1 _ _ hb)
      refine A.ret r _ keep ?_ ⟨⟨dx, p, v, sr _ _ upd_same, hR4.same sr, hI4.same sr, hN p hp, hN v ((s1.trans s2).free ((upd_ne va).symm.trans hv))⟩, hg, hl⟩ upd_same
      cases e0 : H r with
      | none => rfl
      | some o =>
        have ra : r ≠ a := fun z => by
          subst z
          rw [upd_same] at hr'
          cases hr'
        have h3 := s3 _ _ ((upd_ne ra).trans (s2 _ _ (s1 _ _ e0)))
        rw [upd_ne ra, h3] at hr'
        cases hr'
    · rw [step_hole s' hT ho hw] at A
      exact (A.rf hd).same s1
  · rw [step_bad s' hT hn] at A
    exact A.rf hd
end Oc
namespace Oc
open PySem PySem.Spec PyProof.Rows L2
/-! ## plain: the fresh desk -/
theorem one_row {t : List Ti01.Cell} (h : ∀ n : Nat, n ≤ 13 → (((n : Int) - 1, -1) : Ti01.Cell) ∈ t) : ∀ n : Nat, n ≤ 13 → Om.Reach t (-1, -1) ((n : Int) - 1, -1)
  | 0, _ => .base
  | n + 1, hn => by
    have e : ((((n + 1 : Nat) : Int) - 1, -1) : Ti01.Cell) = Ti01.ahead ((n : Int) - 1, -1) 0 := by
      show _ = (((n : Int) - 1 + 1, -1) : Ti01.Cell)
      exact Prod.ext (by show ((n + 1 : Nat) : Int) - 1 = (n : Int) - 1 + 1; omega) rfl
    have hm := h (n + 1) hn
    rw [e] at hm ⊢
    exact .step (one_row h n (by omega)) (by decide) hm
theorem one_col {t : List Ti01.Cell} {a : Int} (h0 : Om.Reach t (-1, -1) (a, -1)) (h : ∀ n : Nat, n ≤ 13 → ((a, (n : Int) - 1) : Ti01.Cell) ∈ t) : ∀ n : Nat, n ≤ 13 → Om.Reach t (-1, -1) (a, (n : Int) - 1)
  | 0, _ => h0
  | n + 1, hn => by
    have e : ((a, ((n + 1 : Nat) : Int) - 1) : Ti01.Cell) = Ti01.ahead (a, (n : Int) - 1) 1 := by
      show _ = ((a, (n : Int) - 1 + 1) : Ti01.Cell)
      exact Prod.ext rfl (by show ((n + 1 : Nat) : Int) - 1 = (n : Int) - 1 + 1; omega)
    have hm := h (n + 1) hn
    rw [e] at hm ⊢
    exact .step (one_col h0 h n (by omega)) (by decide) hm
theorem one_in {a b : Int} (h : (-1 ≤ a ∧ a ≤ 12) ∧ -1 ≤ b ∧ b ≤ 12) (hn : ¬ (a = 0 ∧ b = 0)) : ((a, b) : Ti01.Cell) ∈ Ti01.around [(0, 0)] := by
  rw [Om.mem_around]
  refine ⟨h, fun z => hn ?_⟩
  have := List.mem_singleton.mp z
  exact ⟨congrArg Prod.fst this, congrArg Prod.snd this⟩
theorem one_reach {x : Ti01.Cell} (h : x ∈ Ti01.around [(0, 0)]) : Om.Reach (Ti01.around [(0, 0)]) (-1, -1) x := by
  obtain ⟨⟨⟨a1, a2⟩, b1, b2⟩, hn⟩ := Om.mem_around.mp h
  obtain ⟨a, b⟩ := x
  dsimp only at a1 a2 b1 b2
  have hn' : ¬ (a = 0 ∧ b = 0) := fun z => hn (by rw [z.1, z.2]; exact List.mem_singleton.mpr rfl)
  have row : ∀ n : Nat, n ≤ 13 → Om.Reach (Ti01.around [(0, 0)]) (-1, -1) ((n : Int) - 1, -1) := one_row fun n hn => one_in (by omega) (by omega)
  have ea : a = (((a + 1).toNat : Nat) : Int) - 1 := by omega
  have eb : b = (((b + 1).toNat : Nat) : Int) - 1 := by omega
  by_cases z : a = 0
  · by_cases zb : b = -1
    · rw [zb, ea]
      exact row _ (by omega)
    · have col := one_col (t := Ti01.around [(0, 0)]) (a := -1) .base (fun n hn => one_in (by omega) (by omega)) (b + 1).toNat (by omega)
      rw [← eb] at col
      have e : ((a, b) : Ti01.Cell) = Ti01.ahead (-1, b) 0 := by
        show _ = ((-1 + 1, b) : Ti01.Cell)
        exact Prod.ext (by show a = -1 + 1; omega) rfl
      rw [e] at h ⊢
      exact .step col (by decide) h
  · have r := row (a + 1).toNat (by omega)
    rw [← ea] at r
    have col := one_col r (fun n hn => one_in (by omega) (by omega)) (b + 1).toNat (by omega)
    rw [← eb] at col
    exact col
theorem one_good : Om.Good [(0, 0)] where
  ne := by simp
  nd := by simp
  rng := fun c hc => by
    rw [List.mem_singleton.mp hc]
    decide
  jn := by decide +kernel
  ja := by
    obtain ⟨r, hr⟩ := around_head (s := [(0, 0)]) (by decide)
    have nd := around_nodup [(0, 0)]
    have re := @one_reach
    rw [hr] at nd re ⊢
    exact Om.reach_joined nd fun x hx => re hx
theorem one_edge : Ti01.edge [(0, 0)] = [0, 1, 2, 3] := by decide +kernel
/-! ## plain: how the list tells its calls -/
def enc (c : Nat × List Int) : List Int := if c.1 = 0 then 0 :: (c.2.length : Int) :: c.2 else (c.1 : Int) :: c.2
def Well (c : Nat × List Int) : Prop := (c.1 = 0 ∧ TS c.2) ∨ ((c.1 = 1 ∨ c.1 = 2 ∨ c.1 = 3 ∨ c.1 = 5 ∨ c.1 = 8) ∧ T0 c.2) ∨ ((c.1 = 4 ∨ c.1 = 6 ∨ c.1 = 7) ∧ T3 c.2)
def ask (c : Nat × List Int) : List Int := (c.1 : Int) :: c.2
theorem row_in {r : List Int} {x s : List Int} (h : PyFlat.row r = some (x, s)) : r = (x.length : Int) :: x ++ s := by
  cases r with
  | nil => cases h
  | cons n r =>
    have h' : (if 0 ≤ n ∧ n.toNat ≤ r.length then some (r.take n.toNat, r.drop n.toNat) else none) = some (x, s) := h
    split at h'
    · rename_i g
      cases h'
      rw [List.length_take, Nat.min_eq_left g.2, Int.toNat_of_nonneg g.1, List.cons_append, List.take_append_drop]
    · cases h'
theorem nat_rng {x : Int} (h : Ti01Neutral.nat x = true) : 0 ≤ x ∧ x ≤ 4294967295 := by
  unfold Ti01Neutral.nat at h
  rw [Bool.and_eq_true, decide_eq_true_eq, decide_eq_true_eq] at h
  omega
theorem asked_nat {c : List Int} (h : Ti01Neutral.asked1 c = true) : ∀ x ∈ c, 0 ≤ x ∧ x ≤ 4294967295 := by
  unfold Ti01Neutral.asked1 Ti01Neutral.callOf at h
  split at h
  · cases h
  · rename_i g
    have g' : c.all Ti01Neutral.nat = true := by
      cases e : c.all Ti01Neutral.nat with
      | true => rfl
      | false => exact absurd e g
    intro x hx
    exact nat_rng (List.all_eq_true.mp g' x hx)
theorem three {x y z : Int} (h : ∀ v ∈ [x, y, z], 0 ≤ v ∧ v ≤ 4294967295) : T3 [x, y, z] := by
  have hx := h x (by simp)
  have hy := h y (by simp)
  have hz := h z (by simp)
  refine ⟨x.toNat, y.toNat, z.toNat, ?_, by omega, by omega, by omega⟩
  show [x, y, z] = [(x.toNat : Int), (y.toNat : Int), (z.toNat : Int)]
  rw [Int.toNat_of_nonneg hx.1, Int.toNat_of_nonneg hy.1, Int.toNat_of_nonneg hz.1]
/-- a call of the list -/
theorem call_in {l : List Int} {c : List (List Int)} {t : List Int} (h : PyFlat.call PyTi01.shape l = some (c, t)) : ∃ e : Nat × List Int, PyTi01.whole c = [ask e] ∧ l = enc e ++ t ∧ (Ti01Neutral.asked1 (ask e) = true → Well e) := by
  cases l with
  | nil => cases h
  | cons p r =>
    unfold PyFlat.call at h
    dsimp only at h
    unfold PyTi01.shape at h
    have plain : ∀ (n : Nat), (p = (n : Int)) → (n = 1 ∨ n = 2 ∨ n = 3 ∨ n = 5 ∨ n = 8) → (if r.length < 0 then none else match PyFlat.rows 0 (r.drop 0) with
        | none => none
        | some (xs, t) => some ((p :: r.take 0) :: xs, t)) = some (c, t) → ∃ e : Nat × List Int, PyTi01.whole c = [ask e] ∧ p :: r = enc e ++ t ∧ (Ti01Neutral.asked1 (ask e) = true → Well e) := fun n hp hn he => by
      rw [if_neg (by omega)] at he
      have he' : some ([[p]], r) = some (c, t) := he
      cases he'
      refine ⟨(n, []), ?_, ?_, fun _ => .inr (.inl ⟨hn, rfl⟩)⟩
      · rw [hp]
        rcases hn with rfl | rfl | rfl | rfl | rfl <;> rfl
      · unfold enc
        rw [if_neg (by dsimp only; omega), hp]
        rfl
    have tri : ∀ (n : Nat), (p = (n : Int)) → (n = 4 ∨ n = 6 ∨ n = 7) → (if r.length < 3 then none else match PyFlat.rows 0 (r.drop 3) with
        | none => none
        | some (xs, t) => some ((p :: r.take 3) :: xs, t)) = some (c, t) → ∃ e : Nat × List Int, PyTi01.whole c = [ask e] ∧ p :: r = enc e ++ t ∧ (Ti01Neutral.asked1 (ask e) = true → Well e) := fun n hp hn he => by
      by_cases hl : r.length < 3
      · rw [if_pos hl] at he
        cases he
      rw [if_neg hl] at he
      match r, hl, he with
      | x :: y :: z :: r, _, he =>
        have he' : some ([[p, x, y, z]], r) = some (c, t) := he
        cases he'
        refine ⟨(n, [x, y, z]), ?_, ?_, fun ha => .inr (.inr ⟨hn, three fun v hv => asked_nat ha v (List.mem_cons_of_mem _ hv)⟩)⟩
        · rw [hp]
          rcases hn with rfl | rfl | rfl <;> rfl
        · unfold enc
          rw [if_neg (by dsimp only; omega), hp]
          rfl
      | [], hl, _ => exact absurd (by simp) hl
      | [_], hl, _ => exact absurd (by simp) hl
      | [_, _], hl, _ => exact absurd (by simp) hl
    by_cases h0 : p = 0
    · rw [if_pos h0] at h
      dsimp only at h
      rw [if_neg (by omega)] at h
      have h1 : (match PyFlat.rows 1 r with
        | none => none
        | some (xs, t) => some ([p] :: xs, t)) = some (c, t) := h
      unfold PyFlat.rows at h1
      cases e : PyFlat.row r with
      | none =>
        rw [e] at h1
        cases h1
      | some q =>
        obtain ⟨x, s⟩ := q
        rw [e] at h1
        have h2 : some ([p] :: [x], s) = some (c, t) := h1
        cases h2
        refine ⟨(0, x), ?_, ?_, fun ha => .inl ⟨rfl, fun v hv => asked_nat ha v (List.mem_cons_of_mem _ hv)⟩⟩
        · rw [h0]
          rfl
        · rw [h0, row_in e]
          rfl
    rw [if_neg h0] at h
    by_cases h1 : p = 1
    · rw [if_pos h1] at h; exact plain 1 h1 (by decide) h
    rw [if_neg h1] at h
    by_cases h2 : p = 2
    · rw [if_pos h2] at h; exact plain 2 h2 (by decide) h
    rw [if_neg h2] at h
    by_cases h3 : p = 3
    · rw [if_pos h3] at h; exact plain 3 h3 (by decide) h
    rw [if_neg h3] at h
    by_cases h4 : p = 4
    · rw [if_pos h4] at h; exact tri 4 h4 (by decide) h
    rw [if_neg h4] at h
    by_cases h5 : p = 5
    · rw [if_pos h5] at h; exact plain 5 h5 (by decide) h
    rw [if_neg h5] at h
    by_cases h6 : p = 6
    · rw [if_pos h6] at h; exact tri 6 h6 (by decide) h
    rw [if_neg h6] at h
    by_cases h7 : p = 7
    · rw [if_pos h7] at h; exact tri 7 h7 (by decide) h
    rw [if_neg h7] at h
    by_cases h8 : p = 8
    · rw [if_pos h8] at h; exact plain 8 h8 (by decide) h
    rw [if_neg h8] at h
    cases h
theorem calls_in : ∀ (f : Nat) {l : List Int} {raw : List (List (List Int))}, PyFlat.calls PyTi01.shape f l = some raw → ((raw.map PyTi01.whole).map fun c => c.headD []).all Ti01Neutral.asked1 = true →
    ∃ es : List (Nat × List Int), raw.map PyTi01.whole = es.map (fun e => [ask e]) ∧ l = es.flatMap enc ∧ ∀ e ∈ es, Well e
  | 0, [], raw, h, _ => by
    have h' : some [] = some raw := h
    cases h'
    exact ⟨[], rfl, rfl, by simp⟩
  | f + 1, [], raw, h, _ => by
    have h' : some [] = some raw := h
    cases h'
    exact ⟨[], rfl, rfl, by simp⟩
  | 0, _ :: _, _, h, _ => nomatch h
  | f + 1, p :: r, raw, h, ha => by
    unfold PyFlat.calls at h
    cases e1 : PyFlat.call PyTi01.shape (p :: r) with
    | none =>
      rw [e1] at h
      cases h
    | some q =>
      obtain ⟨c, t⟩ := q
      rw [e1] at h
      dsimp only at h
      cases e2 : PyFlat.calls PyTi01.shape f t with
      | none =>
        rw [e2] at h
        cases h
      | some cs =>
        rw [e2] at h
        have h' : some (c :: cs) = some raw := h
        cases h'
        obtain ⟨e, w1, w2, w3⟩ := call_in e1
        rw [List.map_cons, List.map_cons, List.all_cons, Bool.and_eq_true, w1] at ha
        obtain ⟨es, v1, v2, v3⟩ := calls_in f e2 ha.2
        refine ⟨e :: es, by rw [List.map_cons, List.map_cons, w1, v1], by rw [w2, List.flatMap_cons, v2], fun x hx => ?_⟩
        rcases List.mem_cons.mp hx with rfl | hx
        · exact w3 ha.1
        · exact v3 x hx
def runsBy (f : List Ti01.Cell → List Int → List Ti01.Cell × List Int) : List Ti01.Cell → List (Nat × List Int) → List (List Int)
  | _, [] => []
  | s, e :: es => (f s (ask e)).2 :: runsBy f (f s (ask e)).1 es
theorem played_by (f : List Ti01.Cell → List Int → List Ti01.Cell × List Int) : ∀ (es : List (Nat × List Int)) (s : List Ti01.Cell), PyFlat.played (fun s c => f s (c.headD [])) s (es.map fun e => [ask e]) = runsBy f s es
  | [], _ => rfl
  | e :: es, s => by
    show (f s (ask e)).2 :: PyFlat.played _ (f s (ask e)).1 (es.map fun e => [ask e]) = _
    rw [played_by f es]
    rfl
def runs : List Ti01.Cell → List (Nat × List Int) → List (List Int) := runsBy Ti01Neutral.step
theorem played_runs (es : List (Nat × List Int)) (s : List Ti01.Cell) : PyFlat.played (fun s c => Ti01Neutral.step s (c.headD [])) s (es.map fun e => [ask e]) = runs s es := played_by Ti01Neutral.step es s
theorem runs_cons (s : List Ti01.Cell) (e : Nat × List Int) (es : List (Nat × List Int)) : runs s (e :: es) = (Ti01Neutral.step s (ask e)).2 :: runs (Ti01Neutral.step s (ask e)).1 es := by
  unfold runs
  rw [runsBy]
theorem asked_in {l : List Int} (h : PyTi01.answers_asked l = true) : ∃ es : List (Nat × List Int), l = es.flatMap enc ∧ (∀ e ∈ es, Well e) ∧ es.length ≤ 20 ∧ PyTi01.answers l = PyFlat.told (runs [(0, 0)] es) ∧ (PyTi01.answers l).length ≤ 10000000 := by
  unfold PyTi01.answers_asked at h
  cases e : PyFlat.calls PyTi01.shape l.length l with
  | none =>
    rw [e] at h
    cases h
  | some raw =>
    rw [e] at h
    dsimp only at h
    rw [Bool.and_eq_true, Bool.and_eq_true, Bool.and_eq_true, Bool.and_eq_true] at h
    obtain ⟨⟨⟨⟨_, h1⟩, _⟩, h2⟩, h3⟩ := h
    unfold Ti01Neutral.asked at h2
    rw [Bool.and_eq_true] at h2
    obtain ⟨es, v1, v2, v3⟩ := calls_in _ e h2.1
    refine ⟨es, v2, v3, ?_, ?_, of_decide_eq_true h3⟩
    · have h4 : raw.length ≤ 20 := of_decide_eq_true h1
      have := congrArg List.length v1
      rw [List.length_map, List.length_map] at this
      omega
    · unfold PyTi01.answers PyTi01.calls
      rw [e]
      dsimp only
      rw [v1, played_runs]
      rfl
end Oc
namespace Oc
open PySem PySem.Spec PyProof.Rows L2
variable {P : Program} {w : World} {K : PySem.W.Frag} {mg : Str → Option Value} {base : Heap} {CD C fI : Addr}
/-! ## a desk is made -/
abbrev sInit : Stmt := inClass (top 41) 0
def spInit (CD : Addr) : Sp := fun vs H Q _ => ∃ (p dx : Addr), vs = [.ref p] ∧ H p = some (.ins CD dx []) ∧ ∀ H' : Hp, (∀ b o, H b = some o → b ≠ p → H' b = some o) → DeskAt CD (fun _ => True) H' p [(0, 0)] → Q .non H'
theorem sc_init : FnScope ["self"] ["self"] (defScope sInit) := ⟨rfl, rfl, rfl, by decide +kernel, rfl, by decide +kernel, by decide +kernel⟩
theorem ok_init {f : Addr} {fd : FuncData} (F : Fun K "__init__" "Desk.__init__" sInit f fd) (DK : DkTxt K CD) : FnOk P w K mg base CX0 1 f fd ["self"] (spInit CD) := by
  refine F.ok sc_init (fun vs H Q E h => by obtain ⟨p, dx, rfl, _⟩ := h; rfl) (fun cdv A outer s H vs Q E hr h => ?_)
  refine ⟨_, pss_cons (ps_fld (pv 0) (pe_lst (by exact (pa_cons (pe_tup (by exact (pa_cons pe_int (pa_cons pe_int pa_nil)))) pa_nil))) rfl) (pss_one (ps_fld (pv 0) (pe_lst (by exact (pa_cons pe_int (pa_cons pe_int (pa_cons pe_int (pa_cons pe_int pa_nil)))))) rfl)), ?_⟩
  obtain ⟨p, dx, rfl, hp, k⟩ := h
  refine ⟨by show 2 ≤ sizeLine; exact line_of (by decide), fun t ht => ⟨by show 1 ≤ sizeLine; exact line_of (by decide), fun q hq => ?_⟩⟩
  have s1 := same_new (H := H) (o := .tup [.int 0, .int 0]) ht
  have s2 := same_new (H := upd H t (.tup [.int 0, .int 0])) (o := .lst [.ref t]) hq
  have tq : t ≠ q := ne_of_none upd_same hq
  have hp2 := s2 _ _ (s1 _ _ hp)
  refine ⟨_, rfl, p, CD, dx, _, rfl, hp2, DK.cl, DK.nS, by show 0 < 1000; decide, ?_⟩
  have qp : q ≠ p := Ne.symm (ne_of_none (s1 _ _ hp) hq)
  have tp : t ≠ p := Ne.symm (ne_of_none hp ht)
  refine ⟨by show 4 ≤ sizeLine; exact line_of (by decide), fun e he => ?_⟩
  have s3 := same_new (H := upd (upd (upd H t (.tup [.int 0, .int 0])) q (.lst [.ref t])) p (.ins CD dx (putF "squares" (.ref q) []))) (o := .lst [.int 0, .int 1, .int 2, .int 3]) he
  have ep : e ≠ p := Ne.symm (ne_of_none upd_same he)
  refine ⟨_, rfl, p, CD, dx, _, rfl, s3 _ _ upd_same, DK.cl, DK.nE, by show 1 < 1000; decide, ?_⟩
  have nw := dF_new q e
  rw [nw]
  refine k _ (fun b o hb hne => ?_) ⟨⟨dx, q, e, upd_same, ⟨[t], ?_, .cons ?_ .nil⟩, ?_, trivial, trivial⟩, one_good, by decide⟩
  · rw [upd_ne hne]
    refine s3 _ _ ?_
    rw [upd_ne hne]
    exact s2 _ _ (s1 _ _ hb)
  · rw [upd_ne qp]
    refine s3 _ _ ?_
    rw [upd_ne qp]
    exact upd_same
  · show upd _ p _ t = _
    rw [upd_ne tp]
    refine s3 _ _ ?_
    rw [upd_ne tp]
    exact s2 _ _ upd_same
  · rw [one_edge]
    show upd _ p _ e = _
    rw [upd_ne ep]
    exact upd_same
/-! ## split_calls -/
def Pk (N : Addr → Prop) (H : Hp) (p : Addr) (cs : List (Nat × List Int)) : Prop := ∃ ts : List Addr, H p = some (.lst (ts.map V.ref)) ∧ Paired (fun t (c : Nat × List Int) => ∃ u, H t = some (.tup [.int (c.1 : Nat), .ref u]) ∧ Il H u c.2 ∧ N u) ts cs
theorem Pk.but {N : Addr → Prop} {H H' : Hp} {p a : Addr} {cs : List (Nat × List Int)} {D dx : Addr} {fs : List (Str × V)} (h : Pk N H p cs) (b : But a H H') (ha : H a = some (.ins D dx fs)) : Pk N H' p cs := by
  obtain ⟨ts, h1, h2⟩ := h
  refine ⟨ts, b _ _ h1 (ne_of h1 ha (fun z => nomatch z)), Paired.mapP h2 fun t c ⟨u, q1, q2, q3⟩ => ⟨u, b _ _ q1 (ne_of q1 ha (fun z => nomatch z)), b _ _ q2 (ne_of q2 ha (fun z => nomatch z)), q3⟩⟩
theorem Pk.same {N : Addr → Prop} {H H' : Hp} {p : Addr} {cs : List (Nat × List Int)} (h : Pk N H p cs) (s : Same H H') : Pk N H' p cs := by
  obtain ⟨ts, h1, h2⟩ := h
  exact ⟨ts, s _ _ h1, Paired.mapP h2 fun t c ⟨u, q1, q2, q3⟩ => ⟨u, s _ _ q1, s _ _ q2, q3⟩⟩
theorem paired_snoc {α β : Type} {R : α → β → Prop} : ∀ {xs : List α} {ys : List β} {x : α} {y : β}, Paired R xs ys → R x y → Paired R (xs ++ [x]) (ys ++ [y])
  | _, _, _, _, .nil, h => .cons h .nil
  | _, _, _, _, .cons r t, h => .cons r (paired_snoc t h)
theorem paired_of_at {α β : Type} {R : α → β → Prop} : ∀ {xs : List α} {ys : List β} {i : Nat} {x : α}, Paired R xs ys → xs[i]? = some x → ∃ y, ys[i]? = some y ∧ R x y
  | _, _, _, _, .nil, e => by simp at e
  | _, _, 0, _, .cons h _, e => ⟨_, rfl, by simp at e; subst e; exact h⟩
  | _, _, i + 1, x, .cons _ q, e => paired_of_at (i := i) (x := x) q (by simpa using e)
theorem Pk.snoc {N : Addr → Prop} {H : Hp} {F t u : Addr} {cs : List (Nat × List Int)} {c : Nat × List Int} (h : Pk N H F cs) (ht : H t = some (.tup [.int (c.1 : Nat), .ref u])) (hu : Il H u c.2) (nF : ∀ u, N u → u ≠ F) (uN : N u) : ∃ xs, H F = some (.lst xs) ∧ xs.length = cs.length ∧ Pk N (upd H F (.lst (xs ++ [.ref t]))) F (cs ++ [c]) := by
  obtain ⟨ts, h1, h2⟩ := h
  refine ⟨_, h1, by rw [List.length_map]; exact Paired.length h2, ts ++ [t], ?_, ?_⟩
  · rw [upd_same, List.map_append]
    rfl
  · have put : ∀ (o : HO) (t : Addr) (c : Nat × List Int), (∃ u, H t = some (.tup [.int (c.1 : Nat), .ref u]) ∧ Il H u c.2 ∧ N u) → ∃ u, upd H F o t = some (.tup [.int (c.1 : Nat), .ref u]) ∧ Il (upd H F o) u c.2 ∧ N u := fun o t c ⟨u, q1, q2, q3⟩ =>
      ⟨u, (upd_ne (ne_of q1 h1 (fun z => nomatch z))).trans q1, (upd_ne (nF _ q3)).trans q2, q3⟩
    exact paired_snoc (Paired.mapP h2 (put _)) (put _ _ _ ⟨u, ht, hu, uN⟩)
theorem enc_pos (c : Nat × List Int) : 0 < (enc c).length := by
  unfold enc
  split <;> simp
theorem rest_nil {es : List (Nat × List Int)} (h : (es.flatMap enc).length = 0) : es = [] := by
  cases es with
  | nil => rfl
  | cons e es =>
    rw [List.flatMap_cons, List.length_append] at h
    have := enc_pos e
    omega
def sizes : List Int := [0, 0, 0, 0, 3, 0, 3, 3, 0]
theorem Well.le {c : Nat × List Int} (h : Well c) : c.1 ≤ 8 := by
  rcases h with h | h | h <;> omega
theorem Well.size {c : Nat × List Int} (h : Well c) (h0 : c.1 ≠ 0) : sizes[c.1]? = some (c.2.length : Int) := by
  obtain ⟨n, tl⟩ := c
  dsimp only at h0 ⊢
  rcases h with h | ⟨h, h2⟩ | ⟨h, h2⟩
  · exact absurd h.1 h0
  · have e : tl = [] := h2
    subst e
    dsimp only at h
    rcases h with rfl | rfl | rfl | rfl | rfl <;> rfl
  · obtain ⟨i, a, b, e, _⟩ := h2
    dsimp only at h e
    subst e
    rcases h with rfl | rfl | rfl <;> rfl
theorem sizes_at {n : Nat} (h : n ≤ 8) : ∃ z, sizes[n]? = some z := by
  have : n < sizes.length := by show n < 9; omega
  exact ⟨_, List.getElem?_eq_getElem this⟩
def spSplit (K : PySem.W.Frag) : Sp := fun vs H Q _ => ∃ (a : Addr) (es : List (Nat × List Int)), vs = [.ref a] ∧ SqL K H a ((es.flatMap enc).map V.int) ∧ (∀ e ∈ es, Well e) ∧ es.length ≤ 20 ∧ (∀ p H', Same H H' → H p = none → Pk (fun u => H u = none ∧ u ≠ p) H' p es → Q (.ref p) H')
theorem sc_split_calls : FnScope ["calls", "found", "at", "word", "first", "many"] ["calls"] (defScope (top 58)) := ⟨rfl, rfl, rfl, by decide +kernel, rfl, by decide +kernel, by decide +kernel⟩
theorem cal_split_calls (D : Df K mg "split_calls" (top 58)) (G : Glb K mg) : Cal P w K mg base CX0 1 "split_calls" (spSplit K) := by
  have c_SIZES := G.t_SIZES
  refine D.ok sc_split_calls (fun vs H Q E h => by obtain ⟨_, _, rfl, _⟩ := h; rfl) (fun _ _ _ _ _ _ us hl => match us, hl with | [_], _ => rfl) (fun f cdv A outer s H vs Q E hr h => ?_)
  refine ⟨_, (pss_cons (ps_set (i := 1) sc_split_calls.nd rfl (Or.inl rfl) (pe_lst pa_nil))
      (pss_cons (ps_set (i := 2) sc_split_calls.nd rfl (Or.inl rfl) pe_int)
      (pss_cons (ps_while PassesOwn.never (pt_cmpR op_lt (pv 2) (pe_callB call_len_seq rfl G.b_len PySem.boot_len (by exact (pa_cons (pv 0) pa_nil))) (nomark _)) (pss_cons (ps_set (i := 3) sc_split_calls.nd rfl (Or.inl rfl) (pe_ix (r := rIxL K) ix_list (pv 0) (pv 2) (fun _ _ => rfl)))
      (pss_cons (ps_set (i := 4) sc_split_calls.nd rfl (Or.inl rfl) (pe_op op_add (pv 2) pe_int))
      (pss_cons (ps_set (i := 5) sc_split_calls.nd rfl (Or.inl rfl) (pe_ix (r := rIxT K) ix_tup (pe_ct c_SIZES (by exact rfl)) (pv 3) (fun _ _ => rfl)))
      (pss_cons (ps_if (pt_cmpR op_eq (pv 3) (pe_ci G.c_SHAPE (by exact rfl)) (nomark _)) (pss_cons (ps_set (i := 4) sc_split_calls.nd rfl (Or.inl rfl) (pe_op op_add (pv 2) pe_int))
      (pss_one (ps_set (i := 5) sc_split_calls.nd rfl (Or.inl rfl) (pe_ix (r := rIxL K) ix_list (pv 0) (pe_op op_add (pv 2) pe_int) (fun _ _ => rfl))))) pss_nil)
      (pss_cons (ps_expr (pe_bm PySem.F.plainAttrs_list PySem.F.slot_list_append PySem.F.type_list_append mt_append (pv 1) (by exact (pa_cons (pe_tup (by exact (pa_cons (pv 3) (pa_cons (pe_slice sl_list (pv 0) (po_some (pv 4)) (po_some (pe_op op_add (pv 4) (pv 5)))) pa_nil)))) pa_nil))))
      (pss_one (ps_set (i := 2) sc_split_calls.nd rfl (Or.inl rfl) (pe_op op_add (pv 4) (pv 5))))))))))
      (pss_one (ps_ret (pv 1)))))), ?_⟩
  obtain ⟨a, es, rfl, ha, hw, hl, k⟩ := h
  refine ⟨by show 0 ≤ sizeLine; exact Nat.zero_le _, fun F hF => ?_⟩
  have s0 := same_new (H := H) (o := .lst []) hF
  refine ⟨fun m σ H' => ∃ (done rest : List (Nat × List Int)) (x y z : Option V), σ = [some (.ref a), some (.ref F), some (.int ((done.flatMap enc).length : Nat)), x, y, z] ∧ es = done ++ rest ∧ Same H H' ∧ Pk (fun u => H u = none ∧ u ≠ F) H' F done ∧ m = rest.length,
    ⟨_, [], es, none, none, none, rfl, rfl, s0, ⟨[], upd_same, .nil⟩, rfl⟩, ?_⟩
  rintro m σ H1 ⟨done, rest, x, y, z, rfl, rfl, s1, hP, rfl⟩
  have ha1 := s1.seq ha
  refine ⟨_, rfl, _, rfl, a, _, rfl, .inl ha1, _, _, rfl, rfl, _, rfl, ?_⟩
  rw [List.length_map, List.flatMap_append, List.length_append]
  refine ite2 (fun g => ?_) (fun g => ?_)
  · cases rest with
    | nil =>
      have := of_decide_eq_true g
      simp at this
    | cons e rest =>
      have hwe := hw e (by simp)
      obtain ⟨n, tl⟩ := e
      have hword : ((((done ++ (n, tl) :: rest).flatMap enc).map V.int)[(done.flatMap enc).length]?) = some (.int (n : Nat)) := by
        rw [List.flatMap_append, List.map_append, List.getElem?_append_right (by rw [List.length_map]; exact Nat.le_refl _), List.length_map, Nat.sub_self, List.flatMap_cons, List.map_append]
        unfold enc
        split
        · rename_i z0
          dsimp only at z0
          rw [z0]
          rfl
        · rfl
      obtain ⟨zz, hz⟩ := sizes_at hwe.le
      refine ⟨fun σ' H' => ∃ m', m' < _ ∧ ∃ (done2 rest2 : List (Nat × List Int)) (x y z : Option V), σ' = [some (.ref a), some (.ref F), some (.int ((done2.flatMap enc).length : Nat)), x, y, z] ∧ done ++ (n, tl) :: rest = done2 ++ rest2 ∧ Same H H' ∧ Pk (fun u => H u = none ∧ u ≠ F) H' F done2 ∧ m' = rest2.length, fun σ' H' z => z, ?_⟩
      refine ⟨_, rfl, _, rfl, a, _, _, _, rfl, rfl, ha1, at_of (j := (done.flatMap enc).length) rfl hword, _, rfl, _, _, rfl, rfl, fun b hb => ⟨_, rfl, b, _, _, _, rfl, rfl, hb _, at_of (j := n) rfl (by rw [List.getElem?_map]; exact congrArg _ hz), ?_⟩⟩
      have mk : ∀ (fi : Nat), ((done.flatMap enc) ++ enc (n, tl)).length = fi + tl.length → (((done ++ (n, tl) :: rest).flatMap enc).map V.int).drop fi = (tl ++ rest.flatMap enc).map V.int → ∀ (y t : Addr) (v : Int), H1 y = none →
          v = (fi : Int) + (tl.length : Int) → upd H1 y (.lst (cutV (((done ++ (n, tl) :: rest).flatMap enc).map V.int) (some (fi : Int)) (some v))) t = none →
          ∃ xs, upd (upd H1 y (.lst (cutV (((done ++ (n, tl) :: rest).flatMap enc).map V.int) (some (fi : Int)) (some v)))) t (.tup [.int (n : Nat), .ref y]) F = some (.lst xs) ∧ xs.length < sizeLine ∧
            ∃ m', m' < ((n, tl) :: rest).length ∧ ∃ (done2 rest2 : List (Nat × List Int)), v = ((done2.flatMap enc).length : Nat) ∧ done ++ (n, tl) :: rest = done2 ++ rest2 ∧
              Same H (upd (upd (upd H1 y (.lst (cutV (((done ++ (n, tl) :: rest).flatMap enc).map V.int) (some (fi : Int)) (some v)))) t (.tup [.int (n : Nat), .ref y])) F (.lst (xs ++ [.ref t]))) ∧
              Pk (fun u => H u = none ∧ u ≠ F) (upd (upd (upd H1 y (.lst (cutV (((done ++ (n, tl) :: rest).flatMap enc).map V.int) (some (fi : Int)) (some v)))) t (.tup [.int (n : Nat), .ref y])) F (.lst (xs ++ [.ref t]))) F done2 ∧ m' = rest2.length := fun fi e1 e2 y t v hy ev ht => by
        have ev' : v = ((fi + tl.length : Nat) : Int) := by omega
        have ec : cutV (((done ++ (n, tl) :: rest).flatMap enc).map V.int) (some (fi : Int)) (some v) = tl.map V.int := by
          rw [ev', cut_mid, e2, Nat.add_sub_cancel_left, List.map_append, List.take_append_of_le_length (by rw [List.length_map]; exact Nat.le_refl _), List.take_of_length_le (by rw [List.length_map]; exact Nat.le_refl _)]
        rw [ec] at ht ⊢
        have q1 := same_new (H := H1) (o := .lst (tl.map V.int)) hy
        have q2 := Same.new q1 (o := .tup [.int (n : Nat), .ref y]) ht
        have hP2 := hP.same q2
        obtain ⟨ts, p1, _⟩ := hP
        have yF : y ≠ F := fun z => by
          rw [z, p1] at hy
          cases hy
        have yt : y ≠ t := ne_of_none upd_same ht
        obtain ⟨xs, x1, x2, x3⟩ := Pk.snoc (t := t) (u := y) (c := (n, tl)) hP2 upd_same ((upd_ne yt).trans upd_same) (fun _ q => q.2) ⟨s1.free hy, yF⟩
        rw [List.length_append, List.length_cons] at hl
        refine ⟨xs, x1, by rw [x2]; exact line_lt (by omega), rest.length, by rw [List.length_cons]; omega, done ++ [(n, tl)], rest, ?_, by rw [List.append_assoc]; rfl, Same.put (s1.trans q2) hF, x3, rfl⟩
        rw [List.flatMap_append, List.flatMap_cons, List.flatMap_nil, List.append_nil, e1]
        exact ev'
      have dr : ∀ k, (((done ++ (n, tl) :: rest).flatMap enc).map V.int).drop ((done.flatMap enc).length + k) = ((enc (n, tl) ++ rest.flatMap enc).map V.int).drop k := fun k => by
        rw [List.flatMap_append, List.map_append, List.flatMap_cons, ← List.drop_drop]
        have e : (List.map V.int (done.flatMap enc) ++ List.map V.int (enc (n, tl) ++ rest.flatMap enc)).drop (done.flatMap enc).length = List.map V.int (enc (n, tl) ++ rest.flatMap enc) := by
          have := List.drop_left (l₁ := List.map V.int (done.flatMap enc)) (l₂ := List.map V.int (enc (n, tl) ++ rest.flatMap enc))
          rw [List.length_map] at this
          exact this
        rw [e]
      have hty : ∀ H' : Hp, Same H1 H' → tyV K "list" (.ref F) H' := fun H' q => by
        obtain ⟨ts, p1, _⟩ := hP
        exact Or.inl ⟨rfl, _, Or.inl (Or.inl (q _ _ p1))⟩
      refine ⟨_, rfl, rfl, _, rfl, ?_⟩
      refine ite2 (fun g0 => ?_) (fun g0 => ?_)
      · have n0 : n = 0 := by
          have := V.int.inj (of_decide_eq_true g0)
          omega
        subst n0
        have ee : enc (0, tl) = 0 :: (tl.length : Int) :: tl := if_pos rfl
        have hmany : ((((done ++ (0, tl) :: rest).flatMap enc).map V.int)[(done.flatMap enc).length + 1]?) = some (.int (tl.length : Nat)) := by
          have := congrArg (fun l : List V => l[0]?) (dr 1)
          rw [List.getElem?_drop, Nat.add_zero] at this
          rw [this, ee]
          rfl
        refine ⟨_, rfl, _, _, rfl, rfl, _, rfl, _, rfl, _, _, rfl, rfl, a, _, _, _, rfl, rfl, ha1, at_of (j := (done.flatMap enc).length + 1) rfl hmany, ?_⟩
        refine ⟨_, rfl, hty H1 (Same.refl H1), _, rfl, _, rfl, _, rfl, _, rfl, _, rfl, _, rfl, _, _, rfl, rfl, _, rfl, a, _, rfl, ha1, fun y hy => ⟨by show 2 ≤ sizeLine; exact line_of (by decide), fun t ht => ?_⟩⟩
        obtain ⟨xs, x1, x2, m', x3, d2, r2, x4, x5, x6, x7, x8⟩ := mk ((done.flatMap enc).length + 2) (by rw [ee, List.length_append, List.length_cons, List.length_cons]; omega) (by rw [dr, ee]; rfl) y t _ hy rfl ht
        refine ⟨F, xs, _, rfl, rfl, x1, x2, _, rfl, _, rfl, _, _, rfl, rfl, m', x3, d2, r2, some (.int ((0 : Nat) : Int)), some (.int (((done.flatMap enc).length : Nat) + 2)), some (.int (tl.length : Nat)), ?_, x5, x6, x7, x8⟩
        rw [← x4]
        rfl
      · have n0 : n ≠ 0 := fun z => g0 (decide_eq_true (by rw [z]; rfl))
        have ee : enc (n, tl) = (n : Int) :: tl := if_neg n0
        have ez := (hz.symm.trans (hwe.size n0))
        cases Option.some.inj ez
        refine ⟨_, rfl, hty H1 (Same.refl H1), _, rfl, _, rfl, _, rfl, _, rfl, _, rfl, _, rfl, _, _, rfl, rfl, _, rfl, a, _, rfl, ha1, fun y hy => ⟨by show 2 ≤ sizeLine; exact line_of (by decide), fun t ht => ?_⟩⟩
        obtain ⟨xs, x1, x2, m', x3, d2, r2, x4, x5, x6, x7, x8⟩ := mk ((done.flatMap enc).length + 1) (by rw [ee, List.length_append, List.length_cons]; omega) (by rw [dr, ee]; rfl) y t _ hy rfl ht
        refine ⟨F, xs, _, rfl, rfl, x1, x2, _, rfl, _, rfl, _, _, rfl, rfl, m', x3, d2, r2, some (.int (n : Nat)), some (.int (((done.flatMap enc).length : Nat) + 1)), some (.int (tl.length : Nat)), ?_, x5, x6, x7, x8⟩
        rw [← x4]
        rfl
  · have : rest = [] := rest_nil (by
      have h1 : ¬ (((done.flatMap enc).length : Nat) : Int) < (((done.flatMap enc).length + (rest.flatMap enc).length : Nat) : Int) := fun z => g (decide_eq_true z)
      omega)
    subst this
    rw [List.append_nil] at k
    exact ⟨_, rfl, k F H1 s1 hF hP⟩
end Oc
namespace Oc
open PySem PySem.Spec PyProof.Rows L2
variable {P : Program} {w : World} {K : PySem.W.Frag} {mg : Str → Option Value} {base : Heap} {CD C fI : Addr}
/-! ## answer -/
theorem CalAt.mono {cx : CXT} {j k : Nat} {f : Addr} {sp : Sp} (c : CalAt P w K mg base cx j f sp) (h : j ≤ k) : CalAt P w K mg base cx k f sp := by
  obtain ⟨fd, ps, h1, h2, h3⟩ := c.ex
  exact ⟨fd, ps, h1, h2.mono h, h3⟩
/-- the nine deeds -/
structure Deeds (P : Program) (w : World) (K : PySem.W.Frag) (mg : Str → Option Value) (base : Heap) (CD C : Addr) : Prop where
  ex : ∃ fs : List Addr, Ct K mg "DEEDS" (fs.map V.ref) ∧ ∀ n, n ≤ 8 → ∃ f, fs[n]? = some f ∧ ∃ Told, CalAt P w K mg base (L2.CX P w) 6 f (spDeed CD C n Told) ∧ ∀ tl, Well (n, tl) → Told tl
def spAnswer (CD : Addr) : Sp := fun vs H Q _ => ∃ (N : Addr → Prop) (a t : Addr) (s : List Ti01.Cell) (n : Nat) (tl : List Int), vs = [.ref a, .int n, .ref t] ∧ (∀ b, H b = none → N b) ∧ DeskAt CD N H a s ∧ Il H t tl ∧ Well (n, tl) ∧
  (∀ p H', But a H H' → H p = none → DeskAt CD N H' a (Ti01Neutral.step s (ask (n, tl))).1 → Il H' p (Ti01Neutral.step s (ask (n, tl))).2 → Q (.ref p) H')
theorem sc_answer : FnScope ["desk", "word", "told", "deed", "e"] ["desk", "word", "told"] (defScope (top 59)) := ⟨rfl, rfl, rfl, by decide +kernel, rfl, by decide +kernel, by decide +kernel⟩
theorem cal_answer (D : Df K mg "answer" (top 59)) (DS : Deeds P w K mg base CD C) (TR : PySem.RefX.RefTxt K mg C fI) : Cal P w K mg base CX0 7 "answer" (spAnswer CD) := by
  obtain ⟨fs, c_DEEDS, hfs⟩ := DS.ex
  refine D.ok sc_answer (fun vs H Q E h => by obtain ⟨_, _, _, _, _, _, rfl, _⟩ := h; rfl) (fun _ _ _ _ _ _ us hl => match us, hl with | [_, _, _], _ => rfl) (fun f cdv A outer s H vs Q E hr h => ?_)
  refine ⟨_, pss_cons (ps_set (i := 3) sc_answer.nd rfl (Or.inl rfl) (pe_ix (r := rIxT K) ix_tup (pe_ct c_DEEDS (by exact rfl)) (pv 1) (fun _ _ => rfl)))
    (pss_one (ps_try_as (i := 4) (tb := fun W => tRet (tDyn 3 (fun f sp => CalAt P w K mg base (L2.CX P w) 6 f sp) (WE W) (tCons (tVar 0) (tCons (tVar 2) tNil)))) (ts := fun a cls d => tRet (tLst (tCons (tNumRef C a cls d (tVar 4)) tNil))) (Wout := fun _ _ _ _ => False)
      rfl rfl sc_answer.nd rfl rfl ⟨rfl, by decide, Or.inl TR.gC⟩ takes0
      (fun W pn xe tk _ => pss_one (ps_ret (by exact (pe_dyn (R := fun f sp => CalAt P w K mg base (L2.CX P w) 6 f sp) (fun _ _ h => h) hr (by decide) rfl (Or.inl rfl) (fun σ => passAt tk σ) (by exact (pa_cons (pv 0) (pa_cons (pv 2) pa_nil)))))))
      (fun a oe cls d pn hz hf => pss_one (ps_ret (pe_lst (by exact (pa_cons (pe_numRef TR hz hf (pv 4)) pa_nil))))))), ?_⟩
  obtain ⟨N, a, t, s', n, tl, rfl, hN, hd, ht, hw, k⟩ := h
  obtain ⟨fa, hfa, Told, hC, hT⟩ := hfs n hw.le
  refine fun b hb => ⟨_, rfl, b, _, _, _, rfl, rfl, hb _, at_of (j := n) rfl (by rw [List.getElem?_map, hfa]; rfl), ?_⟩
  refine ⟨fa, _, rfl, hC, _, rfl, _, rfl, N, a, t, s', tl, rfl, hN, hd, ht, hT tl hw, ⟨fun p H' q1 q2 q3 q4 => k p H' q1 q2 q3 q4, fun d H' z q1 q2 q3 q4 => ?_⟩⟩
  refine ⟨true, TR.te, fun _ a0 _ => ?_, fun q => Bool.noConfusion q⟩
  refine ⟨_, rfl, rfl, rfl, d, _, rfl, q2, by show 1 ≤ sizeLine; exact line_of (by decide), fun p hp => ?_⟩
  have s1 := same_new (H := H') (o := .lst [.int z]) hp
  refine k p _ (fun b o hb hne => s1 _ _ (q1 _ _ hb hne)) ?_ (q3.same s1) ?_
  · cases e : H p with
    | none => rfl
    | some o =>
      by_cases z : p = a
      · subst z
        obtain ⟨_, _, _, z1, _⟩ := q3.ex
        rw [hp] at z1
        cases z1
      · rw [q1 _ _ e z] at hp
        cases hp
  · have q5 : (Ti01Neutral.step s' (ask (n, tl))).2 = [z] := q4
    rw [q5]
    exact upd_same
end Oc
namespace Oc
open PySem PySem.Spec PyProof.Rows L2
variable {P : Program} {w : World} {K : PySem.W.Frag} {mg : Str → Option Value} {base : Heap} {CD C fI : Addr}
/-! ## answers -/
theorem DeskAt.fresh {N : Addr → Prop} {H : Hp} {a F : Addr} {s : List Ti01.Cell} (h : DeskAt CD N H a s) (hF : H F = none) : DeskAt CD (fun b => b ≠ F) H a s := by
  obtain ⟨dx, q, e, h1, ⟨ts, h2, h2'⟩, h3, _⟩ := h.ex
  exact ⟨⟨dx, q, e, h1, ⟨ts, h2, h2'⟩, h3, ne_of_none h2 hF, ne_of_none h3 hF⟩, h.good, h.few⟩
theorem DeskAt.put {H : Hp} {a F : Addr} {s : List Ti01.Cell} {xs : List V} {o : HO} (h : DeskAt CD (fun b => b ≠ F) H a s) (hF : H F = some (.lst xs)) : DeskAt CD (fun b => b ≠ F) (upd H F o) a s := by
  obtain ⟨dx, q, e, h1, h2, h3, h4, h5⟩ := h.ex
  exact ⟨⟨dx, q, e, (upd_ne (ne_of h1 hF (fun z => nomatch z))).trans h1, Rw.put h2 hF h4, Il.put h3 h5, h4, h5⟩, h.good, h.few⟩
theorem Pk.put {N : Addr → Prop} {H : Hp} {p F : Addr} {cs : List (Nat × List Int)} {xs : List V} {o : HO} (h : Pk N H p cs) (hF : H F = some (.lst xs)) (pF : p ≠ F) (nF : ∀ u, N u → u ≠ F) : Pk N (upd H F o) p cs := by
  obtain ⟨ts, h1, h2⟩ := h
  exact ⟨ts, (upd_ne pF).trans h1, Paired.mapP h2 fun t c ⟨u, q1, q2, q3⟩ => ⟨u, (upd_ne (ne_of q1 hF (fun z => nomatch z))).trans q1, (upd_ne (nF _ q3)).trans q2, q3⟩⟩
def spAnswers (K : PySem.W.Frag) : Sp := fun vs H Q _ => ∃ (a : Addr) (l : List Int), vs = [.ref a] ∧ SqL K H a (l.map V.int) ∧ PyTi01.answers_asked l = true ∧ ∀ (H' : Hp) (p : Addr), H' p = some (.lst ((PyTi01.answers l).map V.int)) → Q (.ref p) H'
theorem told_cons (a : List Int) (r : List (List Int)) : PyFlat.told (a :: r) = (a.length : Int) :: a ++ PyFlat.told r := by
  unfold PyFlat.told
  rw [List.flatMap_cons]
theorem app_in (fd A B : List Int) (z : Int) : fd ++ [z] ++ A ++ B = fd ++ (z :: A ++ B) := by simp
theorem sc_answers : FnScope ["calls", "desk", "found", "word", "told", "numbers"] ["calls"] (defScope (top 60)) := ⟨rfl, rfl, rfl, by decide +kernel, rfl, by decide +kernel, by decide +kernel⟩
theorem ok_answers {f fD : Addr} {fd fdD : FuncData} (F : Fun K "answers" "answers" (top 60) f fd) (G : Glb K mg) (DK : DkTxt K CD) (gD : mg "Desk" = some (.ref CD)) (MD : Mk K CD fD) (FD : Fun K "__init__" "Desk.__init__" sInit fD fdD) (bD : Binds K fdD ["self"] [])
    (c_split_calls : Cal P w K mg base CX0 1 "split_calls" (spSplit K)) (c_answer : Cal P w K mg base CX0 7 "answer" (spAnswer CD)) : FnOk P w K mg base CX0 8 f fd ["calls"] (spAnswers K) := by
  have GD : FnOk P w K mg base CX0 1 fD fdD ["self"] (spInit CD) := ok_init FD DK
  refine F.ok sc_answers (fun vs H Q E h => by obtain ⟨_, _, rfl, _⟩ := h; rfl) (fun cdv A outer s H vs Q E hr h => ?_)
  refine ⟨_, (pss_cons (ps_set (i := 1) sc_answers.nd rfl (Or.inl rfl) (pe_make0 MD GD (hr.mono (by decide)) rfl gD bD .nil pass0))
      (pss_cons (ps_set (i := 2) sc_answers.nd rfl (Or.inl rfl) (pe_lst pa_nil))
      (pss_cons (ps_for PassesOwn.never rfl (pi_list (pe_c c_split_calls hr (by decide) rfl (by exact (pa_cons (pv 0) pa_nil)))) (pg_tup rfl (pgs_cons (pg_name (i := 3) sc_answers.nd rfl (Or.inl rfl)) (pgs_cons (pg_name (i := 4) sc_answers.nd rfl (Or.inl rfl)) pgs_nil))) (pss_cons (ps_set (i := 5) sc_answers.nd rfl (Or.inl rfl) (pe_c c_answer hr (by decide) rfl (by exact (pa_cons (pv 1) (pa_cons (pv 3) (pa_cons (pv 4) pa_nil))))))
      (pss_cons (ps_expr (pe_bm PySem.F.plainAttrs_list PySem.F.slot_list_append PySem.F.type_list_append mt_append (pv 2) (by exact (pa_cons (pe_callB call_len_seq rfl G.b_len PySem.boot_len (by exact (pa_cons (pv 5) pa_nil))) pa_nil))))
      (pss_one (ps_expr (pe_bm PySem.F.plainAttrs_list PySem.F.slot_list_extend PySem.F.type_list_extend mt_extend (pv 2) (by exact (pa_cons (pv 5) pa_nil))))))))
      (pss_one (ps_ret (pv 2)))))), ?_⟩
  obtain ⟨a, l, rfl, ha, hask, k⟩ := h
  obtain ⟨es, rfl, hw, hl, hans, hlen⟩ := asked_in hask
  rw [hans] at k hlen
  refine fun x dx hx hdx hne => ⟨x, dx, rfl, upd_same, fun H1 keep hd => ⟨rfl, ?_⟩⟩
  have s1 : Same H H1 := fun b o e => keep b o (by
    rw [upd_ne (ne_of_none e hx), upd_ne (ne_of_none e hdx)]
    exact e) (ne_of_none e hx)
  refine ⟨by show 0 ≤ sizeLine; exact Nat.zero_le _, fun F hF => ?_⟩
  have s2 := same_new (H := H1) (o := .lst []) hF
  have hd2 := (hd.fresh hF).same s2
  refine ⟨_, rfl, a, es, rfl, (s1.trans s2).seq ha, hw, hl, fun p H2 s3 hp hP => ?_⟩
  have hP0 := hP
  obtain ⟨ts, p1, p2⟩ := hP0
  have hlenT : ts.length = es.length := Paired.length p2
  have F2 : H2 F = some (.lst []) := s3 _ _ upd_same
  have pF : p ≠ F := Ne.symm (ne_of_none upd_same hp)
  refine ⟨p, rfl, ⟨_, .of p1⟩, for_list (K := K) (a := p) (xs := ts.map V.ref) (fun i σ H' => ∃ (s' : List Ti01.Cell) (fd : List Int) (u v z : Option V), σ = [some (.ref a), some (.ref x), some (.ref F), u, v, z] ∧ DeskAt CD (fun b => b ≠ F) H' x s' ∧ Il H' F fd ∧
      Pk (fun u => upd H1 F (.lst []) u = none ∧ u ≠ p) H' p es ∧ H' p = some (.lst (ts.map V.ref)) ∧ fd ++ PyFlat.told (runs s' (es.drop i)) = PyFlat.told (runs [(0, 0)] es))
    ⟨[(0, 0)], [], none, none, none, rfl, hd2.same s3, F2, hP, p1, rfl⟩ (fun i σ H' _ ⟨_, _, _, _, _, _, _, _, _, q, _⟩ => .of q) ?_ ?_⟩
  · rintro i y σ H3 hi ⟨s', fd, u, v, z, rfl, d3, f3, ⟨ts', q1, q2⟩, q3, ht⟩
    have eT : ts' = ts := by
      have := q1.symm.trans q3
      have h2 : ts'.map V.ref = ts.map V.ref := by
        have := HO.lst.inj (Option.some.inj this)
        exact this
      exact List.map_inj_right (fun _ _ e => V.ref.inj e) |>.mp h2
    subst eT
    obtain ⟨t, hti, rfl⟩ := ref_at hi
    obtain ⟨⟨n, tl⟩, he, uu, t1, t2, t3⟩ := paired_of_at q2 hti
    have hwe := hw _ (List.mem_of_getElem? he)
    have er : es.drop i = (n, tl) :: es.drop (i + 1) := by
      obtain ⟨hh, e2⟩ := List.getElem?_eq_some_iff.mp he
      rw [List.drop_eq_getElem_cons hh, e2]
    rw [er, runs_cons, told_cons] at ht
    have hN : ∀ b, H3 b = none → b ≠ F := fun b hb z => by
      rw [z, f3] at hb
      cases hb
    refine ⟨t, _, rfl, .of t1, rfl, _, _, rfl, _, _, rfl, rfl, ?_⟩
    refine ⟨_, rfl, _, rfl, _, rfl, (fun b => b ≠ F), x, uu, s', n, tl, rfl, hN, d3, t2, hwe, fun r H4 keep4 hr4 d4 i4 => ?_⟩
    obtain ⟨dx3, sq3, se3, x3, _⟩ := d3.ex
    have Fx : F ≠ x := ne_of f3 x3 (fun z => nomatch z)
    have f4 : Il H4 F fd := keep4 _ _ f3 Fx
    have P4 : Pk (fun u => upd H1 F (.lst []) u = none ∧ u ≠ p) H4 p es := Pk.but ⟨ts', q1, q2⟩ keep4 x3
    have p4 : H4 p = some (.lst (ts'.map V.ref)) := keep4 _ _ q3 (ne_of q3 x3 (fun z => nomatch z))
    have rF : r ≠ F := hN r hr4
    have nF : ∀ u, (upd H1 F (.lst []) u = none ∧ u ≠ p) → u ≠ F := fun u q z => by
      rw [z, upd_same] at q
      cases q.1
    have hle : fd.length + 1 + (Ti01Neutral.step s' (ask (n, tl))).2.length ≤ 10000000 := by
      rw [← ht, List.length_append, List.length_append, List.length_cons] at hlen
      omega
    refine ⟨_, rfl, Il.lst f4, _, rfl, r, _, rfl, .inl i4.sq, F, _, _, rfl, rfl, f4, ?_, ?_⟩
    · rw [List.length_map]
      exact line_lt (by omega)
    rw [List.length_map]
    have f5 : Il (upd H4 F (.lst (fd.map V.int ++ [V.int (((Ti01Neutral.step s' (ask (n, tl))).2.length : Nat) : Int)]))) F (fd ++ [((Ti01Neutral.step s' (ask (n, tl))).2.length : Int)]) := il_cat (ns := fd) (ms := [((Ti01Neutral.step s' (ask (n, tl))).2.length : Int)])
    have i5 := Il.put (o := .lst (fd.map V.int ++ [V.int (((Ti01Neutral.step s' (ask (n, tl))).2.length : Nat) : Int)])) i4 rF
    have d5 := DeskAt.put (o := .lst (fd.map V.int ++ [V.int (((Ti01Neutral.step s' (ask (n, tl))).2.length : Nat) : Int)])) d4 f4
    have P5 := Pk.put (o := .lst (fd.map V.int ++ [V.int (((Ti01Neutral.step s' (ask (n, tl))).2.length : Nat) : Int)])) P4 f4 pF nF
    have p5 : upd H4 F (.lst (fd.map V.int ++ [V.int (((Ti01Neutral.step s' (ask (n, tl))).2.length : Nat) : Int)])) p = some (.lst (ts'.map V.ref)) := (upd_ne pF).trans p4
    refine ⟨_, rfl, Il.lst f5, _, rfl, F, r, _, _, rfl, rfl, f5, i5, ?_, ?_⟩
    · rw [List.length_map, List.length_map, List.length_append, List.length_singleton]
      exact line_of (by omega)
    refine ⟨(Ti01Neutral.step s' (ask (n, tl))).1, fd ++ [((Ti01Neutral.step s' (ask (n, tl))).2.length : Int)] ++ (Ti01Neutral.step s' (ask (n, tl))).2, _, _, _, rfl, DeskAt.put d5 f5, il_cat, Pk.put P5 f5 pF nF, (upd_ne pF).trans p5, ?_⟩
    exact (app_in _ _ _ _).trans ht
  · rintro σ H3 ⟨s', fd, u, v, z, rfl, d3, f3, _, _, ht⟩
    rw [List.length_map, hlenT, List.drop_length] at ht
    have e : fd = PyFlat.told (runs [(0, 0)] es) := by
      rw [← ht]
      exact (List.append_nil fd).symm
    rw [e] at f3
    exact ⟨_, rfl, k H3 F f3⟩
end Oc
namespace Oc
open PySem PySem.Spec PyProof.Rows L2
/-! ## the end: what the top has written -/
theorem exm_self {K : PySem.W.Frag} {S : Addr} (h1 : PySem.W.subIn K (.ref S) (.type "BaseException") = some true) (h2 : PySem.W.isClsIn K S = true) (h3 : PySem.W.typeIn K (.ref S) = some (.type "type")) (h4 : PySem.W.subIn K (.ref S) (.ref S) = some true) :
    PySem.W.exmOne K (.ref S) (.ref S) = some true := by
  have e1 : (PySem.W.subIn K (.ref S) (.type "BaseException") == some true) = true := by rw [h1] <;> rfl
  have e2 : ((PySem.W.clsIn K S).isSome && PySem.W.typeIn K (.ref S) == some (.type "type")) = true := by
    have h2' : (PySem.W.clsIn K S).isSome = true := h2
    rw [h2', h3] <;> rfl
  show (if (PySem.W.subIn K (.ref S) (.type "BaseException") == some true) = true then (if ((PySem.W.clsIn K S).isSome && PySem.W.typeIn K (.ref S) == some (.type "type")) = true then PySem.W.subIn K (.ref S) (.ref S) else none) else none) = some true
  rw [if_pos e1, if_pos e2]
  exact h4
theorem sqT_of {K : PySem.W.Frag} {y : Addr} {us : Array Value} {xs : List V} {dd : Option Addr} {n : Nat} {sl : Array (Option Value)} (h : K.lookup y = some ⟨.type "tuple", dd, .seq us n, sl⟩) (hz : us.size ≤ sizeLine) (r : Vals xs us.toList) : ∀ H, SqT K H y xs :=
  fun H => .inr ⟨_, us, n, h, rfl, rfl, hz, r⟩
theorem well_s {tl : List Int} (h : Well (0, tl)) : TS tl := by
  rcases h with h | ⟨h, h2⟩ | ⟨h, h2⟩
  · exact h.2
  · dsimp only at h
    omega
  · dsimp only at h
    omega
theorem well_0 {n : Nat} {tl : List Int} (hn : n = 1 ∨ n = 2 ∨ n = 3 ∨ n = 5 ∨ n = 8) (h : Well (n, tl)) : T0 tl := by
  rcases h with ⟨h, h2⟩ | ⟨h, h2⟩ | ⟨h, h2⟩
  · dsimp only at h
    omega
  · exact h2
  · dsimp only at h
    omega
theorem well_3 {n : Nat} {tl : List Int} (hn : n = 4 ∨ n = 6 ∨ n = 7) (h : Well (n, tl)) : T3 tl := by
  rcases h with ⟨h, h2⟩ | ⟨h, h2⟩ | ⟨h, h2⟩
  · dsimp only at h
    omega
  · dsimp only at h
    omega
  · exact h2
theorem df_mk {K : PySem.W.Frag} {h : Heap} {mg : Str → Option Value} (X : K.In h) (G : h.Ns mainGlobals mg) {x : Str} {st : Stmt} {f : Addr} {oc : Value} {od an : Option Addr} {sl : Array (Option Value)} {kV dc pm cd ct : Value}
    (a : PySem.W.nsIn K mainGlobals x = some (some (.ref f))) (l : K.lookup f = some ⟨oc, od, .func (PySem.W.fnOf x x (defArgs st) (defBody st) (defScope st) .none kV dc pm an cd ct), sl⟩) (c : PySem.W.codeIn K cd x = true) (k : PySem.W.keepIn K (.ref f) = true) : Df K mg x st :=
  ⟨f, _, PySem.W.mg_of X G a, fun_mk (st := st) l c k⟩
theorem all_mk {P : Program} {w : World} {K : PySem.W.Frag} {h : Heap} {mg : Str → Option Value} {fa : Addr} (X : K.In h) (G : h.Ns mainGlobals mg) (hfa : mg "answers" = some (.ref fa))
    {od_beside an_beside : Option Addr} {sl_beside : Array (Option Value)} {oc_beside kV_beside dc_beside pm_beside cd_beside ct_beside : Value} {f_beside : Addr}
    {od_square_at an_square_at : Option Addr} {sl_square_at : Array (Option Value)} {oc_square_at kV_square_at dc_square_at pm_square_at cd_square_at ct_square_at : Value} {f_square_at : Addr}
    {od_next_way an_next_way : Option Addr} {sl_next_way : Array (Option Value)} {oc_next_way kV_next_way dc_next_way pm_next_way cd_next_way ct_next_way : Value} {f_next_way : Addr}
    {od_turned an_turned : Option Addr} {sl_turned : Array (Option Value)} {oc_turned kV_turned dc_turned pm_turned cd_turned ct_turned : Value} {f_turned : Addr}
    {od_rest_of an_rest_of : Option Addr} {sl_rest_of : Array (Option Value)} {oc_rest_of kV_rest_of dc_rest_of pm_rest_of cd_rest_of ct_rest_of : Value} {f_rest_of : Addr}
    {od_gone_back an_gone_back : Option Addr} {sl_gone_back : Array (Option Value)} {oc_gone_back kV_gone_back dc_gone_back pm_gone_back cd_gone_back ct_gone_back : Value} {f_gone_back : Addr}
    {od_parts_of an_parts_of : Option Addr} {sl_parts_of : Array (Option Value)} {oc_parts_of kV_parts_of dc_parts_of pm_parts_of cd_parts_of ct_parts_of : Value} {f_parts_of : Addr}
    {od_is_cut an_is_cut : Option Addr} {sl_is_cut : Array (Option Value)} {oc_is_cut kV_is_cut dc_is_cut pm_is_cut cd_is_cut ct_is_cut : Value} {f_is_cut : Addr}
    {od_cuts_of an_cuts_of : Option Addr} {sl_cuts_of : Array (Option Value)} {oc_cuts_of kV_cuts_of dc_cuts_of pm_cuts_of cd_cuts_of ct_cuts_of : Value} {f_cuts_of : Addr}
    {od_come_along an_come_along : Option Addr} {sl_come_along : Array (Option Value)} {oc_come_along kV_come_along dc_come_along pm_come_along cd_come_along ct_come_along : Value} {f_come_along : Addr}
    {od_moves_of an_moves_of : Option Addr} {sl_moves_of : Array (Option Value)} {oc_moves_of kV_moves_of dc_moves_of pm_moves_of cd_moves_of ct_moves_of : Value} {f_moves_of : Addr}
    {od_sides_of an_sides_of : Option Addr} {sl_sides_of : Array (Option Value)} {oc_sides_of kV_sides_of dc_sides_of pm_sides_of cd_sides_of ct_sides_of : Value} {f_sides_of : Addr}
    {od_first_corner an_first_corner : Option Addr} {sl_first_corner : Array (Option Value)} {oc_first_corner kV_first_corner dc_first_corner pm_first_corner cd_first_corner ct_first_corner : Value} {f_first_corner : Addr}
    {od_edge_of an_edge_of : Option Addr} {sl_edge_of : Array (Option Value)} {oc_edge_of kV_edge_of dc_edge_of pm_edge_of cd_edge_of ct_edge_of : Value} {f_edge_of : Addr}
    {od_covers an_covers : Option Addr} {sl_covers : Array (Option Value)} {oc_covers kV_covers dc_covers pm_covers cd_covers ct_covers : Value} {f_covers : Addr}
    {od_grids_of an_grids_of : Option Addr} {sl_grids_of : Array (Option Value)} {oc_grids_of kV_grids_of dc_grids_of pm_grids_of cd_grids_of ct_grids_of : Value} {f_grids_of : Addr}
    {od_lying_on an_lying_on : Option Addr} {sl_lying_on : Array (Option Value)} {oc_lying_on kV_lying_on dc_lying_on pm_lying_on cd_lying_on ct_lying_on : Value} {f_lying_on : Addr}
    {od_is_made_of an_is_made_of : Option Addr} {sl_is_made_of : Array (Option Value)} {oc_is_made_of kV_is_made_of dc_is_made_of pm_is_made_of cd_is_made_of ct_is_made_of : Value} {f_is_made_of : Addr}
    {od_grid_made_of an_grid_made_of : Option Addr} {sl_grid_made_of : Array (Option Value)} {oc_grid_made_of kV_grid_made_of dc_grid_made_of pm_grid_made_of cd_grid_made_of ct_grid_made_of : Value} {f_grid_made_of : Addr}
    {od_squares_about an_squares_about : Option Addr} {sl_squares_about : Array (Option Value)} {oc_squares_about kV_squares_about dc_squares_about pm_squares_about cd_squares_about ct_squares_about : Value} {f_squares_about : Addr}
    {od_reached_in an_reached_in : Option Addr} {sl_reached_in : Array (Option Value)} {oc_reached_in kV_reached_in dc_reached_in pm_reached_in cd_reached_in ct_reached_in : Value} {f_reached_in : Addr}
    {od_reached an_reached : Option Addr} {sl_reached : Array (Option Value)} {oc_reached kV_reached dc_reached pm_reached cd_reached ct_reached : Value} {f_reached : Addr}
    {od_look_shape an_look_shape : Option Addr} {sl_look_shape : Array (Option Value)} {oc_look_shape kV_look_shape dc_look_shape pm_look_shape cd_look_shape ct_look_shape : Value} {f_look_shape : Addr}
    {od_squares_in an_squares_in : Option Addr} {sl_squares_in : Array (Option Value)} {oc_squares_in kV_squares_in dc_squares_in pm_squares_in cd_squares_in ct_squares_in : Value} {f_squares_in : Addr}
    {od_told_in_order an_told_in_order : Option Addr} {sl_told_in_order : Array (Option Value)} {oc_told_in_order kV_told_in_order dc_told_in_order pm_told_in_order cd_told_in_order ct_told_in_order : Value} {f_told_in_order : Addr}
    {od_look_cut an_look_cut : Option Addr} {sl_look_cut : Array (Option Value)} {oc_look_cut kV_look_cut dc_look_cut pm_look_cut cd_look_cut ct_look_cut : Value} {f_look_cut : Addr}
    {od_cut_moves an_cut_moves : Option Addr} {sl_cut_moves : Array (Option Value)} {oc_cut_moves kV_cut_moves dc_cut_moves pm_cut_moves cd_cut_moves ct_cut_moves : Value} {f_cut_moves : Addr}
    {od_set_shape an_set_shape : Option Addr} {sl_set_shape : Array (Option Value)} {oc_set_shape kV_set_shape dc_set_shape pm_set_shape cd_set_shape ct_set_shape : Value} {f_set_shape : Addr}
    {od_tell_edge an_tell_edge : Option Addr} {sl_tell_edge : Array (Option Value)} {oc_tell_edge kV_tell_edge dc_tell_edge pm_tell_edge cd_tell_edge ct_tell_edge : Value} {f_tell_edge : Addr}
    {od_tell_cut an_tell_cut : Option Addr} {sl_tell_cut : Array (Option Value)} {oc_tell_cut kV_tell_cut dc_tell_cut pm_tell_cut cd_tell_cut ct_tell_cut : Value} {f_tell_cut : Addr}
    {od_tell_cuts an_tell_cuts : Option Addr} {sl_tell_cuts : Array (Option Value)} {oc_tell_cuts kV_tell_cuts dc_tell_cuts pm_tell_cuts cd_tell_cuts ct_tell_cuts : Value} {f_tell_cuts : Addr}
    {od_tell_moves an_tell_moves : Option Addr} {sl_tell_moves : Array (Option Value)} {oc_tell_moves kV_tell_moves dc_tell_moves pm_tell_moves cd_tell_moves ct_tell_moves : Value} {f_tell_moves : Addr}
    {od_tell_grids an_tell_grids : Option Addr} {sl_tell_grids : Array (Option Value)} {oc_tell_grids kV_tell_grids dc_tell_grids pm_tell_grids cd_tell_grids ct_tell_grids : Value} {f_tell_grids : Addr}
    {od_tell_on an_tell_on : Option Addr} {sl_tell_on : Array (Option Value)} {oc_tell_on kV_tell_on dc_tell_on pm_tell_on cd_tell_on ct_tell_on : Value} {f_tell_on : Addr}
    {od_tell_grid an_tell_grid : Option Addr} {sl_tell_grid : Array (Option Value)} {oc_tell_grid kV_tell_grid dc_tell_grid pm_tell_grid cd_tell_grid ct_tell_grid : Value} {f_tell_grid : Addr}
    {od_tell_tiles an_tell_tiles : Option Addr} {sl_tell_tiles : Array (Option Value)} {oc_tell_tiles kV_tell_tiles dc_tell_tiles pm_tell_tiles cd_tell_tiles ct_tell_tiles : Value} {f_tell_tiles : Addr}
    {od_split_calls an_split_calls : Option Addr} {sl_split_calls : Array (Option Value)} {oc_split_calls kV_split_calls dc_split_calls pm_split_calls cd_split_calls ct_split_calls : Value} {f_split_calls : Addr}
    {od_answer an_answer : Option Addr} {sl_answer : Array (Option Value)} {oc_answer kV_answer dc_answer pm_answer cd_answer ct_answer : Value} {f_answer : Addr}
    {od_answers an_answers : Option Addr} {sl_answers : Array (Option Value)} {oc_answers kV_answers dc_answers pm_answers cd_answers ct_answers : Value} {f_answers : Addr}
    {CD : Addr}
    {od_desk an_desk : Option Addr} {sl_desk : Array (Option Value)} {oc_desk kV_desk dc_desk pm_desk cd_desk ct_desk : Value} {f_desk : Addr}
    {C f_ref : Addr} {nm q : Str} {N : Addr} {bs : List Value} {sn : List Str} {sub : List Value} {ab : Bool} {col : Option Bool} {dd : Option Addr} {m0 m1 m2 m3 m5 : Option Value} {odR anR : Option Addr} {slR : Array (Option Value)} {ocR dcR pmR cdR ctR : Value}
    {t_NOT_SO : Tok}
    {t_NO_GRID : Tok}
    {t_NO_CUT : Tok}
    {t_NO_SHAPE : Tok}
    {t_MOST_SQUARES : Tok}
    {t_LAST : Tok}
    {t_MOST_FAR : Tok}
    {t_SHAPE : Tok}
    {y_STEPS : Addr}
    {y_STEPS_0 y_STEPS_1 y_STEPS_2 y_STEPS_3 : Addr}
    {d_STEPS : Option Addr} {o_STEPS : Nat} {s_STEPS : Array (Option Value)}
    {p_STEPS_0 q_STEPS_0 : Tok}
    {d_STEPS_0 : Option Addr} {o_STEPS_0 : Nat} {s_STEPS_0 : Array (Option Value)}
    {p_STEPS_1 q_STEPS_1 : Tok}
    {d_STEPS_1 : Option Addr} {o_STEPS_1 : Nat} {s_STEPS_1 : Array (Option Value)}
    {p_STEPS_2 q_STEPS_2 : Tok}
    {d_STEPS_2 : Option Addr} {o_STEPS_2 : Nat} {s_STEPS_2 : Array (Option Value)}
    {p_STEPS_3 q_STEPS_3 : Tok}
    {d_STEPS_3 : Option Addr} {o_STEPS_3 : Nat} {s_STEPS_3 : Array (Option Value)}
    {y_AHEAD_LEFT : Addr}
    {y_AHEAD_LEFT_0 y_AHEAD_LEFT_1 y_AHEAD_LEFT_2 y_AHEAD_LEFT_3 : Addr}
    {d_AHEAD_LEFT : Option Addr} {o_AHEAD_LEFT : Nat} {s_AHEAD_LEFT : Array (Option Value)}
    {p_AHEAD_LEFT_0 q_AHEAD_LEFT_0 : Tok}
    {d_AHEAD_LEFT_0 : Option Addr} {o_AHEAD_LEFT_0 : Nat} {s_AHEAD_LEFT_0 : Array (Option Value)}
    {p_AHEAD_LEFT_1 q_AHEAD_LEFT_1 : Tok}
    {d_AHEAD_LEFT_1 : Option Addr} {o_AHEAD_LEFT_1 : Nat} {s_AHEAD_LEFT_1 : Array (Option Value)}
    {p_AHEAD_LEFT_2 q_AHEAD_LEFT_2 : Tok}
    {d_AHEAD_LEFT_2 : Option Addr} {o_AHEAD_LEFT_2 : Nat} {s_AHEAD_LEFT_2 : Array (Option Value)}
    {p_AHEAD_LEFT_3 q_AHEAD_LEFT_3 : Tok}
    {d_AHEAD_LEFT_3 : Option Addr} {o_AHEAD_LEFT_3 : Nat} {s_AHEAD_LEFT_3 : Array (Option Value)}
    {y_AHEAD_RIGHT : Addr}
    {y_AHEAD_RIGHT_0 y_AHEAD_RIGHT_1 y_AHEAD_RIGHT_2 y_AHEAD_RIGHT_3 : Addr}
    {d_AHEAD_RIGHT : Option Addr} {o_AHEAD_RIGHT : Nat} {s_AHEAD_RIGHT : Array (Option Value)}
    {p_AHEAD_RIGHT_0 q_AHEAD_RIGHT_0 : Tok}
    {d_AHEAD_RIGHT_0 : Option Addr} {o_AHEAD_RIGHT_0 : Nat} {s_AHEAD_RIGHT_0 : Array (Option Value)}
    {p_AHEAD_RIGHT_1 q_AHEAD_RIGHT_1 : Tok}
    {d_AHEAD_RIGHT_1 : Option Addr} {o_AHEAD_RIGHT_1 : Nat} {s_AHEAD_RIGHT_1 : Array (Option Value)}
    {p_AHEAD_RIGHT_2 q_AHEAD_RIGHT_2 : Tok}
    {d_AHEAD_RIGHT_2 : Option Addr} {o_AHEAD_RIGHT_2 : Nat} {s_AHEAD_RIGHT_2 : Array (Option Value)}
    {p_AHEAD_RIGHT_3 q_AHEAD_RIGHT_3 : Tok}
    {d_AHEAD_RIGHT_3 : Option Addr} {o_AHEAD_RIGHT_3 : Nat} {s_AHEAD_RIGHT_3 : Array (Option Value)}
    {y_SIZES : Addr} {p_SIZES_0 p_SIZES_1 p_SIZES_2 p_SIZES_3 p_SIZES_4 p_SIZES_5 p_SIZES_6 p_SIZES_7 p_SIZES_8 : Tok}
    {d_SIZES : Option Addr} {o_SIZES : Nat} {s_SIZES : Array (Option Value)}
    {y_DEEDS : Addr}
    {d_DEEDS : Option Addr} {o_DEEDS : Nat} {s_DEEDS : Array (Option Value)}
    (a_beside : PySem.W.nsIn K mainGlobals "beside" = some (some (.ref f_beside)))
    (l_beside : K.lookup f_beside = some ⟨oc_beside, od_beside, .func (PySem.W.fnOf "beside" "beside" (defArgs (top 11)) (defBody (top 11)) (defScope (top 11)) .none kV_beside dc_beside pm_beside an_beside cd_beside ct_beside), sl_beside⟩)
    (c_beside : PySem.W.codeIn K cd_beside "beside" = true)
    (k_beside : PySem.W.keepIn K (.ref f_beside) = true)
    (a_square_at : PySem.W.nsIn K mainGlobals "square_at" = some (some (.ref f_square_at)))
    (l_square_at : K.lookup f_square_at = some ⟨oc_square_at, od_square_at, .func (PySem.W.fnOf "square_at" "square_at" (defArgs (top 29)) (defBody (top 29)) (defScope (top 29)) .none kV_square_at dc_square_at pm_square_at an_square_at cd_square_at ct_square_at), sl_square_at⟩)
    (c_square_at : PySem.W.codeIn K cd_square_at "square_at" = true)
    (k_square_at : PySem.W.keepIn K (.ref f_square_at) = true)
    (a_next_way : PySem.W.nsIn K mainGlobals "next_way" = some (some (.ref f_next_way)))
    (l_next_way : K.lookup f_next_way = some ⟨oc_next_way, od_next_way, .func (PySem.W.fnOf "next_way" "next_way" (defArgs (top 30)) (defBody (top 30)) (defScope (top 30)) .none kV_next_way dc_next_way pm_next_way an_next_way cd_next_way ct_next_way), sl_next_way⟩)
    (c_next_way : PySem.W.codeIn K cd_next_way "next_way" = true)
    (k_next_way : PySem.W.keepIn K (.ref f_next_way) = true)
    (a_turned : PySem.W.nsIn K mainGlobals "turned" = some (some (.ref f_turned)))
    (l_turned : K.lookup f_turned = some ⟨oc_turned, od_turned, .func (PySem.W.fnOf "turned" "turned" (defArgs (top 18)) (defBody (top 18)) (defScope (top 18)) .none kV_turned dc_turned pm_turned an_turned cd_turned ct_turned), sl_turned⟩)
    (c_turned : PySem.W.codeIn K cd_turned "turned" = true)
    (k_turned : PySem.W.keepIn K (.ref f_turned) = true)
    (a_rest_of : PySem.W.nsIn K mainGlobals "rest_of" = some (some (.ref f_rest_of)))
    (l_rest_of : K.lookup f_rest_of = some ⟨oc_rest_of, od_rest_of, .func (PySem.W.fnOf "rest_of" "rest_of" (defArgs (top 33)) (defBody (top 33)) (defScope (top 33)) .none kV_rest_of dc_rest_of pm_rest_of an_rest_of cd_rest_of ct_rest_of), sl_rest_of⟩)
    (c_rest_of : PySem.W.codeIn K cd_rest_of "rest_of" = true)
    (k_rest_of : PySem.W.keepIn K (.ref f_rest_of) = true)
    (a_gone_back : PySem.W.nsIn K mainGlobals "gone_back" = some (some (.ref f_gone_back)))
    (l_gone_back : K.lookup f_gone_back = some ⟨oc_gone_back, od_gone_back, .func (PySem.W.fnOf "gone_back" "gone_back" (defArgs (top 17)) (defBody (top 17)) (defScope (top 17)) .none kV_gone_back dc_gone_back pm_gone_back an_gone_back cd_gone_back ct_gone_back), sl_gone_back⟩)
    (c_gone_back : PySem.W.codeIn K cd_gone_back "gone_back" = true)
    (k_gone_back : PySem.W.keepIn K (.ref f_gone_back) = true)
    (a_parts_of : PySem.W.nsIn K mainGlobals "parts_of" = some (some (.ref f_parts_of)))
    (l_parts_of : K.lookup f_parts_of = some ⟨oc_parts_of, od_parts_of, .func (PySem.W.fnOf "parts_of" "parts_of" (defArgs (top 19)) (defBody (top 19)) (defScope (top 19)) .none kV_parts_of dc_parts_of pm_parts_of an_parts_of cd_parts_of ct_parts_of), sl_parts_of⟩)
    (c_parts_of : PySem.W.codeIn K cd_parts_of "parts_of" = true)
    (k_parts_of : PySem.W.keepIn K (.ref f_parts_of) = true)
    (a_is_cut : PySem.W.nsIn K mainGlobals "is_cut" = some (some (.ref f_is_cut)))
    (l_is_cut : K.lookup f_is_cut = some ⟨oc_is_cut, od_is_cut, .func (PySem.W.fnOf "is_cut" "is_cut" (defArgs (top 20)) (defBody (top 20)) (defScope (top 20)) .none kV_is_cut dc_is_cut pm_is_cut an_is_cut cd_is_cut ct_is_cut), sl_is_cut⟩)
    (c_is_cut : PySem.W.codeIn K cd_is_cut "is_cut" = true)
    (k_is_cut : PySem.W.keepIn K (.ref f_is_cut) = true)
    (a_cuts_of : PySem.W.nsIn K mainGlobals "cuts_of" = some (some (.ref f_cuts_of)))
    (l_cuts_of : K.lookup f_cuts_of = some ⟨oc_cuts_of, od_cuts_of, .func (PySem.W.fnOf "cuts_of" "cuts_of" (defArgs (top 21)) (defBody (top 21)) (defScope (top 21)) .none kV_cuts_of dc_cuts_of pm_cuts_of an_cuts_of cd_cuts_of ct_cuts_of), sl_cuts_of⟩)
    (c_cuts_of : PySem.W.codeIn K cd_cuts_of "cuts_of" = true)
    (k_cuts_of : PySem.W.keepIn K (.ref f_cuts_of) = true)
    (a_come_along : PySem.W.nsIn K mainGlobals "come_along" = some (some (.ref f_come_along)))
    (l_come_along : K.lookup f_come_along = some ⟨oc_come_along, od_come_along, .func (PySem.W.fnOf "come_along" "come_along" (defArgs (top 22)) (defBody (top 22)) (defScope (top 22)) .none kV_come_along dc_come_along pm_come_along an_come_along cd_come_along ct_come_along), sl_come_along⟩)
    (c_come_along : PySem.W.codeIn K cd_come_along "come_along" = true)
    (k_come_along : PySem.W.keepIn K (.ref f_come_along) = true)
    (a_moves_of : PySem.W.nsIn K mainGlobals "moves_of" = some (some (.ref f_moves_of)))
    (l_moves_of : K.lookup f_moves_of = some ⟨oc_moves_of, od_moves_of, .func (PySem.W.fnOf "moves_of" "moves_of" (defArgs (top 23)) (defBody (top 23)) (defScope (top 23)) .none kV_moves_of dc_moves_of pm_moves_of an_moves_of cd_moves_of ct_moves_of), sl_moves_of⟩)
    (c_moves_of : PySem.W.codeIn K cd_moves_of "moves_of" = true)
    (k_moves_of : PySem.W.keepIn K (.ref f_moves_of) = true)
    (a_sides_of : PySem.W.nsIn K mainGlobals "sides_of" = some (some (.ref f_sides_of)))
    (l_sides_of : K.lookup f_sides_of = some ⟨oc_sides_of, od_sides_of, .func (PySem.W.fnOf "sides_of" "sides_of" (defArgs (top 27)) (defBody (top 27)) (defScope (top 27)) .none kV_sides_of dc_sides_of pm_sides_of an_sides_of cd_sides_of ct_sides_of), sl_sides_of⟩)
    (c_sides_of : PySem.W.codeIn K cd_sides_of "sides_of" = true)
    (k_sides_of : PySem.W.keepIn K (.ref f_sides_of) = true)
    (a_first_corner : PySem.W.nsIn K mainGlobals "first_corner" = some (some (.ref f_first_corner)))
    (l_first_corner : K.lookup f_first_corner = some ⟨oc_first_corner, od_first_corner, .func (PySem.W.fnOf "first_corner" "first_corner" (defArgs (top 28)) (defBody (top 28)) (defScope (top 28)) .none kV_first_corner dc_first_corner pm_first_corner an_first_corner cd_first_corner ct_first_corner), sl_first_corner⟩)
    (c_first_corner : PySem.W.codeIn K cd_first_corner "first_corner" = true)
    (k_first_corner : PySem.W.keepIn K (.ref f_first_corner) = true)
    (a_edge_of : PySem.W.nsIn K mainGlobals "edge_of" = some (some (.ref f_edge_of)))
    (l_edge_of : K.lookup f_edge_of = some ⟨oc_edge_of, od_edge_of, .func (PySem.W.fnOf "edge_of" "edge_of" (defArgs (top 31)) (defBody (top 31)) (defScope (top 31)) .none kV_edge_of dc_edge_of pm_edge_of an_edge_of cd_edge_of ct_edge_of), sl_edge_of⟩)
    (c_edge_of : PySem.W.codeIn K cd_edge_of "edge_of" = true)
    (k_edge_of : PySem.W.keepIn K (.ref f_edge_of) = true)
    (a_covers : PySem.W.nsIn K mainGlobals "covers" = some (some (.ref f_covers)))
    (l_covers : K.lookup f_covers = some ⟨oc_covers, od_covers, .func (PySem.W.fnOf "covers" "covers" (defArgs (top 34)) (defBody (top 34)) (defScope (top 34)) .none kV_covers dc_covers pm_covers an_covers cd_covers ct_covers), sl_covers⟩)
    (c_covers : PySem.W.codeIn K cd_covers "covers" = true)
    (k_covers : PySem.W.keepIn K (.ref f_covers) = true)
    (a_grids_of : PySem.W.nsIn K mainGlobals "grids_of" = some (some (.ref f_grids_of)))
    (l_grids_of : K.lookup f_grids_of = some ⟨oc_grids_of, od_grids_of, .func (PySem.W.fnOf "grids_of" "grids_of" (defArgs (top 35)) (defBody (top 35)) (defScope (top 35)) .none kV_grids_of dc_grids_of pm_grids_of an_grids_of cd_grids_of ct_grids_of), sl_grids_of⟩)
    (c_grids_of : PySem.W.codeIn K cd_grids_of "grids_of" = true)
    (k_grids_of : PySem.W.keepIn K (.ref f_grids_of) = true)
    (a_lying_on : PySem.W.nsIn K mainGlobals "lying_on" = some (some (.ref f_lying_on)))
    (l_lying_on : K.lookup f_lying_on = some ⟨oc_lying_on, od_lying_on, .func (PySem.W.fnOf "lying_on" "lying_on" (defArgs (top 36)) (defBody (top 36)) (defScope (top 36)) .none kV_lying_on dc_lying_on pm_lying_on an_lying_on cd_lying_on ct_lying_on), sl_lying_on⟩)
    (c_lying_on : PySem.W.codeIn K cd_lying_on "lying_on" = true)
    (k_lying_on : PySem.W.keepIn K (.ref f_lying_on) = true)
    (a_is_made_of : PySem.W.nsIn K mainGlobals "is_made_of" = some (some (.ref f_is_made_of)))
    (l_is_made_of : K.lookup f_is_made_of = some ⟨oc_is_made_of, od_is_made_of, .func (PySem.W.fnOf "is_made_of" "is_made_of" (defArgs (top 37)) (defBody (top 37)) (defScope (top 37)) .none kV_is_made_of dc_is_made_of pm_is_made_of an_is_made_of cd_is_made_of ct_is_made_of), sl_is_made_of⟩)
    (c_is_made_of : PySem.W.codeIn K cd_is_made_of "is_made_of" = true)
    (k_is_made_of : PySem.W.keepIn K (.ref f_is_made_of) = true)
    (a_grid_made_of : PySem.W.nsIn K mainGlobals "grid_made_of" = some (some (.ref f_grid_made_of)))
    (l_grid_made_of : K.lookup f_grid_made_of = some ⟨oc_grid_made_of, od_grid_made_of, .func (PySem.W.fnOf "grid_made_of" "grid_made_of" (defArgs (top 38)) (defBody (top 38)) (defScope (top 38)) .none kV_grid_made_of dc_grid_made_of pm_grid_made_of an_grid_made_of cd_grid_made_of ct_grid_made_of), sl_grid_made_of⟩)
    (c_grid_made_of : PySem.W.codeIn K cd_grid_made_of "grid_made_of" = true)
    (k_grid_made_of : PySem.W.keepIn K (.ref f_grid_made_of) = true)
    (a_squares_about : PySem.W.nsIn K mainGlobals "squares_about" = some (some (.ref f_squares_about)))
    (l_squares_about : K.lookup f_squares_about = some ⟨oc_squares_about, od_squares_about, .func (PySem.W.fnOf "squares_about" "squares_about" (defArgs (top 14)) (defBody (top 14)) (defScope (top 14)) .none kV_squares_about dc_squares_about pm_squares_about an_squares_about cd_squares_about ct_squares_about), sl_squares_about⟩)
    (c_squares_about : PySem.W.codeIn K cd_squares_about "squares_about" = true)
    (k_squares_about : PySem.W.keepIn K (.ref f_squares_about) = true)
    (a_reached_in : PySem.W.nsIn K mainGlobals "reached_in" = some (some (.ref f_reached_in)))
    (l_reached_in : K.lookup f_reached_in = some ⟨oc_reached_in, od_reached_in, .func (PySem.W.fnOf "reached_in" "reached_in" (defArgs (top 13)) (defBody (top 13)) (defScope (top 13)) .none kV_reached_in dc_reached_in pm_reached_in an_reached_in cd_reached_in ct_reached_in), sl_reached_in⟩)
    (c_reached_in : PySem.W.codeIn K cd_reached_in "reached_in" = true)
    (k_reached_in : PySem.W.keepIn K (.ref f_reached_in) = true)
    (a_reached : PySem.W.nsIn K mainGlobals "reached" = some (some (.ref f_reached)))
    (l_reached : K.lookup f_reached = some ⟨oc_reached, od_reached, .func (PySem.W.fnOf "reached" "reached" (defArgs (top 12)) (defBody (top 12)) (defScope (top 12)) .none kV_reached dc_reached pm_reached an_reached cd_reached ct_reached), sl_reached⟩)
    (c_reached : PySem.W.codeIn K cd_reached "reached" = true)
    (k_reached : PySem.W.keepIn K (.ref f_reached) = true)
    (a_look_shape : PySem.W.nsIn K mainGlobals "look_shape" = some (some (.ref f_look_shape)))
    (l_look_shape : K.lookup f_look_shape = some ⟨oc_look_shape, od_look_shape, .func (PySem.W.fnOf "look_shape" "look_shape" (defArgs (top 15)) (defBody (top 15)) (defScope (top 15)) .none kV_look_shape dc_look_shape pm_look_shape an_look_shape cd_look_shape ct_look_shape), sl_look_shape⟩)
    (c_look_shape : PySem.W.codeIn K cd_look_shape "look_shape" = true)
    (k_look_shape : PySem.W.keepIn K (.ref f_look_shape) = true)
    (a_squares_in : PySem.W.nsIn K mainGlobals "squares_in" = some (some (.ref f_squares_in)))
    (l_squares_in : K.lookup f_squares_in = some ⟨oc_squares_in, od_squares_in, .func (PySem.W.fnOf "squares_in" "squares_in" (defArgs (top 10)) (defBody (top 10)) (defScope (top 10)) .none kV_squares_in dc_squares_in pm_squares_in an_squares_in cd_squares_in ct_squares_in), sl_squares_in⟩)
    (c_squares_in : PySem.W.codeIn K cd_squares_in "squares_in" = true)
    (k_squares_in : PySem.W.keepIn K (.ref f_squares_in) = true)
    (a_told_in_order : PySem.W.nsIn K mainGlobals "told_in_order" = some (some (.ref f_told_in_order)))
    (l_told_in_order : K.lookup f_told_in_order = some ⟨oc_told_in_order, od_told_in_order, .func (PySem.W.fnOf "told_in_order" "told_in_order" (defArgs (top 42)) (defBody (top 42)) (defScope (top 42)) .none kV_told_in_order dc_told_in_order pm_told_in_order an_told_in_order cd_told_in_order ct_told_in_order), sl_told_in_order⟩)
    (c_told_in_order : PySem.W.codeIn K cd_told_in_order "told_in_order" = true)
    (k_told_in_order : PySem.W.keepIn K (.ref f_told_in_order) = true)
    (a_look_cut : PySem.W.nsIn K mainGlobals "look_cut" = some (some (.ref f_look_cut)))
    (l_look_cut : K.lookup f_look_cut = some ⟨oc_look_cut, od_look_cut, .func (PySem.W.fnOf "look_cut" "look_cut" (defArgs (top 43)) (defBody (top 43)) (defScope (top 43)) .none kV_look_cut dc_look_cut pm_look_cut an_look_cut cd_look_cut ct_look_cut), sl_look_cut⟩)
    (c_look_cut : PySem.W.codeIn K cd_look_cut "look_cut" = true)
    (k_look_cut : PySem.W.keepIn K (.ref f_look_cut) = true)
    (a_cut_moves : PySem.W.nsIn K mainGlobals "cut_moves" = some (some (.ref f_cut_moves)))
    (l_cut_moves : K.lookup f_cut_moves = some ⟨oc_cut_moves, od_cut_moves, .func (PySem.W.fnOf "cut_moves" "cut_moves" (defArgs (top 44)) (defBody (top 44)) (defScope (top 44)) .none kV_cut_moves dc_cut_moves pm_cut_moves an_cut_moves cd_cut_moves ct_cut_moves), sl_cut_moves⟩)
    (c_cut_moves : PySem.W.codeIn K cd_cut_moves "cut_moves" = true)
    (k_cut_moves : PySem.W.keepIn K (.ref f_cut_moves) = true)
    (a_set_shape : PySem.W.nsIn K mainGlobals "set_shape" = some (some (.ref f_set_shape)))
    (l_set_shape : K.lookup f_set_shape = some ⟨oc_set_shape, od_set_shape, .func (PySem.W.fnOf "set_shape" "set_shape" (defArgs (top 45)) (defBody (top 45)) (defScope (top 45)) .none kV_set_shape dc_set_shape pm_set_shape an_set_shape cd_set_shape ct_set_shape), sl_set_shape⟩)
    (c_set_shape : PySem.W.codeIn K cd_set_shape "set_shape" = true)
    (k_set_shape : PySem.W.keepIn K (.ref f_set_shape) = true)
    (a_tell_edge : PySem.W.nsIn K mainGlobals "tell_edge" = some (some (.ref f_tell_edge)))
    (l_tell_edge : K.lookup f_tell_edge = some ⟨oc_tell_edge, od_tell_edge, .func (PySem.W.fnOf "tell_edge" "tell_edge" (defArgs (top 46)) (defBody (top 46)) (defScope (top 46)) .none kV_tell_edge dc_tell_edge pm_tell_edge an_tell_edge cd_tell_edge ct_tell_edge), sl_tell_edge⟩)
    (c_tell_edge : PySem.W.codeIn K cd_tell_edge "tell_edge" = true)
    (k_tell_edge : PySem.W.keepIn K (.ref f_tell_edge) = true)
    (a_tell_cut : PySem.W.nsIn K mainGlobals "tell_cut" = some (some (.ref f_tell_cut)))
    (l_tell_cut : K.lookup f_tell_cut = some ⟨oc_tell_cut, od_tell_cut, .func (PySem.W.fnOf "tell_cut" "tell_cut" (defArgs (top 47)) (defBody (top 47)) (defScope (top 47)) .none kV_tell_cut dc_tell_cut pm_tell_cut an_tell_cut cd_tell_cut ct_tell_cut), sl_tell_cut⟩)
    (c_tell_cut : PySem.W.codeIn K cd_tell_cut "tell_cut" = true)
    (k_tell_cut : PySem.W.keepIn K (.ref f_tell_cut) = true)
    (a_tell_cuts : PySem.W.nsIn K mainGlobals "tell_cuts" = some (some (.ref f_tell_cuts)))
    (l_tell_cuts : K.lookup f_tell_cuts = some ⟨oc_tell_cuts, od_tell_cuts, .func (PySem.W.fnOf "tell_cuts" "tell_cuts" (defArgs (top 48)) (defBody (top 48)) (defScope (top 48)) .none kV_tell_cuts dc_tell_cuts pm_tell_cuts an_tell_cuts cd_tell_cuts ct_tell_cuts), sl_tell_cuts⟩)
    (c_tell_cuts : PySem.W.codeIn K cd_tell_cuts "tell_cuts" = true)
    (k_tell_cuts : PySem.W.keepIn K (.ref f_tell_cuts) = true)
    (a_tell_moves : PySem.W.nsIn K mainGlobals "tell_moves" = some (some (.ref f_tell_moves)))
    (l_tell_moves : K.lookup f_tell_moves = some ⟨oc_tell_moves, od_tell_moves, .func (PySem.W.fnOf "tell_moves" "tell_moves" (defArgs (top 49)) (defBody (top 49)) (defScope (top 49)) .none kV_tell_moves dc_tell_moves pm_tell_moves an_tell_moves cd_tell_moves ct_tell_moves), sl_tell_moves⟩)
    (c_tell_moves : PySem.W.codeIn K cd_tell_moves "tell_moves" = true)
    (k_tell_moves : PySem.W.keepIn K (.ref f_tell_moves) = true)
    (a_tell_grids : PySem.W.nsIn K mainGlobals "tell_grids" = some (some (.ref f_tell_grids)))
    (l_tell_grids : K.lookup f_tell_grids = some ⟨oc_tell_grids, od_tell_grids, .func (PySem.W.fnOf "tell_grids" "tell_grids" (defArgs (top 50)) (defBody (top 50)) (defScope (top 50)) .none kV_tell_grids dc_tell_grids pm_tell_grids an_tell_grids cd_tell_grids ct_tell_grids), sl_tell_grids⟩)
    (c_tell_grids : PySem.W.codeIn K cd_tell_grids "tell_grids" = true)
    (k_tell_grids : PySem.W.keepIn K (.ref f_tell_grids) = true)
    (a_tell_on : PySem.W.nsIn K mainGlobals "tell_on" = some (some (.ref f_tell_on)))
    (l_tell_on : K.lookup f_tell_on = some ⟨oc_tell_on, od_tell_on, .func (PySem.W.fnOf "tell_on" "tell_on" (defArgs (top 51)) (defBody (top 51)) (defScope (top 51)) .none kV_tell_on dc_tell_on pm_tell_on an_tell_on cd_tell_on ct_tell_on), sl_tell_on⟩)
    (c_tell_on : PySem.W.codeIn K cd_tell_on "tell_on" = true)
    (k_tell_on : PySem.W.keepIn K (.ref f_tell_on) = true)
    (a_tell_grid : PySem.W.nsIn K mainGlobals "tell_grid" = some (some (.ref f_tell_grid)))
    (l_tell_grid : K.lookup f_tell_grid = some ⟨oc_tell_grid, od_tell_grid, .func (PySem.W.fnOf "tell_grid" "tell_grid" (defArgs (top 52)) (defBody (top 52)) (defScope (top 52)) .none kV_tell_grid dc_tell_grid pm_tell_grid an_tell_grid cd_tell_grid ct_tell_grid), sl_tell_grid⟩)
    (c_tell_grid : PySem.W.codeIn K cd_tell_grid "tell_grid" = true)
    (k_tell_grid : PySem.W.keepIn K (.ref f_tell_grid) = true)
    (a_tell_tiles : PySem.W.nsIn K mainGlobals "tell_tiles" = some (some (.ref f_tell_tiles)))
    (l_tell_tiles : K.lookup f_tell_tiles = some ⟨oc_tell_tiles, od_tell_tiles, .func (PySem.W.fnOf "tell_tiles" "tell_tiles" (defArgs (top 53)) (defBody (top 53)) (defScope (top 53)) .none kV_tell_tiles dc_tell_tiles pm_tell_tiles an_tell_tiles cd_tell_tiles ct_tell_tiles), sl_tell_tiles⟩)
    (c_tell_tiles : PySem.W.codeIn K cd_tell_tiles "tell_tiles" = true)
    (k_tell_tiles : PySem.W.keepIn K (.ref f_tell_tiles) = true)
    (a_split_calls : PySem.W.nsIn K mainGlobals "split_calls" = some (some (.ref f_split_calls)))
    (l_split_calls : K.lookup f_split_calls = some ⟨oc_split_calls, od_split_calls, .func (PySem.W.fnOf "split_calls" "split_calls" (defArgs (top 58)) (defBody (top 58)) (defScope (top 58)) .none kV_split_calls dc_split_calls pm_split_calls an_split_calls cd_split_calls ct_split_calls), sl_split_calls⟩)
    (c_split_calls : PySem.W.codeIn K cd_split_calls "split_calls" = true)
    (k_split_calls : PySem.W.keepIn K (.ref f_split_calls) = true)
    (a_answer : PySem.W.nsIn K mainGlobals "answer" = some (some (.ref f_answer)))
    (l_answer : K.lookup f_answer = some ⟨oc_answer, od_answer, .func (PySem.W.fnOf "answer" "answer" (defArgs (top 59)) (defBody (top 59)) (defScope (top 59)) .none kV_answer dc_answer pm_answer an_answer cd_answer ct_answer), sl_answer⟩)
    (c_answer : PySem.W.codeIn K cd_answer "answer" = true)
    (k_answer : PySem.W.keepIn K (.ref f_answer) = true)
    (a_answers : PySem.W.nsIn K mainGlobals "answers" = some (some (.ref f_answers)))
    (l_answers : K.lookup f_answers = some ⟨oc_answers, od_answers, .func (PySem.W.fnOf "answers" "answers" (defArgs (top 60)) (defBody (top 60)) (defScope (top 60)) .none kV_answers dc_answers pm_answers an_answers cd_answers ct_answers), sl_answers⟩)
    (c_answers : PySem.W.codeIn K cd_answers "answers" = true)
    (k_answers : PySem.W.keepIn K (.ref f_answers) = true)
    (aD : PySem.W.nsIn K mainGlobals "Desk" = some (some (.ref CD)))
    (a_desk : PySem.W.findIn K (.ref CD) "__init__" = some (some (.ref f_desk)))
    (l_desk : K.lookup f_desk = some ⟨oc_desk, od_desk, .func (PySem.W.fnOf "__init__" "Desk.__init__" (defArgs sInit) (defBody sInit) (defScope sInit) .none kV_desk dc_desk pm_desk an_desk cd_desk ct_desk), sl_desk⟩)
    (c_desk : PySem.W.codeIn K cd_desk "Desk.__init__" = true)
    (k_desk : PySem.W.keepIn K (.ref f_desk) = true)
    (iD : PySem.W.isFn K (.ref f_desk) = true)
    (pgD : PySem.W.plainGet K CD Str.empty = true)
    (hdD : PySem.W.hasDictIn K CD = true)
    (poD : PySem.W.plainOver K CD = true)
    (saD : PySem.W.findIn K (.ref CD) "__setattr__" = some (some (.builtin "object.__setattr__")))
    (mkD : PySem.W.makesIn K CD = true)
    (kcD : PySem.W.keepIn K (.ref CD) = true)
    (nSD : PySem.W.findIn K (.ref CD) "squares" = some none)
    (nED : PySem.W.findIn K (.ref CD) "edge" = some none)
    (aC : PySem.W.nsIn K mainGlobals "Refused" = some (some (.ref C)))
    (xL : K.lookup C = some (excClassObj nm q C N bs [.type "ValueError", .type "Exception", .type "BaseException", .type "object"] true sn sub ab col dd m0 m1 m2 m3 m5 "ValueError.__new__"))
    (saC : PySem.W.findIn K (.ref C) "__setattr__" = some (some (.builtin "object.__setattr__")))
    (gaC : PySem.W.findIn K (.ref C) "__getattribute__" = some (some (.builtin "BaseException.__getattribute__")))
    (ggC : PySem.W.findIn K (.ref C) "__getattr__" = some none)
    (nbC : PySem.W.findIn K (.ref C) "number" = some none)
    (a1C : PySem.W.findIn K (.ref C) "__init__" = some (some (.ref f_ref)))
    (t1C : PySem.W.typeIn K (.ref f_ref) = some (.type "function"))
    (l1C : K.lookup f_ref = some ⟨ocR, odR, .func (PySem.W.fnOf "__init__" "Refused.__init__" (PySem.RefX.iA ⟨8, 17, 8, 21⟩ ⟨8, 23, 8, 29⟩) (PySem.RefX.iB ⟨9, 8, 9, 12⟩ ⟨9, 8, 9, 19⟩ ⟨9, 22, 9, 28⟩ ⟨9, 8, 9, 28⟩) PySem.RefX.iS .none .none dcR pmR anR cdR ctR), slR⟩)
    (c1C : PySem.W.codeIn K cdR "Refused.__init__" = true)
    (kC : PySem.W.keepIn K (.ref C) = true)
    (eC : PySem.W.subIn K (.ref C) (.type "BaseException") = some true)
    (tC : PySem.W.typeIn K (.ref C) = some (.type "type"))
    (hC : PySem.W.hasDictIn K C = true)
    (iC : PySem.W.isClsIn K C = true)
    (sC : PySem.W.subIn K (.ref C) (.ref C) = some true)
    (b_len : PySem.W.nsIn K mainGlobals "len" = some none)
    (b_max : PySem.W.nsIn K mainGlobals "max" = some none)
    (b_min : PySem.W.nsIn K mainGlobals "min" = some none)
    (b_sum : PySem.W.nsIn K mainGlobals "sum" = some none)
    (b_abs : PySem.W.nsIn K mainGlobals "abs" = some none)
    (b_int : PySem.W.nsIn K mainGlobals "int" = some none)
    (b_set : PySem.W.nsIn K mainGlobals "set" = some none)
    (b_dict : PySem.W.nsIn K mainGlobals "dict" = some none)
    (b_list : PySem.W.nsIn K mainGlobals "list" = some none)
    (b_zip : PySem.W.nsIn K mainGlobals "zip" = some none)
    (b_range : PySem.W.nsIn K mainGlobals "range" = some none)
    (b_enumerate : PySem.W.nsIn K mainGlobals "enumerate" = some none)
    (g_NOT_SO : PySem.W.nsIn K mainGlobals "NOT_SO" = some (some (.int (-1) t_NOT_SO)))
    (g_NO_GRID : PySem.W.nsIn K mainGlobals "NO_GRID" = some (some (.int (-2) t_NO_GRID)))
    (g_NO_CUT : PySem.W.nsIn K mainGlobals "NO_CUT" = some (some (.int (-3) t_NO_CUT)))
    (g_NO_SHAPE : PySem.W.nsIn K mainGlobals "NO_SHAPE" = some (some (.int (-6) t_NO_SHAPE)))
    (g_MOST_SQUARES : PySem.W.nsIn K mainGlobals "MOST_SQUARES" = some (some (.int 12 t_MOST_SQUARES)))
    (g_LAST : PySem.W.nsIn K mainGlobals "LAST" = some (some (.int 11 t_LAST)))
    (g_MOST_FAR : PySem.W.nsIn K mainGlobals "MOST_FAR" = some (some (.int 1000 t_MOST_FAR)))
    (g_SHAPE : PySem.W.nsIn K mainGlobals "SHAPE" = some (some (.int 0 t_SHAPE)))
    (a_STEPS : PySem.W.nsIn K mainGlobals "STEPS" = some (some (.ref y_STEPS)))
    (l_STEPS : K.lookup y_STEPS = some ⟨.type "tuple", d_STEPS, .seq #[.ref y_STEPS_0, .ref y_STEPS_1, .ref y_STEPS_2, .ref y_STEPS_3] o_STEPS, s_STEPS⟩)
    (l_STEPS_0 : K.lookup y_STEPS_0 = some ⟨.type "tuple", d_STEPS_0, .seq #[.int (1) p_STEPS_0, .int (0) q_STEPS_0] o_STEPS_0, s_STEPS_0⟩)
    (l_STEPS_1 : K.lookup y_STEPS_1 = some ⟨.type "tuple", d_STEPS_1, .seq #[.int (0) p_STEPS_1, .int (1) q_STEPS_1] o_STEPS_1, s_STEPS_1⟩)
    (l_STEPS_2 : K.lookup y_STEPS_2 = some ⟨.type "tuple", d_STEPS_2, .seq #[.int (-1) p_STEPS_2, .int (0) q_STEPS_2] o_STEPS_2, s_STEPS_2⟩)
    (l_STEPS_3 : K.lookup y_STEPS_3 = some ⟨.type "tuple", d_STEPS_3, .seq #[.int (0) p_STEPS_3, .int (-1) q_STEPS_3] o_STEPS_3, s_STEPS_3⟩)
    (a_AHEAD_LEFT : PySem.W.nsIn K mainGlobals "AHEAD_LEFT" = some (some (.ref y_AHEAD_LEFT)))
    (l_AHEAD_LEFT : K.lookup y_AHEAD_LEFT = some ⟨.type "tuple", d_AHEAD_LEFT, .seq #[.ref y_AHEAD_LEFT_0, .ref y_AHEAD_LEFT_1, .ref y_AHEAD_LEFT_2, .ref y_AHEAD_LEFT_3] o_AHEAD_LEFT, s_AHEAD_LEFT⟩)
    (l_AHEAD_LEFT_0 : K.lookup y_AHEAD_LEFT_0 = some ⟨.type "tuple", d_AHEAD_LEFT_0, .seq #[.int (0) p_AHEAD_LEFT_0, .int (0) q_AHEAD_LEFT_0] o_AHEAD_LEFT_0, s_AHEAD_LEFT_0⟩)
    (l_AHEAD_LEFT_1 : K.lookup y_AHEAD_LEFT_1 = some ⟨.type "tuple", d_AHEAD_LEFT_1, .seq #[.int (-1) p_AHEAD_LEFT_1, .int (0) q_AHEAD_LEFT_1] o_AHEAD_LEFT_1, s_AHEAD_LEFT_1⟩)
    (l_AHEAD_LEFT_2 : K.lookup y_AHEAD_LEFT_2 = some ⟨.type "tuple", d_AHEAD_LEFT_2, .seq #[.int (-1) p_AHEAD_LEFT_2, .int (-1) q_AHEAD_LEFT_2] o_AHEAD_LEFT_2, s_AHEAD_LEFT_2⟩)
    (l_AHEAD_LEFT_3 : K.lookup y_AHEAD_LEFT_3 = some ⟨.type "tuple", d_AHEAD_LEFT_3, .seq #[.int (0) p_AHEAD_LEFT_3, .int (-1) q_AHEAD_LEFT_3] o_AHEAD_LEFT_3, s_AHEAD_LEFT_3⟩)
    (a_AHEAD_RIGHT : PySem.W.nsIn K mainGlobals "AHEAD_RIGHT" = some (some (.ref y_AHEAD_RIGHT)))
    (l_AHEAD_RIGHT : K.lookup y_AHEAD_RIGHT = some ⟨.type "tuple", d_AHEAD_RIGHT, .seq #[.ref y_AHEAD_RIGHT_0, .ref y_AHEAD_RIGHT_1, .ref y_AHEAD_RIGHT_2, .ref y_AHEAD_RIGHT_3] o_AHEAD_RIGHT, s_AHEAD_RIGHT⟩)
    (l_AHEAD_RIGHT_0 : K.lookup y_AHEAD_RIGHT_0 = some ⟨.type "tuple", d_AHEAD_RIGHT_0, .seq #[.int (0) p_AHEAD_RIGHT_0, .int (-1) q_AHEAD_RIGHT_0] o_AHEAD_RIGHT_0, s_AHEAD_RIGHT_0⟩)
    (l_AHEAD_RIGHT_1 : K.lookup y_AHEAD_RIGHT_1 = some ⟨.type "tuple", d_AHEAD_RIGHT_1, .seq #[.int (0) p_AHEAD_RIGHT_1, .int (0) q_AHEAD_RIGHT_1] o_AHEAD_RIGHT_1, s_AHEAD_RIGHT_1⟩)
    (l_AHEAD_RIGHT_2 : K.lookup y_AHEAD_RIGHT_2 = some ⟨.type "tuple", d_AHEAD_RIGHT_2, .seq #[.int (-1) p_AHEAD_RIGHT_2, .int (0) q_AHEAD_RIGHT_2] o_AHEAD_RIGHT_2, s_AHEAD_RIGHT_2⟩)
    (l_AHEAD_RIGHT_3 : K.lookup y_AHEAD_RIGHT_3 = some ⟨.type "tuple", d_AHEAD_RIGHT_3, .seq #[.int (-1) p_AHEAD_RIGHT_3, .int (-1) q_AHEAD_RIGHT_3] o_AHEAD_RIGHT_3, s_AHEAD_RIGHT_3⟩)
    (a_SIZES : PySem.W.nsIn K mainGlobals "SIZES" = some (some (.ref y_SIZES)))
    (l_SIZES : K.lookup y_SIZES = some ⟨.type "tuple", d_SIZES, .seq #[.int 0 p_SIZES_0, .int 0 p_SIZES_1, .int 0 p_SIZES_2, .int 0 p_SIZES_3, .int 3 p_SIZES_4, .int 0 p_SIZES_5, .int 3 p_SIZES_6, .int 3 p_SIZES_7, .int 0 p_SIZES_8] o_SIZES, s_SIZES⟩)
    (a_DEEDS : PySem.W.nsIn K mainGlobals "DEEDS" = some (some (.ref y_DEEDS)))
    (l_DEEDS : K.lookup y_DEEDS = some ⟨.type "tuple", d_DEEDS, .seq #[.ref f_set_shape, .ref f_tell_edge, .ref f_tell_cut, .ref f_tell_cuts, .ref f_tell_moves, .ref f_tell_grids, .ref f_tell_on, .ref f_tell_grid, .ref f_tell_tiles] o_DEEDS, s_DEEDS⟩)
    : ∃ fd : FuncData, (∀ (s : Shared) (us : List Value), us.length = (["calls"] : List Str).length → BindsTo s fd ⟨us, []⟩ ((["calls"] : List Str).zip us)) ∧ ∀ base : Heap, K.In base → base.Ns mainGlobals mg → FnOk P w K mg base CX0 8 fa fd ["calls"] (spAnswers K) := by
  have e := hfa.symm.trans (PySem.W.mg_of X G a_answers)
  cases e
  have TR : PySem.RefX.RefTxt K mg C f_ref := { gC := PySem.W.mg_of X G aC, cls := ⟨nm, q, N, bs, _, sn, sub, ab, col, dd, m0, m1, m2, m3, m5, xL, by decide +kernel⟩, sa := saC, ga := gaC, gg := ggC, noN := nbC, iC := a1C, tC := t1C, kC := kC, exC := eC, tyC := tC, hdC := hC, te := exm_self eC iC tC sC, fn := ⟨_, _, _, _, _, _, _, _, _, _, _, _, _, _, l1C, c1C⟩ }
  have DK : DkTxt K CD := ⟨⟨pgD, hdD, poD, saD⟩, nSD, nED⟩
  have T_STEPS : Tab K mg "STEPS" [(1, 0), (0, 1), (-1, 0), (0, -1)] := ⟨[y_STEPS_0, y_STEPS_1, y_STEPS_2, y_STEPS_3], ⟨y_STEPS, PySem.W.mg_of X G a_STEPS, sqT_of l_STEPS (by show 4 ≤ sizeLine; exact line_of (by decide)) ((.cons rfl (.cons rfl (.cons rfl (.cons rfl .nil)))))⟩, (.cons (sqT_of l_STEPS_0 (by show 2 ≤ sizeLine; exact line_of (by decide)) (.cons ⟨p_STEPS_0, rfl⟩ (.cons ⟨q_STEPS_0, rfl⟩ .nil))) (.cons (sqT_of l_STEPS_1 (by show 2 ≤ sizeLine; exact line_of (by decide)) (.cons ⟨p_STEPS_1, rfl⟩ (.cons ⟨q_STEPS_1, rfl⟩ .nil))) (.cons (sqT_of l_STEPS_2 (by show 2 ≤ sizeLine; exact line_of (by decide)) (.cons ⟨p_STEPS_2, rfl⟩ (.cons ⟨q_STEPS_2, rfl⟩ .nil))) (.cons (sqT_of l_STEPS_3 (by show 2 ≤ sizeLine; exact line_of (by decide)) (.cons ⟨p_STEPS_3, rfl⟩ (.cons ⟨q_STEPS_3, rfl⟩ .nil))) .nil))))⟩
  have T_AHEAD_LEFT : Tab K mg "AHEAD_LEFT" [(0, 0), (-1, 0), (-1, -1), (0, -1)] := ⟨[y_AHEAD_LEFT_0, y_AHEAD_LEFT_1, y_AHEAD_LEFT_2, y_AHEAD_LEFT_3], ⟨y_AHEAD_LEFT, PySem.W.mg_of X G a_AHEAD_LEFT, sqT_of l_AHEAD_LEFT (by show 4 ≤ sizeLine; exact line_of (by decide)) ((.cons rfl (.cons rfl (.cons rfl (.cons rfl .nil)))))⟩, (.cons (sqT_of l_AHEAD_LEFT_0 (by show 2 ≤ sizeLine; exact line_of (by decide)) (.cons ⟨p_AHEAD_LEFT_0, rfl⟩ (.cons ⟨q_AHEAD_LEFT_0, rfl⟩ .nil))) (.cons (sqT_of l_AHEAD_LEFT_1 (by show 2 ≤ sizeLine; exact line_of (by decide)) (.cons ⟨p_AHEAD_LEFT_1, rfl⟩ (.cons ⟨q_AHEAD_LEFT_1, rfl⟩ .nil))) (.cons (sqT_of l_AHEAD_LEFT_2 (by show 2 ≤ sizeLine; exact line_of (by decide)) (.cons ⟨p_AHEAD_LEFT_2, rfl⟩ (.cons ⟨q_AHEAD_LEFT_2, rfl⟩ .nil))) (.cons (sqT_of l_AHEAD_LEFT_3 (by show 2 ≤ sizeLine; exact line_of (by decide)) (.cons ⟨p_AHEAD_LEFT_3, rfl⟩ (.cons ⟨q_AHEAD_LEFT_3, rfl⟩ .nil))) .nil))))⟩
  have T_AHEAD_RIGHT : Tab K mg "AHEAD_RIGHT" [(0, -1), (0, 0), (-1, 0), (-1, -1)] := ⟨[y_AHEAD_RIGHT_0, y_AHEAD_RIGHT_1, y_AHEAD_RIGHT_2, y_AHEAD_RIGHT_3], ⟨y_AHEAD_RIGHT, PySem.W.mg_of X G a_AHEAD_RIGHT, sqT_of l_AHEAD_RIGHT (by show 4 ≤ sizeLine; exact line_of (by decide)) ((.cons rfl (.cons rfl (.cons rfl (.cons rfl .nil)))))⟩, (.cons (sqT_of l_AHEAD_RIGHT_0 (by show 2 ≤ sizeLine; exact line_of (by decide)) (.cons ⟨p_AHEAD_RIGHT_0, rfl⟩ (.cons ⟨q_AHEAD_RIGHT_0, rfl⟩ .nil))) (.cons (sqT_of l_AHEAD_RIGHT_1 (by show 2 ≤ sizeLine; exact line_of (by decide)) (.cons ⟨p_AHEAD_RIGHT_1, rfl⟩ (.cons ⟨q_AHEAD_RIGHT_1, rfl⟩ .nil))) (.cons (sqT_of l_AHEAD_RIGHT_2 (by show 2 ≤ sizeLine; exact line_of (by decide)) (.cons ⟨p_AHEAD_RIGHT_2, rfl⟩ (.cons ⟨q_AHEAD_RIGHT_2, rfl⟩ .nil))) (.cons (sqT_of l_AHEAD_RIGHT_3 (by show 2 ≤ sizeLine; exact line_of (by decide)) (.cons ⟨p_AHEAD_RIGHT_3, rfl⟩ (.cons ⟨q_AHEAD_RIGHT_3, rfl⟩ .nil))) .nil))))⟩
  have T_SIZES : Ct K mg "SIZES" (([0, 0, 0, 0, 3, 0, 3, 3, 0] : List Int).map V.int) := ⟨y_SIZES, PySem.W.mg_of X G a_SIZES, sqT_of l_SIZES (by show 9 ≤ sizeLine; exact line_of (by decide)) ((.cons ⟨p_SIZES_0, rfl⟩ (.cons ⟨p_SIZES_1, rfl⟩ (.cons ⟨p_SIZES_2, rfl⟩ (.cons ⟨p_SIZES_3, rfl⟩ (.cons ⟨p_SIZES_4, rfl⟩ (.cons ⟨p_SIZES_5, rfl⟩ (.cons ⟨p_SIZES_6, rfl⟩ (.cons ⟨p_SIZES_7, rfl⟩ (.cons ⟨p_SIZES_8, rfl⟩ .nil))))))))))⟩
  have T_DEEDS : Ct K mg "DEEDS" ([f_set_shape, f_tell_edge, f_tell_cut, f_tell_cuts, f_tell_moves, f_tell_grids, f_tell_on, f_tell_grid, f_tell_tiles].map V.ref) := ⟨y_DEEDS, PySem.W.mg_of X G a_DEEDS, sqT_of l_DEEDS (by show 9 ≤ sizeLine; exact line_of (by decide)) ((.cons rfl (.cons rfl (.cons rfl (.cons rfl (.cons rfl (.cons rfl (.cons rfl (.cons rfl (.cons rfl .nil))))))))))⟩
  have GL : Glb K mg := { b_len := PySem.W.mg_none_of X G b_len, b_max := PySem.W.mg_none_of X G b_max, b_min := PySem.W.mg_none_of X G b_min, b_sum := PySem.W.mg_none_of X G b_sum, b_abs := PySem.W.mg_none_of X G b_abs, b_int := PySem.W.mg_none_of X G b_int, b_set := PySem.W.mg_none_of X G b_set, b_dict := PySem.W.mg_none_of X G b_dict, b_list := PySem.W.mg_none_of X G b_list, b_zip := PySem.W.mg_none_of X G b_zip, b_range := PySem.W.mg_none_of X G b_range, b_enumerate := PySem.W.mg_none_of X G b_enumerate, c_NOT_SO := ⟨t_NOT_SO, PySem.W.mg_of X G g_NOT_SO⟩, c_NO_GRID := ⟨t_NO_GRID, PySem.W.mg_of X G g_NO_GRID⟩, c_NO_CUT := ⟨t_NO_CUT, PySem.W.mg_of X G g_NO_CUT⟩, c_NO_SHAPE := ⟨t_NO_SHAPE, PySem.W.mg_of X G g_NO_SHAPE⟩, c_MOST_SQUARES := ⟨t_MOST_SQUARES, PySem.W.mg_of X G g_MOST_SQUARES⟩, c_LAST := ⟨t_LAST, PySem.W.mg_of X G g_LAST⟩, c_MOST_FAR := ⟨t_MOST_FAR, PySem.W.mg_of X G g_MOST_FAR⟩, c_SHAPE := ⟨t_SHAPE, PySem.W.mg_of X G g_SHAPE⟩, t_STEPS := T_STEPS, t_LEFT := T_AHEAD_LEFT, t_RIGHT := T_AHEAD_RIGHT, t_SIZES := T_SIZES }
  have D_beside : Df K mg "beside" (top 11) := df_mk X G a_beside l_beside c_beside k_beside
  have D_square_at : Df K mg "square_at" (top 29) := df_mk X G a_square_at l_square_at c_square_at k_square_at
  have D_next_way : Df K mg "next_way" (top 30) := df_mk X G a_next_way l_next_way c_next_way k_next_way
  have D_turned : Df K mg "turned" (top 18) := df_mk X G a_turned l_turned c_turned k_turned
  have D_rest_of : Df K mg "rest_of" (top 33) := df_mk X G a_rest_of l_rest_of c_rest_of k_rest_of
  have D_gone_back : Df K mg "gone_back" (top 17) := df_mk X G a_gone_back l_gone_back c_gone_back k_gone_back
  have D_parts_of : Df K mg "parts_of" (top 19) := df_mk X G a_parts_of l_parts_of c_parts_of k_parts_of
  have D_is_cut : Df K mg "is_cut" (top 20) := df_mk X G a_is_cut l_is_cut c_is_cut k_is_cut
  have D_cuts_of : Df K mg "cuts_of" (top 21) := df_mk X G a_cuts_of l_cuts_of c_cuts_of k_cuts_of
  have D_come_along : Df K mg "come_along" (top 22) := df_mk X G a_come_along l_come_along c_come_along k_come_along
  have D_moves_of : Df K mg "moves_of" (top 23) := df_mk X G a_moves_of l_moves_of c_moves_of k_moves_of
  have D_sides_of : Df K mg "sides_of" (top 27) := df_mk X G a_sides_of l_sides_of c_sides_of k_sides_of
  have D_first_corner : Df K mg "first_corner" (top 28) := df_mk X G a_first_corner l_first_corner c_first_corner k_first_corner
  have D_edge_of : Df K mg "edge_of" (top 31) := df_mk X G a_edge_of l_edge_of c_edge_of k_edge_of
  have D_covers : Df K mg "covers" (top 34) := df_mk X G a_covers l_covers c_covers k_covers
  have D_grids_of : Df K mg "grids_of" (top 35) := df_mk X G a_grids_of l_grids_of c_grids_of k_grids_of
  have D_lying_on : Df K mg "lying_on" (top 36) := df_mk X G a_lying_on l_lying_on c_lying_on k_lying_on
  have D_is_made_of : Df K mg "is_made_of" (top 37) := df_mk X G a_is_made_of l_is_made_of c_is_made_of k_is_made_of
  have D_grid_made_of : Df K mg "grid_made_of" (top 38) := df_mk X G a_grid_made_of l_grid_made_of c_grid_made_of k_grid_made_of
  have D_squares_about : Df K mg "squares_about" (top 14) := df_mk X G a_squares_about l_squares_about c_squares_about k_squares_about
  have D_reached_in : Df K mg "reached_in" (top 13) := df_mk X G a_reached_in l_reached_in c_reached_in k_reached_in
  have D_reached : Df K mg "reached" (top 12) := df_mk X G a_reached l_reached c_reached k_reached
  have D_look_shape : Df K mg "look_shape" (top 15) := df_mk X G a_look_shape l_look_shape c_look_shape k_look_shape
  have D_squares_in : Df K mg "squares_in" (top 10) := df_mk X G a_squares_in l_squares_in c_squares_in k_squares_in
  have D_told_in_order : Df K mg "told_in_order" (top 42) := df_mk X G a_told_in_order l_told_in_order c_told_in_order k_told_in_order
  have D_look_cut : Df K mg "look_cut" (top 43) := df_mk X G a_look_cut l_look_cut c_look_cut k_look_cut
  have D_cut_moves : Df K mg "cut_moves" (top 44) := df_mk X G a_cut_moves l_cut_moves c_cut_moves k_cut_moves
  have D_set_shape : Df K mg "set_shape" (top 45) := df_mk X G a_set_shape l_set_shape c_set_shape k_set_shape
  have D_tell_edge : Df K mg "tell_edge" (top 46) := df_mk X G a_tell_edge l_tell_edge c_tell_edge k_tell_edge
  have D_tell_cut : Df K mg "tell_cut" (top 47) := df_mk X G a_tell_cut l_tell_cut c_tell_cut k_tell_cut
  have D_tell_cuts : Df K mg "tell_cuts" (top 48) := df_mk X G a_tell_cuts l_tell_cuts c_tell_cuts k_tell_cuts
  have D_tell_moves : Df K mg "tell_moves" (top 49) := df_mk X G a_tell_moves l_tell_moves c_tell_moves k_tell_moves
  have D_tell_grids : Df K mg "tell_grids" (top 50) := df_mk X G a_tell_grids l_tell_grids c_tell_grids k_tell_grids
  have D_tell_on : Df K mg "tell_on" (top 51) := df_mk X G a_tell_on l_tell_on c_tell_on k_tell_on
  have D_tell_grid : Df K mg "tell_grid" (top 52) := df_mk X G a_tell_grid l_tell_grid c_tell_grid k_tell_grid
  have D_tell_tiles : Df K mg "tell_tiles" (top 53) := df_mk X G a_tell_tiles l_tell_tiles c_tell_tiles k_tell_tiles
  have D_split_calls : Df K mg "split_calls" (top 58) := df_mk X G a_split_calls l_split_calls c_split_calls k_split_calls
  have D_answer : Df K mg "answer" (top 59) := df_mk X G a_answer l_answer c_answer k_answer
  have FA := fun_mk (st := top 60) l_answers c_answers k_answers
  have FD := fun_mk (st := sInit) l_desk c_desk k_desk
  have bD := FD.binds (ps := ["self"]) fun _ _ _ _ _ _ us hl => match us, hl with | [_], _ => rfl
  refine ⟨PySem.W.fnOf "answers" "answers" (defArgs (top 60)) (defBody (top 60)) (defScope (top 60)) .none kV_answers dc_answers pm_answers an_answers cd_answers ct_answers, fun s us hu => match us, hu with | [_], _ => .of_eq rfl, fun base _ _ => ?_⟩
  have c_beside := cal_beside (P := P) (w := w) (base := base) D_beside GL
  have c_square_at := cal_square_at (P := P) (w := w) (base := base) D_square_at 
  have c_next_way := cal_next_way (P := P) (w := w) (base := base) D_next_way GL c_square_at
  have c_turned := cal_turned (P := P) (w := w) (base := base) D_turned 
  have c_rest_of := cal_rest_of (P := P) (w := w) (base := base) D_rest_of 
  have c_gone_back := cal_gone_back (P := P) (w := w) (base := base) D_gone_back 
  have c_parts_of := cal_parts_of (P := P) (w := w) (base := base) D_parts_of GL c_turned
  have c_is_cut := cal_is_cut (P := P) (w := w) (base := base) D_is_cut GL c_turned c_parts_of c_gone_back
  have c_cuts_of := cal_cuts_of (P := P) (w := w) (base := base) D_cuts_of GL c_is_cut
  have c_come_along := cal_come_along (P := P) (w := w) (base := base) D_come_along GL
  have c_moves_of := cal_moves_of (P := P) (w := w) (base := base) D_moves_of c_parts_of c_come_along
  have c_sides_of := cal_sides_of (P := P) (w := w) (base := base) D_sides_of GL c_beside
  have c_first_corner := cal_first_corner (P := P) (w := w) (base := base) D_first_corner GL
  have c_edge_of := cal_edge_of (P := P) (w := w) (base := base) D_edge_of GL c_beside c_next_way c_sides_of c_first_corner
  have c_covers := cal_covers (P := P) (w := w) (base := base) D_covers GL c_rest_of
  have c_grids_of := cal_grids_of (P := P) (w := w) (base := base) D_grids_of GL c_covers
  have c_lying_on := cal_lying_on (P := P) (w := w) (base := base) D_lying_on GL c_rest_of
  have c_is_made_of := cal_is_made_of (P := P) (w := w) (base := base) D_is_made_of GL c_rest_of
  have c_grid_made_of := cal_grid_made_of (P := P) (w := w) (base := base) D_grid_made_of GL c_is_made_of
  have c_squares_about := cal_squares_about (P := P) (w := w) (base := base) D_squares_about GL
  have c_reached_in := cal_reached_in (P := P) (w := w) (base := base) D_reached_in GL c_beside
  have c_reached := cal_reached (P := P) (w := w) (base := base) D_reached GL c_reached_in
  have c_look_shape := cal_look_shape (P := P) (w := w) (base := base) D_look_shape GL TR c_squares_about c_reached
  have c_squares_in := cal_squares_in (P := P) (w := w) (base := base) D_squares_in GL TR
  have c_told_in_order := cal_told_in_order (P := P) (w := w) (base := base) D_told_in_order GL
  have c_look_cut := cal_look_cut (P := P) (w := w) (base := base) D_look_cut GL DK TR c_is_cut
  have c_cut_moves := cal_cut_moves (P := P) (w := w) (base := base) D_cut_moves GL DK c_look_cut c_moves_of
  have c_set_shape := cal_set_shape (P := P) (w := w) (base := base) D_set_shape GL DK c_squares_in c_look_shape c_edge_of
  have c_tell_edge := cal_tell_edge (P := P) (w := w) (base := base) (C := C) D_tell_edge GL DK
  have c_tell_cut := cal_tell_cut (P := P) (w := w) (base := base) D_tell_cut GL DK TR c_cuts_of
  have c_tell_cuts := cal_tell_cuts (P := P) (w := w) (base := base) (C := C) D_tell_cuts GL DK c_told_in_order c_cuts_of
  have c_tell_moves := cal_tell_moves (P := P) (w := w) (base := base) D_tell_moves GL DK c_cut_moves
  have c_tell_grids := cal_tell_grids (P := P) (w := w) (base := base) (C := C) D_tell_grids GL DK c_told_in_order c_grids_of
  have c_tell_on := cal_tell_on (P := P) (w := w) (base := base) D_tell_on GL DK TR c_grids_of c_lying_on
  have c_tell_grid := cal_tell_grid (P := P) (w := w) (base := base) D_tell_grid GL DK c_cut_moves c_grids_of c_grid_made_of
  have c_tell_tiles := cal_tell_tiles (P := P) (w := w) (base := base) (C := C) D_tell_tiles GL DK c_cuts_of
  have c_split_calls := cal_split_calls (P := P) (w := w) (base := base) D_split_calls GL
  have DS : Deeds P w K mg base CD C := by
    refine ⟨[f_set_shape, f_tell_edge, f_tell_cut, f_tell_cuts, f_tell_moves, f_tell_grids, f_tell_on, f_tell_grid, f_tell_tiles], T_DEEDS, fun n hn => ?_⟩
    match n, hn with
    | 0, _ => exact ⟨_, rfl, TS, (c_set_shape.at (PySem.W.mg_of X G a_set_shape)).mono (by decide), fun tl h => well_s h⟩
    | 1, _ => exact ⟨_, rfl, T0, (c_tell_edge.at (PySem.W.mg_of X G a_tell_edge)).mono (by decide), fun tl h => well_0 (by decide) h⟩
    | 2, _ => exact ⟨_, rfl, T0, (c_tell_cut.at (PySem.W.mg_of X G a_tell_cut)).mono (by decide), fun tl h => well_0 (by decide) h⟩
    | 3, _ => exact ⟨_, rfl, T0, (c_tell_cuts.at (PySem.W.mg_of X G a_tell_cuts)).mono (by decide), fun tl h => well_0 (by decide) h⟩
    | 4, _ => exact ⟨_, rfl, T3, (c_tell_moves.at (PySem.W.mg_of X G a_tell_moves)).mono (by decide), fun tl h => well_3 (by decide) h⟩
    | 5, _ => exact ⟨_, rfl, T0, (c_tell_grids.at (PySem.W.mg_of X G a_tell_grids)).mono (by decide), fun tl h => well_0 (by decide) h⟩
    | 6, _ => exact ⟨_, rfl, T3, (c_tell_on.at (PySem.W.mg_of X G a_tell_on)).mono (by decide), fun tl h => well_3 (by decide) h⟩
    | 7, _ => exact ⟨_, rfl, T3, (c_tell_grid.at (PySem.W.mg_of X G a_tell_grid)).mono (by decide), fun tl h => well_3 (by decide) h⟩
    | 8, _ => exact ⟨_, rfl, T0, (c_tell_tiles.at (PySem.W.mg_of X G a_tell_tiles)).mono (by decide), fun tl h => well_0 (by decide) h⟩
    | n + 9, h => exact absurd h (by omega)
  have c_answer := cal_answer (P := P) (w := w) (base := base) D_answer DS TR
  exact ok_answers FA GL DK (PySem.W.mg_of X G aD) ⟨mkD, a_desk, iD, kcD⟩ FD bD c_split_calls c_answer
end Oc
namespace Oc
end Oc
open PySem PySem.W PyProof.Rows
set_option maxRecDepth 100000 in
set_option maxHeartbeats 16000000 in
theorem PySem.Challenge.cw_onecover_s01_answers_holds : PySem.Challenge.rw_onecover_s01_answers.Holds := by
  w_on; k_headS; (case hw => exact ⟨[.list [.int 1]], by decide +kernel, by decide +kernel⟩)
  k_fillS
  refine L2.walk_specK (r := PySem.Challenge.rw_onecover_s01_answers) (k := 8) (CX := L2.CX0) (ps := ["calls"]) (sp := Oc.spAnswers) (by decide +kernel) rfl rfl ⟨rfl, by decide, by decide⟩ (fun w h Y => PySem.W.kIn_of Y) ?F ?S (fun _ _ _ _ z => z)
  case F =>
    intro w mg fa h Y KX G hmg
    refine' Oc.all_mk KX G hmg ?a_beside ?l_beside ?c_beside ?k_beside ?a_square_at ?l_square_at ?c_square_at ?k_square_at ?a_next_way ?l_next_way ?c_next_way ?k_next_way ?a_turned ?l_turned ?c_turned ?k_turned ?a_rest_of ?l_rest_of ?c_rest_of ?k_rest_of ?a_gone_back ?l_gone_back ?c_gone_back ?k_gone_back ?a_parts_of ?l_parts_of ?c_parts_of ?k_parts_of ?a_is_cut ?l_is_cut ?c_is_cut ?k_is_cut ?a_cuts_of ?l_cuts_of ?c_cuts_of ?k_cuts_of ?a_come_along ?l_come_along ?c_come_along ?k_come_along ?a_moves_of ?l_moves_of ?c_moves_of ?k_moves_of ?a_sides_of ?l_sides_of ?c_sides_of ?k_sides_of ?a_first_corner ?l_first_corner ?c_first_corner ?k_first_corner ?a_edge_of ?l_edge_of ?c_edge_of ?k_edge_of ?a_covers ?l_covers ?c_covers ?k_covers ?a_grids_of ?l_grids_of ?c_grids_of ?k_grids_of ?a_lying_on ?l_lying_on ?c_lying_on ?k_lying_on ?a_is_made_of ?l_is_made_of ?c_is_made_of ?k_is_made_of ?a_grid_made_of ?l_grid_made_of ?c_grid_made_of ?k_grid_made_of ?a_squares_about ?l_squares_about ?c_squares_about ?k_squares_about ?a_reached_in ?l_reached_in ?c_reached_in ?k_reached_in ?a_reached ?l_reached ?c_reached ?k_reached ?a_look_shape ?l_look_shape ?c_look_shape ?k_look_shape ?a_squares_in ?l_squares_in ?c_squares_in ?k_squares_in ?a_told_in_order ?l_told_in_order ?c_told_in_order ?k_told_in_order ?a_look_cut ?l_look_cut ?c_look_cut ?k_look_cut ?a_cut_moves ?l_cut_moves ?c_cut_moves ?k_cut_moves ?a_set_shape ?l_set_shape ?c_set_shape ?k_set_shape ?a_tell_edge ?l_tell_edge ?c_tell_edge ?k_tell_edge ?a_tell_cut ?l_tell_cut ?c_tell_cut ?k_tell_cut ?a_tell_cuts ?l_tell_cuts ?c_tell_cuts ?k_tell_cuts ?a_tell_moves ?l_tell_moves ?c_tell_moves ?k_tell_moves ?a_tell_grids ?l_tell_grids ?c_tell_grids ?k_tell_grids ?a_tell_on ?l_tell_on ?c_tell_on ?k_tell_on ?a_tell_grid ?l_tell_grid ?c_tell_grid ?k_tell_grid ?a_tell_tiles ?l_tell_tiles ?c_tell_tiles ?k_tell_tiles ?a_split_calls ?l_split_calls ?c_split_calls ?k_split_calls ?a_answer ?l_answer ?c_answer ?k_answer ?a_answers ?l_answers ?c_answers ?k_answers ?aD ?a_desk ?l_desk ?c_desk ?k_desk ?iD ?pgD ?hdD ?poD ?saD ?mkD ?kcD ?nSD ?nED ?aC ?xL ?saC ?gaC ?ggC ?nbC ?a1C ?t1C ?l1C ?c1C ?kC ?eC ?tC ?hC ?iC ?sC ?b_len ?b_max ?b_min ?b_sum ?b_abs ?b_int ?b_set ?b_dict ?b_list ?b_zip ?b_range ?b_enumerate ?g_NOT_SO ?g_NO_GRID ?g_NO_CUT ?g_NO_SHAPE ?g_MOST_SQUARES ?g_LAST ?g_MOST_FAR ?g_SHAPE ?a_STEPS ?l_STEPS ?l_STEPS_0 ?l_STEPS_1 ?l_STEPS_2 ?l_STEPS_3 ?a_AHEAD_LEFT ?l_AHEAD_LEFT ?l_AHEAD_LEFT_0 ?l_AHEAD_LEFT_1 ?l_AHEAD_LEFT_2 ?l_AHEAD_LEFT_3 ?a_AHEAD_RIGHT ?l_AHEAD_RIGHT ?l_AHEAD_RIGHT_0 ?l_AHEAD_RIGHT_1 ?l_AHEAD_RIGHT_2 ?l_AHEAD_RIGHT_3 ?a_SIZES ?l_SIZES ?a_DEEDS ?l_DEEDS
    (case a_beside => k_is)
    (case l_beside => k_is)
    (case c_beside => k_is)
    (case k_beside => k_is)
    (case a_square_at => k_is)
    (case l_square_at => k_is)
    (case c_square_at => k_is)
    (case k_square_at => k_is)
    (case a_next_way => k_is)
    (case l_next_way => k_is)
    (case c_next_way => k_is)
    (case k_next_way => k_is)
    (case a_turned => k_is)
    (case l_turned => k_is)
    (case c_turned => k_is)
    (case k_turned => k_is)
    (case a_rest_of => k_is)
    (case l_rest_of => k_is)
    (case c_rest_of => k_is)
    (case k_rest_of => k_is)
    (case a_gone_back => k_is)
    (case l_gone_back => k_is)
    (case c_gone_back => k_is)
    (case k_gone_back => k_is)
    (case a_parts_of => k_is)
    (case l_parts_of => k_is)
    (case c_parts_of => k_is)
    (case k_parts_of => k_is)
    (case a_is_cut => k_is)
    (case l_is_cut => k_is)
    (case c_is_cut => k_is)
    (case k_is_cut => k_is)
    (case a_cuts_of => k_is)
    (case l_cuts_of => k_is)
    (case c_cuts_of => k_is)
    (case k_cuts_of => k_is)
    (case a_come_along => k_is)
    (case l_come_along => k_is)
    (case c_come_along => k_is)
    (case k_come_along => k_is)
    (case a_moves_of => k_is)
    (case l_moves_of => k_is)
    (case c_moves_of => k_is)
    (case k_moves_of => k_is)
    (case a_sides_of => k_is)
    (case l_sides_of => k_is)
    (case c_sides_of => k_is)
    (case k_sides_of => k_is)
    (case a_first_corner => k_is)
    (case l_first_corner => k_is)
    (case c_first_corner => k_is)
    (case k_first_corner => k_is)
    (case a_edge_of => k_is)
    (case l_edge_of => k_is)
    (case c_edge_of => k_is)
    (case k_edge_of => k_is)
    (case a_covers => k_is)
    (case l_covers => k_is)
    (case c_covers => k_is)
    (case k_covers => k_is)
    (case a_grids_of => k_is)
    (case l_grids_of => k_is)
    (case c_grids_of => k_is)
    (case k_grids_of => k_is)
    (case a_lying_on => k_is)
    (case l_lying_on => k_is)
    (case c_lying_on => k_is)
    (case k_lying_on => k_is)
    (case a_is_made_of => k_is)
    (case l_is_made_of => k_is)
    (case c_is_made_of => k_is)
    (case k_is_made_of => k_is)
    (case a_grid_made_of => k_is)
    (case l_grid_made_of => k_is)
    (case c_grid_made_of => k_is)
    (case k_grid_made_of => k_is)
    (case a_squares_about => k_is)
    (case l_squares_about => k_is)
    (case c_squares_about => k_is)
    (case k_squares_about => k_is)
    (case a_reached_in => k_is)
    (case l_reached_in => k_is)
    (case c_reached_in => k_is)
    (case k_reached_in => k_is)
    (case a_reached => k_is)
    (case l_reached => k_is)
    (case c_reached => k_is)
    (case k_reached => k_is)
    (case a_look_shape => k_is)
    (case l_look_shape => k_is)
    (case c_look_shape => k_is)
    (case k_look_shape => k_is)
    (case a_squares_in => k_is)
    (case l_squares_in => k_is)
    (case c_squares_in => k_is)
    (case k_squares_in => k_is)
    (case a_told_in_order => k_is)
    (case l_told_in_order => k_is)
    (case c_told_in_order => k_is)
    (case k_told_in_order => k_is)
    (case a_look_cut => k_is)
    (case l_look_cut => k_is)
    (case c_look_cut => k_is)
    (case k_look_cut => k_is)
    (case a_cut_moves => k_is)
    (case l_cut_moves => k_is)
    (case c_cut_moves => k_is)
    (case k_cut_moves => k_is)
    (case a_set_shape => k_is)
    (case l_set_shape => k_is)
    (case c_set_shape => k_is)
    (case k_set_shape => k_is)
    (case a_tell_edge => k_is)
    (case l_tell_edge => k_is)
    (case c_tell_edge => k_is)
    (case k_tell_edge => k_is)
    (case a_tell_cut => k_is)
    (case l_tell_cut => k_is)
    (case c_tell_cut => k_is)
    (case k_tell_cut => k_is)
    (case a_tell_cuts => k_is)
    (case l_tell_cuts => k_is)
    (case c_tell_cuts => k_is)
    (case k_tell_cuts => k_is)
    (case a_tell_moves => k_is)
    (case l_tell_moves => k_is)
    (case c_tell_moves => k_is)
    (case k_tell_moves => k_is)
    (case a_tell_grids => k_is)
    (case l_tell_grids => k_is)
    (case c_tell_grids => k_is)
    (case k_tell_grids => k_is)
    (case a_tell_on => k_is)
    (case l_tell_on => k_is)
    (case c_tell_on => k_is)
    (case k_tell_on => k_is)
    (case a_tell_grid => k_is)
    (case l_tell_grid => k_is)
    (case c_tell_grid => k_is)
    (case k_tell_grid => k_is)
    (case a_tell_tiles => k_is)
    (case l_tell_tiles => k_is)
    (case c_tell_tiles => k_is)
    (case k_tell_tiles => k_is)
    (case a_split_calls => k_is)
    (case l_split_calls => k_is)
    (case c_split_calls => k_is)
    (case k_split_calls => k_is)
    (case a_answer => k_is)
    (case l_answer => k_is)
    (case c_answer => k_is)
    (case k_answer => k_is)
    (case a_answers => k_is)
    (case l_answers => k_is)
    (case c_answers => k_is)
    (case k_answers => k_is)
    (case aD => k_is)
    (case a_desk => k_is)
    (case l_desk => k_is)
    (case c_desk => k_is)
    (case k_desk => k_is)
    (case iD => k_is)
    (case pgD => k_is)
    (case hdD => k_is)
    (case poD => k_is)
    (case saD => k_is)
    (case mkD => k_is)
    (case kcD => k_is)
    (case nSD => k_is)
    (case nED => k_is)
    (case aC => k_is)
    (case xL => k_is)
    (case saC => k_is)
    (case gaC => k_is)
    (case ggC => k_is)
    (case nbC => k_is)
    (case a1C => k_is)
    (case t1C => k_is)
    (case l1C => k_is)
    (case c1C => k_is)
    (case kC => k_is)
    (case eC => k_is)
    (case tC => k_is)
    (case hC => k_is)
    (case iC => k_is)
    (case sC => first | rfl | k_is)
    (case b_len => k_is)
    (case b_max => k_is)
    (case b_min => k_is)
    (case b_sum => k_is)
    (case b_abs => k_is)
    (case b_int => k_is)
    (case b_set => k_is)
    (case b_dict => k_is)
    (case b_list => k_is)
    (case b_zip => k_is)
    (case b_range => k_is)
    (case b_enumerate => k_is)
    (case g_NOT_SO => k_is)
    (case g_NO_GRID => k_is)
    (case g_NO_CUT => k_is)
    (case g_NO_SHAPE => k_is)
    (case g_MOST_SQUARES => k_is)
    (case g_LAST => k_is)
    (case g_MOST_FAR => k_is)
    (case g_SHAPE => k_is)
    (case a_STEPS => k_is)
    (case l_STEPS => k_is)
    (case l_STEPS_0 => k_is)
    (case l_STEPS_1 => k_is)
    (case l_STEPS_2 => k_is)
    (case l_STEPS_3 => k_is)
    (case a_AHEAD_LEFT => k_is)
    (case l_AHEAD_LEFT => k_is)
    (case l_AHEAD_LEFT_0 => k_is)
    (case l_AHEAD_LEFT_1 => k_is)
    (case l_AHEAD_LEFT_2 => k_is)
    (case l_AHEAD_LEFT_3 => k_is)
    (case a_AHEAD_RIGHT => k_is)
    (case l_AHEAD_RIGHT => k_is)
    (case l_AHEAD_RIGHT_0 => k_is)
    (case l_AHEAD_RIGHT_1 => k_is)
    (case l_AHEAD_RIGHT_2 => k_is)
    (case l_AHEAD_RIGHT_3 => k_is)
    (case a_SIZES => k_is)
    (case l_SIZES => k_is)
    (case a_DEEDS => k_is)
    (case l_DEEDS => k_is)
  case S =>
    intro K H xs a hO hwi hask hx
    cases hx with
    | cons h1 h2 =>
      cases h2
      cases h1 with
      | lst hs ha =>
        have e := L2.ints_dw a.1 _ ha
        subst e
        exact ⟨_, a.1, rfl, hs, hask, fun H' p hp => .lst (L2.SqL.of hp) (L2.dw_ints _)⟩

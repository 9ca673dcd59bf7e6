import PyProof.Rows.All
import Wide.All
import OpenK.AllK
import Wide.FinOn
import HandS.ForMost
import HandS.IsInst
import HandS.TupMul
import HandS.TupAny
import HandS.Style
import HandS.Zip
import HandS.Wide
import HandS.Flow
import KE.KDictKeyed
import KE.KeyNested
import KE.KDictDisplayH
import KE.GoesEnum
import KE.DatumOrd
import PyProof.NeKinds
import PySem.Challenge.RW_scoreforms_k09_whole_parting
set_option linter.all false
/-! the game in plain Lean: levels, rounds, forms, the score after a point, settled scores -/
namespace SF
structure Lvl where
  t : Nat
  l : Nat
  c : Option Nat
deriving DecidableEq
abbrev Pr := Nat × Nat
abbrev Stt := List Pr
abbrev Frm := List Lvl
def hi (p : Pr) : Nat := if p.2 < p.1 then p.1 else p.2
def lo (p : Pr) : Nat := if p.2 < p.1 then p.2 else p.1
/-- the side that leads, side 1 where none does -/
def lead (p : Pr) : Bool := if p.2 < p.1 then false else true
def rwin (v : Lvl) (p : Pr) : Option Bool := if (v.t ≤ hi p ∧ lo p + v.l ≤ hi p) ∨ v.c = some (hi p) then some (lead p) else none
def plus (p : Pr) (s : Bool) : Pr := if s then (p.1, p.2 + 1) else (p.1 + 1, p.2)
def own (p : Pr) (s : Bool) : Nat := if s then p.2 else p.1
/-- has a side with x units against y won -/
def lwon (v : Lvl) (x y : Nat) : Prop := (v.t ≤ x ∧ y + v.l ≤ x) ∨ v.c = some x
instance (v : Lvl) (x y : Nat) : Decidable (lwon v x y) := by unfold lwon; exact inferInstance
def OkL (v : Lvl) : Prop := (1 ≤ v.t ∧ v.t ≤ 5) ∧ (1 ≤ v.l ∧ v.l ≤ 3) ∧ ∀ c, v.c = some c → v.t ≤ c ∧ c ≤ 9
/-- in progress: not won, below the cap -/
def Inp (v : Lvl) (p : Pr) : Prop := rwin v p = none ∧ ∀ c, v.c = some c → hi p < c
theorem rwin_none {v : Lvl} {p : Pr} : rwin v p = none ↔ ¬ ((v.t ≤ hi p ∧ lo p + v.l ≤ hi p) ∨ v.c = some (hi p)) := by
  unfold rwin
  split
  · rename_i h; simp [h]
  · rename_i h; simp [h]
theorem inp_zero {v : Lvl} (h : OkL v) : Inp v (0, 0) := by
  obtain ⟨⟨h1, _⟩, ⟨h2, _⟩, h3⟩ := h
  refine ⟨rwin_none.mpr ?_, fun c e => ?_⟩
  · simp only [hi, lo]
    rintro (h | h)
    · simp at h; omega
    · have := (h3 _ h).1
      simp at this; omega
  · have := (h3 c e).1
    simp [hi]; omega
theorem hi_plus {p : Pr} {s : Bool} : hi (plus p s) ≤ hi p + 1 := by
  unfold hi plus
  cases s <;> simp <;> (repeat' split) <;> simp_all <;> omega
theorem inp_plus {v : Lvl} {p : Pr} {s : Bool} (h : Inp v p) (hn : rwin v (plus p s) = none) : Inp v (plus p s) := by
  refine ⟨hn, fun c e => ?_⟩
  have h1 := h.2 c e
  have h2 := hi_plus (p := p) (s := s)
  have h3 := rwin_none.mp hn
  have h4 : hi (plus p s) ≠ c := fun q => h3 (.inr (by rw [q]; exact e))
  omega
/-- behind a point the round is won by the side that won the point, if at all -/
theorem rwin_plus {v : Lvl} {p : Pr} {s : Bool} (hl : 1 ≤ v.l) (h : Inp v p) :
    rwin v (plus p s) = if lwon v (own (plus p s) s) (own (plus p s) (!s)) then some s else none := by
  obtain ⟨h0, hc⟩ := h
  have h' := rwin_none.mp h0
  obtain ⟨t, l, c⟩ := v
  obtain ⟨a, b⟩ := p
  simp only [hi, lo] at h' hl hc
  cases s with
  | false =>
    simp only [plus, rwin, lwon, own, hi, lo, lead, Bool.not_false, if_true, Bool.false_eq_true, if_false]
    by_cases q : b < a + 1
    · simp only [q, if_true]
    · have q1 : ¬ b < a := by omega
      simp only [q1, if_false] at h' hc
      have n1 : ¬ ((t ≤ b ∧ a + 1 + l ≤ b) ∨ c = some b) := fun z => h' (z.imp (fun z => ⟨z.1, by omega⟩) id)
      have n2 : ¬ ((t ≤ a + 1 ∧ b + l ≤ a + 1) ∨ c = some (a + 1)) := by
        rintro (z | z)
        · omega
        · have := hc _ z
          omega
      simp only [q, n1, n2, if_false]
  | true =>
    simp only [plus, rwin, lwon, own, hi, lo, lead, Bool.not_true, if_true, Bool.false_eq_true, if_false]
    by_cases q : b + 1 < a
    · have q1 : b < a := by omega
      simp only [q1, if_true] at h' hc
      have n1 : ¬ ((t ≤ a ∧ b + 1 + l ≤ a) ∨ c = some a) := fun z => h' (z.imp (fun z => ⟨z.1, by omega⟩) id)
      have n2 : ¬ ((t ≤ b + 1 ∧ a + l ≤ b + 1) ∨ c = some (b + 1)) := by
        rintro (z | z)
        · omega
        · have := hc _ z
          omega
      simp only [q, n1, n2, if_true, if_false]
    · simp only [q, if_false]
/-! ### settled pairs -/
def set1 (v : Lvl) (p : Pr) : Pr := match v.c with
  | some _ => p
  | none => if v.t ≤ min p.1 p.2 then (p.1 - (min p.1 p.2 - v.t + 1), p.2 - (min p.1 p.2 - v.t + 1)) else p
theorem set1_zero {v : Lvl} (h : OkL v) : set1 v (0, 0) = (0, 0) := by
  unfold set1
  cases v.c with
  | some _ => rfl
  | none =>
    have := h.1.1
    rw [if_neg (by simp; omega)]
/-- what a point does to a settled pair -/
theorem set1_win {v : Lvl} (h : OkL v) (p : Pr) (s : Bool) : rwin v (plus (set1 v p) s) = rwin v (plus p s) := by
  obtain ⟨⟨h1, _⟩, ⟨h2, _⟩, _⟩ := h
  obtain ⟨t, l, c⟩ := v
  obtain ⟨a, b⟩ := p
  simp only at h1 h2
  cases c with
  | some x => rfl
  | none =>
    simp only [set1]
    by_cases hm : t ≤ min a b
    · rw [if_pos hm]
      have g1 : t ≤ a := by omega
      have g2 : t ≤ b := by omega
      cases s <;> simp only [plus, rwin, hi, lo, lead, Bool.false_eq_true, if_false, if_true, reduceCtorEq, or_false] <;>
        (repeat' split) <;> first | rfl | (exfalso; omega) | (simp_all <;> omega)
    · rw [if_neg hm]
theorem set1_plus {v : Lvl} (h : OkL v) (p : Pr) (s : Bool) : set1 v (plus (set1 v p) s) = set1 v (plus p s) := by
  obtain ⟨⟨h1, _⟩, ⟨h2, _⟩, _⟩ := h
  obtain ⟨t, l, c⟩ := v
  obtain ⟨a, b⟩ := p
  simp only at h1 h2
  cases c with
  | some x => rfl
  | none =>
    simp only [set1]
    by_cases hm : t ≤ min a b
    · rw [if_pos hm]
      cases s <;> simp only [plus, Bool.false_eq_true, if_false, if_true] <;> (repeat' split) <;> first | rfl | (exfalso; omega) | (refine Prod.ext ?_ ?_ <;> simp only <;> omega)
    · rw [if_neg hm]
theorem set1_idem {v : Lvl} (h : OkL v) (p : Pr) : set1 v (set1 v p) = set1 v p := by
  obtain ⟨⟨h1, _⟩, ⟨h2, _⟩, _⟩ := h
  obtain ⟨t, l, c⟩ := v
  obtain ⟨a, b⟩ := p
  simp only at h1 h2
  cases c with
  | some x => rfl
  | none =>
    simp only [set1]
    by_cases hm : t ≤ min a b
    · rw [if_pos hm]
      simp only
      rw [if_neg (by omega)]
    · rw [if_neg hm, if_neg hm]
theorem inp_set1 {v : Lvl} (h : OkL v) {p : Pr} (i : Inp v p) : Inp v (set1 v p) := by
  obtain ⟨⟨h1, _⟩, ⟨h2, _⟩, _⟩ := h
  obtain ⟨t, l, c⟩ := v
  obtain ⟨a, b⟩ := p
  simp only at h1 h2
  cases c with
  | some x => exact i
  | none =>
    refine ⟨?_, fun c e => nomatch e⟩
    simp only [set1]
    by_cases hm : t ≤ min a b
    · rw [if_pos hm]
      refine rwin_none.mpr ?_
      have i' := rwin_none.mp i.1
      simp only [hi, lo, reduceCtorEq, or_false] at i' ⊢
      intro z
      apply i'
      by_cases q : b < a
      · have q' : b - (min a b - t + 1) < a - (min a b - t + 1) := by omega
        rw [if_pos q', if_pos q'] at z
        rw [if_pos q, if_pos q]
        omega
      · have q' : ¬ b - (min a b - t + 1) < a - (min a b - t + 1) := by omega
        rw [if_neg q', if_neg q'] at z
        rw [if_neg q, if_neg q]
        omega
    · rw [if_neg hm]
      exact i.1
/-! ### forms -/
/-- the score after a point, and the side that has won the match by it -/
def aft : Frm → Stt → Bool → Stt × Option Bool
  | v :: f, p :: st, s =>
    match rwin v (plus p s) with
    | none => (plus p s :: st, none)
    | some x => match f with
      | [] => (plus p s :: st, some x)
      | _ :: _ => ((0, 0) :: (aft f st s).1, (aft f st s).2)
  | _, st, _ => (st, none)
def stl : Frm → Stt → Stt
  | v :: f, p :: st => set1 v p :: stl f st
  | _, _ => []
def strt (f : Frm) : Stt := f.map fun _ => (0, 0)
def OkF (f : Frm) : Prop := ∀ v ∈ f, OkL v
/-- the score is one in a match that goes on -/
def InpF : Frm → Stt → Prop
  | v :: f, p :: st => Inp v p ∧ InpF f st
  | [], [] => True
  | _, _ => False
theorem InpF.len : ∀ {f : Frm} {st : Stt}, InpF f st → f.length = st.length
  | [], [], _ => rfl
  | _ :: _, _ :: _, h => by simp [InpF.len h.2]
  | [], _ :: _, h => h.elim
  | _ :: _, [], h => h.elim
theorem stl_len : ∀ {f : Frm} {st : Stt}, f.length = st.length → (stl f st).length = f.length
  | [], [], _ => rfl
  | _ :: f, _ :: st, h => by simp [stl, stl_len (f := f) (st := st) (by simpa using h)]
theorem aft_len : ∀ (f : Frm) (st : Stt) (s : Bool), (aft f st s).1.length = st.length
  | [], st, _ => by simp [aft]
  | _ :: _, [], _ => by simp [aft]
  | v :: f, p :: st, s => by
    unfold aft
    cases rwin v (plus p s) with
    | none => rfl
    | some x => cases f with
      | nil => rfl
      | cons w f => simp [aft_len (w :: f) st s]
theorem inpF_strt : ∀ {f : Frm}, OkF f → InpF f (strt f)
  | [], _ => trivial
  | v :: f, h => ⟨inp_zero (h v (by simp)), inpF_strt fun w hw => h w (by simp [hw])⟩
theorem inpF_aft : ∀ {f : Frm} {st : Stt} {s : Bool}, OkF f → InpF f st → (aft f st s).2 = none → InpF f (aft f st s).1
  | [], [], _, _, _, _ => trivial
  | v :: f, p :: st, s, hf, h, hn => by
    unfold aft at hn ⊢
    cases e : rwin v (plus p s) with
    | none => exact ⟨inp_plus h.1 e, h.2⟩
    | some x =>
      rw [e] at hn
      cases f with
      | nil => cases hn
      | cons w f => exact ⟨inp_zero (hf v (by simp)), inpF_aft (fun u hu => hf u (by simp [hu])) h.2 hn⟩
  | [], _ :: _, _, _, h, _ => h.elim
  | _ :: _, [], _, _, h, _ => h.elim
theorem inpF_stl : ∀ {f : Frm} {st : Stt}, OkF f → InpF f st → InpF f (stl f st)
  | [], [], _, _ => trivial
  | v :: f, p :: st, hf, h => ⟨inp_set1 (hf v (by simp)) h.1, inpF_stl (fun u hu => hf u (by simp [hu])) h.2⟩
  | [], _ :: _, _, h => h.elim
  | _ :: _, [], _, h => h.elim
theorem stl_stl : ∀ {f : Frm} (st : Stt), OkF f → stl f (stl f st) = stl f st
  | [], _, _ => by simp [stl]
  | _ :: _, [], _ => by simp [stl]
  | v :: f, p :: st, hf => by
    simp only [stl]
    rw [set1_idem (hf v (by simp)), stl_stl st fun u hu => hf u (by simp [hu])]
theorem stl_strt : ∀ {f : Frm}, OkF f → stl f (strt f) = strt f
  | [], _ => rfl
  | v :: f, hf => by
    show set1 v (0, 0) :: stl f (strt f) = (0, 0) :: strt f
    rw [set1_zero (hf v (by simp)), stl_strt fun u hu => hf u (by simp [hu])]
/-- a point on a settled score: the same winner -/
theorem aft_stl_win : ∀ {f : Frm} (st : Stt) (s : Bool), OkF f → (aft f (stl f st) s).2 = (aft f st s).2
  | [], _, _, _ => by simp [aft, stl]
  | _ :: _, [], _, _ => by simp [aft, stl]
  | v :: f, p :: st, s, hf => by
    show (aft (v :: f) (set1 v p :: stl f st) s).2 = _
    unfold aft
    rw [set1_win (hf v (by simp))]
    cases rwin v (plus p s) with
    | none => rfl
    | some x => cases f with
      | nil => rfl
      | cons w f => exact aft_stl_win st s fun u hu => hf u (by simp [hu])
/-- .. and, settled, the same score -/
theorem aft_stl : ∀ {f : Frm} (st : Stt) (s : Bool), OkF f → stl f (aft f (stl f st) s).1 = stl f (aft f st s).1
  | [], _, _, _ => by simp [stl]
  | _ :: _, [], _, _ => by simp [aft, stl]
  | v :: f, p :: st, s, hf => by
    have hs : stl f (stl f st) = stl f st := stl_stl st fun u hu => hf u (by simp [hu])
    show stl (v :: f) (aft (v :: f) (set1 v p :: stl f st) s).1 = _
    unfold aft
    rw [set1_win (hf v (by simp))]
    cases rwin v (plus p s) with
    | none =>
      show set1 v (plus (set1 v p) s) :: stl f (stl f st) = set1 v (plus p s) :: stl f st
      rw [set1_plus (hf v (by simp)), hs]
    | some x => cases f with
      | nil =>
        show set1 v (plus (set1 v p) s) :: _ = set1 v (plus p s) :: _
        rw [set1_plus (hf v (by simp)), hs]
      | cons w f =>
        show set1 v (0, 0) :: _ = set1 v (0, 0) :: _
        rw [aft_stl st s fun u hu => hf u (by simp [hu])]
/-! ### rows -/
/-- who has won after a row, from a score on -/
def plW (f : Frm) : Stt → List Bool → Option Bool
  | _, [] => none
  | st, s :: r => match (aft f st s).2 with
    | some x => some x
    | none => plW f (aft f st s).1 r
theorem plW_stl {f : Frm} (hf : OkF f) : ∀ (r : List Bool) (st : Stt), plW f (stl f st) r = plW f st r
  | [], _ => rfl
  | s :: r, st => by
    unfold plW
    rw [aft_stl_win st s hf]
    cases (aft f st s).2 with
    | some x => rfl
    | none =>
      show plW f (aft f (stl f st) s).1 r = plW f (aft f st s).1 r
      rw [← plW_stl hf r (aft f (stl f st) s).1, aft_stl st s hf, plW_stl hf r]
/-- the winner after a row -/
def win (f : Frm) (r : List Bool) : Option Bool := plW f (strt f) r
end SF
set_option linter.all false
/-! a search level by level over a system of states: what it keeps, what it finds -/
namespace SF
structure Sys (K : Type) where
  st : K
  w1 : K → Bool → Option Bool
  w2 : K → Bool → Option Bool
  nx : K → Bool → K
section
variable {K : Type} (S : Sys K)
/-- who has won behind a row, by the one reading of the winners -/
def plS (w : K → Bool → Option Bool) (nx : K → Bool → K) : K → List Bool → Option Bool
  | _, [] => none
  | k, s :: r => match w k s with
    | some x => some x
    | none => plS w nx (nx k s) r
abbrev Sys.p1 (k : K) (r : List Bool) : Option Bool := plS S.w1 S.nx k r
abbrev Sys.p2 (k : K) (r : List Bool) : Option Bool := plS S.w2 S.nx k r
/-- the state behind a row by which neither has won -/
def Sys.go : K → List Bool → Option K
  | k, [] => some k
  | k, s :: r => if S.w1 k s = none ∧ S.w2 k s = none then Sys.go (S.nx k s) r else none
/-- no row of at most n points tells them apart -/
def Sys.Safe (n : Nat) (k : K) : Prop := ∀ r : List Bool, r.length ≤ n → S.p1 k r = S.p2 k r
end
section
variable {K : Type} {S : Sys K}
theorem go_p1 : ∀ {r : List Bool} {k k' : K} (r' : List Bool), S.go k r = some k' → S.p1 k (r ++ r') = S.p1 k' r'
  | [], k, k', r', h => by cases h; rfl
  | s :: r, k, k', r', h => by
    unfold Sys.go at h
    split at h
    · rename_i hw
      show (match S.w1 k s with | some x => some x | none => plS S.w1 S.nx (S.nx k s) (r ++ r')) = _
      rw [hw.1]
      exact go_p1 r' h
    · cases h
theorem go_p2 : ∀ {r : List Bool} {k k' : K} (r' : List Bool), S.go k r = some k' → S.p2 k (r ++ r') = S.p2 k' r'
  | [], k, k', r', h => by cases h; rfl
  | s :: r, k, k', r', h => by
    unfold Sys.go at h
    split at h
    · rename_i hw
      show (match S.w2 k s with | some x => some x | none => plS S.w2 S.nx (S.nx k s) (r ++ r')) = _
      rw [hw.2]
      exact go_p2 r' h
    · cases h
theorem go_snoc : ∀ {r : List Bool} {k k' : K} (s : Bool), S.go k r = some k' → S.w1 k' s = none → S.w2 k' s = none → S.go k (r ++ [s]) = some (S.nx k' s)
  | [], k, k', s, h, h1, h2 => by
    cases h
    show (if S.w1 k s = none ∧ S.w2 k s = none then some (S.nx k s) else none) = _
    rw [if_pos ⟨h1, h2⟩]
  | t :: r, k, k', s, h, h1, h2 => by
    unfold Sys.go at h
    split at h
    · rename_i hw
      show (if S.w1 k t = none ∧ S.w2 k t = none then S.go (S.nx k t) (r ++ [s]) else none) = _
      rw [if_pos hw]
      exact go_snoc s h h1 h2
    · cases h
theorem go_snoc_inv : ∀ {r : List Bool} {k k' : K} {s : Bool}, S.go k (r ++ [s]) = some k' → ∃ k0, S.go k r = some k0 ∧ S.w1 k0 s = none ∧ S.w2 k0 s = none ∧ S.nx k0 s = k'
  | [], k, k', s, h => by
    have h' : (if S.w1 k s = none ∧ S.w2 k s = none then some (S.nx k s) else none) = some k' := h
    split at h'
    · rename_i hw
      exact ⟨k, rfl, hw.1, hw.2, Option.some.inj h'⟩
    · cases h'
  | t :: r, k, k', s, h => by
    have h' : (if S.w1 k t = none ∧ S.w2 k t = none then S.go (S.nx k t) (r ++ [s]) else none) = some k' := h
    split at h'
    · rename_i hw
      obtain ⟨k0, e, q⟩ := go_snoc_inv h'
      refine ⟨k0, ?_, q⟩
      show (if S.w1 k t = none ∧ S.w2 k t = none then S.go (S.nx k t) r else none) = _
      rw [if_pos hw]
      exact e
    · cases h'
theorem safe_zero {k : K} : S.Safe 0 k := fun r h => by
  have : r = [] := List.length_eq_zero_iff.mp (Nat.le_zero.mp h)
  subst this
  rfl
/-- where every state that m points reach has alike winners next, m + 1 points are safe -/
theorem safe_of : ∀ {m : Nat} {k : K}, (∀ r : List Bool, r.length ≤ m → ∀ k', S.go k r = some k' → ∀ s, S.w1 k' s = S.w2 k' s) → S.Safe (m + 1) k
  | m, k, h => fun r hr => by
    cases r with
    | nil => rfl
    | cons s r =>
      have e := h [] (Nat.zero_le _) k rfl s
      show (match S.w1 k s with | some x => some x | none => plS S.w1 S.nx (S.nx k s) r) = (match S.w2 k s with | some x => some x | none => plS S.w2 S.nx (S.nx k s) r)
      rw [← e]
      cases hw : S.w1 k s with
      | some x => rfl
      | none =>
        have h2 : S.w2 k s = none := by rw [← e]; exact hw
        cases m with
        | zero =>
          have : r = [] := List.length_eq_zero_iff.mp (by rw [List.length_cons] at hr; omega)
          subst this
          rfl
        | succ m =>
          refine safe_of (m := m) (k := S.nx k s) (fun r' hr' k' hg => h (s :: r') (by simpa using hr') k' ?_) r (by simpa using hr)
          show (if S.w1 k s = none ∧ S.w2 k s = none then S.go (S.nx k s) r' else none) = _
          rw [if_pos ⟨hw, h2⟩]
          exact hg
/-- the next points of a state are looked at -/
def Okk (S : Sys K) (keys : List K) (k : K) : Prop := ∀ s, S.w1 k s = S.w2 k s ∧ (S.w1 k s = none → S.nx k s ∈ keys)
/-- T: how a key is reached by a row -/
structure Bfs (S : Sys K) (T : K → List Bool → Prop) (n : Nat) (keys lev : List K) : Prop where
  tru : ∀ k r, T k r → S.go S.st r = some k
  path : ∀ k ∈ keys, ∃ r, T k r ∧ r.length ≤ n
  lv : ∀ k ∈ lev, k ∈ keys ∧ ∃ r, T k r ∧ r.length = n
  dn : ∀ k ∈ keys, k ∉ lev → Okk S keys k
  safe : S.Safe n S.st
  all : ∀ r : List Bool, r.length ≤ n → ∀ k, S.go S.st r = some k → k ∈ keys
/-- in the midst of a level; D: what has been looked at -/
structure Mid (S : Sys K) (T : K → List Bool → Prop) (n : Nat) (keys0 lev : List K) (T' : K → List Bool → Prop) (keys later : List K) (D : K → Bool → Prop) : Prop where
  old : Bfs S T n keys0 lev
  tru : ∀ k r, T' k r → S.go S.st r = some k
  mono : ∀ k r, T k r → T' k r
  ext : ∀ k ∈ keys0, k ∈ keys
  spl : ∀ k ∈ keys, k ∈ keys0 ∨ k ∈ later
  lat : ∀ k ∈ later, k ∈ keys ∧ ∃ r, T' k r ∧ r.length = n + 1
  dn : ∀ k s, D k s → S.w1 k s = S.w2 k s ∧ (S.w1 k s = none → S.nx k s ∈ keys)
variable {T T' T'' : K → List Bool → Prop} {n : Nat} {keys0 lev keys later : List K} {D D' : K → Bool → Prop}
theorem Bfs.mid (B : Bfs S T n keys0 lev) : Mid S T n keys0 lev T keys0 [] (fun _ _ => False) :=
  ⟨B, B.tru, fun _ _ h => h, fun _ h => h, fun _ h => .inl h, (fun _ h => nomatch h), (fun _ _ h => False.elim h)⟩
theorem Mid.skip (M : Mid S T n keys0 lev T' keys later D) {k : K} {s : Bool} (h : S.w1 k s = S.w2 k s) (h2 : S.w1 k s = none → S.nx k s ∈ keys)
    (hD : ∀ a b, D' a b → D a b ∨ (a = k ∧ b = s)) : Mid S T n keys0 lev T' keys later D' :=
  ⟨M.old, M.tru, M.mono, M.ext, M.spl, M.lat, fun a b q => (hD a b q).elim (M.dn a b) fun z => by rw [z.1, z.2]; exact ⟨h, h2⟩⟩
theorem Mid.add (M : Mid S T n keys0 lev T' keys later D) {k : K} {s : Bool} (h1 : S.w1 k s = none) (h2 : S.w2 k s = none)
    (tru : ∀ k r, T'' k r → S.go S.st r = some k) (mono : ∀ k r, T' k r → T'' k r) (new : ∃ r, T'' (S.nx k s) r ∧ r.length = n + 1)
    (hD : ∀ a b, D' a b → D a b ∨ (a = k ∧ b = s)) : Mid S T n keys0 lev T'' (keys ++ [S.nx k s]) (later ++ [S.nx k s]) D' := by
  refine ⟨M.old, tru, fun a r q => mono a r (M.mono a r q), fun a q => List.mem_append_left _ (M.ext a q), fun a q => ?_, fun a q => ?_, fun a b q => ?_⟩
  · rcases List.mem_append.mp q with q | q
    · exact (M.spl a q).imp id fun z => List.mem_append_left _ z
    · exact .inr (List.mem_append_right _ q)
  · rcases List.mem_append.mp q with q | q
    · obtain ⟨z, r, z1, z2⟩ := M.lat a q
      exact ⟨List.mem_append_left _ z, r, mono a r z1, z2⟩
    · have e : a = S.nx k s := by simpa using q
      subst e
      exact ⟨List.mem_append_right _ q, new⟩
  · rcases hD a b q with q | ⟨e1, e2⟩
    · obtain ⟨z1, z2⟩ := M.dn a b q
      exact ⟨z1, fun z => List.mem_append_left _ (z2 z)⟩
    · subst e1 e2
      exact ⟨h1.trans h2.symm, fun _ => List.mem_append_right _ (by simp)⟩
theorem Mid.fin (M : Mid S T n keys0 lev T' keys later D) (hD : ∀ k ∈ lev, ∀ s, D k s) : Bfs S T' (n + 1) keys later := by
  have B := M.old
  have okk : ∀ k ∈ keys0, Okk S keys k := fun k hk s => by
    by_cases hl : k ∈ lev
    · exact M.dn k s (hD k hl s)
    · obtain ⟨a, b⟩ := B.dn k hk hl s
      exact ⟨a, fun z => M.ext _ (b z)⟩
  refine ⟨M.tru, fun k hk => ?_, M.lat, fun k hk hl => ?_, safe_of fun r hr k' hg => fun s => (okk k' (B.all r hr k' hg) s).1, fun r hr k hg => ?_⟩
  · rcases M.spl k hk with q | q
    · obtain ⟨r, z1, z2⟩ := B.path k q
      exact ⟨r, M.mono k r z1, by omega⟩
    · obtain ⟨_, r, z1, z2⟩ := M.lat k q
      exact ⟨r, z1, by omega⟩
  · exact okk k ((M.spl k hk).resolve_right hl)
  · by_cases hr' : r.length ≤ n
    · exact M.ext k (B.all r hr' k hg)
    · have hne : r ≠ [] := fun z => by subst z; exact hr' (Nat.zero_le _)
      have er : r = r.dropLast ++ [r.getLast hne] := (List.dropLast_concat_getLast hne).symm
      rw [er] at hg
      obtain ⟨k1, g1, g2, g3, g4⟩ := go_snoc_inv hg
      have := B.all r.dropLast (by rw [List.length_dropLast]; omega) k1 g1
      rw [← g4]
      exact (okk k1 this _).2 g2
/-- every key is reached by a row no shorter part of which tells them apart -/
theorem Mid.keys_ok (M : Mid S T n keys0 lev T' keys later D) : ∀ k ∈ keys, ∃ r, S.go S.st r = some k ∧ ∀ r' : List Bool, r'.length < r.length → S.p1 S.st r' = S.p2 S.st r' := fun k hk => by
  rcases M.spl k hk with q | q
  · obtain ⟨r, z1, z2⟩ := M.old.path k q
    exact ⟨r, M.old.tru k r z1, fun r' h => M.old.safe r' (by omega)⟩
  · obtain ⟨_, r, z1, z2⟩ := M.lat k q
    exact ⟨r, M.tru k r z1, fun r' h => M.old.safe r' (by omega)⟩
/-- found: the row to a key of the level and one point more -/
theorem Bfs.found (B : Bfs S T n keys0 lev) {k : K} {s : Bool} {r : List Bool} (hr : S.go S.st r = some k) (hn : r.length = n) (h : S.w1 k s ≠ S.w2 k s) :
    S.p1 S.st (r ++ [s]) ≠ S.p2 S.st (r ++ [s]) ∧ ∀ r', S.p1 S.st r' ≠ S.p2 S.st r' → n + 1 ≤ r'.length := by
  refine ⟨?_, fun r' h' => Nat.succ_le_of_lt (Nat.lt_of_not_le fun z => h' (B.safe r' z))⟩
  rw [go_p1 [s] hr, go_p2 [s] hr]
  have e1 : S.p1 k [s] = S.w1 k s := by
    show (match S.w1 k s with | some x => some x | none => none) = _
    cases S.w1 k s <;> rfl
  have e2 : S.p2 k [s] = S.w2 k s := by
    show (match S.w2 k s with | some x => some x | none => none) = _
    cases S.w2 k s <;> rfl
  rw [e1, e2]
  exact h
/-- nothing is left to look at: no row tells them apart -/
theorem Bfs.none (B : Bfs S T n keys0 []) : ∀ r, S.p1 S.st r = S.p2 S.st r := by
  have okk : ∀ k ∈ keys0, Okk S keys0 k := fun k hk => B.dn k hk (by simp)
  have ins : ∀ (r : List Bool) (k k' : K), k ∈ keys0 → S.go k r = some k' → k' ∈ keys0 := by
    intro r
    induction r with
    | nil => intro k k' hk h; cases h; exact hk
    | cons s r ih =>
      intro k k' hk h
      unfold Sys.go at h
      split at h
      · rename_i hw
        exact ih _ _ ((okk k hk s).2 hw.1) h
      · cases h
  have h0 : S.st ∈ keys0 := B.all [] (Nat.zero_le _) S.st rfl
  intro r
  exact safe_of (m := r.length) (fun r' _ k' hg s => (okk k' (ins r' _ _ h0 hg) s).1) r (by omega)
theorem Bfs.start (tru : ∀ k r, T k r → S.go S.st r = some k) (h : T S.st []) : Bfs S T 0 [S.st] [S.st] where
  tru := tru
  path := fun k hk => by
    have e : k = S.st := by simpa using hk
    subst e
    exact ⟨[], h, Nat.le_refl _⟩
  lv := fun k hk => by
    have e : k = S.st := by simpa using hk
    subst e
    exact ⟨hk, [], h, rfl⟩
  dn := fun k hk hl => absurd hk hl
  safe := safe_zero
  all := fun r hr k hg => by
    have : r = [] := List.length_eq_zero_iff.mp (Nat.le_zero.mp hr)
    subst this
    cases hg
    simp
end
/-! ### the two systems of a pair of forms -/
abbrev KK := Stt × Stt
/-- settled scores -/
def sysS (f g : Frm) : Sys KK := ⟨(strt f, strt g), fun k s => (aft f k.1 s).2, fun k s => (aft g k.2 s).2, fun k s => (stl f (aft f k.1 s).1, stl g (aft g k.2 s).1)⟩
/-- scores as they are -/
def sysU (f g : Frm) : Sys KK := ⟨(strt f, strt g), fun k s => (aft f k.1 s).2, fun k s => (aft g k.2 s).2, fun k s => ((aft f k.1 s).1, (aft g k.2 s).1)⟩
theorem sysU_p1 {f g : Frm} : ∀ (r : List Bool) (k : KK), (sysU f g).p1 k r = plW f k.1 r
  | [], _ => rfl
  | s :: r, k => by
    show (match (aft f k.1 s).2 with | some x => some x | none => (sysU f g).p1 _ r) = (match (aft f k.1 s).2 with | some x => some x | none => plW f _ r)
    rw [sysU_p1 r]
    rfl
theorem sysU_p2 {f g : Frm} : ∀ (r : List Bool) (k : KK), (sysU f g).p2 k r = plW g k.2 r
  | [], _ => rfl
  | s :: r, k => by
    show (match (aft g k.2 s).2 with | some x => some x | none => (sysU f g).p2 _ r) = (match (aft g k.2 s).2 with | some x => some x | none => plW g _ r)
    rw [sysU_p2 r]
    rfl
theorem sysS_p1 {f g : Frm} (hf : OkF f) : ∀ (r : List Bool) (k : KK), (sysS f g).p1 k r = plW f k.1 r
  | [], _ => rfl
  | s :: r, k => by
    show (match (aft f k.1 s).2 with | some x => some x | none => (sysS f g).p1 ((sysS f g).nx k s) r) = (match (aft f k.1 s).2 with | some x => some x | none => plW f (aft f k.1 s).1 r)
    rw [sysS_p1 hf r, ← plW_stl hf r (aft f k.1 s).1]
    rfl
theorem sysS_p2 {f g : Frm} (hg : OkF g) : ∀ (r : List Bool) (k : KK), (sysS f g).p2 k r = plW g k.2 r
  | [], _ => rfl
  | s :: r, k => by
    show (match (aft g k.2 s).2 with | some x => some x | none => (sysS f g).p2 ((sysS f g).nx k s) r) = (match (aft g k.2 s).2 with | some x => some x | none => plW g (aft g k.2 s).1 r)
    rw [sysS_p2 hg r, ← plW_stl hg r (aft g k.2 s).1]
    rfl
/-- what a search is to give: no row parts, or a shortest that does -/
def PartSpec (f g : Frm) : Option (List Bool) → Prop
  | none => ∀ r, win f r = win g r
  | some r => win f r ≠ win g r ∧ ∀ r', win f r' ≠ win g r' → r.length ≤ r'.length
end SF
set_option linter.all false
/-! how many settled pairs of scores a search can meet -/
namespace SF
/-! ### the pairs of a level that a settled score can have -/
def Inn (v : Lvl) (p : Pr) : Bool := decide (rwin v p = none) && (match v.c with | some c => decide (hi p < c) | none => true) && decide (set1 v p = p)
def box : List Pr := (List.range 10).flatMap fun a => (List.range 10).map fun b => (a, b)
def inpr (v : Lvl) : List Pr := box.filter (Inn v)
theorem mem_box {p : Pr} (h1 : p.1 < 10) (h2 : p.2 < 10) : p ∈ box := by
  refine List.mem_flatMap.mpr ⟨p.1, List.mem_range.mpr h1, List.mem_map.mpr ⟨p.2, List.mem_range.mpr h2, rfl⟩⟩
theorem hi_ge (p : Pr) : p.1 ≤ hi p ∧ p.2 ≤ hi p := by
  unfold hi
  split <;> omega
theorem inn_lt {v : Lvl} (hv : OkL v) {p : Pr} (h : Inp v p) (hs : set1 v p = p) : hi p < 10 := by
  obtain ⟨⟨h1, h5⟩, ⟨h2, h3⟩, h4⟩ := hv
  cases e : v.c with
  | some c =>
    have := h.2 c e
    have := (h4 c e).2
    omega
  | none =>
    have hn := rwin_none.mp h.1
    have hm : ¬ v.t ≤ min p.1 p.2 := fun q => by
      unfold set1 at hs
      rw [e] at hs
      simp only [if_pos q] at hs
      have := congrArg Prod.fst hs
      simp only at this
      omega
    rw [e] at hn
    simp only [reduceCtorEq, or_false] at hn
    unfold hi lo at *
    split <;> rename_i q <;> simp only [q, if_true, if_false] at hn <;> omega
theorem mem_inpr {v : Lvl} (hv : OkL v) {p : Pr} (h : Inp v p) (hs : set1 v p = p) : p ∈ inpr v := by
  have hb := inn_lt hv h hs
  have hg := hi_ge p
  refine List.mem_filter.mpr ⟨mem_box (by omega) (by omega), ?_⟩
  unfold Inn
  rw [Bool.and_eq_true, Bool.and_eq_true]
  refine ⟨⟨decide_eq_true h.1, ?_⟩, decide_eq_true hs⟩
  cases e : v.c with
  | some c => exact decide_eq_true (h.2 c e)
  | none => rfl
/-! ### products -/
def prodL : List (List Pr) → List Stt
  | [] => [[]]
  | l :: ls => l.flatMap fun p => (prodL ls).map (p :: ·)
def lens : List (List Pr) → Nat
  | [] => 1
  | l :: ls => l.length * lens ls
theorem flat_len {α β : Type} (f : α → List β) (n : Nat) : ∀ l : List α, (∀ x ∈ l, (f x).length = n) → (l.flatMap f).length = l.length * n
  | [], _ => by simp
  | x :: l, h => by
    rw [List.flatMap_cons, List.length_append, h x (by simp), flat_len f n l fun y hy => h y (by simp [hy]), List.length_cons, Nat.add_mul, Nat.one_mul, Nat.add_comm]
theorem prodL_len : ∀ ls : List (List Pr), (prodL ls).length = lens ls
  | [] => rfl
  | l :: ls => by
    show (l.flatMap fun p => (prodL ls).map (p :: ·)).length = l.length * lens ls
    exact flat_len _ _ l fun x _ => by rw [List.length_map, prodL_len ls]
theorem mem_prodL {p : Pr} {st : Stt} {l : List Pr} {ls : List (List Pr)} (h1 : p ∈ l) (h2 : st ∈ prodL ls) : p :: st ∈ prodL (l :: ls) :=
  List.mem_flatMap.mpr ⟨p, h1, List.mem_map.mpr ⟨st, h2, rfl⟩⟩
def pairs {α β : Type} (l : List α) (m : List β) : List (α × β) := l.flatMap fun a => m.map fun b => (a, b)
theorem pairs_len {α β : Type} (l : List α) (m : List β) : (pairs l m).length = l.length * m.length := flat_len _ _ l fun x _ => List.length_map _
theorem mem_pairs {α β : Type} {l : List α} {m : List β} {a : α} {b : β} (h1 : a ∈ l) (h2 : b ∈ m) : (a, b) ∈ pairs l m :=
  List.mem_flatMap.mpr ⟨a, h1, List.mem_map.mpr ⟨b, h2, rfl⟩⟩
theorem nodup_sub {α : Type} [DecidableEq α] : ∀ (ks L : List α), ks.Nodup → (∀ k ∈ ks, k ∈ L) → ks.length ≤ L.length
  | [], _, _, _ => Nat.zero_le _
  | k :: ks, L, hn, hs => by
    have hk : k ∈ L := hs k (by simp)
    have hn' := List.nodup_cons.mp hn
    have h1 := nodup_sub ks (L.erase k) hn'.2 fun x hx => (List.mem_erase_of_ne (fun e => hn'.1 (by rw [← e]; exact hx))).mpr (hs x (by simp [hx]))
    rw [List.length_erase_of_mem hk] at h1
    have : 0 < L.length := List.length_pos_of_mem hk
    rw [List.length_cons]
    omega
/-! ### what holds of every key -/
def lu (v : Lvl) : Nat := match v.c with
  | none => max v.t v.l
  | some c => min (max v.t v.l) c
def wt : Frm → Stt → Nat
  | v :: f, p :: st => (p.1 + p.2) + lu v * wt f st
  | _, _ => 0
theorem lu_le {v : Lvl} {q : Pr} {x : Bool} (h : rwin v q = some x) : lu v ≤ q.1 + q.2 := by
  have hh : hi q ≤ q.1 + q.2 := by unfold hi; split <;> omega
  unfold rwin at h
  split at h
  · rename_i z
    rcases z with z | z
    · unfold lu
      cases v.c with
      | none => simp only; omega
      | some c => simp only; omega
    · unfold lu
      rw [z]
      simp only
      omega
  · cases h
theorem wt_aft : ∀ {f : Frm} {st : Stt} {s : Bool}, wt f (aft f st s).1 ≤ wt f st + 1
  | [], _, _ => by simp [wt]
  | _ :: _, [], _ => by simp [wt, aft]
  | v :: f, p :: st, s => by
    have hp : (plus p s).1 + (plus p s).2 = p.1 + p.2 + 1 := by unfold plus; cases s <;> simp <;> omega
    unfold aft
    cases e : rwin v (plus p s) with
    | none =>
      show (plus p s).1 + (plus p s).2 + lu v * wt f st ≤ (p.1 + p.2) + lu v * wt f st + 1
      omega
    | some x =>
      have hl := lu_le e
      cases f with
      | nil =>
        show (plus p s).1 + (plus p s).2 + lu v * wt [] st ≤ (p.1 + p.2) + lu v * wt [] st + 1
        omega
      | cons w f =>
        show 0 + 0 + lu v * wt (w :: f) (aft (w :: f) st s).1 ≤ (p.1 + p.2) + lu v * wt (w :: f) st + 1
        have ih := wt_aft (f := w :: f) (st := st) (s := s)
        have := Nat.mul_le_mul_left (lu v) ih
        rw [Nat.mul_add, Nat.mul_one] at this
        omega
theorem wt_stl : ∀ (f : Frm) (st : Stt), wt f (stl f st) ≤ wt f st
  | [], _ => by simp [wt]
  | _ :: _, [] => by simp [wt, stl]
  | v :: f, p :: st => by
    show (set1 v p).1 + (set1 v p).2 + lu v * wt f (stl f st) ≤ (p.1 + p.2) + lu v * wt f st
    have h1 : (set1 v p).1 + (set1 v p).2 ≤ p.1 + p.2 := by
      unfold set1
      cases v.c with
      | some _ => exact Nat.le_refl _
      | none => simp only; split <;> first | exact Nat.le_refl _ | (simp only; omega)
    have h2 := Nat.mul_le_mul_left (lu v) (wt_stl f st)
    omega
structure Good (f : Frm) (st : Stt) (n : Nat) : Prop where
  inp : InpF f st
  set : stl f st = st
  wt : wt f st ≤ n
theorem Good.step {f : Frm} {st : Stt} {n : Nat} {s : Bool} (hf : OkF f) (h : Good f st n) (hn : (aft f st s).2 = none) : Good f (stl f (aft f st s).1) (n + 1) :=
  ⟨inpF_stl hf (inpF_aft hf h.inp hn), stl_stl _ hf, by
    have h1 := wt_stl f (aft f st s).1
    have h2 := wt_aft (f := f) (st := st) (s := s)
    have h3 := h.wt
    omega⟩
theorem wt_strt : ∀ f : Frm, wt f (strt f) = 0
  | [] => rfl
  | v :: f => by
    show 0 + 0 + lu v * wt f (strt f) = 0
    rw [wt_strt f, Nat.mul_zero]
/-- an invariant of the keys -/
theorem go_inv {f g : Frm} (P : KK → Nat → Prop) (hs : ∀ k n s, P k n → (aft f k.1 s).2 = none → (aft g k.2 s).2 = none → P ((sysS f g).nx k s) (n + 1)) :
    ∀ (r : List Bool) (k k' : KK) (n : Nat), P k n → (sysS f g).go k r = some k' → P k' (n + r.length)
  | [], k, k', n, h, e => by
    cases e
    exact h
  | s :: r, k, k', n, h, e => by
    unfold Sys.go at e
    split at e
    · rename_i hw
      have := go_inv P hs r _ _ _ (hs k n s h hw.1 hw.2) e
      rw [List.length_cons]
      have e2 : n + (r.length + 1) = n + 1 + r.length := by omega
      rw [e2]
      exact this
    · cases e
theorem go_good {f g : Frm} (hf : OkF f) (hg : OkF g) {r : List Bool} {k : KK} (h : (sysS f g).go (sysS f g).st r = some k) : Good f k.1 r.length ∧ Good g k.2 r.length := by
  have := go_inv (f := f) (g := g) (fun k n => Good f k.1 n ∧ Good g k.2 n) (fun k n s h h1 h2 => ⟨h.1.step hf h1, h.2.step hg h2⟩) r _ _ 0
    ⟨⟨inpF_strt hf, stl_strt hf, by show wt f (strt f) ≤ 0; rw [wt_strt]; exact Nat.le_refl _⟩, ⟨inpF_strt hg, stl_strt hg, by show wt g (strt g) ≤ 0; rw [wt_strt]; exact Nat.le_refl _⟩⟩ h
  rw [Nat.zero_add] at this
  exact this
def lists (f : Frm) : List (List Pr) := f.map inpr
theorem good_mem : ∀ {f : Frm} {st : Stt}, OkF f → InpF f st → stl f st = st → st ∈ prodL (lists f)
  | [], [], _, _, _ => by simp [lists, prodL]
  | v :: f, p :: st, hf, h, hs => by
    have h1 : set1 v p = p := (List.cons.inj hs).1
    have h2 : stl f st = st := (List.cons.inj hs).2
    exact mem_prodL (mem_inpr (hf v (by simp)) h.1 h1) (good_mem (fun u hu => hf u (by simp [hu])) h.2 h2)
  | [], _ :: _, _, h, _ => h.elim
  | _ :: _, [], _, h, _ => h.elim
/-! ### the bound that is wanted -/
def Reach (f g : Frm) (k : KK) : Prop := ∃ r : List Bool, (sysS f g).go (sysS f g).st r = some k ∧ ∀ r' : List Bool, r'.length < r.length → (sysS f g).p1 (sysS f g).st r' = (sysS f g).p2 (sysS f g).st r'
def Cnt (f g : Frm) : Prop := ∀ ks : List KK, ks.Nodup → (∀ k ∈ ks, Reach f g k) → ks.length < 16777216
theorem cnt_of {f g : Frm} (L : List KK) (hL : L.length < 16777216) (h : ∀ k, Reach f g k → k ∈ L) : Cnt f g := fun ks hn hk =>
  Nat.lt_of_le_of_lt (nodup_sub ks L hn fun k q => h k (hk k q)) hL
def PP (f : Frm) : Nat := lens (lists f)
theorem cnt_prod {f g : Frm} (hf : OkF f) (hg : OkF g) (h : PP f * PP g < 16777216) : Cnt f g := by
  refine cnt_of (pairs (prodL (lists f)) (prodL (lists g))) ?_ fun k ⟨r, hr, _⟩ => ?_
  · rw [pairs_len, prodL_len, prodL_len]
    exact h
  · obtain ⟨a, b⟩ := go_good hf hg hr
    exact mem_pairs (good_mem hf a.inp a.set) (good_mem hg b.inp b.set)
/-! ### first levels that run in step -/
def stp (v : Lvl) (p : Pr) (s : Bool) : Pr := match rwin v (plus p s) with
  | none => set1 v (plus p s)
  | some _ => (0, 0)
def Sync (l m : Lvl) : Prop := ∀ q ∈ inpr m, ∀ s, stp l (set1 l q) s = set1 l (stp m q s)
theorem head_aft {v : Lvl} {f : Frm} {p : Pr} {st : Stt} {s : Bool} (hv : OkL v) (hn : (aft (v :: f) (p :: st) s).2 = none) : ∃ r, stl (v :: f) (aft (v :: f) (p :: st) s).1 = stp v p s :: r := by
  unfold aft at hn ⊢
  unfold stp
  cases e : rwin v (plus p s) with
  | none => exact ⟨_, rfl⟩
  | some x =>
    rw [e] at hn
    cases f with
    | nil => cases hn
    | cons w f =>
      refine ⟨stl (w :: f) (aft (w :: f) st s).1, ?_⟩
      show set1 v (0, 0) :: _ = (0, 0) :: _
      rw [set1_zero hv]
theorem cnt_sync {l m : Lvl} {f g : Frm} (hf : OkF (l :: f)) (hg : OkF (m :: g)) (hs : Sync l m) (h : (inpr m).length * (PP f * PP g) < 16777216) : Cnt (l :: f) (m :: g) := by
  refine cnt_of ((inpr m).flatMap fun q => (pairs (prodL (lists f)) (prodL (lists g))).map fun x => (set1 l q :: x.1, q :: x.2)) ?_ fun k ⟨r, hr, _⟩ => ?_
  · rw [flat_len _ (PP f * PP g) _ fun x _ => ?_]
    · exact h
    · rw [List.length_map, pairs_len, prodL_len, prodL_len]
      rfl
  · have hl := hf l (by simp)
    have hm := hg m (by simp)
    have inv := go_inv (f := l :: f) (g := m :: g) (fun k n => (Good (l :: f) k.1 n ∧ Good (m :: g) k.2 n) ∧ ∃ q x y, k = (set1 l q :: x, q :: y))
      (fun k n s h h1 h2 => ⟨⟨h.1.1.step hf h1, h.1.2.step hg h2⟩, by
        obtain ⟨⟨g1, g2⟩, q, x, y, e⟩ := h
        subst e
        have hq : q ∈ inpr m := mem_inpr hm g2.inp.1 (List.cons.inj g2.set).1
        obtain ⟨r1, e1⟩ := head_aft hl h1
        obtain ⟨r2, e2⟩ := head_aft hm h2
        refine ⟨stp m q s, r1, r2, ?_⟩
        show (stl (l :: f) (aft (l :: f) (set1 l q :: x) s).1, stl (m :: g) (aft (m :: g) (q :: y) s).1) = _
        rw [e1, e2, hs q hq s]⟩) r _ _ 0
      ⟨⟨⟨inpF_strt hf, stl_strt hf, by show wt (l :: f) (strt (l :: f)) ≤ 0; rw [wt_strt]; exact Nat.le_refl _⟩, ⟨inpF_strt hg, stl_strt hg, by show wt (m :: g) (strt (m :: g)) ≤ 0; rw [wt_strt]; exact Nat.le_refl _⟩⟩,
        (0, 0), strt f, strt g, by rw [set1_zero hl]; rfl⟩ hr
    obtain ⟨⟨g1, g2⟩, q, x, y, e⟩ := inv
    subst e
    have f1 : x ∈ prodL (lists f) := good_mem (fun u hu => hf u (by simp [hu])) g1.inp.2 (List.cons.inj g1.set).2
    have f2 : y ∈ prodL (lists g) := good_mem (fun u hu => hg u (by simp [hu])) g2.inp.2 (List.cons.inj g2.set).2
    exact List.mem_flatMap.mpr ⟨q, mem_inpr hm g2.inp.1 (List.cons.inj g2.set).1, List.mem_map.mpr ⟨(x, y), mem_pairs f1 f2, rfl⟩⟩
/-! ### where a short row parts -/
def inprK (v : Lvl) (a n : Nat) : List Pr := (inpr v).filter fun p => decide (a * (p.1 + p.2) ≤ n)
def lists3 (n : Nat) (a b c : Lvl) : List (List Pr) := [inpr a, inpr b, inprK c (lu a * lu b) n]
theorem good3 {a b c : Lvl} {st : Stt} {n m : Nat} (hf : OkF [a, b, c]) (h : Good [a, b, c] st n) (hm : n ≤ m) : st ∈ prodL (lists3 m a b c) := by
  match st, h with
  | [p, q, r], h =>
    have hs := h.set
    have h1 : set1 a p = p := (List.cons.inj hs).1
    have h2 : set1 b q = q := (List.cons.inj (List.cons.inj hs).2).1
    have h3 : set1 c r = r := (List.cons.inj (List.cons.inj (List.cons.inj hs).2).2).1
    refine mem_prodL (mem_inpr (hf a (by simp)) h.inp.1 h1) (mem_prodL (mem_inpr (hf b (by simp)) h.inp.2.1 h2) (mem_prodL (List.mem_filter.mpr ⟨mem_inpr (hf c (by simp)) h.inp.2.2.1 h3, decide_eq_true ?_⟩) (by simp [prodL])))
    have hw : (p.1 + p.2) + lu a * ((q.1 + q.2) + lu b * ((r.1 + r.2) + lu c * 0)) ≤ n := h.wt
    have e : lu a * lu b * (r.1 + r.2) = lu a * (lu b * ((r.1 + r.2) + lu c * 0)) := by rw [Nat.mul_zero, Nat.add_zero, Nat.mul_assoc]
    rw [e]
    have := Nat.mul_le_mul_left (lu a) (Nat.le_add_left (lu b * ((r.1 + r.2) + lu c * 0)) (q.1 + q.2))
    omega
  | [], h => exact h.inp.elim
  | [_], h => exact h.inp.2.elim
  | [_, _], h => exact h.inp.2.2.elim
  | _ :: _ :: _ :: _ :: _, h => exact h.inp.2.2.2.elim
theorem cnt_word {a b c x y z : Lvl} (hf : OkF [a, b, c]) (hg : OkF [x, y, z]) (w : List Bool) (hw : win [a, b, c] w ≠ win [x, y, z] w)
    (h : lens (lists3 w.length a b c) * lens (lists3 w.length x y z) < 16777216) : Cnt [a, b, c] [x, y, z] := by
  refine cnt_of (pairs (prodL (lists3 w.length a b c)) (prodL (lists3 w.length x y z))) ?_ fun k ⟨r, hr, hp⟩ => ?_
  · rw [pairs_len, prodL_len, prodL_len]
    exact h
  · have hn : r.length ≤ w.length := Nat.le_of_not_lt fun q => hw (by
      have := hp w q
      rw [sysS_p1 hf, sysS_p2 hg] at this
      exact this)
    obtain ⟨g1, g2⟩ := go_good hf hg hr
    exact mem_pairs (good3 hf g1 hn) (good3 hg g2 hn)
/-! ### the other way round -/
theorem go_swap {f g : Frm} : ∀ (r : List Bool) (k k' : KK), (sysS f g).go k r = some k' → (sysS g f).go (k.2, k.1) r = some (k'.2, k'.1)
  | [], k, k', h => by
    cases h
    rfl
  | s :: r, k, k', h => by
    unfold Sys.go at h ⊢
    split at h
    · rename_i hw
      rw [if_pos ⟨hw.2, hw.1⟩]
      exact go_swap r _ _ h
    · cases h
theorem Cnt.symm {f g : Frm} (hf : OkF f) (hg : OkF g) (h : Cnt f g) : Cnt g f := fun ks hn hk => by
  have := h (ks.map fun k => (k.2, k.1)) ?_ ?_
  · rw [List.length_map] at this
    exact this
  · refine List.Pairwise.map (fun k : KK => (k.2, k.1)) ?_ hn
    intro a b hab e
    exact hab (Prod.ext (congrArg Prod.snd e) (congrArg Prod.fst e))
  · intro k q
    obtain ⟨k', h1, rfl⟩ := List.mem_map.mp q
    obtain ⟨r, h2, h3⟩ := hk k' h1
    refine ⟨r, go_swap r _ _ h2, fun r' q => ?_⟩
    have := h3 r' q
    rw [sysS_p1 hg, sysS_p2 hf] at this
    rw [sysS_p1 hf, sysS_p2 hg]
    exact this.symm
end SF
set_option linter.all false
set_option maxRecDepth 100000
/-! the forms that the law draws: the count for each two of them -/
namespace SF
def okB (v : Lvl) : Bool := Nat.ble 1 v.t && Nat.ble v.t 5 && (Nat.ble 1 v.l && Nat.ble v.l 3) && (match v.c with | some c => Nat.ble v.t c && Nat.ble c 9 | none => true)
theorem ok_of {v : Lvl} (h : okB v = true) : OkL v := by
  unfold okB at h
  simp only [Bool.and_eq_true, Nat.ble_eq] at h
  obtain ⟨⟨⟨h1, h2⟩, h3, h4⟩, h5⟩ := h
  refine ⟨⟨h1, h2⟩, ⟨h3, h4⟩, fun c e => ?_⟩
  rw [e] at h5
  simp only [Bool.and_eq_true, Nat.ble_eq] at h5
  exact h5
/-- the levels that are drawn with a target of at most m -/
def Lev (m : Nat) (v : Lvl) : Prop := (1 ≤ v.t ∧ v.t ≤ m) ∧ (1 ≤ v.l ∧ v.l ≤ 3) ∧ (v.c = none ∨ v.c = some v.t ∨ v.c = some (v.t + 1) ∨ v.c = some (v.t + 3))
def LV (m : Nat) : List Lvl := ((List.range m).flatMap fun t => (List.range 3).flatMap fun l => [⟨t + 1, l + 1, none⟩, ⟨t + 1, l + 1, some (t + 1)⟩, ⟨t + 1, l + 1, some (t + 2)⟩, ⟨t + 1, l + 1, some (t + 4)⟩])
theorem mem_LV {m : Nat} {v : Lvl} (h : Lev m v) : v ∈ LV m := by
  obtain ⟨⟨h1, h2⟩, ⟨h3, h4⟩, h5⟩ := h
  obtain ⟨t, l, c⟩ := v
  simp only at h1 h2 h3 h4 h5
  obtain ⟨t', rfl⟩ : ∃ t', t = t' + 1 := ⟨t - 1, by omega⟩
  obtain ⟨l', rfl⟩ : ∃ l', l = l' + 1 := ⟨l - 1, by omega⟩
  refine List.mem_flatMap.mpr ⟨t', List.mem_range.mpr (by omega), List.mem_flatMap.mpr ⟨l', List.mem_range.mpr (by omega), ?_⟩⟩
  rcases h5 with e | e | e | e <;> subst e <;> simp
/-- a level changed -/
def NearL (v u : Lvl) : Prop := (v.c ≠ none ∧ u = ⟨v.t, v.l, none⟩) ∨ (v.c = none ∧ ∃ k, k < 3 ∧ u = ⟨v.t, v.l, some (v.t + k)⟩) ∨ (∃ k, k < 3 ∧ u = ⟨v.t, 1 + k, v.c⟩) ∨
  u = ⟨1 + v.t % 3, v.l, v.c.map fun c => max c (1 + v.t % 3)⟩
def nearLs (v : Lvl) : List Lvl := [⟨1 + v.t % 3, v.l, v.c.map fun c => max c (1 + v.t % 3)⟩, ⟨v.t, 1, v.c⟩, ⟨v.t, 2, v.c⟩, ⟨v.t, 3, v.c⟩] ++
  match v.c with
  | some _ => [⟨v.t, v.l, none⟩]
  | none => [⟨v.t, v.l, some v.t⟩, ⟨v.t, v.l, some (v.t + 1)⟩, ⟨v.t, v.l, some (v.t + 2)⟩]
theorem mem_nearLs {v u : Lvl} (h : NearL v u) : u ∈ nearLs v := by
  obtain ⟨t, l, c⟩ := v
  unfold nearLs
  rcases h with ⟨h1, rfl⟩ | ⟨h1, k, h2, rfl⟩ | ⟨k, h2, rfl⟩ | rfl
  · cases c with
    | none => exact absurd rfl h1
    | some x => simp
  · simp only at h1
    subst h1
    have : k = 0 ∨ k = 1 ∨ k = 2 := by omega
    rcases this with rfl | rfl | rfl <;> simp
  · have : k = 0 ∨ k = 1 ∨ k = 2 := by omega
    rcases this with rfl | rfl | rfl <;> simp
  · simp
def one1 : Lvl := ⟨1, 1, none⟩
/-- every level that can come -/
def All4 : List Lvl := one1 :: (LV 4 ++ (LV 4).flatMap nearLs)
def All2 : List Lvl := LV 2 ++ (LV 2).flatMap nearLs
def Sn (v : Lvl) : Nat := (inpr v).length
theorem all4_ok : (All4.all fun v => okB v && Nat.ble (Sn v) 31) = true := by decide +kernel
def code (v : Lvl) : Nat := v.t * 1000 + v.l * 100 + (match v.c with | some c => c | none => 99)
def tabs : List (Nat × Nat) := [(2305, 19), (1304, 14), (2205, 13), (1204, 10), (2399, 10), (2303, 9), (2203, 7), (3305, 19), (3399, 15), (3205, 15), (2304, 14), (3299, 11), (2204, 10), (3199, 9), (3103, 9), (3105, 11), (3203, 9), (3303, 9), (1303, 9), (1203, 7),
  (1199, 1), (1101, 1), (1102, 2), (1103, 3), (1104, 4), (1299, 3), (1201, 1), (1202, 4), (1399, 5), (1301, 1), (1302, 4), (2199, 4), (2102, 4), (2103, 5), (2104, 6), (2105, 7), (2299, 6), (2202, 4), (2302, 4)]
def look : List (Nat × Nat) → Nat → Nat
  | [], _ => 0
  | (k, x) :: r, n => bif Nat.beq k n then x else look r n
def tab (v : Lvl) : Nat := look tabs (code v)
theorem tab_ok : (All2.all fun v => Nat.beq (Sn v) (tab v) && Nat.ble (tab v) 19) = true := by decide +kernel
def BIG : List Lvl := (LV 2).filter fun v => Nat.ble 7 (tab v)
def PT : Frm → Nat
  | [a, b, c] => tab a * (tab b * tab c)
  | _ => 0
def HV : List Frm := (BIG.flatMap fun a => BIG.flatMap fun b => BIG.map fun c => [a, b, c]).filter fun f => Nat.ble 2447 (PT f)
def syncB (l m : Lvl) : Bool := (inpr m).all fun q => [false, true].all fun s => decide (stp l (set1 l q) s = set1 l (stp m q s))
theorem sync_of {l m : Lvl} (h : syncB l m = true) : Sync l m := fun q hq s => by
  have h1 := List.all_eq_true.mp h q hq
  have h2 := List.all_eq_true.mp h1 s (by cases s <;> simp)
  exact of_decide_eq_true h2
def words : List (List Bool) := [List.replicate 27 false, false :: false :: true :: List.replicate 27 true, false :: false :: true :: false :: List.replicate 27 true, false :: false :: true :: false :: true :: List.replicate 27 true,
  false :: true :: false :: true :: false :: List.replicate 27 true, false :: List.replicate 27 true]
/-- how far a row is to be read until it parts -/
def firstD (f g : Frm) : Stt → Stt → List Bool → Nat
  | _, _, [] => 0
  | a, b, s :: r => match aft f a s, aft g b s with
    | (a', none), (b', none) => firstD f g a' b' r + 1
    | _, _ => 1
def wordB (f g : Frm) (a b c x y z : Lvl) (w : List Bool) : Bool := decide (win f w ≠ win g w) && Nat.blt (lens (lists3 w.length a b c) * lens (lists3 w.length x y z)) 16777216
def goodB (f g : Frm) : Bool := match f, g with
  | [a, b, c], [x, y, z] => Nat.blt (PT [a, b, c] * PT [x, y, z]) 16777216 || (Nat.blt (tab x * ((tab b * tab c) * (tab y * tab z))) 16777216 && syncB a x) ||
      (Nat.blt (tab a * ((tab b * tab c) * (tab y * tab z))) 16777216 && syncB x a) ||
      words.any fun w => wordB [a, b, c] [x, y, z] a b c x y z (w.take (firstD [a, b, c] [x, y, z] (strt [a, b, c]) (strt [x, y, z]) w))
  | _, _ => false
theorem heavy_heavy : (HV.all fun f => HV.all fun g => goodB f g) = true := by decide +kernel
def nearHV (f : Frm) : List Frm := match f with
  | [a, b, c] => ((nearLs a).map fun u => [u, b, c]) ++ ((nearLs b).map fun u => [a, u, c]) ++ ((nearLs c).map fun u => [a, b, u])
  | _ => []
theorem heavy_near : (HV.all fun f => (nearHV f).all fun g => goodB f g) = true := by decide +kernel
/-! ### the forms -/
theorem lev_mono {m n : Nat} {v : Lvl} (h : Lev m v) (hm : m ≤ n) : Lev n v := ⟨⟨h.1.1, Nat.le_trans h.1.2 hm⟩, h.2⟩
theorem in4 {m : Nat} {v : Lvl} (h : Lev m v) (hm : m ≤ 4) : v ∈ All4 := List.mem_cons_of_mem _ (List.mem_append_left _ (mem_LV (lev_mono h hm)))
theorem in4n {m : Nat} {v u : Lvl} (h : Lev m v) (hm : m ≤ 4) (n : NearL v u) : u ∈ All4 := List.mem_cons_of_mem _ (List.mem_append_right _ (List.mem_flatMap.mpr ⟨v, mem_LV (lev_mono h hm), mem_nearLs n⟩))
theorem in2 {v : Lvl} (h : Lev 2 v) : v ∈ All2 := List.mem_append_left _ (mem_LV h)
theorem in2n {v u : Lvl} (h : Lev 2 v) (n : NearL v u) : u ∈ All2 := List.mem_append_right _ (List.mem_flatMap.mpr ⟨v, mem_LV h, mem_nearLs n⟩)
theorem all4 {v : Lvl} (h : v ∈ All4) : OkL v ∧ Sn v ≤ 31 := by
  have := List.all_eq_true.mp all4_ok v h
  rw [Bool.and_eq_true, Nat.ble_eq] at this
  exact ⟨ok_of this.1, this.2⟩
theorem all2 {v : Lvl} (h : v ∈ All2) : Sn v = tab v ∧ tab v ≤ 19 := by
  have := List.all_eq_true.mp tab_ok v h
  rw [Bool.and_eq_true, Nat.ble_eq] at this
  exact ⟨Nat.eq_of_beq_eq_true this.1, this.2⟩
theorem PP3 (a b c : Lvl) : PP [a, b, c] = Sn a * (Sn b * (Sn c * 1)) := rfl
theorem PP_PT {a b c : Lvl} (ha : a ∈ All2) (hb : b ∈ All2) (hc : c ∈ All2) : PP [a, b, c] = PT [a, b, c] := by
  rw [PP3, (all2 ha).1, (all2 hb).1, (all2 hc).1, Nat.mul_one]
  rfl
theorem okF3 {a b c : Lvl} (ha : OkL a) (hb : OkL b) (hc : OkL c) : OkF [a, b, c] := by
  intro v hv
  simp only [List.mem_cons, List.not_mem_nil, or_false] at hv
  rcases hv with rfl | rfl | rfl <;> assumption
theorem good_cnt {a b c x y z : Lvl} (ha : a ∈ All2) (hb : b ∈ All2) (hc : c ∈ All2) (hx : x ∈ All2) (hy : y ∈ All2) (hz : z ∈ All2)
    (hf : OkF [a, b, c]) (hg : OkF [x, y, z]) (h : goodB [a, b, c] [x, y, z] = true) : Cnt [a, b, c] [x, y, z] := by
  unfold goodB at h
  simp only [Bool.or_eq_true, Bool.and_eq_true, Nat.blt_eq] at h
  have e2 : PP [b, c] = tab b * tab c := by
    show Sn b * (Sn c * 1) = _
    rw [(all2 hb).1, (all2 hc).1, Nat.mul_one]
  have e3 : PP [y, z] = tab y * tab z := by
    show Sn y * (Sn z * 1) = _
    rw [(all2 hy).1, (all2 hz).1, Nat.mul_one]
  rcases h with ((h | h) | h) | h
  · refine cnt_prod hf hg ?_
    rw [PP_PT ha hb hc, PP_PT hx hy hz]
    exact h
  · refine cnt_sync hf hg (sync_of h.2) ?_
    show Sn x * _ < _
    rw [(all2 hx).1, e2, e3]
    exact h.1
  · refine Cnt.symm hg hf (cnt_sync hg hf (sync_of h.2) ?_)
    show Sn a * _ < _
    rw [(all2 ha).1, e2, e3, Nat.mul_comm (tab y * tab z)]
    exact h.1
  · obtain ⟨w, _, hw⟩ := List.any_eq_true.mp h
    unfold wordB at hw
    rw [Bool.and_eq_true, Nat.blt_eq] at hw
    exact cnt_word hf hg _ (of_decide_eq_true hw.1) hw.2
theorem mem_HV {a b c : Lvl} (ha : Lev 2 a) (hb : Lev 2 b) (hc : Lev 2 c) : PT [a, b, c] ≤ 2446 ∨ [a, b, c] ∈ HV := by
  have h1 := (all2 (in2 ha)).2
  have h2 := (all2 (in2 hb)).2
  have h3 := (all2 (in2 hc)).2
  have small : ∀ p q r : Nat, p ≤ 6 → q ≤ 19 → r ≤ 19 → p * (q * r) ≤ 2446 := fun p q r hp hq hr =>
    Nat.le_trans (Nat.mul_le_mul hp (Nat.mul_le_mul hq hr)) (by decide)
  have big : ∀ v, Lev 2 v → ¬ tab v ≤ 6 → v ∈ BIG := fun v hv hn => List.mem_filter.mpr ⟨mem_LV hv, by rw [Nat.ble_eq]; omega⟩
  by_cases q1 : tab a ≤ 6
  · exact .inl (small _ _ _ q1 h2 h3)
  by_cases q2 : tab b ≤ 6
  · refine .inl ?_
    show tab a * (tab b * tab c) ≤ 2446
    rw [Nat.mul_left_comm]
    exact small _ _ _ q2 h1 h3
  by_cases q3 : tab c ≤ 6
  · refine .inl ?_
    show tab a * (tab b * tab c) ≤ 2446
    rw [Nat.mul_comm (tab b), Nat.mul_left_comm]
    exact small _ _ _ q3 h1 h2
  by_cases q : PT [a, b, c] ≤ 2446
  · exact .inl q
  · refine .inr (List.mem_filter.mpr ⟨List.mem_flatMap.mpr ⟨a, big a ha q1, List.mem_flatMap.mpr ⟨b, big b hb q2, List.mem_map.mpr ⟨c, big c hc q3, rfl⟩⟩⟩, ?_⟩)
    rw [Nat.ble_eq]
    omega
theorem PT_le {a b c : Lvl} (ha : a ∈ All2) (hb : b ∈ All2) (hc : c ∈ All2) : PT [a, b, c] ≤ 6859 :=
  Nat.le_trans (Nat.mul_le_mul (all2 ha).2 (Nat.mul_le_mul (all2 hb).2 (all2 hc).2)) (by decide)
/-- a form as it is drawn -/
def Drawn (f : Frm) : Prop := (∃ a, f = [a] ∧ Lev 4 a) ∨ (∃ a b, f = [a, b] ∧ Lev 3 a ∧ Lev 3 b) ∨ ∃ a b c, f = [a, b, c] ∧ Lev 2 a ∧ Lev 2 b ∧ Lev 2 c
/-- a form near to another -/
def NearF (f g : Frm) : Prop := (∃ (i : Nat) (v u : Lvl), f[i]? = some v ∧ NearL v u ∧ g = f.take i ++ u :: f.drop (i + 1)) ∨
  (∃ i : Nat, i < f.length ∧ f.length < 3 ∧ g = f.take i ++ one1 :: f.drop i) ∨ g = f
/-- at most two levels that count -/
def Light (f : Frm) : Prop := OkF f ∧ PP f ≤ 961 ∧ 1 ≤ f.length ∧ f.length ≤ 3
theorem light1 {a : Lvl} (ha : a ∈ All4) : Light [a] := by
  obtain ⟨h1, h2⟩ := all4 ha
  refine ⟨fun v hv => ?_, ?_, Nat.le_refl _, (by simp)⟩
  · rw [List.mem_singleton.mp hv]
    exact h1
  · show Sn a * 1 ≤ 961
    omega
theorem okF2 {a b : Lvl} (ha : OkL a) (hb : OkL b) : OkF [a, b] := by
  intro v hv
  simp only [List.mem_cons, List.not_mem_nil, or_false] at hv
  rcases hv with rfl | rfl <;> assumption
theorem light2 {a b : Lvl} (ha : a ∈ All4) (hb : b ∈ All4) : Light [a, b] := by
  obtain ⟨h1, h2⟩ := all4 ha
  obtain ⟨h3, h4⟩ := all4 hb
  refine ⟨okF2 h1 h3, ?_, (by simp), (by simp)⟩
  show Sn a * (Sn b * 1) ≤ 961
  rw [Nat.mul_one]
  exact Nat.le_trans (Nat.mul_le_mul h2 h4) (by decide)
theorem one_in : one1 ∈ All4 := List.mem_cons_self
theorem Sn_one : Sn one1 = 1 := by decide +kernel
theorem light3 {a b : Lvl} (ha : a ∈ All4) (hb : b ∈ All4) : Light [one1, a, b] ∧ Light [a, one1, b] := by
  obtain ⟨h1, h2⟩ := all4 ha
  obtain ⟨h3, h4⟩ := all4 hb
  have h5 := (all4 one_in).1
  refine ⟨⟨okF3 h5 h1 h3, ?_, (by simp), (by simp)⟩, ⟨okF3 h1 h5 h3, ?_, (by simp), (by simp)⟩⟩
  · rw [PP3, Sn_one, Nat.one_mul, Nat.mul_one]
    exact Nat.le_trans (Nat.mul_le_mul h2 h4) (by decide)
  · rw [PP3, Sn_one, Nat.one_mul, Nat.mul_one]
    exact Nat.le_trans (Nat.mul_le_mul h2 h4) (by decide)
/-- three levels, each one of the small ones or a small one changed -/
def Trip (f : Frm) : Prop := ∃ a b c, f = [a, b, c] ∧ a ∈ All2 ∧ b ∈ All2 ∧ c ∈ All2 ∧ OkL a ∧ OkL b ∧ OkL c
theorem Trip.len {f : Frm} (h : Trip f) : OkF f ∧ 1 ≤ f.length ∧ f.length ≤ 3 ∧ PP f ≤ 6859 := by
  obtain ⟨a, b, c, rfl, ha, hb, hc, h1, h2, h3⟩ := h
  exact ⟨okF3 h1 h2 h3, (by simp), (by simp), by rw [PP_PT ha hb hc]; exact PT_le ha hb hc⟩
theorem cnt_ll {f g : Frm} (hf : Light f) (hg : Light g) : Cnt f g := cnt_prod hf.1 hg.1 (Nat.lt_of_le_of_lt (Nat.mul_le_mul hf.2.1 hg.2.1) (by decide))
theorem cnt_lt {f g : Frm} (hf : Light f) (hg : Trip g) : Cnt f g := cnt_prod hf.1 hg.len.1 (Nat.lt_of_le_of_lt (Nat.mul_le_mul hf.2.1 hg.len.2.2.2) (by decide))
theorem inpr_set {v : Lvl} {q : Pr} (h : q ∈ inpr v) : set1 v q = q := by
  have h2 := (List.mem_filter.mp h).2
  unfold Inn at h2
  rw [Bool.and_eq_true] at h2
  exact of_decide_eq_true h2.2
theorem sync_self {v : Lvl} (hv : OkL v) : Sync v v := fun q hq s => by
  rw [inpr_set hq]
  unfold stp
  split
  · rw [set1_idem hv]
  · rw [set1_zero hv]
theorem cnt_same {f : Frm} (hf : Trip f) : Cnt f f := by
  obtain ⟨a, b, c, rfl, ha, hb, hc, h1, h2, h3⟩ := hf
  refine cnt_sync (okF3 h1 h2 h3) (okF3 h1 h2 h3) (sync_self h1) ?_
  have e : PP [b, c] ≤ 361 := by
    show Sn b * (Sn c * 1) ≤ 361
    rw [(all2 hb).1, (all2 hc).1, Nat.mul_one]
    exact Nat.le_trans (Nat.mul_le_mul (all2 hb).2 (all2 hc).2) (by decide)
  have e1 : (inpr a).length ≤ 19 := by
    show Sn a ≤ 19
    rw [(all2 ha).1]
    exact (all2 ha).2
  exact Nat.lt_of_le_of_lt (Nat.mul_le_mul e1 (Nat.mul_le_mul e e)) (by decide)
theorem trip_drawn {a b c : Lvl} (ha : Lev 2 a) (hb : Lev 2 b) (hc : Lev 2 c) : Trip [a, b, c] :=
  ⟨a, b, c, rfl, in2 ha, in2 hb, in2 hc, (all4 (in4 ha (by decide))).1, (all4 (in4 hb (by decide))).1, (all4 (in4 hc (by decide))).1⟩
theorem cnt_tt {a b c x y z : Lvl} (ha : Lev 2 a) (hb : Lev 2 b) (hc : Lev 2 c) (hx : Lev 2 x) (hy : Lev 2 y) (hz : Lev 2 z) : Cnt [a, b, c] [x, y, z] := by
  have T1 := trip_drawn ha hb hc
  have T2 := trip_drawn hx hy hz
  rcases mem_HV ha hb hc with q1 | q1
  · refine cnt_prod T1.len.1 T2.len.1 ?_
    rw [PP_PT (in2 ha) (in2 hb) (in2 hc)]
    exact Nat.lt_of_le_of_lt (Nat.mul_le_mul q1 T2.len.2.2.2) (by decide)
  · rcases mem_HV hx hy hz with q2 | q2
    · refine cnt_prod T1.len.1 T2.len.1 ?_
      rw [PP_PT (in2 hx) (in2 hy) (in2 hz)]
      exact Nat.lt_of_le_of_lt (Nat.mul_le_mul T1.len.2.2.2 q2) (by decide)
    · exact good_cnt (in2 ha) (in2 hb) (in2 hc) (in2 hx) (in2 hy) (in2 hz) T1.len.1 T2.len.1 (List.all_eq_true.mp (List.all_eq_true.mp heavy_heavy _ q1) _ q2)
theorem cnt_tn {a b c x y z : Lvl} (ha : Lev 2 a) (hb : Lev 2 b) (hc : Lev 2 c) (hm : [x, y, z] ∈ nearHV [a, b, c]) (hx : x ∈ All2) (hy : y ∈ All2) (hz : z ∈ All2)
    (ox : OkL x) (oy : OkL y) (oz : OkL z) : Cnt [a, b, c] [x, y, z] := by
  have T1 := trip_drawn ha hb hc
  have T2 : Trip [x, y, z] := ⟨x, y, z, rfl, hx, hy, hz, ox, oy, oz⟩
  rcases mem_HV ha hb hc with q1 | q1
  · refine cnt_prod T1.len.1 T2.len.1 ?_
    rw [PP_PT (in2 ha) (in2 hb) (in2 hc)]
    exact Nat.lt_of_le_of_lt (Nat.mul_le_mul q1 T2.len.2.2.2) (by decide)
  · exact good_cnt (in2 ha) (in2 hb) (in2 hc) hx hy hz T1.len.1 T2.len.1 (List.all_eq_true.mp (List.all_eq_true.mp heavy_near _ q1) _ hm)
/-- what the walk asks of the two forms -/
structure Fit (f g : Frm) : Prop where
  of : OkF f
  og : OkF g
  lf : 1 ≤ f.length ∧ f.length ≤ 3
  lg : 1 ≤ g.length ∧ g.length ≤ 3
  fg : Cnt f g
  gf : Cnt g f
  ff : Cnt f f
theorem fit_ll {f g : Frm} (hf : Light f) (hg : Light g) : Fit f g := ⟨hf.1, hg.1, hf.2.2, hg.2.2, cnt_ll hf hg, cnt_ll hg hf, cnt_ll hf hf⟩
theorem fit_lt {f g : Frm} (hf : Light f) (hg : Trip g) : Fit f g := ⟨hf.1, hg.len.1, hf.2.2, ⟨hg.len.2.1, hg.len.2.2.1⟩, cnt_lt hf hg, (cnt_lt hf hg).symm hf.1 hg.len.1, cnt_ll hf hf⟩
theorem fit_tl {f g : Frm} (hf : Trip f) (hg : Light g) : Fit f g := ⟨hf.len.1, hg.1, ⟨hf.len.2.1, hf.len.2.2.1⟩, hg.2.2, (cnt_lt hg hf).symm hg.1 hf.len.1, cnt_lt hg hf, cnt_same hf⟩
theorem fit_tt {f g : Frm} (hf : Trip f) (hg : Trip g) (h : Cnt f g) : Fit f g := ⟨hf.len.1, hg.len.1, ⟨hf.len.2.1, hf.len.2.2.1⟩, ⟨hg.len.2.1, hg.len.2.2.1⟩, h, h.symm hf.len.1 hg.len.1, cnt_same hf⟩
/-- a drawn form: light, or three levels -/
theorem drawn_cases {f : Frm} (h : Drawn f) : Light f ∨ ∃ a b c, f = [a, b, c] ∧ Lev 2 a ∧ Lev 2 b ∧ Lev 2 c := by
  rcases h with ⟨a, rfl, ha⟩ | ⟨a, b, rfl, ha, hb⟩ | h
  · exact .inl (light1 (in4 ha (by decide)))
  · exact .inl (light2 (in4 ha (by decide)) (in4 hb (by decide)))
  · exact .inr h
theorem fit_drawn {f g : Frm} (hf : Drawn f) (hg : Drawn g) : Fit f g := by
  rcases drawn_cases hf with hf | ⟨a, b, c, rfl, ha, hb, hc⟩
  · rcases drawn_cases hg with hg | ⟨x, y, z, rfl, hx, hy, hz⟩
    · exact fit_ll hf hg
    · exact fit_lt hf (trip_drawn hx hy hz)
  · rcases drawn_cases hg with hg | ⟨x, y, z, rfl, hx, hy, hz⟩
    · exact fit_tl (trip_drawn ha hb hc) hg
    · exact fit_tt (trip_drawn ha hb hc) (trip_drawn hx hy hz) (cnt_tt ha hb hc hx hy hz)
theorem fit_near {f g : Frm} (hf : Drawn f) (hg : NearF f g) : Fit f g := by
  rcases hg with ⟨i, v, u, hi, n, rfl⟩ | ⟨i, hi, h3, rfl⟩ | rfl
  · rcases hf with ⟨a, rfl, ha⟩ | ⟨a, b, rfl, ha, hb⟩ | ⟨a, b, c, rfl, ha, hb, hc⟩
    · match i, hi with
      | 0, hi =>
        cases hi
        exact fit_ll (light1 (in4 ha (by decide))) (light1 (in4n ha (by decide) n))
      | i + 1, hi => simp at hi
    · have a4 := in4 ha (by decide)
      have b4 := in4 hb (by decide)
      match i, hi with
      | 0, hi =>
        cases hi
        exact fit_ll (light2 a4 b4) (light2 (in4n ha (by decide) n) b4)
      | 1, hi =>
        cases hi
        exact fit_ll (light2 a4 b4) (light2 a4 (in4n hb (by decide) n))
      | i + 2, hi => simp at hi
    · have oa := (all4 (in4 ha (by decide))).1
      have ob := (all4 (in4 hb (by decide))).1
      have oc := (all4 (in4 hc (by decide))).1
      have T := trip_drawn ha hb hc
      match i, hi with
      | 0, hi =>
        cases hi
        have ou := (all4 (in4n ha (by decide) n)).1
        exact fit_tt T ⟨_, _, _, rfl, in2n ha n, in2 hb, in2 hc, ou, ob, oc⟩ (cnt_tn ha hb hc (by simp [nearHV, mem_nearLs n]) (in2n ha n) (in2 hb) (in2 hc) ou ob oc)
      | 1, hi =>
        cases hi
        have ou := (all4 (in4n hb (by decide) n)).1
        exact fit_tt T ⟨_, _, _, rfl, in2 ha, in2n hb n, in2 hc, oa, ou, oc⟩ (cnt_tn ha hb hc (by simp [nearHV, mem_nearLs n]) (in2 ha) (in2n hb n) (in2 hc) oa ou oc)
      | 2, hi =>
        cases hi
        have ou := (all4 (in4n hc (by decide) n)).1
        exact fit_tt T ⟨_, _, _, rfl, in2 ha, in2 hb, in2n hc n, oa, ob, ou⟩ (cnt_tn ha hb hc (by simp [nearHV, mem_nearLs n]) (in2 ha) (in2 hb) (in2n hc n) oa ob ou)
      | i + 3, hi => simp at hi
  · rcases hf with ⟨a, rfl, ha⟩ | ⟨a, b, rfl, ha, hb⟩ | ⟨a, b, c, rfl, ha, hb, hc⟩
    · have a4 := in4 ha (by decide)
      match i, hi with
      | 0, _ => exact fit_ll (light1 a4) (light2 one_in a4)
      | i + 1, hi => simp at hi
    · have a4 := in4 ha (by decide)
      have b4 := in4 hb (by decide)
      match i, hi with
      | 0, _ => exact fit_ll (light2 a4 b4) (light3 a4 b4).1
      | 1, _ => exact fit_ll (light2 a4 b4) (light3 a4 b4).2
      | i + 2, hi => exact absurd hi (by simp)
    · simp at h3
  · exact fit_drawn hf hf
end SF
set_option Elab.async false
set_option linter.all false
set_option maxRecDepth 100000
/-! rules that the layer lacks: enumerate of a tuple, min of a pair, xs[i] op= e, dicts whose keys are nested tuples -/
namespace SF
open PySem PySem.Spec PyProof.Rows L2
/-! ### heaps -/
theorem same_new {H : Hp} {p : Addr} {o : HO} (h : H p = none) : Same H (upd H p o) := fun b x e => by
  rw [upd_ne (ne_of_none e h)]
  exact e
/-! ### min of a pair of whole numbers -/
section
variable {X : Cx}
def rMin2 (K : PySem.W.Frag) : List V → Hp → VK → Prop := fun vs H Q => ∃ (p : Addr) (i j : Int), vs = [V.ref p] ∧ SqT K H p [.int i, .int j] ∧ Q (.int (min i j)) H
theorem cr_min2 (hu : X.A.units + 64 < cLine) (hc : X.calm = true) : CallR X (.builtin "min") (rMin2 X.K) := by
  intro pins s σ H vs us Q I r h
  obtain ⟨p, i, j, rfl, hq, q⟩ := h
  obtain ⟨its, rv, ht, _⟩ := I.tuple hq
  obtain ⟨u1, u2, e, ⟨t1, e1⟩, ⟨t2, e2⟩⟩ := Vals.two rv
  subst e e1 e2
  rw [Vals.ref1 r]
  have hh : PySem.W.HoldAll s.heap ([Value.int i t1, Value.int j t2].toArray).toList [i, j] := .cons ⟨[], Reads.int i t1⟩ (.cons ⟨[], Reads.int j t2⟩ .nil)
  refine PySem.W.min_tuple_datum (α := Int) (I.ok.hd hc) (show s.heap.IsTuple p _ from ht) hh (by show X.A.units + 1 + 0 < cLine; omega) fun k v h' tk hk hv kk => ?_
  have e : PySem.W.minOf i [j] = min i j := by
    show (if decide (j < i) = true then j else i) = min i j
    by_cases z : j < i
    · rw [if_pos (decide_eq_true z)]; omega
    · rw [if_neg (by simpa using z)]; omega
  rw [e] at hv
  refine ⟨.int (min i j), H, I.kept kk, ?_, q⟩
  obtain ⟨as, z⟩ := hv
  cases z
  exact ⟨_, rfl⟩
/-! ### xs[i], read ahead of a store to it -/
def gGetL : V → V → Hp → VK → Prop := fun o i H Q => ∃ p xs k v, o = .ref p ∧ i = .int k ∧ H p = some (.lst xs) ∧ 0 ≤ k ∧ xs[k.toNat]? = some v ∧ Q v H
theorem get_list : PGet X gGetL := by
  intro pins s σ H o i ov iv Q I ro ri h
  obtain ⟨p, xs, k, v, rfl, rfl, hH, h0, hx, q⟩ := h
  cases ro
  obtain ⟨t, rfl⟩ := ri
  obtain ⟨z, its, n, rv, hl, e⟩ := I.lstM hH
  obtain ⟨u, hu, ru⟩ := rv.get hx
  have hlt : k.toNat < xs.length := (List.getElem?_eq_some_iff.mp hx).1
  have hl63 := line63
  refine wpAny_getItem_list (items := its.toArray) (x := u) ⟨_, e, rfl, n, rfl⟩ h0 (by omega) (by simpa using hu) ⟨v, H, I, ru, q⟩
end
/-! ### pairs, scores and keys in the heap -/
def PrAt (H : Hp) (b : Addr) (p : Pr) : Prop := H b = some (.tup [.int (p.1 : Nat), .int (p.2 : Nat)])
/-- a tuple of tuples of pairs -/
def StAt (H : Hp) (a : Addr) (st : Stt) : Prop := ∃ xs : List V, H a = some (.tup xs) ∧ Paired (fun (p : Pr) (x : V) => ∃ b, x = .ref b ∧ PrAt H b p) st xs
def KAt (H : Hp) (a : Addr) (k : KK) : Prop := ∃ a1 a2, H a = some (.tup [.ref a1, .ref a2]) ∧ StAt H a1 k.1 ∧ StAt H a2 k.2
/-- the tuples stand on -/
def Tups (H H' : Hp) : Prop := ∀ b xs, H b = some (.tup xs) → H' b = some (.tup xs)
theorem Tups.of {H H' : Hp} (h : Same H H') : Tups H H' := fun b xs e => h b _ e
theorem Tups.trans {H H' H'' : Hp} (h : Tups H H') (h' : Tups H' H'') : Tups H H'' := fun b xs e => h' b xs (h b xs e)
theorem Tups.refl (H : Hp) : Tups H H := fun _ _ e => e
theorem PrAt.tups {H H' : Hp} {b : Addr} {p : Pr} (h : PrAt H b p) (t : Tups H H') : PrAt H' b p := t _ _ h
theorem StAt.tups {H H' : Hp} {a : Addr} {st : Stt} (h : StAt H a st) (t : Tups H H') : StAt H' a st := by
  obtain ⟨xs, e, r⟩ := h
  exact ⟨xs, t _ _ e, r.mono fun p x ⟨b, e, q⟩ => ⟨b, e, q.tups t⟩⟩
theorem KAt.tups {H H' : Hp} {a : Addr} {k : KK} (h : KAt H a k) (t : Tups H H') : KAt H' a k := by
  obtain ⟨a1, a2, e, h1, h2⟩ := h
  exact ⟨a1, a2, t _ _ e, h1.tups t, h2.tups t⟩
def nk1 (p : Pr) : NestedKey := .tup [.num (p.1 : Nat), .num (p.2 : Nat)]
def nkS (st : Stt) : NestedKey := .tup (st.map nk1)
def nk (k : KK) : NestedKey := .tup [nkS k.1, nkS k.2]
theorem nk1_inj {p q : Pr} (h : nk1 p = nk1 q) : p = q := by
  unfold nk1 at h
  injection h with h
  injection h with h1 h2
  injection h2 with h2 _
  injection h1 with h1
  injection h2 with h2
  exact Prod.ext (Int.ofNat.inj h1) (Int.ofNat.inj h2)
theorem map_inj {α β : Type} {f : α → β} (hf : ∀ a b, f a = f b → a = b) : ∀ {l m : List α}, l.map f = m.map f → l = m
  | [], [], _ => rfl
  | [], _ :: _, h => by simp at h
  | _ :: _, [], h => by simp at h
  | a :: l, b :: m, h => by
    rw [List.map_cons, List.map_cons] at h
    injection h with h1 h2
    rw [hf _ _ h1, map_inj hf h2]
theorem nkS_inj {s t : Stt} (h : nkS s = nkS t) : s = t := by
  unfold nkS at h
  injection h with h
  exact map_inj (fun a b => nk1_inj) h
theorem nk_inj {k l : KK} (h : nk k = nk l) : k = l := by
  unfold nk at h
  injection h with h
  injection h with h1 h2
  injection h2 with h2 _
  exact Prod.ext (nkS_inj h1) (nkS_inj h2)
theorem nk1_depth (p : Pr) : (nk1 p).depth = 1 := by simp [nk1, NestedKey.depth, NestedKey.depthAll]
theorem nkS_depthAll : ∀ st : Stt, NestedKey.depthAll (st.map nk1) ≤ 1
  | [] => by simp [NestedKey.depthAll]
  | p :: st => by
    rw [List.map_cons]
    unfold NestedKey.depthAll
    rw [nk1_depth]
    exact Nat.max_le.mpr ⟨Nat.le_refl _, nkS_depthAll st⟩
theorem nk_depth (k : KK) : (nk k).depth ≤ 8 := by
  have h1 := nkS_depthAll k.1
  have h2 := nkS_depthAll k.2
  simp only [nk, nkS, NestedKey.depth, NestedKey.depthAll]
  omega
section
variable {P : Program} {w : World} {H : Hp} {h : Heap}
theorem pr_is (ok : HOk P w H h) {b : Addr} {p : Pr} (e : PrAt H b p) : NestedIs h (nk1 p) (.ref b) := by
  obtain ⟨_, its, r, o, h1, h2, n, h3⟩ := (show ObjOk P w H h b (.tup [.int (p.1 : Nat), .int (p.2 : Nat)]) from ok b _ e)
  obtain ⟨u1, u2, e0, ⟨t1, e1⟩, ⟨t2, e2⟩⟩ := Vals.two r
  subst e0 e1 e2
  exact .tup h1 h2 h3 (.cons (.int _ _) (.cons (.int _ _) .nil))
theorem prs_are (ok : HOk P w H h) : ∀ {st : Stt} {xs : List V} {its : List Value}, Paired (fun (p : Pr) (x : V) => ∃ b, x = .ref b ∧ PrAt H b p) st xs → Vals xs its → NestedAll h (st.map nk1) its
  | [], _, _, .nil, .nil => .nil
  | p :: st, _, _, .cons ⟨b, e, q⟩ r, .cons rv rr => by
    subst e
    cases rv
    exact .cons (pr_is ok q) (prs_are ok r rr)
theorem st_is (ok : HOk P w H h) {a : Addr} {st : Stt} (e : StAt H a st) : NestedIs h (nkS st) (.ref a) := by
  obtain ⟨xs, e, q⟩ := e
  obtain ⟨_, its, r, o, h1, h2, n, h3⟩ := (show ObjOk P w H h a (.tup xs) from ok a _ e)
  exact .tup h1 h2 h3 (by simpa using prs_are ok q r)
theorem key_is (ok : HOk P w H h) {a : Addr} {k : KK} (e : KAt H a k) : (nestedKind P w).is h (nk k) a := by
  obtain ⟨a1, a2, e, q1, q2⟩ := e
  obtain ⟨_, its, r, o, h1, h2, n, h3⟩ := (show ObjOk P w H h a (.tup [.ref a1, .ref a2]) from ok a _ e)
  obtain ⟨u1, u2, e0, e1, e2⟩ := Vals.two r
  cases e1
  cases e2
  subst e0
  exact ⟨.tup h1 h2 h3 (.cons (st_is ok q1) (.cons (st_is ok q2) .nil)), nk_depth k⟩
end
/-! ### a dict with such keys -/
abbrev Ent := KK × Addr × V
def entR (e : Ent) (x : NestedKey × Addr × Value) : Prop := x.1 = nk e.1 ∧ x.2.1 = e.2.1 ∧ RelV e.2.2 x.2.2
def dN (P : Program) (w : World) (d : Addr) (es : List Ent) : HO := .ext fun h => (d == sysModules) = false ∧ es.length ≤ sizeLine ∧
  ∃ xs : List (NestedKey × Addr × Value), Paired entR es xs ∧ ∃ (o : Obj) (arr : Array DictEntry) (ep : Nat), h.get? d = some o ∧ o.ExactDict ∧ o.data = .dict arr ep ∧ arr.toList = xs.map (entryOfKey (nestedKind P w))
structure DN (P : Program) (w : World) (H : Hp) (d : Addr) (es : List Ent) : Prop where
  at_ : H d = some (dN P w d es)
  keys : ∀ e ∈ es, KAt H e.2.1 e.1
  nd : (es.map (·.1)).Nodup
theorem DN.same {P : Program} {w : World} {H H' : Hp} {d : Addr} {es : List Ent} (D : DN P w H d es) (e : H' d = H d) (t : Tups H H') : DN P w H' d es :=
  ⟨e.trans D.at_, fun x hx => (D.keys x hx).tups t, D.nd⟩
theorem paired_map {α β γ : Type} {R : α → β → Prop} {f : α → γ} {g : β → γ} (h : ∀ a b, R a b → g b = f a) : ∀ {l : List α} {m : List β}, Paired R l m → m.map g = l.map f
  | _, _, .nil => rfl
  | _, _, .cons r t => by rw [List.map_cons, List.map_cons, h _ _ r, paired_map h t]
theorem paired_mem {α β : Type} {R : α → β → Prop} : ∀ {l : List α} {m : List β}, Paired R l m → ∀ b ∈ m, ∃ a ∈ l, R a b
  | _, _, .nil, b, hb => nomatch hb
  | _, _, .cons r t, b, hb => by
    rcases List.mem_cons.mp hb with e | hb
    · subst e
      exact ⟨_, List.mem_cons_self, r⟩
    · obtain ⟨a, ha, q⟩ := paired_mem t b hb
      exact ⟨a, List.mem_cons_of_mem _ ha, q⟩
theorem nodup_map {α β : Type} {f : α → β} (hf : ∀ a b, f a = f b → a = b) {l : List α} (h : l.Nodup) : (l.map f).Nodup :=
  List.Pairwise.map f (fun a b n e => n (hf a b e)) h
section
variable {X : Cx} {pins : List (Addr × Obj)} {σ : L2.St} {H : Hp} {s : Shared} {d : Addr} {es : List Ent}
theorem DN.get (D : DN X.prog X.w H d es) (I : Inv X pins σ H s) : (d == sysModules) = false ∧ es.length ≤ sizeLine ∧ ∃ xs, Paired entR es xs ∧ s.heap.DictOfH (nestedKind X.prog X.w) d xs := by
  obtain ⟨⟨h1, h2, xs, r, o, arr, ep, h3, h4, h5, h6⟩, _, _⟩ := (show ObjOk X.prog X.w H s.heap d (dN X.prog X.w d es) from I.hok d _ D.at_)
  refine ⟨h1, h2, xs, r, o, arr, ep, h3, h4, h5, h6, fun x hx => ?_, ?_⟩
  · obtain ⟨e, he, e1, e2, _⟩ := paired_mem r x hx
    rw [e1, e2]
    exact key_is I.hok (D.keys e he)
  · have e : xs.map (·.1) = (es.map (·.1)).map nk := by
      rw [List.map_map]
      exact paired_map (fun a b q => q.1) r
    rw [e]
    exact nodup_map (fun a b => nk_inj) D.nd
/-- what is there at a key -/
theorem look_none {xs : List (NestedKey × Addr × Value)} (r : Paired entR es xs) {k : KK} (h : k ∉ es.map (·.1)) : atKey xs (nk k) = none := by
  unfold atKey
  rw [Option.map_eq_none_iff, List.find?_eq_none]
  intro x hx q
  obtain ⟨e, he, e1, _⟩ := paired_mem r x hx
  have q' : x.1 = nk k := of_decide_eq_true q
  rw [e1] at q'
  exact h (List.mem_map.mpr ⟨e, he, nk_inj q'⟩)
theorem look_some : ∀ {es : List Ent} {xs : List (NestedKey × Addr × Value)}, Paired entR es xs → (es.map (·.1)).Nodup → ∀ {k : KK} {b : Addr} {v : V}, (k, b, v) ∈ es → ∃ c u, atKey xs (nk k) = some (c, u) ∧ RelV v u
  | _, _, .nil, _, _, _, _, h => nomatch h
  | e :: es, x :: xs, .cons r t, nd, k, b, v, h => by
    rw [List.map_cons, List.nodup_cons] at nd
    rcases List.mem_cons.mp h with q | q
    · subst q
      refine ⟨x.2.1, x.2.2, ?_, r.2.2⟩
      unfold atKey
      rw [List.find?_cons_of_pos (by rw [r.1]; simp)]
      rfl
    · obtain ⟨c, u, e1, e2⟩ := look_some t nd.2 q
      refine ⟨c, u, ?_, e2⟩
      have hne : ¬ x.1 = nk k := fun z => nd.1 (List.mem_map.mpr ⟨_, q, by rw [r.1] at z; exact (nk_inj z).symm⟩)
      unfold atKey at e1 ⊢
      rw [List.find?_cons_of_neg (by simpa using hne)]
      exact e1
theorem look_is (D : DN X.prog X.w H d es) {xs : List (NestedKey × Addr × Value)} (r : Paired entR es xs) (k : KK) : (atKey xs (nk k)).isSome = decide (k ∈ es.map (·.1)) := by
  by_cases h : k ∈ es.map (·.1)
  · obtain ⟨⟨k', b, v⟩, he, rfl⟩ := List.mem_map.mp h
    obtain ⟨c, u, e, _⟩ := look_some r D.nd he
    rw [e, decide_eq_true h]
    rfl
  · rw [look_none r h, decide_eq_false h]
    rfl
theorem room8 {A : Around} (hu : A.units + 64 < cLine) (P : Program) (w : World) : (nestedKind P w).room A.in1 := by
  show A.units + 1 + 8 < cLine
  omega
/-- k not in d -/
def rNotInN (X : Cx) : R2 := fun x y H Q => ∃ a k d es, x = .ref a ∧ y = .ref d ∧ KAt H a k ∧ DN X.prog X.w H d es ∧ Q (.bl (!decide (k ∈ es.map (·.1)))) H
theorem op_notInN (hu : X.A.units + 64 < cLine) : OpR X (compareOp .NotIn) (rNotInN X) := by
  intro pins s σ H x y v u Q I rx ry h
  obtain ⟨a, k, d, es, rfl, rfl, hk, D, q⟩ := h
  cases rx
  cases ry
  obtain ⟨h1, h2, xs, r, dd⟩ := D.get I
  refine wpAny_notIn_heap (room8 hu _ _) (key_is I.hok hk) h1 dd ?_
  rw [look_is D r]
  exact ⟨.bl _, H, I.tok _, rfl, q⟩
/-- d[k] -/
def tGetN (X : Cx) (td tk : TE) : TE := fun σ H Q => td σ H fun x H1 => tk σ H1 fun y H2 => ∃ d es a k b v, x = .ref d ∧ y = .ref a ∧ DN X.prog X.w H2 d es ∧ KAt H2 a k ∧ (k, b, v) ∈ es ∧ Q v H2
theorem pe_getN {o i : Expr} {td tk : TE} {pos : Pos} (hu : X.A.units + 64 < cLine) (ho : PE X o td) (hi : PE X i tk) (hs : NoSl i) : PE X (.Subscript o i pos) (tGetN X td tk) := by
  refine ⟨fun pins s σ H Q I h => ?_⟩
  refine subD_of PySem.F.slot_dict_getitem.lookup hs (thn (ho.run pins s σ H _ I h) fun u s1 ⟨x, H1, I1, rx, q1⟩ => thn (hi.run pins s1 σ H1 _ I1 q1) fun iv s2 ⟨y, H2, I2, ry, d, es, a, k, b, v, ex, ey, D, hk, he, q2⟩ => ?_)
  subst ex ey
  obtain rfl : u = Value.ref d := rx
  obtain rfl : iv = Value.ref a := ry
  obtain ⟨h1, h2, xs, r, dd⟩ := D.get I2
  obtain ⟨c, w', e1, e2⟩ := look_some r D.nd he
  exact ⟨dd.typeIs, wpAny_getItem_heap (room8 hu _ _) (key_is I2.hok hk) dd e1 ⟨v, H2, I2.tok _, e2, q2⟩⟩
/-- the dict with one key more -/
theorem dn_obj {P : Program} {w : World} {H' : Hp} {h' : Heap} {xs : List (NestedKey × Addr × Value)} (hd : (d == sysModules) = false) (hz : es.length ≤ sizeLine) (r : Paired entR es xs) (dd : h'.DictOfH (nestedKind P w) d xs) :
    ObjOk P w H' h' d (dN P w d es) := by
  obtain ⟨o, arr, ep, h1, h2, h3, h4, _, _⟩ := dd
  refine ⟨⟨hd, hz, xs, r, o, arr, ep, h1, h2, h3, h4⟩, ⟨o, h1⟩, fun g1 g2 ⟨a1, a2, ys, r', o', arr', ep', b1, b2, b3, b4⟩ k => ?_⟩
  exact ⟨a1, a2, ys, r', o', arr', ep', k _ b1, b2, b3, b4⟩
/-- d[k] = v, the key new -/
def rPutN (X : Cx) : V → V → V → Hp → (Hp → Prop) → Prop := fun o i v H Q => ∃ d es a k, o = .ref d ∧ i = .ref a ∧ DN X.prog X.w H d es ∧ KAt H a k ∧ k ∉ es.map (·.1) ∧ es.length < sizeLine ∧ Q (upd H d (dN X.prog X.w d (es ++ [(k, a, v)])))
theorem set_N (hu : X.A.units + 64 < cLine) : PSet X (rPutN X) := by
  intro pins s σ H o i v ov iv u Q I ro ri rv h
  obtain ⟨d, es, a, k, rfl, rfl, D, hk, hn, hl, q⟩ := h
  cases ro
  cases ri
  obtain ⟨h1, h2, xs, r, dd⟩ := D.get I
  have hz : xs.length ≤ sizeLine := by rw [← r.length]; exact h2
  refine wpAny_setItem_heap (hsz := hz) (room8 hu _ _) (key_is I.hok hk) dd fun h' dd' hs => ?_
  rw [storedH_new (look_none r hn)] at dd'
  obtain ⟨ob, _, _, g1, _⟩ := id dd'
  refine ⟨_, I.write (x := d) (e := d) (by rw [D.at_]; exact True.intro) (.inl rfl) (fun b z hb y => (hs.2 b hb).trans y) ⟨ob, g1⟩ (dn_obj h1 (by rw [List.length_append, List.length_singleton]; omega) (r.snoc ⟨rfl, rfl, rv⟩) dd'), q⟩
theorem DN.put (D : DN X.prog X.w H d es) {a : Addr} {k : KK} {v : V} (hk : KAt H a k) (hn : k ∉ es.map (·.1)) : DN X.prog X.w (upd H d (dN X.prog X.w d (es ++ [(k, a, v)]))) d (es ++ [(k, a, v)]) := by
  have t : Tups H (upd H d (dN X.prog X.w d (es ++ [(k, a, v)]))) := fun b xs e => by
    rw [upd_ne (ne_of e D.at_ (fun z => nomatch z))]
    exact e
  refine ⟨upd_same, fun e he => ?_, ?_⟩
  · rcases List.mem_append.mp he with he | he
    · exact (D.keys e he).tups t
    · rw [List.mem_singleton.mp he]
      exact hk.tups t
  · rw [List.map_append, List.map_singleton]
    refine List.nodup_append.mpr ⟨D.nd, by simp, fun a ha b hb e => ?_⟩
    have e' : a = k := e.trans (List.mem_singleton.mp hb)
    rw [e'] at ha
    exact hn ha
/-- {} -/
def tNewN (X : Cx) : TE := fun _ H Q => ∀ p, H p = none → Q (.ref p) (upd H p (dN X.prog X.w p []))
theorem pe_newN {pos : Pos} : PE X (.Dict [] [] pos) (tNewN X) := by
  refine ⟨fun pins s σ H Q I h => ?_⟩
  have hb := I.big
  have hd : (s.heap.objs.size == sysModules) = false := beq_eq_false_iff_ne.mpr (Ne.symm (Nat.ne_of_lt hb))
  refine wpAny_Dict_empty ⟨.ref s.heap.objs.size, _, I.laid (a := s.heap.objs.size) (o := dN X.prog X.w s.heap.objs.size []) (t' := s.toks) (fun _ _ q => Heap.get?_push_of_some _ q) (Nat.le_refl _) ?_, rfl, h _ (I.hok.fresh (Nat.le_refl _))⟩
  exact dn_obj hd (Nat.zero_le _) .nil (Heap.DictOfH.new s.heap)
/-- {k: v} -/
def tDisp1 (X : Cx) (tk tv : TE) : TE := fun σ H Q => ∀ p, H p = none → tk σ (upd H p (.dK [])) fun x H1 => tv σ H1 fun y H2 => H2 p = some (.dK []) ∧ ∃ a k, x = .ref a ∧ KAt H2 a k ∧ Q (.ref p) (upd H2 p (dN X.prog X.w p [(k, a, y)]))
theorem pe_disp1 {k v : Expr} {tk tv : TE} {pos : Pos} (hu : X.A.units + 64 < cLine) (hk : PE X k tk) (hv : PE X v tv) : PE X (.Dict [some k] [v] pos) (tDisp1 X tk tv) := by
  refine ⟨fun pins s σ H Q I q => ?_⟩
  have hn := I.hok.fresh (Nat.le_refl s.heap.objs.size)
  have hb := I.big
  have hd : (s.heap.objs.size == sysModules) = false := beq_eq_false_iff_ne.mpr (Ne.symm (Nat.ne_of_lt hb))
  have I1 := I.laid (a := s.heap.objs.size) (o := .dK []) (h' := s.heap.push { cls := .type "dict", data := .dict #[] }) (t' := s.toks) (fun _ _ q => Heap.get?_push_of_some _ q) (Nat.le_refl _) (dk_empty s.heap hb)
  rw [arm_eval_Dict, zip_pairTrees [some k] [v] X.env pos rfl rfl, dictDisplay_pairs (pairTrees [some k] [v] X.env pos) (fun z => nomatch z) (by show 1 < 17; decide)]
  refine wpAny_bind (wpAny_standAt (wpAny_bind (wpAny_subDictH (knd := nestedKind X.prog X.w) (Q := fun d s' => wpAny (model X.prog X.w) X.A (pure (Value.ref d)) (EP X pins σ Q) X.xe s') (by show X.A.units + 8 < cLine; omega) (by show 1 ≤ 15; decide) ?_)))
  refine pairTrees_cons_walk (thn (hk.run pins _ σ _ _ I1 (q _ hn)) fun kv s1 ⟨x, H1, I2, rx, q1⟩ => thn (hv.run pins s1 σ H1 _ I2 q1) fun vv s2 ⟨y, H2, I3, ry, e, a, kk, ex, hka, q2⟩ => pairTrees_nil_walk ?_)
  subst ex
  obtain rfl : kv = Value.ref a := rx
  obtain ⟨z, hd', vs0, r0, dd⟩ := dk_of I3.hok e
  cases r0
  have ki := key_is I3.hok hka
  refine ⟨[(nk kk, a, vv)], ⟨rfl, rfl, ki, trivial⟩, ?_, fun h' tk dd' hs => ?_⟩
  · obtain ⟨o, arr, ep, g1, g2, g3, _, g4, _⟩ := dd
    refine ⟨o, arr, ep, g1, g2, g3, ?_, (fun _ hx => nomatch hx), List.nodup_nil⟩
    cases ea : arr.toList with
    | nil => rfl
    | cons x r =>
      rw [ea] at g4
      cases g4
  · obtain ⟨ob, _, _, g1, _⟩ := id dd'
    refine wpAny_pure ⟨.ref s.heap.objs.size, _, I3.write (x := s.heap.objs.size) (e := s.heap.objs.size) (by rw [e]; exact True.intro) (.inl rfl) (fun b z hb y => (hs.2 b hb).trans y) ⟨ob, g1⟩ (dn_obj hd (by show 1 ≤ sizeLine; decide) (.cons ⟨rfl, rfl, ry⟩ .nil) dd'), rfl, q2⟩
theorem dn_one {P : Program} {w : World} {H2 : Hp} {p a : Addr} {k : KK} {y : V} (e : H2 p = some (.dK [])) (hk : KAt H2 a k) : DN P w (upd H2 p (dN P w p [(k, a, y)])) p [(k, a, y)] := by
  refine ⟨upd_same, fun x hx => ?_, by simp⟩
  rw [List.mem_singleton.mp hx]
  refine hk.tups fun b xs q => ?_
  rw [upd_ne (ne_of q e (fun z => nomatch z))]
  exact q
theorem dn_nil {P : Program} {w : World} {H : Hp} {p : Addr} : DN P w (upd H p (dN P w p [])) p [] := ⟨upd_same, (fun _ h => nomatch h), List.nodup_nil⟩
end
end SF
set_option Elab.async false
set_option linter.all false
set_option maxRecDepth 100000
/-! enumerate of a tuple -/
namespace SF
open PySem PySem.Spec PyProof.Rows L2
set_option maxHeartbeats 1000000 in
theorem enum_one {v : Value} {o : Obj} {P0 : Heap → Prop} (B : Begins v o P0) :
    Meets (Builtin.«enumerate.__new__» ⟨[.type "enumerate", v], []⟩) (fun _ R s => P0 s.heap ∧
      R (.ok (.ret (.ref (s.heap.push o).objs.size))) { s with heap := (s.heap.push o).push { cls := .type "enumerate", data := .fields #[.none, .bool false, .ref s.heap.objs.size, rawInt 0, .none, .none] } }) := by
  refine .of_wp fun prog w A R s h => ?_
  obtain ⟨hp, g, d, tk, os⟩ := s
  obtain ⟨h1, h⟩ := h
  have hsub := sub_enumerate
  have q1 : ∀ {A' : Around} {E Q : Value → Shared → Prop}, Q (.ref hp.objs.size) ⟨hp.push o, g, d, tk, os⟩ → wpAny (model prog w) A' (pyIter v) Q E ⟨hp, g, d, tk, os⟩ :=
    fun q => B.iter prog w _ _ ⟨hp, g, d, tk, os⟩ _ h1 q
  wp_walk using q1
  refine wpAny_stack_any fun st => wpAny_pure ?_
  split
  · rename_i c _ _ _ _ _
    cases (c == Value.type "enumerate") <;> (wp_walk using q1; exact ⟨_, rfl, h⟩)
  · wp_walk using q1
    exact ⟨_, rfl, h⟩
section
variable {prog : Program} {w : World} {A : Around} {E : Value → Shared → Prop} {s : Shared}
theorem enum_tuple {l : Addr} {items : Array Value} {Q : Value → Shared → Prop} (hL : s.heap.IsTuple l items)
    (h : ∀ h', IsEnum h' (s.heap.objs.size + 1) s.heap.objs.size 0 .none → h'.IsTupleIter s.heap.objs.size l 0 →
      (∀ b o, s.heap.get? b = some o → h'.get? b = some o) → Q (.ref (s.heap.objs.size + 1)) { s with heap := h' }) :
    wpAny (model prog w) A (call (.type "enumerate") [.ref l]) Q E s := by
  refine callType_new F.called_enumerate (by decide) (F.typeCall_enumerate_1 _) (F.newCall_enumerate_1 _) (fun obj => F.args_object_init_2 obj _) F.entry_enumerate_new (enum_one (begins_tuple l items)) ⟨hL, ?_⟩
  have hz : (s.heap.push { cls := .type "tuple_iterator", data := .fields #[.ref l, .int 0 0] }).objs.size = s.heap.objs.size + 1 := Heap.size_push ..
  show _ ∧ _
  rw [hz]
  have he : IsEnum ((s.heap.push { cls := .type "tuple_iterator", data := .fields #[.ref l, .int 0 0] }).push { cls := .type "enumerate", data := .fields #[.none, .bool false, .ref s.heap.objs.size, rawInt 0, .none, .none] })
      (s.heap.objs.size + 1) s.heap.objs.size 0 .none := by
    have z := Heap.get?_push_size (s.heap.push { cls := .type "tuple_iterator", data := .fields #[.ref l, .int 0 0] }) (o := { cls := .type "enumerate", data := .fields #[.none, .bool false, .ref s.heap.objs.size, rawInt 0, .none, .none] }) rfl
    rw [hz] at z
    exact z
  exact ⟨⟨_, he, rfl⟩, h _ he ⟨_, Heap.get?_push_of_some _ (Heap.get?_push_size _ rfl), rfl, rfl⟩ fun b o x => Heap.get?_push_of_some _ (Heap.get?_push_of_some _ x)⟩
end
/-- the tuple at a, each item in a new pair with its place -/
def ItE (K : PySem.W.Frag) (a : Addr) : It where
  go := fun i H => ∃ (xs : List V) (x : V), SqT K H a xs ∧ xs[i]? = some x
  yld := fun i H v H' => ∃ T x, v = .ref T ∧ H T = none ∧ H' = upd H T (.tup [.int (i : Nat), x]) ∧ ∀ xs, SqT K H a xs → xs[i]? = some x
  stop := fun i H => ∃ xs : List V, SqT K H a xs ∧ xs.length = i
theorem turn_enumT {P : Program} {w : World} {K : PySem.W.Frag} {elts : List Expr} {kk : Nat} {tpos : Pos} (a e it : Addr) :
    Turn P w K (.Tuple elts kk tpos) (ItE K a) [e, it] e (fun i h => (∃ old, IsEnum h e it ((i : Nat) : Int) old) ∧ h.IsTupleIter it a i ∧ e ≠ it) where
  mem := by simp
  obj := fun i h st b hb => by
    obtain ⟨⟨old, he⟩, ⟨o, ho, hc, hd⟩, _⟩ := st
    rcases (show b = e ∨ b = it by simpa using hb) with z | z
    · subst z
      exact ⟨_, he, fun v q => nomatch q⟩
    · subst z
      exact ⟨o, ho, fun v q => by rw [hd] at q; cases q⟩
  keep := fun i h h' st k => by
    obtain ⟨⟨old, he⟩, hi, hne⟩ := st
    exact ⟨⟨old, k e (by simp) _ he⟩, hi.at fun o q => k it (by simp) o q, hne⟩
  item := by
    intro X hP hw hK hc i pins s σ H E I hf st hg
    subst hP hw hK
    obtain ⟨⟨old, he⟩, hit, hne⟩ := st
    obtain ⟨xs, x, hq, hx⟩ := hg
    obtain ⟨its, rv, p, hz⟩ := I.tuple hq
    obtain ⟨u, hu, ru⟩ := rv.get hx
    have ht : s.heap.IsTuple a its.toArray := p
    have hel : e < s.heap.objs.size := Heap.lt_size he
    have hil : it < s.heap.objs.size := by obtain ⟨_, q, _⟩ := hit; exact Heap.lt_size q
    have nit : a ≠ it := fun z => by
      obtain ⟨o1, q1, q2, _⟩ := hit
      obtain ⟨o2, q3, q4, _⟩ := ht
      rw [z, q1] at q3
      cases q3
      rw [q2] at q4
      injection q4 with q4
      exact absurd q4 (by decide)
    have nea : e ≠ a := fun z => by
      obtain ⟨o2, q3, q4, _⟩ := ht
      rw [← z] at q3
      have q5 : s.heap.get? e = some _ := he
      rw [q5] at q3
      cases q3
      injection q4 with q4
      exact absurd q4 (by decide)
    have hlt : i < its.toArray.size := by
      have := (List.getElem?_eq_some_iff.mp hu).1
      simpa using this
    refine wpAny_pyNext_enum_itemC (Draws.tuple (A := X.A.in1) (show X.A.in1.handled = none from I.ok.hd hc) it a nit its.toArray) he ⟨hit, ht⟩ hlt hne (by simp [hne, nea]) fun y h' tk hy ho hst hT hsz hk => ?_
    have hy' : its[i]? = some y := by simpa using hy
    have ey : u = y := Option.some.inj (hu.symm.trans hy')
    subst ey
    refine ⟨_, rfl, wpAny_letOwnedTupleGo_enum (s := { s with heap := h', toks := tk + 1 }) ho fun h2 he2 sb => ?_⟩
    have hT2 : h2.get? s.heap.objs.size = some { cls := .type "tuple", data := .seq #[.int i tk, u] } := (sb.2 _ (Nat.ne_of_gt hel)).trans hT
    have new : ObjOk X.prog X.w (upd H s.heap.objs.size (.tup [.int (i : Nat), x])) h2 s.heap.objs.size (.tup [.int (i : Nat), x]) := by
      refine ⟨?_, [.int i tk, u], .cons ⟨_, rfl⟩ (.cons ru .nil), ⟨_, hT2, rfl, _, rfl⟩⟩
      show 2 ≤ sizeLine
      decide
    have I1 : Inv X pins σ (upd H s.heap.objs.size (.tup [.int (i : Nat), x])) { s with heap := h2, toks := tk + 1 } := by
      refine I.turnedNew (ch := [e, it]) (fun b ob hb q => ?_) hf (Nat.le_refl _) new
      have n1 : b ≠ e := fun z => hb (by simp [z])
      have n2 : b ≠ it := fun z => hb (by simp [z])
      exact (sb.2 b n1).trans (hk b ob n1 n2 q)
    have tail : ∀ ys, SqT X.K H a ys → ys[i]? = some x := fun ys hy => by
      rw [I.tuple_inj hy hq]
      exact hx
    refine ⟨.ref s.heap.objs.size, _, I1, rfl, ⟨_, x, rfl, I.hok.fresh (Nat.le_refl _), rfl, tail⟩, ⟨⟨u, ?_⟩, hst.1.at fun o q => (sb.2 it (Ne.symm hne)).trans q, hne⟩, fun b hb => ?_⟩
    · have e1 : ((i + 1 : Nat) : Int) = (i : Int) + 1 := by omega
      rw [e1]
      exact he2
    · have hb' : b < s.heap.objs.size := by
        rcases (show b = e ∨ b = it by simpa using hb) with z | z <;> subst z <;> assumption
      rw [upd_ne (Nat.ne_of_lt hb')]
      exact (hf b hb).1
  done := by
    intro X hP hw hK hc i pins s σ H E I hf st hg
    subst hP hw hK
    obtain ⟨⟨old, he⟩, hit, hne⟩ := st
    obtain ⟨xs, hq, hx⟩ := hg
    obtain ⟨its, rv, p, hz⟩ := I.tuple hq
    have ht : s.heap.IsTuple a its.toArray := p
    obtain ⟨f0, f1, f2, f3, f4, f5⟩ := hf it (by simp)
    have nit : a ≠ it := fun z => by
      obtain ⟨o1, q1, q2, _⟩ := hit
      obtain ⟨o2, q3, q4, _⟩ := ht
      rw [z, q1] at q3
      cases q3
      rw [q2] at q4
      injection q4 with q4
      exact absurd q4 (by decide)
    have hl : its.toArray.size = i := by
      have := rv.length
      simp
      omega
    refine wpAny_pyNext_enum_endD (Draws.tuple (A := X.A.in1) (show X.A.in1.handled = none from I.ok.hd hc) it a nit its.toArray) he ⟨by rw [hl]; exact hit, ht⟩ fun h' eb => ⟨rfl, ?_⟩
    exact I.turned (t' := s.toks) (fun b o hb q => eb b o hb q) f0 f1 f3 f4 f5
  self := fun A i s Q E st h => by
    obtain ⟨⟨_, he⟩, _⟩ := st
    exact wpAny_pyIter_enum he h
def iEnumT (K : PySem.W.Frag) (ta : TA) : TI := fun σ H R => ta σ H fun vs H1 => ∃ a xs, vs = [.ref a] ∧ SqT K H1 a xs ∧ R (ItE K a) H1
theorem pi_enumT {X : Cx} {e : Expr} {ta : TA} {p pos tpos : Pos} {elts : List Expr} {kk : Nat} (hg : Gl X "enumerate") (hm : X.mg "enumerate" = none) (ha : PA X [e] ta) (hs : starEach [e] X.env = [(false, eval e X.env)] := by rfl) :
    PI X (.Tuple elts kk tpos) (.Call (.Name "enumerate" p) [e] [] pos) (iEnumT X.K ta) := by
  refine ⟨fun pins s σ H R I h => ?_⟩
  refine Call_ (ld_blt I hg hm boot_enumerate (PyProof.Rows.callWith_type1 (thn (ha.run pos pins s σ H _ I h) fun us s1 ⟨vs, H1, I1, r1, q1⟩ => ?_) hs rfl))
  obtain ⟨a, xs, ex, hq, q⟩ := q1
  subst ex
  rw [Vals.ref1 r1]
  obtain ⟨its, rv, p', hz⟩ := I1.tuple hq
  refine enum_tuple (items := its.toArray) (show s1.heap.IsTuple a its.toArray from p') fun h' he hit hk => wpAny_pyIter_enum he ?_
  have I2 : Inv X pins σ H1 { s1 with heap := h' } := I1.kept (t' := s1.toks) hk
  refine ⟨s1.heap.objs.size + 1, [s1.heap.objs.size + 1, s1.heap.objs.size], _, _, H1, rfl, I2, turn_enumT a (s1.heap.objs.size + 1) s1.heap.objs.size, ⟨⟨.none, he⟩, hit, Nat.succ_ne_self _⟩, fun b hb => ?_, q⟩
  have hle : s1.heap.objs.size ≤ b := by
    rcases (show b = s1.heap.objs.size + 1 ∨ b = s1.heap.objs.size by simpa using hb) with z | z
    · exact Nat.le_trans (Nat.le_succ _) (Nat.le_of_eq z.symm)
    · exact Nat.le_of_eq z.symm
  exact I1.fpOk hle (I1.hok.fresh hle)
/-- a loop over the places and items of a tuple -/
theorem for_enumT {K : PySem.W.Frag} {a : Addr} {xs : List V} {g : TG} {tb : TS} {D : Ends} {σ : L2.St} {H : Hp} (Pv : Nat → L2.St → Hp → Prop) (h0 : Pv 0 σ H) (hq : ∀ i σ H, Pv i σ H → SqT K H a xs)
    (hs : ∀ (i : Nat) (x : V) (T : Addr) (σ : L2.St) (H : Hp), xs[i]? = some x → Pv i σ H → H T = none → g (.ref T) σ (upd H T (.tup [.int (i : Nat), x])) fun σ2 H2 => tb { D with nx := Pv (i + 1), ct := Pv (i + 1), bk := D.nx } σ2 H2)
    (hd : ∀ σ H, Pv xs.length σ H → D.nx σ H) :
    ∃ W : Nat → Nat → L2.St → Hp → Prop, (∃ m, W 0 m σ H) ∧ ∀ i m σ H, W i m σ H →
      ((ItE K a).stop i H ∧ D.nx σ H) ∨ ((ItE K a).go i H ∧ ∃ N : L2.St → Hp → Prop, (∀ σ' H', N σ' H' → ∃ m', m' < m ∧ W (i + 1) m' σ' H') ∧ ∀ v H', (ItE K a).yld i H v H' → g v σ H' fun σ2 H2 => tb { D with nx := N, ct := N, bk := D.nx } σ2 H2) := by
  refine ⟨fun i m σ H => m = xs.length - i ∧ i ≤ xs.length ∧ Pv i σ H, ⟨xs.length, rfl, Nat.zero_le _, h0⟩, fun i m σ H hW => ?_⟩
  obtain ⟨em, hi, p⟩ := hW
  subst em
  have q := hq i σ H p
  by_cases hlt : i < xs.length
  · have ex : xs[i]? = some xs[i] := List.getElem?_eq_getElem hlt
    refine .inr ⟨⟨xs, _, q, ex⟩, Pv (i + 1), fun σ' H' p' => ⟨xs.length - (i + 1), by omega, rfl, hlt, p'⟩, fun v H' y => ?_⟩
    obtain ⟨T, x, e1, nT, e2, e3⟩ := y
    subst e1 e2
    exact hs i x T σ H (e3 xs q) p nT
  · have e : i = xs.length := by omega
    subst e
    exact .inl ⟨⟨xs, q, rfl⟩, hd σ H p⟩
end SF
set_option Elab.async false
set_option linter.all false
set_option maxRecDepth 100000
set_option maxHeartbeats 4000000
/-! a tuple, times a whole number from 1 on -/
namespace SF
open PySem PySem.Spec PyProof.Rows L2
open PySem.AutoSeq1 (wpAny_loadPart')
theorem tup_times1 (l : Addr) (items : Array Value) (n : Nat) (dd : Option Addr) (sl : Array (Option Value)) (u : Tok) :
    Meets (Builtin.«tuple.__mul__» ⟨[.ref l, .int 1 u], []⟩) (fun _ R s => s.heap.get? l = some { cls := .type "tuple", dict := dd, data := .seq items n, slots := sl } ∧ R (.ok (.ret (Value.ref l))) s) := by
  refine .of_wp fun prog w A R s h => ?_
  obtain ⟨hp, g, d, tk, os⟩ := s
  obtain ⟨hl, h⟩ := h
  have f1 := AutoSeq1.idx_int
  have c0 : (decide ((1 : Int) < -(2 ^ 63)) || decide ((1 : Int) ≥ 2 ^ 63)) = false := by decide
  wp_walk using wpAny_loadPart' hl
  exact ⟨_, rfl, h⟩
def rOne (K : PySem.W.Frag) : R2 := fun x y H Q => ∃ l xs, x = .ref l ∧ y = .int 1 ∧ SqT K H l xs ∧ Q (.ref l) H
section
variable {X : Cx}
theorem op_one : OpR X (binaryOp .Mult) (rOne X.K) := by
  intro pins s σ H x y v u Q I rx ry h
  obtain ⟨l, xs, rfl, rfl, hT, q⟩ := h
  cases rx
  obtain ⟨t, rfl⟩ := ry
  obtain ⟨its, r, ⟨⟨cls, dd, data, sl⟩, ho, hc, n, hd⟩, hs⟩ := I.tuple hT
  simp only at hc hd
  subst hc hd
  refine wpAny_binaryOp_repeat_ref (T := "tuple") (U := "int") (by decide) ⟨_, ho, rfl⟩ (fun s' => typeIs_int s' 1 t) noFill_tuple_mul F.fills_int_mul F.slot_int_rmul repeat_tuple F.slot_int_index.lookup
    (call_meets F.slot_int_rmul (typeIs_int s 1 t) F.entry_int_rmul (F.args_int_rmul_2 _ _) (int_rmul_tuple 1 t l its.toArray n dd sl)
      ⟨ho, rfl, ⟨_, ho, rfl⟩, call_meets F.slot_tuple_mul ⟨_, ho, rfl⟩ F.entry_tuple_mul (F.args_tuple_mul_2 _ _) (tup_times1 l its.toArray n dd sl t) ⟨ho, ⟨.ref l, H, I, rfl, q⟩⟩⟩)
theorem op_rep1 : OpR X (binaryOp .Mult) (fun x y H Q => rOne X.K x y H Q ∨ rRepT X.K x y H Q) := OpR.or op_one op_repT
end
end SF
set_option Elab.async false
set_option linter.all false
set_option maxRecDepth 100000
set_option maxHeartbeats 4000000
/-! a list beside the empty list -/
namespace SF
open PySem PySem.Spec PyProof.Rows L2
open PySem.SeqAt
section
variable {X : Cx}
def rNil (K : PySem.W.Frag) (g : Bool → Bool) : R2 := fun x y H Q => ∃ l z xs, x = .ref l ∧ y = .ref z ∧ SqL K H l xs ∧ SqL K H z [] ∧ Q (.bl (g xs.isEmpty)) H
theorem op_eqNil (hu : X.A.units + 64 < cLine) : OpR X (compareOp .Eq) (rNil X.K id) := by
  intro pins s σ H x y v u Q I rx ry h
  obtain ⟨l, z, xs, rfl, rfl, h1, h2, q⟩ := h
  cases rx
  cases ry
  obtain ⟨its, rv, pl, _⟩ := I.list h1
  obtain ⟨its2, rv2, pl2, _⟩ := I.list h2
  cases rv2
  cases rv with
  | nil => exact eq_listAt (e := fun _ => true) pl.isList pl2.isList rfl (by omega) (fun j h1 _ => absurd h1 (Nat.not_lt_zero _)) ⟨.bl true, H, I, rfl, q⟩
  | @cons a b l1 l2 r t => exact eq_list_lengthsAt pl.isList pl2.isList (by simp) (by omega) ⟨.bl false, H, I, rfl, q⟩
theorem op_neNil (hu : X.A.units + 64 < cLine) : OpR X (compareOp .NotEq) (rNil X.K not) := by
  intro pins s σ H x y v u Q I rx ry h
  obtain ⟨l, z, xs, rfl, rfl, h1, h2, q⟩ := h
  cases rx
  cases ry
  obtain ⟨its, rv, pl, _⟩ := I.list h1
  obtain ⟨its2, rv2, pl2, _⟩ := I.list h2
  cases rv2
  cases rv with
  | nil => exact RcNeAt.lists (e := fun _ => true) pl.isList pl2.isList rfl (by omega) (fun j h1 _ => absurd h1 (Nat.not_lt_zero _)) X.prog X.w X.xe _ ⟨.bl false, H, I, rfl, q⟩
  | @cons a b l1 l2 r t => exact RcNeAt.lists_lengths pl.isList pl2.isList (by simp) (by omega) X.prog X.w X.xe _ ⟨.bl true, H, I, rfl, q⟩
end
end SF
set_option Elab.async false
set_option linter.all false
set_option maxRecDepth 100000
set_option maxHeartbeats 4000000
/-! the walk: what is seen of the text; is_count, is_level, is_form, need_form -/
namespace SF
open PySem PySem.Spec PyProof.Rows L2
def topS (i : Nat) : Stmt := PySem.Challenge.pw_scoreforms_k09_whole_parting.main.body.getD i (.Pass ⟨0, 0, 0, 0⟩)
abbrev sCount : Stmt := topS 8
abbrev sLevel : Stmt := topS 9
abbrev sForm : Stmt := topS 10
abbrev sNeed : Stmt := topS 11
/-- a def of the module -/
structure Def (K : PySem.W.Frag) (mg : Str → Option Value) (x : Str) (st : Stmt) (ps : List Str) (f : Addr) (fd : FuncData) : Prop where
  F : Fun K x x st f fd
  mgf : mg x = some (.ref f)
  b : Binds K fd ps []
/-- the built-ins are no names of the module; its constants -/
structure Txt (K : PySem.W.Frag) (mg : Str → Option Value) : Prop where
  isi : mg "isinstance" = none
  int_ : mg "int" = none
  bool_ : mg "bool" = none
  tuple_ : mg "tuple" = none
  list_ : mg "list" = none
  len : mg "len" = none
  all_ : mg "all" = none
  enum : mg "enumerate" = none
  zip_ : mg "zip" = none
  min_ : mg "min" = none
  max_ : mg "max" = none
  rng : mg "range" = none
  tg : ∃ t, mg "TARGET" = some (.int 5 t)
  ld : ∃ t, mg "LEAD" = some (.int 3 t)
  cp : ∃ t, mg "CAP" = some (.int 9 t)
  lv : ∃ t, mg "LEVELS" = some (.int 3 t)
def capV : Option Nat → V
  | none => .non
  | some c => .int (c : Nat)
def lvV (v : Lvl) : List V := [.int (v.t : Nat), .int (v.l : Nat), capV v.c]
def LvAt (H : Hp) (b : Addr) (v : Lvl) : Prop := H b = some (.tup (lvV v))
def FmAt (H : Hp) (a : Addr) (f : Frm) : Prop := ∃ xs : List V, H a = some (.tup xs) ∧ Paired (fun (v : Lvl) (x : V) => ∃ b, x = .ref b ∧ LvAt H b v) f xs
theorem LvAt.tups {H H' : Hp} {b : Addr} {v : Lvl} (h : LvAt H b v) (t : Tups H H') : LvAt H' b v := t _ _ h
theorem FmAt.tups {H H' : Hp} {a : Addr} {f : Frm} (h : FmAt H a f) (t : Tups H H') : FmAt H' a f := by
  obtain ⟨xs, e, r⟩ := h
  exact ⟨xs, t _ _ e, r.mono fun p x ⟨b, e, q⟩ => ⟨b, e, q.tups t⟩⟩
theorem Paired.at {α β : Type} {R : α → β → Prop} : ∀ {l : List α} {m : List β}, Paired R l m → ∀ {i : Nat} {a : α}, l[i]? = some a → ∃ b, m[i]? = some b ∧ R a b
  | _, _, .nil, i, a, h => by simp at h
  | _, _, .cons r t, 0, a, h => by
    cases h
    exact ⟨_, rfl, r⟩
  | _, _, .cons r t, i + 1, a, h => Paired.at t (i := i) (by simpa using h)
theorem Paired.at' {α β : Type} {R : α → β → Prop} : ∀ {l : List α} {m : List β}, Paired R l m → ∀ {i : Nat} {b : β}, m[i]? = some b → ∃ a, l[i]? = some a ∧ R a b
  | _, _, .nil, i, a, h => by simp at h
  | _, _, .cons r t, 0, a, h => by
    cases h
    exact ⟨_, rfl, r⟩
  | _, _, .cons r t, i + 1, a, h => Paired.at' t (i := i) (by simpa using h)
section
variable {P : Program} {w : World} {K : PySem.W.Frag} {mg : Str → Option Value} {base : Heap}
def spCount : Sp := fun vs H Q _ => ∃ n lo hi : Int, vs = [.int n, .int lo, .int hi] ∧ lo ≤ n ∧ n ≤ hi ∧ Q (.bl true) H
theorem scCount : FnScope ["value", "least", "most"] ["value", "least", "most"] (defScope sCount) := ⟨rfl, rfl, rfl, by decide +kernel, rfl, by decide +kernel, by decide +kernel⟩
theorem ok_count {f : Addr} {fd : FuncData} (D : Def K mg "is_count" sCount ["value", "least", "most"] f fd) (T : Txt K mg) : FnOk P w K mg base CX0 1 f fd ["value", "least", "most"] spCount := by
  refine D.F.ok scCount (fun vs H Q E h => ?_) (fun cdv A outer s H vs Q E hr h => ?_)
  · obtain ⟨n, lo, hi, rfl, _⟩ := h
    rfl
  · obtain ⟨n, lo, hi, rfl, h1, h2, k⟩ := h
    refine ⟨_, (pss_one (ps_ret (pe_and (pe_callB call_isi (by rfl) T.isi (by decide +kernel) (pa_cons (pv 0) (pa_cons (pe_bltn (v := .ty "int") (by rfl) T.int_ (by decide +kernel) rfl) pa_nil))) (pe_and (pe_not (pe_callB call_isi (by rfl) T.isi (by decide +kernel) (pa_cons (pv 0) (pa_cons (pe_bltn (v := .ty "bool") (by rfl) T.bool_ (by decide +kernel) rfl) pa_nil)))) (pe_one (pe_chain op_le op_le (pv 1) (pv 0) (pv 2))))))), ?_⟩
    refine ⟨_, rfl, _, _, _, _, true, rfl, .ty "int", .base (.int n), kit_ty (by decide +kernel), true, rfl, iteT ?_⟩
    refine ⟨_, rfl, _, _, _, _, false, rfl, .ty "bool", .base (.int n), kit_ty (by decide +kernel), false, rfl, true, rfl, iteT ?_⟩
    refine ⟨_, rfl, _, rfl, lo, n, rfl, rfl, true, congrArg V.bl (decide_eq_true h1), iteT ?_⟩
    refine ⟨_, rfl, n, hi, rfl, rfl, ?_⟩
    show Q (.bl (decide (n ≤ hi))) H
    rw [decide_eq_true h2]
    exact k
/-! ### is_level -/
def spLevel : Sp := fun vs H Q _ => ∃ b v, vs = [.ref b] ∧ LvAt H b v ∧ OkL v ∧ Q (.bl true) H
theorem scLevel : FnScope ["value"] ["value"] (defScope sLevel) := ⟨rfl, rfl, rfl, by decide +kernel, rfl, by decide +kernel, by decide +kernel⟩
theorem ok_level {f fC : Addr} {fd fdC : FuncData} (D : Def K mg "is_level" sLevel ["value"] f fd) (C : Def K mg "is_count" sCount ["value", "least", "most"] fC fdC) (T : Txt K mg) : FnOk P w K mg base CX0 2 f fd ["value"] spLevel := by
  have GC : FnOk P w K mg base CX0 1 fC fdC ["value", "least", "most"] spCount := ok_count C T
  obtain ⟨t5, h5⟩ := T.tg
  obtain ⟨t3, h3⟩ := T.ld
  obtain ⟨t9, h9⟩ := T.cp
  refine D.F.ok scLevel (fun vs H Q E h => ?_) (fun cdv A outer s H vs Q E hr h => ?_)
  · obtain ⟨b, v, rfl, _⟩ := h
    rfl
  · obtain ⟨b, v, rfl, hb, ⟨⟨g1, g2⟩, ⟨g3, g4⟩, g5⟩, k⟩ := h
    have hT : SqT K H b (lvV v) := SqT.of hb
    refine ⟨_, (pss_cons (ps_if (PW.pt (pw_or (pt_not (pt_val (pe_callB call_isi (by rfl) T.isi (by decide +kernel) (pa_cons (pv 0) (pa_cons (pe_bltn (v := .ty "tuple") (by rfl) T.tuple_ (by decide +kernel) rfl) pa_nil))))) (pw_or (pt_cmpR op_ne (pe_callB call_len_seq (by rfl) T.len (by decide +kernel) (pa_cons (pv 0) pa_nil)) pe_int (nomark _)) (pw_or1 (pt_not (pt_val (pe_call GC hr (by rfl) C.mgf C.F.kp C.b .nil pass0 (pa_cons (pe_ix ix_tup (pv 0) pe_int (fun _ _ => rfl)) (pa_cons pe_int (pa_cons (pe_glob (v := .int 5) (by rfl) h5 ⟨_, rfl⟩) pa_nil)))))))))) (pss_one (ps_ret pe_bl)) pss_nil)
      (pss_one (ps_ret (pe_and (pe_call GC hr (by rfl) C.mgf C.F.kp C.b .nil pass0 (pa_cons (pe_ix ix_tup (pv 0) pe_int (fun _ _ => rfl)) (pa_cons pe_int (pa_cons (pe_glob (v := .int 3) (by rfl) h3 ⟨_, rfl⟩) pa_nil)))) (pe_one (pe_or (pe_cmp (pc_isN (pe_ix ix_tup (pv 0) pe_int (fun _ _ => rfl)))) (pe_one (pe_call GC hr (by rfl) C.mgf C.F.kp C.b .nil pass0 (pa_cons (pe_ix ix_tup (pv 0) pe_int (fun _ _ => rfl)) (pa_cons (pe_ix ix_tup (pv 0) pe_int (fun _ _ => rfl)) (pa_cons (pe_glob (v := .int 9) (by rfl) h9 ⟨_, rfl⟩) pa_nil))))))))))), ?_⟩
    refine ⟨_, rfl, _, _, _, _, true, rfl, .ty "tuple", .base (.tup hb), kit_ty (by decide +kernel), true, rfl, iteF ?_⟩
    refine ⟨_, rfl, b, lvV v, rfl, .inr hT, rfl, false, rfl, iteF ?_⟩
    refine ⟨_, rfl, b, lvV v, 0, .int (v.t : Nat), rfl, rfl, hT, rfl, _, _, _, rfl, by omega, by omega, true, rfl, iteF ?_⟩
    refine ⟨_, rfl, b, lvV v, 1, .int (v.l : Nat), rfl, rfl, hT, rfl, _, _, _, rfl, by omega, by omega, true, rfl, iteT ?_⟩
    refine ⟨_, rfl, b, lvV v, 2, capV v.c, rfl, rfl, hT, rfl, decide (capV v.c = .non), rfl, ?_⟩
    cases e : v.c with
    | none =>
      refine iteT ?_
      exact k
    | some c =>
      have g6 := g5 c e
      refine iteF ?_
      refine ⟨_, rfl, b, lvV v, 2, .int (c : Nat), rfl, rfl, hT, by unfold lvV; rw [e]; rfl, _, rfl, b, lvV v, 0, .int (v.t : Nat), rfl, rfl, hT, rfl, _, _, _, rfl, by omega, by omega, ?_⟩
      exact k
/-! ### is_form, need_form -/
def spForm : Sp := fun vs H Q _ => ∃ a f, vs = [.ref a] ∧ FmAt H a f ∧ OkF f ∧ 1 ≤ f.length ∧ f.length ≤ 3 ∧ ∀ H', Same H H' → Q (.bl true) H'
theorem scForm : FnScope ["value", "level"] ["value"] (defScope sForm) := ⟨rfl, rfl, rfl, by decide +kernel, rfl, by decide +kernel, by decide +kernel⟩
theorem ok_form {f fC fL : Addr} {fd fdC fdL : FuncData} (D : Def K mg "is_form" sForm ["value"] f fd) (L : Def K mg "is_level" sLevel ["value"] fL fdL) (C : Def K mg "is_count" sCount ["value", "least", "most"] fC fdC) (T : Txt K mg) :
    FnOk P w K mg base CX0 3 f fd ["value"] spForm := by
  have GL : FnOk P w K mg base CX0 2 fL fdL ["value"] spLevel := ok_level L C T
  obtain ⟨tL, hL⟩ := T.lv
  refine D.F.ok scForm (fun vs H Q E h => ?_) (fun cdv A outer s H vs Q E hr h => ?_)
  · obtain ⟨a, v, rfl, _⟩ := h
    rfl
  · obtain ⟨a, fm, rfl, hf, ok, l1, l3, k⟩ := h
    obtain ⟨xs, ha, r⟩ := id hf
    have hT : SqT K H a xs := SqT.of ha
    have hl := r.length
    refine ⟨_, (pss_one (ps_ret (pe_and (pe_callB call_isi (by rfl) T.isi (by decide +kernel) (pa_cons (pv 0) (pa_cons (pe_bltn (v := .ty "tuple") (by rfl) T.tuple_ (by decide +kernel) rfl) pa_nil))) (pe_and (pe_chain op_le op_le pe_int (pe_callB call_len_seq (by rfl) T.len (by decide +kernel) (pa_cons (pv 0) pa_nil)) (pe_glob (v := .int 3) (by rfl) hL ⟨_, rfl⟩)) (pe_one (pe_callB (cr_all rfl) (by rfl) T.all_ (by decide +kernel) (pa_cons (pe_lc (own := [("level", 1)]) (g := gName 1) (tt := tYes) (by rfl) scForm.nd (pi_tup (pv 0)) (blkOk_by (own := [("level", 1)]) (N := ["value", "level"]) (sc := defScope sForm) (by decide +kernel)) (fun _ _ _ _ _ => pg_name (i := 1) scForm.nd rfl (Or.inl rfl)) (fun _ _ _ _ _ => pts_nil) (fun _ _ _ _ _ => (pe_call GL hr (by rfl) L.mgf L.F.kp L.b .nil pass0 (pa_cons (pv 1) pa_nil)))) pa_nil))))))), ?_⟩
    refine ⟨_, rfl, _, _, _, _, true, rfl, .ty "tuple", .base (.tup ha), kit_ty (by decide +kernel), true, rfl, iteT ?_⟩
    refine ⟨_, rfl, a, xs, rfl, .inr hT, 1, _, rfl, rfl, true, congrArg V.bl (decide_eq_true (by omega)), iteT ?_⟩
    refine ⟨_, _, rfl, rfl, true, congrArg V.bl (decide_eq_true (by omega)), iteT ?_⟩
    refine ⟨_, rfl, a, rfl, ⟨xs, hT⟩, fun d nd => ?_⟩
    refine lc_tup (K := K) (a := a) (xs := xs) (fun i H1 => (∀ b o, H b = some o → H1 b = some o) ∧ H1 d = some (.lst (List.replicate i (.bl true)))) ⟨same_new nd, by rw [upd_same]; rfl⟩ (fun i H1 _ z => SqT.of (z.1 _ _ ha)) ?_ ?_
    · intro i x H1 hx ⟨z1, z2⟩
      have hi := (List.getElem?_eq_some_iff.mp hx).1
      obtain ⟨v, hv, b, rfl, hb⟩ := Paired.at' r hx
      refine ⟨rfl, ?_⟩
      refine ⟨_, rfl, b, v, rfl, z1 _ _ hb, ok v (List.mem_of_getElem? hv), _, z2, ?_, fun b' o e => ?_, ?_⟩
      · rw [List.length_replicate]
        exact small1000 (by omega)
      · rw [upd_ne (ne_of_none e nd)]
        exact z1 _ _ e
      · rw [upd_same, List.replicate_succ']
    · intro H1 ⟨z1, z2⟩
      refine ⟨d, List.replicate xs.length true, rfl, SqL.of (by rw [z2, List.map_replicate]), ?_⟩
      have e : (List.replicate xs.length true).all id = true := by
        rw [List.all_eq_true]
        intro x hx
        rw [(List.mem_replicate.mp hx).2]
        rfl
      rw [e]
      exact k H1 z1
def spNeed : Sp := fun vs H Q _ => ∃ a f, vs = [.ref a] ∧ FmAt H a f ∧ OkF f ∧ 1 ≤ f.length ∧ f.length ≤ 3 ∧ ∀ H', Same H H' → Q .non H'
theorem scNeed : FnScope ["value"] ["value"] (defScope sNeed) := ⟨rfl, rfl, rfl, by decide +kernel, rfl, by decide +kernel, by decide +kernel⟩
theorem ok_need {f fF fC fL : Addr} {fd fdF fdC fdL : FuncData} (D : Def K mg "need_form" sNeed ["value"] f fd) (G : Def K mg "is_form" sForm ["value"] fF fdF) (L : Def K mg "is_level" sLevel ["value"] fL fdL) (C : Def K mg "is_count" sCount ["value", "least", "most"] fC fdC)
    (T : Txt K mg) : FnOk P w K mg base CX0 4 f fd ["value"] spNeed := by
  have GF : FnOk P w K mg base CX0 3 fF fdF ["value"] spForm := ok_form G L C T
  refine D.F.ok scNeed (fun vs H Q E h => ?_) (fun cdv A outer s H vs Q E hr h => ?_)
  · obtain ⟨a, v, rfl, _⟩ := h
    rfl
  · obtain ⟨a, fm, rfl, hf, ok, l1, l3, k⟩ := h
    refine ⟨_, (pss_one (ps_if (pt_not (pt_val (pe_call GF hr (by rfl) G.mgf G.F.kp G.b .nil pass0 (pa_cons (pv 0) pa_nil)))) (pss_one ps_never) pss_nil)), ?_⟩
    refine ⟨_, rfl, a, fm, rfl, hf, ok, l1, l3, fun H' hs => ⟨true, rfl, iteF ?_⟩⟩
    exact k H' hs
end
end SF
set_option Elab.async false
set_option linter.all false
set_option maxRecDepth 100000
set_option maxHeartbeats 4000000
/-! the walk: round_winner, start_of, plus -/
namespace SF
open PySem PySem.Spec PyProof.Rows L2
abbrev sRw : Stmt := topS 13
abbrev sStart : Stmt := topS 14
abbrev sPlus : Stmt := topS 15
def sdI (s : Bool) : Int := if s then 1 else 0
def sdV (s : Bool) : V := .int (sdI s)
def winV : Option Bool → V
  | none => .non
  | some s => sdV s
theorem scal_cap (i : Int) (c : Option Nat) : scal (.int i) (capV c) = true := by cases c <;> rfl
theorem eq_cap (n : Nat) (c : Option Nat) : decide (V.int (n : Nat) = capV c) = decide (c = some n) := by
  cases c with
  | none => rfl
  | some m =>
    by_cases e : m = n
    · subst e
      simp [capV]
    · have h1 : ¬ (V.int (n : Nat) = capV (some m)) := fun z => e (by
        have := V.int.inj z
        omega)
      have h2 : ¬ (some m = some n) := fun z => e (Option.some.inj z)
      rw [decide_eq_false h1, decide_eq_false h2]
section
variable {P : Program} {w : World} {K : PySem.W.Frag} {mg : Str → Option Value} {base : Heap}
def spRw : Sp := fun vs H Q _ => ∃ a b v p, vs = [.ref a, .ref b] ∧ LvAt H a v ∧ PrAt H b p ∧ Q (winV (rwin v p)) H
theorem scRw : FnScope ["level", "pair", "target", "lead", "cap", "side"] ["level", "pair"] (defScope sRw) := ⟨rfl, rfl, rfl, by decide +kernel, rfl, by decide +kernel, by decide +kernel⟩
theorem ok_rw {f : Addr} {fd : FuncData} (D : Def K mg "round_winner" sRw ["level", "pair"] f fd) : FnOk P w K mg base CX0 1 f fd ["level", "pair"] spRw := by
  refine D.F.ok scRw (fun vs H Q E h => ?_) (fun cdv A outer s H vs Q E hr h => ?_)
  · obtain ⟨a, b, v, p, rfl, _⟩ := h
    rfl
  · obtain ⟨a, b, v, p, rfl, ha, hb, k⟩ := h
    have hT : SqT K H b [.int (p.1 : Nat), .int (p.2 : Nat)] := SqT.of hb
    refine ⟨_, (pss_cons (ps_asg (pv 0) (pg_tup rfl (pgs_cons (pg_name (i := 2) scRw.nd rfl (Or.inl rfl)) (pgs_cons (pg_name (i := 3) scRw.nd rfl (Or.inl rfl)) (pgs_cons (pg_name (i := 4) scRw.nd rfl (Or.inl rfl)) pgs_nil)))))
      (pss_cons (ps_set (i := 5) scRw.nd rfl (Or.inl rfl) (pe_ifExp (pt_cmpR op_gt (pe_ix ix_tup (pv 1) pe_int (fun _ _ => rfl)) (pe_ix ix_tup (pv 1) pe_int (fun _ _ => rfl)) (nomark _)) pe_int pe_int))
      (pss_cons (ps_if (PW.pt (pw_or (PW.pt (pw_and (pt_cmpR op_ge (pe_ix ix_tup (pv 1) (pv 5) (fun _ _ => rfl)) (pv 2) (nomark _)) (pw_and1 (pt_cmpR op_ge (pe_op op_sub (pe_ix ix_tup (pv 1) (pv 5) (fun _ _ => rfl)) (pe_ix ix_tup (pv 1) (pe_op op_sub pe_int (pv 5)) (fun _ _ => rfl))) (pv 3) (nomark _))))) (pw_or1 (pt_cmpR op_eq (pe_ix ix_tup (pv 1) (pv 5) (fun _ _ => rfl)) (pv 4) (nomark _))))) (pss_one (ps_ret (pv 5))) pss_nil)
      (pss_one (ps_ret pe_non))))), ?_⟩
    refine ⟨_, rfl, a, lvV v, rfl, SqT.of ha, rfl, _, _, rfl, _, _, rfl, _, _, rfl, rfl, ?_⟩
    refine ⟨_, rfl, b, _, 0, .int (p.1 : Nat), rfl, rfl, hT, rfl, _, rfl, b, _, 1, .int (p.2 : Nat), rfl, rfl, hT, rfl, _, _, rfl, rfl, ?_⟩
    by_cases q : p.2 < p.1
    · refine ⟨true, congrArg V.bl (decide_eq_true (by omega)), iteT ?_⟩
      have e1 : hi p = p.1 := by unfold hi; rw [if_pos q]
      have e2 : lo p = p.2 := by unfold lo; rw [if_pos q]
      have e3 : lead p = false := by unfold lead; rw [if_pos q]
      have er : rwin v p = if (v.t ≤ p.1 ∧ p.2 + v.l ≤ p.1) ∨ v.c = some p.1 then some false else none := by unfold rwin; rw [e1, e2, e3]
      rw [er] at k
      by_cases h1 : v.t ≤ p.1
      · refine ⟨_, rfl, _, rfl, b, _, 0, .int (p.1 : Nat), rfl, rfl, hT, rfl, _, rfl, _, _, rfl, rfl, true, congrArg V.bl (decide_eq_true (by omega)), iteT ?_⟩
        refine ⟨_, rfl, _, rfl, b, _, 0, .int (p.1 : Nat), rfl, rfl, hT, rfl, _, rfl, _, rfl, _, _, rfl, rfl, b, _, 1, .int (p.2 : Nat), rfl, rfl, hT, rfl, _, _, rfl, rfl, _, rfl, _, _, rfl, rfl, ?_⟩
        by_cases h2 : p.2 + v.l ≤ p.1
        · rw [if_pos (.inl ⟨h1, h2⟩)] at k
          refine ⟨true, congrArg V.bl (decide_eq_true (by omega)), iteT (iteT ⟨_, rfl, ?_⟩)⟩
          exact k
        · refine ⟨false, congrArg V.bl (decide_eq_false (by omega)), iteF ?_⟩
          refine ⟨_, rfl, _, rfl, b, _, 0, .int (p.1 : Nat), rfl, rfl, hT, rfl, _, rfl, scal_cap _ _, decide (v.c = some p.1), congrArg V.bl (eq_cap _ _), ite2 (fun h3 => ?_) (fun h3 => ?_)⟩
          · rw [if_pos (.inr (of_decide_eq_true h3))] at k
            exact ⟨_, rfl, k⟩
          · rw [if_neg (fun z => z.elim (fun z => h2 z.2) fun z => h3 (decide_eq_true z))] at k
            exact k
      · refine ⟨_, rfl, _, rfl, b, _, 0, .int (p.1 : Nat), rfl, rfl, hT, rfl, _, rfl, _, _, rfl, rfl, false, congrArg V.bl (decide_eq_false (by omega)), iteF (iteF ?_)⟩
        refine ⟨_, rfl, _, rfl, b, _, 0, .int (p.1 : Nat), rfl, rfl, hT, rfl, _, rfl, scal_cap _ _, decide (v.c = some p.1), congrArg V.bl (eq_cap _ _), ite2 (fun h3 => ?_) (fun h3 => ?_)⟩
        · rw [if_pos (.inr (of_decide_eq_true h3))] at k
          exact ⟨_, rfl, k⟩
        · rw [if_neg (fun z => z.elim (fun z => h1 z.1) fun z => h3 (decide_eq_true z))] at k
          exact k
    · refine ⟨false, congrArg V.bl (decide_eq_false (by omega)), iteF ?_⟩
      have e1 : hi p = p.2 := by unfold hi; rw [if_neg q]
      have e2 : lo p = p.1 := by unfold lo; rw [if_neg q]
      have e3 : lead p = true := by unfold lead; rw [if_neg q]
      have er : rwin v p = if (v.t ≤ p.2 ∧ p.1 + v.l ≤ p.2) ∨ v.c = some p.2 then some true else none := by unfold rwin; rw [e1, e2, e3]
      rw [er] at k
      by_cases h1 : v.t ≤ p.2
      · refine ⟨_, rfl, _, rfl, b, _, 1, .int (p.2 : Nat), rfl, rfl, hT, rfl, _, rfl, _, _, rfl, rfl, true, congrArg V.bl (decide_eq_true (by omega)), iteT ?_⟩
        refine ⟨_, rfl, _, rfl, b, _, 1, .int (p.2 : Nat), rfl, rfl, hT, rfl, _, rfl, _, rfl, _, _, rfl, rfl, b, _, 0, .int (p.1 : Nat), rfl, rfl, hT, rfl, _, _, rfl, rfl, _, rfl, _, _, rfl, rfl, ?_⟩
        by_cases h2 : p.1 + v.l ≤ p.2
        · rw [if_pos (.inl ⟨h1, h2⟩)] at k
          refine ⟨true, congrArg V.bl (decide_eq_true (by omega)), iteT (iteT ⟨_, rfl, ?_⟩)⟩
          exact k
        · refine ⟨false, congrArg V.bl (decide_eq_false (by omega)), iteF ?_⟩
          refine ⟨_, rfl, _, rfl, b, _, 1, .int (p.2 : Nat), rfl, rfl, hT, rfl, _, rfl, scal_cap _ _, decide (v.c = some p.2), congrArg V.bl (eq_cap _ _), ite2 (fun h3 => ?_) (fun h3 => ?_)⟩
          · rw [if_pos (.inr (of_decide_eq_true h3))] at k
            exact ⟨_, rfl, k⟩
          · rw [if_neg (fun z => z.elim (fun z => h2 z.2) fun z => h3 (decide_eq_true z))] at k
            exact k
      · refine ⟨_, rfl, _, rfl, b, _, 1, .int (p.2 : Nat), rfl, rfl, hT, rfl, _, rfl, _, _, rfl, rfl, false, congrArg V.bl (decide_eq_false (by omega)), iteF (iteF ?_)⟩
        refine ⟨_, rfl, _, rfl, b, _, 1, .int (p.2 : Nat), rfl, rfl, hT, rfl, _, rfl, scal_cap _ _, decide (v.c = some p.2), congrArg V.bl (eq_cap _ _), ite2 (fun h3 => ?_) (fun h3 => ?_)⟩
        · rw [if_pos (.inr (of_decide_eq_true h3))] at k
          exact ⟨_, rfl, k⟩
        · rw [if_neg (fun z => z.elim (fun z => h1 z.1) fun z => h3 (decide_eq_true z))] at k
          exact k
/-! ### plus -/
def spPlus : Sp := fun vs H Q _ => ∃ b p s, vs = [.ref b, sdV s] ∧ PrAt H b p ∧ ∀ c, H c = none → Q (.ref c) (upd H c (.tup [.int ((plus p s).1 : Nat), .int ((plus p s).2 : Nat)]))
theorem scPlus : FnScope ["pair", "side"] ["pair", "side"] (defScope sPlus) := ⟨rfl, rfl, rfl, by decide +kernel, rfl, by decide +kernel, by decide +kernel⟩
theorem ok_plus {f : Addr} {fd : FuncData} (D : Def K mg "plus" sPlus ["pair", "side"] f fd) : FnOk P w K mg base CX0 1 f fd ["pair", "side"] spPlus := by
  refine D.F.ok scPlus (fun vs H Q E h => ?_) (fun cdv A outer s H vs Q E hr h => ?_)
  · obtain ⟨b, p, sd, rfl, _⟩ := h
    rfl
  · obtain ⟨b, p, sd, rfl, hb, k⟩ := h
    have hT : SqT K H b [.int (p.1 : Nat), .int (p.2 : Nat)] := SqT.of hb
    refine ⟨_, (pss_one (ps_ret (pe_ifExp (pt_cmpR op_eq (pv 1) pe_int (nomark _)) (pe_tup (pa_cons (pe_op op_add (pe_ix ix_tup (pv 0) pe_int (fun _ _ => rfl)) pe_int) (pa_cons (pe_ix ix_tup (pv 0) pe_int (fun _ _ => rfl)) pa_nil))) (pe_tup (pa_cons (pe_ix ix_tup (pv 0) pe_int (fun _ _ => rfl)) (pa_cons (pe_op op_add (pe_ix ix_tup (pv 0) pe_int (fun _ _ => rfl)) pe_int) pa_nil)))))), ?_⟩
    cases sd with
    | false =>
      refine ⟨_, rfl, rfl, true, rfl, iteT ?_⟩
      refine ⟨_, rfl, b, _, 0, .int (p.1 : Nat), rfl, rfl, hT, rfl, _, _, rfl, rfl, _, rfl, b, _, 1, .int (p.2 : Nat), rfl, rfl, hT, rfl, ?_⟩
      exact ⟨by show 2 ≤ sizeLine; decide, k⟩
    | true =>
      refine ⟨_, rfl, rfl, false, rfl, iteF ?_⟩
      refine ⟨_, rfl, b, _, 0, .int (p.1 : Nat), rfl, rfl, hT, rfl, _, rfl, b, _, 1, .int (p.2 : Nat), rfl, rfl, hT, rfl, _, _, rfl, rfl, ?_⟩
      exact ⟨by show 2 ≤ sizeLine; decide, k⟩
end
end SF
set_option Elab.async false
set_option linter.all false
set_option maxRecDepth 100000
set_option maxHeartbeats 4000000
/-! the walk: start_of, after, settled -/
namespace SF
open PySem PySem.Spec PyProof.Rows L2
abbrev sAfter : Stmt := topS 16
abbrev sSet : Stmt := topS 17
section
variable {P : Program} {w : World} {K : PySem.W.Frag} {mg : Str → Option Value} {base : Heap}
theorem fm_seq {K : PySem.W.Frag} {H : Hp} {a : Addr} {f : Frm} (h : FmAt H a f) : ∃ xs, SqT K H a xs ∧ xs.length = f.length := by
  obtain ⟨xs, e, r⟩ := h
  exact ⟨xs, SqT.of e, r.length.symm⟩
theorem rep_flat {α : Type} (x : α) : ∀ n : Nat, (List.replicate n [x]).flatten = List.replicate n x
  | 0 => rfl
  | n + 1 => by rw [List.replicate_succ, List.flatten_cons, rep_flat x n]; rfl
theorem paired_rep {α β : Type} {R : α → β → Prop} {a : α} {b : β} (h : R a b) : ∀ n : Nat, Paired R (List.replicate n a) (List.replicate n b)
  | 0 => .nil
  | n + 1 => .cons h (paired_rep h n)
theorem strt_rep : ∀ f : Frm, strt f = List.replicate f.length (0, 0)
  | [] => rfl
  | v :: f => by
    show (0, 0) :: strt f = _
    rw [strt_rep f]
    rfl
def spStart : Sp := fun vs H Q _ => ∃ a f, vs = [.ref a] ∧ FmAt H a f ∧ 1 ≤ f.length ∧ f.length ≤ 3 ∧ ∀ c H', Same H H' → StAt H' c (strt f) → Q (.ref c) H'
theorem scStart : FnScope ["form"] ["form"] (defScope sStart) := ⟨rfl, rfl, rfl, by decide +kernel, rfl, by decide +kernel, by decide +kernel⟩
theorem ok_start {f : Addr} {fd : FuncData} (D : Def K mg "start_of" sStart ["form"] f fd) (T : Txt K mg) : FnOk P w K mg base CX0 1 f fd ["form"] spStart := by
  refine D.F.ok scStart (fun vs H Q E h => ?_) (fun cdv A outer s H vs Q E hr h => ?_)
  · obtain ⟨a, fm, rfl, _⟩ := h
    rfl
  · obtain ⟨a, fm, rfl, hf, l1, l3, k⟩ := h
    obtain ⟨xs, hT, hl⟩ := fm_seq (K := K) hf
    refine ⟨_, (pss_one (ps_ret (pe_op op_rep1 (pe_tup (pa_cons (pe_tup (pa_cons pe_int (pa_cons pe_int pa_nil))) pa_nil)) (pe_callB call_len_seq (by rfl) T.len (by decide +kernel) (pa_cons (pv 0) pa_nil))))), ?_⟩
    refine ⟨by show 2 ≤ sizeLine; decide, fun z nz => ⟨by show 1 ≤ sizeLine; decide, fun y ny => ?_⟩⟩
    have s1 : Same H (upd H z (.tup [.int 0, .int 0])) := same_new nz
    have s2 : Same (upd H z (.tup [.int 0, .int 0])) (upd (upd H z (.tup [.int 0, .int 0])) y (.tup [.ref z])) := same_new ny
    obtain ⟨xs2, e2, r2⟩ := hf.tups ((Tups.of s1).trans (Tups.of s2))
    have hl2 := r2.length
    have zT : PrAt (upd (upd H z (.tup [.int 0, .int 0])) y (.tup [.ref z])) z (0, 0) := s2 _ _ upd_same
    refine ⟨_, rfl, a, xs2, rfl, .inr (SqT.of e2), ?_⟩
    by_cases h1 : fm.length = 1
    · refine .inl ⟨y, _, rfl, ?_, SqT.of upd_same, ?_⟩
      · rw [← hl2, h1]
        rfl
      · refine k y _ (s1.trans s2) ⟨_, upd_same, ?_⟩
        rw [strt_rep, h1]
        exact .cons ⟨z, rfl, zT⟩ .nil
    · refine .inr ⟨y, _, _, rfl, rfl, SqT.of upd_same, (by simp), by omega, by omega, (by show 1 ≤ 1000; decide), fun p np => ?_⟩
      have e : ((xs2.length : Nat) : Int).toNat = fm.length := by omega
      rw [rep_flat, e]
      have s3 := same_new (o := .tup (List.replicate fm.length (V.ref z))) np
      refine k p _ ((s1.trans s2).trans s3) ⟨_, upd_same, ?_⟩
      rw [strt_rep]
      exact paired_rep ⟨z, rfl, s3 _ _ zT⟩ _
/-! ### after -/
abbrev prR (H : Hp) : Pr → V → Prop := fun p x => ∃ b, x = .ref b ∧ PrAt H b p
theorem prR_tups {H H' : Hp} (t : Tups H H') {st : Stt} {xs : List V} (r : Paired (prR H) st xs) : Paired (prR H') st xs := r.mono fun p x ⟨b, e, q⟩ => ⟨b, e, q.tups t⟩
theorem paired_set {α β : Type} {R : α → β → Prop} {a : α} {b : β} (h : R a b) : ∀ {l : List α} {m : List β} (i : Nat), Paired R l m → Paired R (l.set i a) (m.set i b)
  | _, _, _, .nil => .nil
  | _, _, 0, .cons _ t => .cons h t
  | _, _, i + 1, .cons r t => .cons r (paired_set h i t)
theorem same_ne {H H1 : Hp} {l : Addr} {o : HO} (s : Same H H1) (n : H l = none) : Same H (upd H1 l o) := fun b x e => by
  rw [upd_ne (ne_of_none e n)]
  exact s b x e
theorem tups_lst {H : Hp} {l : Addr} {xs : List V} {o : HO} (e : H l = some (.lst xs)) : Tups H (upd H l o) := fun b ys q => by
  rw [upd_ne (ne_of q e (fun z => nomatch z))]
  exact q
def cur (i : Nat) (st : Stt) : Stt := List.replicate i (0, 0) ++ st.drop i
theorem cur_get {i : Nat} {st : Stt} (h : i < st.length) : (cur i st)[i]? = some st[i] := by
  unfold cur
  rw [List.getElem?_append_right (by simp), List.length_replicate, Nat.sub_self, List.getElem?_drop, Nat.add_zero, List.getElem?_eq_getElem h]
theorem cur_set {i : Nat} {st : Stt} (h : i < st.length) (p : Pr) : (cur i st).set i p = List.replicate i (0, 0) ++ p :: st.drop (i + 1) := by
  unfold cur
  rw [List.set_append_right _ _ (by simp), List.length_replicate, Nat.sub_self, List.drop_eq_getElem_cons h]
  rfl
theorem cur_next {i : Nat} {st : Stt} (h : i < st.length) : ((cur i st).set i p).set i (0, 0) = cur (i + 1) st := by
  rw [cur_set h]
  unfold cur
  rw [List.set_append_right _ _ (by simp), List.length_replicate, Nat.sub_self, List.replicate_succ']
  simp
/-- the rest of a point, from the level i on -/
def Rest (f : Frm) (st : Stt) (s : Bool) (i : Nat) : Prop := aft f st s = (List.replicate i (0, 0) ++ (aft (f.drop i) (st.drop i) s).1, (aft (f.drop i) (st.drop i) s).2)
theorem rest_zero (f : Frm) (st : Stt) (s : Bool) : Rest f st s 0 := by
  unfold Rest
  simp
section
variable {f : Frm} {st : Stt} {s : Bool} {i : Nat}
theorem rest_none (h : Rest f st s i) (h1 : i < f.length) (h2 : i < st.length) (hw : rwin f[i] (plus st[i] s) = none) : aft f st s = ((cur i st).set i (plus st[i] s), none) := by
  rw [h, List.drop_eq_getElem_cons h1, List.drop_eq_getElem_cons h2, cur_set h2]
  unfold aft
  rw [hw]
theorem rest_last (h : Rest f st s i) (h1 : i < f.length) (h2 : i < st.length) {x : Bool} (hw : rwin f[i] (plus st[i] s) = some x) (hl : i + 1 = f.length) : aft f st s = ((cur i st).set i (plus st[i] s), some x) := by
  rw [h, List.drop_eq_getElem_cons h1, List.drop_eq_getElem_cons h2, cur_set h2, List.drop_of_length_le (i := i + 1) (l := f) (by omega)]
  unfold aft
  rw [hw]
theorem rest_next (h : Rest f st s i) (h1 : i < f.length) (h2 : i < st.length) {x : Bool} (hw : rwin f[i] (plus st[i] s) = some x) (hl : i + 1 < f.length) : Rest f st s (i + 1) := by
  unfold Rest
  rw [h, List.drop_eq_getElem_cons h1, List.drop_eq_getElem_cons h2, List.drop_eq_getElem_cons hl]
  have e : aft (f[i] :: f[i + 1] :: f.drop (i + 1 + 1)) (st[i] :: st.drop (i + 1)) s = ((0, 0) :: (aft (f[i + 1] :: f.drop (i + 1 + 1)) (st.drop (i + 1)) s).1, (aft (f[i + 1] :: f.drop (i + 1 + 1)) (st.drop (i + 1)) s).2) := by
    rw [aft, hw]
  rw [e, List.replicate_succ', List.append_assoc]
  rfl
end
def spAfter : Sp := fun vs H Q _ => ∃ a b f st s, vs = [.ref a, .ref b, sdV s] ∧ FmAt H a f ∧ StAt H b st ∧ f.length = st.length ∧ 1 ≤ f.length ∧ f.length ≤ 3 ∧
  ∀ p q H', Same H H' → H' p = some (.tup [.ref q, winV (aft f st s).2]) → StAt H' q (aft f st s).1 → Q (.ref p) H'
theorem scAfter : FnScope ["form", "score", "side", "pairs", "at", "level", "won"] ["form", "score", "side"] (defScope sAfter) := ⟨rfl, rfl, rfl, by decide +kernel, rfl, by decide +kernel, by decide +kernel⟩
theorem ok_after {f fP fR : Addr} {fd fdP fdR : FuncData} (D : Def K mg "after" sAfter ["form", "score", "side"] f fd) (DP : Def K mg "plus" sPlus ["pair", "side"] fP fdP) (DR : Def K mg "round_winner" sRw ["level", "pair"] fR fdR) (T : Txt K mg) :
    FnOk P w K mg base CX0 2 f fd ["form", "score", "side"] spAfter := by
  have GP : FnOk P w K mg base CX0 1 fP fdP ["pair", "side"] spPlus := ok_plus DP
  have GR : FnOk P w K mg base CX0 1 fR fdR ["level", "pair"] spRw := ok_rw DR
  refine D.F.ok scAfter (fun vs H Q E h => ?_) (fun cdv A outer s0 H vs Q E hr h => ?_)
  · obtain ⟨a, b, fm, st, s, rfl, _⟩ := h
    rfl
  · obtain ⟨a, b, fm, st, s, rfl, hf, hst, hlen, l1, l3, k⟩ := h
    obtain ⟨xs, ha, rf⟩ := id hf
    obtain ⟨ys, hb, rs⟩ := id hst
    have hl := rf.length
    refine ⟨_, (pss_cons (ps_set (i := 3) scAfter.nd rfl (Or.inl rfl) (pe_callTy (T := "list") call_list_of (by rfl) T.list_ (by decide +kernel) (pa_cons (pv 1) pa_nil)))
      (pss_cons (ps_for PassesOwn.never rfl (pi_enumT (by rfl) T.enum (pa_cons (pv 0) pa_nil)) (pg_tup rfl (pgs_cons (pg_name (i := 4) scAfter.nd rfl (Or.inl rfl)) (pgs_cons (pg_name (i := 5) scAfter.nd rfl (Or.inl rfl)) pgs_nil))) (pss_cons (ps_asg (pe_call GP hr (by rfl) DP.mgf DP.F.kp DP.b .nil pass0 (pa_cons (pe_ix ix_list (pv 3) (pv 4) (fun _ _ => rfl)) (pa_cons (pv 2) pa_nil))) (pg_sub (pv 3) (pv 4) set_list))
      (pss_cons (ps_set (i := 6) scAfter.nd rfl (Or.inl rfl) (pe_call GR hr (by rfl) DR.mgf DR.F.kp DR.b .nil pass0 (pa_cons (pv 5) (pa_cons (pe_ix ix_list (pv 3) (pv 4) (fun _ _ => rfl)) pa_nil))))
      (pss_cons (ps_if (pt_cmp (pc_isN (pv 6))) (pss_one ps_break) pss_nil)
      (pss_cons (ps_if (pt_cmpR op_eq (pe_op op_add (pv 4) pe_int) (pe_callB call_len_seq (by rfl) T.len (by decide +kernel) (pa_cons (pv 0) pa_nil)) (nomark _)) (pss_one (ps_ret (pe_tup (pa_cons (pe_callTy (T := "tuple") call_tuple_of (by rfl) T.tuple_ (by decide +kernel) (pa_cons (pv 3) pa_nil)) (pa_cons (pv 6) pa_nil))))) pss_nil)
      (pss_one (ps_asg (pe_tup (pa_cons pe_int (pa_cons pe_int pa_nil))) (pg_sub (pv 3) (pv 4) set_list))))))))
      (pss_one (ps_ret (pe_tup (pa_cons (pe_callTy (T := "tuple") call_tuple_of (by rfl) T.tuple_ (by decide +kernel) (pa_cons (pv 3) pa_nil)) (pa_cons pe_non pa_nil))))))), ?_⟩
    refine ⟨_, rfl, b, ys, rfl, .inr (SqT.of hb), fun l nl => ?_⟩
    have s1 : Same H (upd H l (.lst ys)) := same_new nl
    refine ⟨_, rfl, a, xs, rfl, SqT.of (s1 _ _ ha), ?_⟩
    refine for_enumT (K := K) (a := a) (xs := xs) (fun i σ H1 => ∃ y4 y5 y6 zs, σ = [some (.ref a), some (.ref b), some (sdV s), some (.ref l), y4, y5, y6] ∧ Same H H1 ∧ H1 l = some (.lst zs) ∧ Paired (prR H1) (cur i st) zs ∧ i < fm.length ∧ Rest fm st s i)
      ⟨none, none, none, ys, rfl, s1, upd_same, ?_, by omega, rest_zero _ _ _⟩ ?_ ?_ ?_
    · have e : cur 0 st = st := by simp [cur]
      rw [e]
      exact prR_tups (Tups.of s1) rs
    · rintro i σ H1 ⟨_, _, _, _, _, z, _⟩
      exact SqT.of (z _ _ ha)
    · rintro i x T σ H1 hx ⟨y4, y5, y6, zs, rfl, z1, z2, z3, z4, z5⟩ nT
      have i1 : i < fm.length := z4
      have i2 : i < st.length := by omega
      obtain ⟨v, hv, vb, rfl, hvb⟩ := Paired.at' rf hx
      have ev : v = fm[i] := by
        rw [List.getElem?_eq_getElem i1] at hv
        exact (Option.some.inj hv).symm
      subst ev
      obtain ⟨cx, hc1, c, rfl, hc2⟩ := Paired.at z3 (cur_get i2)
      have sT : Same H1 (upd H1 T (.tup [.int (i : Nat), .ref vb])) := same_new nT
      refine ⟨T, _, rfl, SqT.of upd_same, rfl, _, _, rfl, _, _, rfl, rfl, ?_⟩
      -- pairs[at] = plus(pairs[at], side)
      have z2T := sT _ _ z2
      refine ⟨_, rfl, _, rfl, l, zs, (i : Nat), .ref c, rfl, rfl, SqL.of z2T, atI_nat hc1, _, rfl, c, st[i], s, rfl, sT _ _ hc2, fun c1 nc1 => ?_⟩
      have s2 := same_new (o := .tup [.int ((plus st[i] s).1 : Nat), .int ((plus st[i] s).2 : Nat)]) nc1
      have z2c := s2 _ _ z2T
      have hzl : i < zs.length := (List.getElem?_eq_some_iff.mp hc1).1
      have hix : ixN zs.length ((i : Nat) : Int) = some i := by
        unfold ixN
        rw [if_pos (by omega), if_pos (by omega)]
        simp
      refine ⟨_, rfl, _, rfl, l, zs, (i : Nat), i, rfl, rfl, z2c, hix, ?_⟩
      have sH2 : Same H1 (upd (upd H1 T (.tup [.int (i : Nat), .ref vb])) c1 (.tup [.int ((plus st[i] s).1 : Nat), .int ((plus st[i] s).2 : Nat)])) := sT.trans s2
      have pc1 : PrAt (upd (upd H1 T (.tup [.int (i : Nat), .ref vb])) c1 (.tup [.int ((plus st[i] s).1 : Nat), .int ((plus st[i] s).2 : Nat)])) c1 (plus st[i] s) := upd_same
      generalize upd (upd H1 T (.tup [.int (i : Nat), .ref vb])) c1 (.tup [.int ((plus st[i] s).1 : Nat), .int ((plus st[i] s).2 : Nat)]) = H2 at *
      have t3 : Tups H2 (upd H2 l (.lst (zs.set i (.ref c1)))) := tups_lst z2c
      have r3 : Paired (prR (upd H2 l (.lst (zs.set i (.ref c1))))) ((cur i st).set i (plus st[i] s)) (zs.set i (.ref c1)) :=
        paired_set ⟨c1, rfl, pc1.tups t3⟩ i (prR_tups ((Tups.of sH2).trans t3) z3)
      have sH3 : Same H (upd H2 l (.lst (zs.set i (.ref c1)))) := same_ne (z1.trans sH2) nl
      have l3 : (upd H2 l (.lst (zs.set i (.ref c1)))) l = some (.lst (zs.set i (.ref c1))) := upd_same
      have pc3 := pc1.tups t3
      have vb3 : LvAt (upd H2 l (.lst (zs.set i (.ref c1)))) vb fm[i] := LvAt.tups (sH2 _ _ (z1 _ _ hvb)) t3
      have a3 := sH3 _ _ ha
      have hzs : (zs.set i (.ref c1))[i]? = some (.ref c1) := List.getElem?_set_self hzl
      have hzz : (zs.set i (V.ref c1)).length = zs.length := List.length_set
      generalize zs.set i (.ref c1) = ws at *
      generalize upd H2 l (.lst ws) = H3 at *
      -- won = round_winner(level, pairs[at])
      refine ⟨_, rfl, _, rfl, _, rfl, l, ws, (i : Nat), .ref c1, rfl, rfl, SqL.of l3, atI_nat hzs, vb, c1, fm[i], plus st[i] s, rfl, vb3, pc3, ?_⟩
      -- the end: a tuple of the pairs, the winner
      have out : ∀ (st' : Stt) (r : Option Bool), aft fm st s = (st', r) → Paired (prR H3) st' ws → ∀ q, H3 q = none → ∀ p, (upd H3 q (.tup ws)) p = none → Q (.ref p) (upd (upd H3 q (.tup ws)) p (.tup [.ref q, winV r])) := fun st' r e hr q nq p np => by
        have s4 := same_new (o := .tup ws) nq
        have s5 := same_new (o := .tup [.ref q, winV r]) np
        refine k p q _ ((sH3.trans s4).trans s5) (by rw [upd_same, e]) ?_
        rw [e]
        exact ⟨ws, s5 _ _ upd_same, prR_tups (Tups.of (s4.trans s5)) hr⟩
      cases ew : rwin fm[i] (plus st[i] s) with
      | none =>
        refine ⟨_, rfl, true, congrArg V.bl (decide_eq_true rfl), iteT ?_⟩
        refine ⟨_, rfl, l, ws, rfl, .inl ⟨SqL.of l3, fun q nq => ⟨(by show 2 ≤ sizeLine; decide), fun p np => ?_⟩⟩⟩
        exact out _ none (rest_none z5 i1 i2 ew) r3 q nq p np
      | some x =>
        refine ⟨_, rfl, false, congrArg V.bl (decide_eq_false (fun z => nomatch z)), iteF ?_⟩
        refine ⟨_, rfl, _, _, rfl, rfl, _, rfl, a, xs, rfl, .inr (SqT.of a3), rfl, decide (i + 1 = fm.length), congrArg V.bl ?_, ite2 (fun hL => ?_) (fun hL => ?_)⟩
        · by_cases e : i + 1 = fm.length
          · rw [decide_eq_true e]
            exact decide_eq_true (congrArg V.int (by omega))
          · rw [decide_eq_false e]
            exact decide_eq_false fun z => e (by
              have := V.int.inj z
              omega)
        · have hL' := of_decide_eq_true hL
          refine ⟨_, rfl, l, ws, rfl, .inl ⟨SqL.of l3, fun q nq => ⟨_, rfl, (by show 2 ≤ sizeLine; decide), fun p np => ?_⟩⟩⟩
          exact out _ (some x) (rest_last z5 i1 i2 ew hL') r3 q nq p np
        · have hL' : i + 1 < fm.length := Nat.lt_of_le_of_ne i1 fun z => hL (decide_eq_true z)
          refine ⟨(by show 2 ≤ sizeLine; decide), fun z nz => ?_⟩
          have s4 := same_new (o := .tup [.int 0, .int 0]) nz
          have l4 := s4 _ _ l3
          refine ⟨_, rfl, _, rfl, l, ws, (i : Nat), i, rfl, rfl, l4, by rw [hzz]; exact hix, ?_⟩
          have t5 : Tups (upd H3 z (.tup [.int 0, .int 0])) (upd (upd H3 z (.tup [.int 0, .int 0])) l (.lst (ws.set i (.ref z)))) := tups_lst l4
          refine ⟨_, _, _, ws.set i (.ref z), rfl, same_ne (sH3.trans s4) nl, upd_same, ?_, hL', rest_next z5 i1 i2 ew hL'⟩
          rw [← cur_next (p := plus st[i] s) i2]
          exact paired_set ⟨z, rfl, PrAt.tups upd_same t5⟩ i (prR_tups ((Tups.of s4).trans t5) r3)
    · rintro σ H1 ⟨_, _, _, _, _, _, _, _, z, _⟩
      omega
/-! ### settled -/
theorem stl_get : ∀ {f : Frm} {st : Stt} {i : Nat} {v : Lvl} {p : Pr}, f[i]? = some v → st[i]? = some p → (stl f st)[i]? = some (set1 v p)
  | [], _, _, _, _, h, _ => by simp at h
  | _ :: _, [], _, _, _, _, h => by simp at h
  | v :: f, p :: st, 0, _, _, h1, h2 => by
    cases h1
    cases h2
    rfl
  | v :: f, p :: st, i + 1, _, _, h1, h2 => by
    show (stl f st)[i]? = _
    exact stl_get (by simpa using h1) (by simpa using h2)
def spSet : Sp := fun vs H Q _ => ∃ a b f st, vs = [.ref a, .ref b] ∧ FmAt H a f ∧ StAt H b st ∧ OkF f ∧ f.length = st.length ∧ f.length ≤ 3 ∧ ∀ q H', Same H H' → StAt H' q (stl f st) → Q (.ref q) H'
theorem scSet : FnScope ["form", "now", "result", "level", "pair", "spare"] ["form", "now"] (defScope sSet) := ⟨rfl, rfl, rfl, by decide +kernel, rfl, by decide +kernel, by decide +kernel⟩
theorem ok_set {f : Addr} {fd : FuncData} (D : Def K mg "settled" sSet ["form", "now"] f fd) (T : Txt K mg) : FnOk P w K mg base CX0 1 f fd ["form", "now"] spSet := by
  refine D.F.ok scSet (fun vs H Q E h => ?_) (fun cdv A outer s0 H vs Q E hr h => ?_)
  · obtain ⟨a, b, fm, st, rfl, _⟩ := h
    rfl
  · obtain ⟨a, b, fm, st, rfl, hf, hst, ok, hlen, l3, k⟩ := h
    obtain ⟨xs, ha, rf⟩ := id hf
    obtain ⟨ys, hb, rs⟩ := id hst
    have hl := rf.length
    have hl2 := rs.length
    refine ⟨_, (pss_cons (ps_set (i := 2) scSet.nd rfl (Or.inl rfl) (pe_lst pa_nil))
      (pss_cons (ps_for PassesOwn.never rfl (RZ.pi_zipA (by rfl) T.zip_ (pa_cons (pv 0) (pa_cons (pv 1) pa_nil))) (pg_tup rfl (pgs_cons (pg_name (i := 3) scSet.nd rfl (Or.inl rfl)) (pgs_cons (pg_name (i := 4) scSet.nd rfl (Or.inl rfl)) pgs_nil))) (pss_cons (ps_set (i := 5) scSet.nd rfl (Or.inl rfl) (pe_ifExp (pt_cmp (pc_isN (pe_ix ix_tup (pv 3) pe_int (fun _ _ => rfl)))) (pe_op op_add (pe_op op_sub (pe_callB (cr_min2 hr.units rfl) (by rfl) T.min_ (by decide +kernel) (pa_cons (pv 4) pa_nil)) (pe_ix ix_tup (pv 3) pe_int (fun _ _ => rfl))) pe_int) pe_int))
      (pss_one (ps_expr (pe_bm PySem.F.plainAttrs_list PySem.F.slot_list_append PySem.F.type_list_append mt_append (pv 2) (pa_cons (pe_ifExp (pt_cmpR op_gt (pv 5) pe_int (nomark _)) (pe_tup (pa_cons (pe_op op_sub (pe_ix ix_tup (pv 4) pe_int (fun _ _ => rfl)) (pv 5)) (pa_cons (pe_op op_sub (pe_ix ix_tup (pv 4) pe_int (fun _ _ => rfl)) (pv 5)) pa_nil))) (pv 4)) pa_nil))))))
      (pss_one (ps_ret (pe_callTy (T := "tuple") call_tuple_of (by rfl) T.tuple_ (by decide +kernel) (pa_cons (pv 2) pa_nil)))))), ?_⟩
    refine ⟨Nat.zero_le _, fun l nl => ?_⟩
    have s1 : Same H (upd H l (.lst [])) := same_new nl
    refine ⟨_, rfl, _, rfl, a, b, xs, ys, rfl, .inr ⟨SqT.of (s1 _ _ ha), SqT.of (s1 _ _ hb), ?_⟩⟩
    refine RZ.for_zipT (K := K) (a := a) (b := b) (xs := xs) (ys := ys) (by omega) (fun i σ H1 => ∃ y3 y4 y5 zs, σ = [some (.ref a), some (.ref b), some (.ref l), y3, y4, y5] ∧ Same H H1 ∧ H1 l = some (.lst zs) ∧ Paired (prR H1) ((stl fm st).take i) zs)
      ⟨none, none, none, [], rfl, s1, upd_same, by rw [List.take_zero]; exact .nil⟩ ?_ ?_ ?_
    · rintro i σ H1 ⟨_, _, _, _, _, z, _⟩
      exact ⟨SqT.of (z _ _ ha), SqT.of (z _ _ hb)⟩
    · rintro i x y U σ H1 hx hy ⟨y3, y4, y5, zs, rfl, z1, z2, z3⟩ nU
      obtain ⟨v, hv, vb, rfl, hvb⟩ := Paired.at' rf hx
      obtain ⟨p, hp, pb, rfl, hpb⟩ := Paired.at' rs hy
      have okv := ok v (List.mem_of_getElem? hv)
      have hsp := stl_get hv hp
      have il : i < (stl fm st).length := (List.getElem?_eq_some_iff.mp hsp).1
      have hzl : zs.length ≤ 3 := by
        have q1 := z3.length
        have q2 := stl_len hlen
        rw [List.length_take] at q1
        omega
      have sU : Same H1 (upd H1 U (.tup [.ref vb, .ref pb])) := same_new nU
      refine ⟨U, _, rfl, SqT.of upd_same, rfl, _, _, rfl, _, _, rfl, rfl, ?_⟩
      have z1U := z1.trans sU
      have z2U := sU _ _ z2
      have z3U := prR_tups (Tups.of sU) z3
      generalize upd H1 U (.tup [.ref vb, .ref pb]) = H2 at *
      have vbT : SqT K H2 vb (lvV v) := SqT.of (z1U _ _ hvb)
      have pbT : SqT K H2 pb [.int (p.1 : Nat), .int (p.2 : Nat)] := SqT.of (z1U _ _ hpb)
      -- the item appended
      have fin : ∀ (H3 : Hp) (z : Addr) (y5 : Option V), Same H2 H3 → PrAt H3 z (set1 v p) → ∃ y3' y4' y5' zs', [some (V.ref a), some (V.ref b), some (V.ref l), some (V.ref vb), some (V.ref pb), y5] = [some (V.ref a), some (V.ref b), some (V.ref l), y3', y4', y5'] ∧ Same H (upd H3 l (.lst (zs ++ [.ref z]))) ∧ (upd H3 l (.lst (zs ++ [.ref z]))) l = some (.lst zs') ∧
          Paired (prR (upd H3 l (.lst (zs ++ [.ref z])))) ((stl fm st).take (i + 1)) zs' := fun H3 z y5 s hz => by
        have t : Tups H3 (upd H3 l (.lst (zs ++ [.ref z]))) := tups_lst (s _ _ z2U)
        refine ⟨_, _, _, zs ++ [.ref z], rfl, same_ne (z1U.trans s) nl, upd_same, ?_⟩
        rw [List.take_add_one, hsp]
        exact (prR_tups ((Tups.of s).trans t) z3U).snoc ⟨z, rfl, hz.tups t⟩
      refine ⟨_, rfl, vb, lvV v, 2, capV v.c, rfl, rfl, vbT, rfl, decide (capV v.c = .non), rfl, ?_⟩
      cases ec : v.c with
      | some c =>
        have es : set1 v p = p := by unfold set1; rw [ec]
        refine iteF ?_
        refine ⟨_, rfl, .inl ⟨rfl, _, SqL.of z2U⟩, _, rfl, _, _, rfl, rfl, false, rfl, iteF ?_⟩
        refine ⟨_, rfl, l, zs, .ref pb, rfl, rfl, z2U, small1000 (by omega), ?_⟩
        exact fin H2 pb _ (Same.refl _) (by rw [es]; exact z1U _ _ hpb)
      | none =>
        refine iteT ?_
        refine ⟨_, rfl, pb, p.1, p.2, rfl, pbT, _, rfl, vb, lvV v, 0, .int (v.t : Nat), rfl, rfl, vbT, rfl, _, _, rfl, rfl, _, _, rfl, rfl, ?_⟩
        refine ⟨_, rfl, .inl ⟨rfl, _, SqL.of z2U⟩, _, rfl, _, _, rfl, rfl, ?_⟩
        by_cases hm : v.t ≤ min p.1 p.2
        · have es : set1 v p = (p.1 - (min p.1 p.2 - v.t + 1), p.2 - (min p.1 p.2 - v.t + 1)) := by unfold set1; rw [ec]; simp only; rw [if_pos hm]
          refine ⟨true, congrArg V.bl (decide_eq_true (by omega)), iteT ?_⟩
          refine ⟨_, rfl, pb, _, 0, .int (p.1 : Nat), rfl, rfl, pbT, rfl, _, rfl, _, _, rfl, rfl, _, rfl, pb, _, 1, .int (p.2 : Nat), rfl, rfl, pbT, rfl, _, rfl, _, _, rfl, rfl, (by show 2 ≤ sizeLine; decide), fun z nz => ?_⟩
          have s3 := same_new (o := .tup [.int ((p.1 : Nat) - (min (p.1 : Int) (p.2 : Nat) - (v.t : Nat) + 1)), .int ((p.2 : Nat) - (min (p.1 : Int) (p.2 : Nat) - (v.t : Nat) + 1))]) nz
          refine ⟨l, zs, .ref z, rfl, rfl, s3 _ _ z2U, small1000 (by omega), ?_⟩
          refine fin _ z _ s3 ?_
          unfold PrAt
          rw [es]
          have g1 := okv.1.1
          have q1 : ((p.1 : Nat) - (min (p.1 : Int) (p.2 : Nat) - (v.t : Nat) + 1) : Int) = ((p.1 - (min p.1 p.2 - v.t + 1) : Nat) : Int) := by omega
          have q2 : ((p.2 : Nat) - (min (p.1 : Int) (p.2 : Nat) - (v.t : Nat) + 1) : Int) = ((p.2 - (min p.1 p.2 - v.t + 1) : Nat) : Int) := by omega
          refine Eq.trans upd_same ?_
          show some (HO.tup [V.int ((p.1 : Nat) - (min (p.1 : Int) (p.2 : Nat) - (v.t : Nat) + 1)), V.int ((p.2 : Nat) - (min (p.1 : Int) (p.2 : Nat) - (v.t : Nat) + 1))]) =
            some (HO.tup [V.int ((p.1 - (min p.1 p.2 - v.t + 1) : Nat) : Int), V.int ((p.2 - (min p.1 p.2 - v.t + 1) : Nat) : Int)])
          rw [q1, q2]
        · have es : set1 v p = p := by unfold set1; rw [ec]; simp only; rw [if_neg hm]
          refine ⟨false, congrArg V.bl (decide_eq_false (by omega)), iteF ?_⟩
          refine ⟨_, rfl, l, zs, .ref pb, rfl, rfl, z2U, small1000 (by omega), ?_⟩
          exact fin H2 pb _ (Same.refl _) (by rw [es]; exact z1U _ _ hpb)
    · rintro σ H1 ⟨y3, y4, y5, zs, rfl, z1, z2, z3⟩
      refine ⟨_, rfl, l, zs, rfl, .inl ⟨SqL.of z2, fun q nq => ?_⟩⟩
      have s4 := same_new (o := .tup zs) nq
      refine k q _ (z1.trans s4) ⟨zs, upd_same, ?_⟩
      have e : (stl fm st).take xs.length = stl fm st := List.take_of_length_le (by rw [stl_len hlen]; omega)
      rw [e] at z3
      exact prR_tups (Tups.of s4) z3
end
end SF
set_option Elab.async false
set_option linter.all false
set_option maxRecDepth 100000
set_option maxHeartbeats 4000000
/-! the walk: row_to -/
namespace SF
open PySem PySem.Spec PyProof.Rows L2
abbrev sRow : Stmt := topS 19
abbrev Src := List (KK × Option (KK × Bool))
/-- the row that leads to a key, by the pointers -/
inductive Trace (src : Src) : KK → List Bool → Prop
  | root {k} : (k, none) ∈ src → Trace src k []
  | step {k k' s r} : (k', some (k, s)) ∈ src → Trace src k r → Trace src k' (r ++ [s])
theorem Trace.mono {src src' : Src} (h : ∀ x ∈ src, x ∈ src') : ∀ {k : KK} {r : List Bool}, Trace src k r → Trace src' k r
  | _, _, .root m => .root (h _ m)
  | _, _, .step m t => .step (h _ m) (Trace.mono h t)
def PtrAt (H : Hp) : Option (KK × Bool) → V → Prop
  | none, v => v = .non
  | some (k, s), v => ∃ t ka, v = .ref t ∧ H t = some (.tup [.ref ka, sdV s]) ∧ KAt H ka k
theorem PtrAt.tups {H H' : Hp} (t : Tups H H') : ∀ {o : Option (KK × Bool)} {v : V}, PtrAt H o v → PtrAt H' o v
  | none, _, h => h
  | some (k, s), _, ⟨c, ka, e, h1, h2⟩ => ⟨c, ka, e, t _ _ h1, h2.tups t⟩
def SrcAt (H : Hp) (src : Src) (es : List Ent) : Prop := Paired (fun (x : KK × Option (KK × Bool)) (e : Ent) => x.1 = e.1 ∧ PtrAt H x.2 e.2.2) src es
theorem SrcAt.tups {H H' : Hp} (t : Tups H H') {src : Src} {es : List Ent} (h : SrcAt H src es) : SrcAt H' src es := h.mono fun _ _ ⟨e, p⟩ => ⟨e, p.tups t⟩
theorem paired_memL {α β : Type} {R : α → β → Prop} : ∀ {l : List α} {m : List β}, Paired R l m → ∀ a ∈ l, ∃ b ∈ m, R a b
  | _, _, .nil, b, hb => nomatch hb
  | _, _, .cons r t, b, hb => by
    rcases List.mem_cons.mp hb with e | hb
    · subst e
      exact ⟨_, List.mem_cons_self, r⟩
    · obtain ⟨a, ha, q⟩ := paired_memL t b hb
      exact ⟨a, List.mem_cons_of_mem _ ha, q⟩
theorem SrcAt.keys {H : Hp} {src : Src} {es : List Ent} (h : SrcAt H src es) : es.map (·.1) = src.map (·.1) := paired_map (fun _ _ q => q.1.symm) h
theorem SrcAt.find {H : Hp} {src : Src} {es : List Ent} (h : SrcAt H src es) {k : KK} {o : Option (KK × Bool)} (m : (k, o) ∈ src) : ∃ b v, (k, b, v) ∈ es ∧ PtrAt H o v := by
  obtain ⟨⟨k', b, v⟩, he, e1, e2⟩ := paired_memL h _ m
  simp only at e1 e2
  subst e1
  exact ⟨b, v, he, e2⟩
section
variable {P : Program} {w : World} {K : PySem.W.Frag} {mg : Str → Option Value} {base : Heap}
def spRow (P : Program) (w : World) : Sp := fun vs H Q _ => ∃ d ka es src k r, vs = [.ref d, .ref ka] ∧ DN P w H d es ∧ SrcAt H src es ∧ KAt H ka k ∧ Trace src k r ∧ r.length < sizeLine ∧ ∀ p H', Same H H' → H p = none → H' p = some (.lst (r.map sdV)) → Q (.ref p) H'
theorem scRow : FnScope ["sources", "key", "row", "side"] ["sources", "key"] (defScope sRow) := ⟨rfl, rfl, rfl, by decide +kernel, rfl, by decide +kernel, by decide +kernel⟩
theorem ok_row {f : Addr} {fd : FuncData} (D : Def K mg "row_to" sRow ["sources", "key"] f fd) : FnOk P w K mg base CX0 1 f fd ["sources", "key"] (spRow P w) := by
  refine D.F.ok scRow (fun vs H Q E h => ?_) (fun cdv A outer s0 H vs Q E hr h => ?_)
  · obtain ⟨d, ka, es, src, k, r, rfl, _⟩ := h
    rfl
  · obtain ⟨d, ka, es, src, k, r, rfl, hd, hs, hk, ht, hn, kq⟩ := h
    refine ⟨_, (pss_cons (ps_set (i := 2) scRow.nd rfl (Or.inl rfl) (pe_lst pa_nil))
      (pss_cons (ps_while PassesOwn.never (pt_cmp (pc_notN (pe_getN hr.units (pv 0) (pv 1) (fun _ _ => rfl)))) (pss_cons (ps_asg (pe_getN hr.units (pv 0) (pv 1) (fun _ _ => rfl)) (pg_tup rfl (pgs_cons (pg_name (i := 1) scRow.nd rfl (Or.inl rfl)) (pgs_cons (pg_name (i := 3) scRow.nd rfl (Or.inl rfl)) pgs_nil))))
      (pss_one (ps_expr (pe_bm PySem.F.plainAttrs_list PySem.F.slot_list_append PySem.F.type_list_append mt_append (pv 2) (pa_cons (pv 3) pa_nil))))))
      (pss_one (ps_ret (pe_revL (pv 2)))))), ?_⟩
    refine ⟨Nat.zero_le _, fun l nl => ?_⟩
    have s1 : Same H (upd H l (.lst [])) := same_new nl
    refine ⟨fun m σ H1 => ∃ kc kb r1 r2 y3, m = r1.length ∧ σ = [some (.ref d), some (.ref kb), some (.ref l), y3] ∧ Same H H1 ∧ KAt H1 kb kc ∧ Trace src kc r1 ∧ r = r1 ++ r2 ∧ H1 l = some (.lst (r2.reverse.map sdV)), ⟨r.length, k, ka, r, [], none, rfl, rfl, s1, hk.tups (Tups.of s1), ht, by simp, upd_same⟩, ?_⟩
    rintro m σ H1 ⟨kc, kb, r1, r2, y3, rfl, rfl, z1, z2, z3, z4, z5⟩
    have hd1 : DN P w H1 d es := hd.same (by rw [hd.at_]; exact z1 _ _ hd.at_) (Tups.of z1)
    have hs1 := hs.tups (Tups.of z1)
    cases z3 with
    | root mm =>
      obtain ⟨b, v, he, pv⟩ := hs1.find mm
      have pv' : v = .non := pv
      subst pv'
      refine ⟨_, rfl, _, rfl, d, es, kb, kc, b, .non, rfl, rfl, hd1, z2, he, false, congrArg V.bl (by rw [decide_eq_true rfl]; rfl), iteF ?_⟩
      refine ⟨_, rfl, l, _, rfl, SqL.of z5, fun p np => ?_⟩
      have s3 := same_new (o := .lst (r2.reverse.map sdV).reverse) np
      refine kq p _ (z1.trans s3) (z1.free np) ?_
      rw [upd_same, z4, List.nil_append, ← List.map_reverse, List.reverse_reverse]
    | @step k0 _ sd r0 mm tr =>
      obtain ⟨b, v, he, pv⟩ := hs1.find mm
      obtain ⟨t, kc0, rfl, ht1, ht2⟩ := pv
      refine ⟨_, rfl, _, rfl, d, es, kb, kc, b, .ref t, rfl, rfl, hd1, z2, he, true, congrArg V.bl (by rw [decide_eq_false (fun z => nomatch z)]; rfl), iteT ?_⟩
      refine ⟨fun σ' H' => ∃ m', m' < (r0 ++ [sd]).length ∧ ∃ kc kb r1 r2 y3, m' = r1.length ∧ σ' = [some (.ref d), some (.ref kb), some (.ref l), y3] ∧ Same H H' ∧ KAt H' kb kc ∧ Trace src kc r1 ∧ r = r1 ++ r2 ∧ H' l = some (.lst (r2.reverse.map sdV)), fun _ _ z => z, ?_⟩
      refine ⟨_, rfl, _, rfl, d, es, kb, kc, b, .ref t, rfl, rfl, hd1, z2, he, t, _, rfl, SqT.of ht1, rfl, _, _, rfl, _, _, rfl, rfl, ?_⟩
      have hz : (r2.reverse.map sdV).length < sizeLine := by
        have : r.length = (r0 ++ [sd]).length + r2.length := by rw [z4, List.length_append]
        rw [List.length_map, List.length_reverse]
        omega
      refine ⟨_, rfl, .inl ⟨rfl, _, SqL.of z5⟩, _, rfl, l, _, sdV sd, rfl, rfl, z5, hz, ?_⟩
      refine ⟨r0.length, by simp, k0, kc0, r0, sd :: r2, _, rfl, rfl, same_ne z1 nl, ht2.tups (tups_lst z5), tr, by rw [z4]; simp, ?_⟩
      rw [upd_same, List.reverse_cons, List.map_append]
      rfl
end
end SF
set_option Elab.async false
set_option linter.all false
set_option maxRecDepth 100000
set_option maxHeartbeats 8000000
/-! the walk: parting -/
namespace SF
open PySem PySem.Spec PyProof.Rows L2
abbrev sPart : Stmt := topS 20
abbrev kR (H : Hp) : KK → V → Prop := fun k x => ∃ b, x = .ref b ∧ KAt H b k
theorem kR_tups {H H' : Hp} (t : Tups H H') {ks : List KK} {xs : List V} (r : Paired (kR H) ks xs) : Paired (kR H') ks xs := r.mono fun p x ⟨b, e, q⟩ => ⟨b, e, q.tups t⟩
def Tr (f g : Frm) (src : Src) (k : KK) (r : List Bool) : Prop := Trace src k r ∧ (sysS f g).go (sysS f g).st r = some k
theorem scal_win (x y : Option Bool) : scal (winV x) (winV y) = true := by cases x <;> cases y <;> rfl
theorem sd_inj {x y : Bool} (h : sdV x = sdV y) : x = y := by
  cases x <;> cases y <;> first | rfl | (exact absurd (V.int.inj h) (by decide))
theorem win_inj {x y : Option Bool} (h : winV x = winV y) : x = y := by
  cases x with
  | none => cases y with
    | none => rfl
    | some y => cases h
  | some x => cases y with
    | none => cases h
    | some y => rw [sd_inj h]
theorem dec_win (x y : Option Bool) : decide (winV x = winV y) = decide (x = y) := by
  by_cases e : x = y
  · subst e
    rw [decide_eq_true rfl, decide_eq_true rfl]
  · rw [decide_eq_false e, decide_eq_false fun z => e (win_inj z)]
def sdN (s : Bool) : Nat := if s then 1 else 0
/-- what has been looked at, at the key i of a level and its side j -/
def Done (lev : List KK) (i j : Nat) : KK → Bool → Prop := fun k s => (∃ i', i' < i ∧ lev[i']? = some k) ∨ (lev[i]? = some k ∧ sdN s < j)
theorem done_step {lev : List KK} {i j : Nat} {k : KK} {s : Bool} (hk : lev[i]? = some k) (hj : sdN s = j) : ∀ a b, Done lev i (j + 1) a b → Done lev i j a b ∨ (a = k ∧ b = s) := by
  rintro a b (h | ⟨h1, h2⟩)
  · exact .inl (.inl h)
  · by_cases e : sdN b < j
    · exact .inl (.inr ⟨h1, e⟩)
    · refine .inr ⟨Option.some.inj (h1.symm.trans hk), ?_⟩
      have e2 : sdN b = sdN s := by omega
      cases b <;> cases s <;> first | rfl | (exact absurd e2 (by decide))
theorem done_next {lev : List KK} {i : Nat} : ∀ a b, Done lev (i + 1) 0 a b → Done lev i 2 a b := by
  rintro a b (⟨i', h1, h2⟩ | ⟨_, h2⟩)
  · by_cases e : i' < i
    · exact .inl ⟨i', e, h2⟩
    · have : i' = i := by omega
      subst this
      exact .inr ⟨h2, by unfold sdN; split <;> omega⟩
  · exact absurd h2 (Nat.not_lt_zero _)
theorem done_all {lev : List KK} : ∀ k ∈ lev, ∀ s, Done lev lev.length 0 k s := fun k hk s => by
  obtain ⟨i, hi⟩ := List.mem_iff_getElem?.mp hk
  exact .inl ⟨i, (List.getElem?_eq_some_iff.mp hi).1, hi⟩
theorem Mid.imp {K : Type} {S : Sys K} {T T' : K → List Bool → Prop} {n : Nat} {keys0 lev keys later : List K} {D D' : K → Bool → Prop} (M : Mid S T n keys0 lev T' keys later D) (h : ∀ a b, D' a b → D a b) : Mid S T n keys0 lev T' keys later D' :=
  ⟨M.old, M.tru, M.mono, M.ext, M.spl, M.lat, fun a b q => M.dn a b (h a b q)⟩
/-- the heap in the midst of a level -/
structure Md (P : Program) (w : World) (f g : Frm) (H0 : Hp) (d lv lt : Addr) (n : Nat) (src0 : Src) (lev : List KK) (xs : List V) (src : Src) (es : List Ent) (later : List KK) (ys : List V) (D : KK → Bool → Prop) (H1 : Hp) : Prop where
  sm : Same H0 H1
  dn : DN P w H1 d es
  sr : SrcAt H1 src es
  lv : H1 lv = some (.lst xs)
  lx : Paired (kR H1) lev xs
  la : H1 lt = some (.lst ys)
  ly : Paired (kR H1) later ys
  md : Mid (sysS f g) (Tr f g src0) n (src0.map (·.1)) lev (Tr f g src) (src.map (·.1)) later D
  sub : ∀ x ∈ src0, x ∈ src
  len : src.length = src0.length + later.length
  sz : src.length < 16777216
section
variable {P : Program} {w : World} {f g : Frm} {H0 H1 H2 : Hp} {d lv lt : Addr} {n : Nat} {src0 src : Src} {lev later : List KK} {xs ys : List V} {es : List Ent} {D D' : KK → Bool → Prop}
theorem Md.same (M : Md P w f g H0 d lv lt n src0 lev xs src es later ys D H1) (s : Same H1 H2) : Md P w f g H0 d lv lt n src0 lev xs src es later ys D H2 :=
  ⟨M.sm.trans s, M.dn.same (by rw [M.dn.at_]; exact s _ _ M.dn.at_) (Tups.of s), M.sr.tups (Tups.of s), s _ _ M.lv, kR_tups (Tups.of s) M.lx, s _ _ M.la, kR_tups (Tups.of s) M.ly, M.md, M.sub, M.len, M.sz⟩
theorem Md.imp (M : Md P w f g H0 d lv lt n src0 lev xs src es later ys D H1) (h : ∀ a b, D' a b → D a b) : Md P w f g H0 d lv lt n src0 lev xs src es later ys D' H1 :=
  ⟨M.sm, M.dn, M.sr, M.lv, M.lx, M.la, M.ly, M.md.imp h, M.sub, M.len, M.sz⟩
theorem Md.skip (M : Md P w f g H0 d lv lt n src0 lev xs src es later ys D H1) {k : KK} {s : Bool} (h : (sysS f g).w1 k s = (sysS f g).w2 k s) (h2 : (sysS f g).w1 k s = none → (sysS f g).nx k s ∈ src.map (·.1))
    (hD : ∀ a b, D' a b → D a b ∨ (a = k ∧ b = s)) : Md P w f g H0 d lv lt n src0 lev xs src es later ys D' H1 :=
  ⟨M.sm, M.dn, M.sr, M.lv, M.lx, M.la, M.ly, M.md.skip h h2 hD, M.sub, M.len, M.sz⟩
theorem dn_put (D : DN P w H1 d es) {a : Addr} {k : KK} {v : V} (hk : KAt H1 a k) (hn : k ∉ es.map (·.1)) : DN P w (upd H1 d (dN P w d (es ++ [(k, a, v)]))) d (es ++ [(k, a, v)]) := by
  have t : Tups H1 (upd H1 d (dN P w d (es ++ [(k, a, v)]))) := fun b xs e => by
    rw [upd_ne (ne_of e D.at_ (fun z => nomatch z))]
    exact e
  refine ⟨upd_same, fun e he => ?_, ?_⟩
  · rcases List.mem_append.mp he with he | he
    · exact (D.keys e he).tups t
    · rw [List.mem_singleton.mp he]
      exact hk.tups t
  · rw [List.map_append, List.map_singleton]
    refine List.nodup_append.mpr ⟨D.nd, by simp, fun a ha b hb e => ?_⟩
    have e' : a = k := e.trans (List.mem_singleton.mp hb)
    rw [e'] at ha
    exact hn ha
theorem Md.put (M : Md P w f g H0 d lv lt n src0 lev xs src es later ys D H1) (cnt : Cnt f g) (hd : H0 d = none) (hl : H0 lt = none) (hne : lv ≠ lt) {k : KK} {s : Bool} {rk kb t : Addr} (hk : k ∈ lev)
    (h1 : (sysS f g).w1 k s = none) (h2 : (sysS f g).w2 k s = none) (hrk : KAt H1 rk ((sysS f g).nx k s)) (hkb : KAt H1 kb k) (ht : H1 t = some (.tup [.ref kb, sdV s])) (hn : (sysS f g).nx k s ∉ es.map (·.1))
    (hD : ∀ a b, D' a b → D a b ∨ (a = k ∧ b = s)) :
    Md P w f g H0 d lv lt n src0 lev xs (src ++ [((sysS f g).nx k s, some (k, s))]) (es ++ [((sysS f g).nx k s, rk, .ref t)]) (later ++ [(sysS f g).nx k s]) (ys ++ [.ref rk]) D'
      (upd (upd H1 d (dN P w d (es ++ [((sysS f g).nx k s, rk, .ref t)]))) lt (.lst (ys ++ [.ref rk]))) := by
  generalize hnx : (sysS f g).nx k s = nx at *
  have ndl : d ≠ lt := ne_of M.dn.at_ M.la (fun z => nomatch z)
  have ndv : d ≠ lv := ne_of M.dn.at_ M.lv (fun z => nomatch z)
  have t1 : Tups H1 (upd H1 d (dN P w d (es ++ [(nx, rk, .ref t)]))) := fun b zs e => by
    rw [upd_ne (ne_of e M.dn.at_ (fun z => nomatch z))]
    exact e
  have la1 : (upd H1 d (dN P w d (es ++ [(nx, rk, .ref t)]))) lt = some (.lst ys) := by
    rw [upd_ne ndl.symm]
    exact M.la
  have t2 : Tups (upd H1 d (dN P w d (es ++ [(nx, rk, .ref t)]))) (upd (upd H1 d (dN P w d (es ++ [(nx, rk, .ref t)]))) lt (.lst (ys ++ [.ref rk]))) := tups_lst la1
  have tt := t1.trans t2
  have dn1 := dn_put (v := .ref t) M.dn hrk hn
  have dn2 : DN P w (upd (upd H1 d (dN P w d (es ++ [(nx, rk, .ref t)]))) lt (.lst (ys ++ [.ref rk]))) d (es ++ [(nx, rk, .ref t)]) := dn1.same (upd_ne ndl) t2
  have sr2 : SrcAt (upd (upd H1 d (dN P w d (es ++ [(nx, rk, .ref t)]))) lt (.lst (ys ++ [.ref rk]))) (src ++ [(nx, some (k, s))]) (es ++ [(nx, rk, .ref t)]) :=
    Paired.snoc (M.sr.tups tt) ⟨rfl, t, kb, rfl, tt _ _ ht, hkb.tups tt⟩
  have subs : ∀ x ∈ src, x ∈ src ++ [(nx, some (k, s))] := fun x hx => List.mem_append_left _ hx
  have md2 : Mid (sysS f g) (Tr f g src0) n (src0.map (·.1)) lev (Tr f g (src ++ [(nx, some (k, s))])) ((src ++ [(nx, some (k, s))]).map (·.1)) (later ++ [nx]) D' := by
    have z := M.md.add (T'' := Tr f g (src ++ [(nx, some (k, s))])) (D' := D') h1 h2 (fun _ _ q => q.2) (fun a r q => ⟨q.1.mono subs, q.2⟩) ?_ hD
    · rw [hnx] at z
      rw [List.map_append]
      exact z
    · obtain ⟨_, r, q1, q2⟩ := M.md.old.lv k hk
      rw [hnx]
      refine ⟨r ++ [s], ⟨.step (List.mem_append_right _ (by simp)) (q1.1.mono fun x hx => subs x (M.sub x hx)), ?_⟩, by rw [List.length_append, List.length_singleton, q2]⟩
      rw [← hnx]
      exact go_snoc s q1.2 h1 h2
  refine ⟨?_, dn2, sr2, ?_, kR_tups tt M.lx, upd_same, Paired.snoc (kR_tups tt M.ly) ⟨rk, rfl, hrk.tups tt⟩, md2, fun x hx => subs x (M.sub x hx), ?_, ?_⟩
  · exact same_ne (same_ne M.sm hd) hl
  · rw [upd_ne hne, upd_ne ndv.symm]
    exact M.lv
  · rw [List.length_append, List.length_append, M.len]
    simp
    omega
  · have q := cnt ((src ++ [(nx, some (k, s))]).map (·.1)) (by rw [← sr2.keys]; exact dn2.nd) (fun a ha => md2.keys_ok a ha)
    rw [List.length_map] at q
    exact q
end
end SF
set_option Elab.async false
set_option linter.all false
set_option maxRecDepth 100000
set_option maxHeartbeats 16000000
/-! the walk: parting, its loops -/
namespace SF
open PySem PySem.Spec PyProof.Rows L2
def RowV (H : Hp) : Option (List Bool) → V → Prop
  | none, v => v = .non
  | some r, v => ∃ p, v = .ref p ∧ H p = some (.lst (r.map sdV))
section
variable {P : Program} {w : World} {K : PySem.W.Frag} {mg : Str → Option Value} {base : Heap}
def spPart : Sp := fun vs H Q _ => ∃ a b f g, vs = [.ref a, .ref b] ∧ FmAt H a f ∧ FmAt H b g ∧ OkF f ∧ OkF g ∧ (1 ≤ f.length ∧ f.length ≤ 3) ∧ (1 ≤ g.length ∧ g.length ≤ 3) ∧ Cnt f g ∧
  ∀ res v H', Same H H' → PartSpec f g res → RowV H' res v → Q v H'
theorem scPart : FnScope ["form", "other", "start", "sources", "level", "later", "key", "side", "one", "two", "reached"] ["form", "other"] (defScope sPart) := ⟨rfl, rfl, rfl, by decide +kernel, rfl, by decide +kernel, by decide +kernel⟩
theorem iteB {b : Bool} {A B : Prop} (e : b = true) (h : A) : if b = true then A else B := by rw [if_pos e]; exact h
structure Kit (K : PySem.W.Frag) (mg : Str → Option Value) where
  fC : Addr
  dC : FuncData
  C : Def K mg "is_count" sCount ["value", "least", "most"] fC dC
  fL : Addr
  dL : FuncData
  L : Def K mg "is_level" sLevel ["value"] fL dL
  fF : Addr
  dF : FuncData
  G : Def K mg "is_form" sForm ["value"] fF dF
  fN : Addr
  dN : FuncData
  N : Def K mg "need_form" sNeed ["value"] fN dN
  fR : Addr
  dR : FuncData
  R : Def K mg "round_winner" sRw ["level", "pair"] fR dR
  fS : Addr
  dS : FuncData
  S : Def K mg "start_of" sStart ["form"] fS dS
  fP : Addr
  dP : FuncData
  P : Def K mg "plus" sPlus ["pair", "side"] fP dP
  fA : Addr
  dA : FuncData
  A : Def K mg "after" sAfter ["form", "score", "side"] fA dA
  fT : Addr
  dT : FuncData
  T : Def K mg "settled" sSet ["form", "now"] fT dT
  fW : Addr
  dW : FuncData
  W : Def K mg "row_to" sRow ["sources", "key"] fW dW
/-- the state ahead of each turn of the while -/
structure Lp (P : Program) (w : World) (f g : Frm) (H0 : Hp) (d lv : Addr) (n : Nat) (src : Src) (es : List Ent) (lev : List KK) (xs : List V) (H1 : Hp) : Prop where
  sm : Same H0 H1
  dn : DN P w H1 d es
  sr : SrcAt H1 src es
  lv : H1 lv = some (.lst xs)
  lx : Paired (kR H1) lev xs
  bf : Bfs (sysS f g) (Tr f g src) n (src.map (·.1)) lev
  ln : lev ≠ [] → n + 1 ≤ src.length
  sz : src.length < 16777216
def msr (src : Src) (lev : List KK) : Nat := 2 * (16777216 - src.length) + (if lev = [] then 0 else 1)
theorem msr_lt {src src' : Src} {lev lev' : List KK} (h : lev ≠ []) (e : src'.length = src.length + lev'.length) (z : src'.length < 16777216) : msr src' lev' < msr src lev := by
  unfold msr
  rw [if_neg h]
  by_cases q : lev' = []
  · subst q
    simp at e ⊢
    omega
  · rw [if_neg q]
    have : 0 < lev'.length := List.length_pos_iff.mpr q
    omega
theorem Lp.same {f g : Frm} {H0 H1 H2 : Hp} {d lv : Addr} {n : Nat} {src : Src} {es : List Ent} {lev : List KK} {xs : List V} (L : Lp P w f g H0 d lv n src es lev xs H1) (s : Same H1 H2) : Lp P w f g H0 d lv n src es lev xs H2 :=
  ⟨L.sm.trans s, L.dn.same (by rw [L.dn.at_]; exact s _ _ L.dn.at_) (Tups.of s), L.sr.tups (Tups.of s), s _ _ L.lv, kR_tups (Tups.of s) L.lx, L.bf, L.ln, L.sz⟩
def WPart (P : Program) (w : World) (f g : Frm) (a b p d : Addr) (H0 : Hp) (m : Nat) (σ : L2.St) (H1 : Hp) : Prop := ∃ lv n src es lev xs y5 y6 y7 y8 y9 y10, m = msr src lev ∧ H0 lv = none ∧
  σ = [some (.ref a), some (.ref b), some (.ref p), some (.ref d), some (.ref lv), y5, y6, y7, y8, y9, y10] ∧ Lp P w f g H0 d lv n src es lev xs H1
def InPart (P : Program) (w : World) (f g : Frm) (a b p d lv lt : Addr) (H0 : Hp) (n : Nat) (src : Src) (lev : List KK) (xs : List V) (i : Nat) (σ : L2.St) (H1 : Hp) : Prop := ∃ src' es' later ys y6 y7 y8 y9 y10,
  σ = [some (.ref a), some (.ref b), some (.ref p), some (.ref d), some (.ref lv), some (.ref lt), y6, y7, y8, y9, y10] ∧ Md P w f g H0 d lv lt n src lev xs src' es' later ys (Done lev i 0) H1
def SdPart (P : Program) (w : World) (f g : Frm) (a b p d lv lt kb sd : Addr) (H0 : Hp) (n : Nat) (src : Src) (lev : List KK) (xs : List V) (i j : Nat) (σ : L2.St) (H1 : Hp) : Prop := ∃ src' es' later ys y7 y8 y9 y10,
  σ = [some (.ref a), some (.ref b), some (.ref p), some (.ref d), some (.ref lv), some (.ref lt), some (.ref kb), y7, y8, y9, y10] ∧ H1 sd = some (.tup [.int 0, .int 1]) ∧ Md P w f g H0 d lv lt n src lev xs src' es' later ys (Done lev i j) H1
theorem ok_part {f : Addr} {fd : FuncData} (D : Def K mg "parting" sPart ["form", "other"] f fd) (k : Kit K mg) (T : Txt K mg) : FnOk P w K mg base CX0 5 f fd ["form", "other"] spPart := by
  obtain ⟨fC, dC, C, fL, dL, L, fF, dF, G, fN, dN', DN_, fR0, dR0, R0, fS, dS, DS, fP, dP, DP, fA, dA, DA, fT, dT, DT, fW, dW, DR⟩ := k
  have GN : FnOk P w K mg base CX0 4 fN dN' ["value"] spNeed := ok_need DN_ G L C T
  have GS : FnOk P w K mg base CX0 1 fS dS ["form"] spStart := ok_start DS T
  have GA : FnOk P w K mg base CX0 2 fA dA ["form", "score", "side"] spAfter := ok_after DA DP R0 T
  have GT : FnOk P w K mg base CX0 1 fT dT ["form", "now"] spSet := ok_set DT T
  have GR : FnOk P w K mg base CX0 1 fW dW ["sources", "key"] (spRow P w) := ok_row DR
  refine D.F.ok scPart (fun vs H Q E h => ?_) (fun cdv A outer s0 H vs Q E hr h => ?_)
  · obtain ⟨a, b, f, g, rfl, _⟩ := h
    rfl
  · obtain ⟨a, b, f, g, rfl, hf, hg, okf, okg, lf, lg, cnt, kq⟩ := h
    have hr4 := hr
    have hr1 : Room 1 _ := hr.mono (by decide)
    have hr2 : Room 2 _ := hr.mono (by decide)
    refine ⟨_, (pss_cons (ps_expr (pe_call GN hr4 (by rfl) DN_.mgf DN_.F.kp DN_.b .nil pass0 (pa_cons (pv 0) pa_nil)))
      (pss_cons (ps_expr (pe_call GN hr4 (by rfl) DN_.mgf DN_.F.kp DN_.b .nil pass0 (pa_cons (pv 1) pa_nil)))
      (pss_cons (ps_set (i := 2) scPart.nd rfl (Or.inl rfl) (pe_tup (pa_cons (pe_call GS hr1 (by rfl) DS.mgf DS.F.kp DS.b .nil pass0 (pa_cons (pv 0) pa_nil)) (pa_cons (pe_call GS hr1 (by rfl) DS.mgf DS.F.kp DS.b .nil pass0 (pa_cons (pv 1) pa_nil)) pa_nil))))
      (pss_cons (ps_par (i := 3) (j := 4) (by rfl) scPart.nd rfl rfl (by decide) rfl rfl (pa_cons (pe_disp1 hr.units (pv 2) pe_non) (pa_cons (pe_lst (pa_cons (pv 2) pa_nil)) pa_nil)) (by rfl))
      (pss_cons (ps_while PassesOwn.never (pt_cmpR (op_neNil hr.units) (pv 4) (pe_lst pa_nil) (nomark _)) (pss_cons (ps_set (i := 5) scPart.nd rfl (Or.inl rfl) (pe_lst pa_nil))
      (pss_cons (ps_for PassesOwn.never rfl (pi_list (pv 4)) (pg_name (i := 6) scPart.nd rfl (Or.inl rfl)) (pss_one (ps_for PassesOwn.never rfl (pi_tup (pe_tup (pa_cons pe_int (pa_cons pe_int pa_nil)))) (pg_name (i := 7) scPart.nd rfl (Or.inl rfl)) (pss_cons (ps_par (i := 8) (j := 9) (by rfl) scPart.nd rfl rfl (by decide) rfl rfl (pa_cons (pe_call GA hr2 (by rfl) DA.mgf DA.F.kp DA.b .nil pass0 (pa_cons (pv 0) (pa_cons (pe_ix ix_tup (pv 6) pe_int (fun _ _ => rfl)) (pa_cons (pv 7) pa_nil)))) (pa_cons (pe_call GA hr2 (by rfl) DA.mgf DA.F.kp DA.b .nil pass0 (pa_cons (pv 1) (pa_cons (pe_ix ix_tup (pv 6) pe_int (fun _ _ => rfl)) (pa_cons (pv 7) pa_nil)))) pa_nil)) (by rfl))
      (pss_cons (ps_if (pt_cmpR op_ne (pe_ix ix_tup (pv 8) pe_int (fun _ _ => rfl)) (pe_ix ix_tup (pv 9) pe_int (fun _ _ => rfl)) (nomark _)) (pss_one (ps_ret (pe_op op_cat (pe_call GR hr1 (by rfl) DR.mgf DR.F.kp DR.b .nil pass0 (pa_cons (pv 3) (pa_cons (pv 6) pa_nil))) (pe_lst (pa_cons (pv 7) pa_nil))))) pss_nil)
      (pss_cons (ps_set (i := 10) scPart.nd rfl (Or.inl rfl) (pe_tup (pa_cons (pe_call GT hr1 (by rfl) DT.mgf DT.F.kp DT.b .nil pass0 (pa_cons (pv 0) (pa_cons (pe_ix ix_tup (pv 8) pe_int (fun _ _ => rfl)) pa_nil))) (pa_cons (pe_call GT hr1 (by rfl) DT.mgf DT.F.kp DT.b .nil pass0 (pa_cons (pv 1) (pa_cons (pe_ix ix_tup (pv 9) pe_int (fun _ _ => rfl)) pa_nil))) pa_nil))))
      (pss_one (ps_if (PW.pt (pw_and (pt_cmp (pc_isN (pe_ix ix_tup (pv 8) pe_int (fun _ _ => rfl)))) (pw_and1 (pt_cmpR (op_notInN hr.units) (pv 10) (pv 3) (by rfl))))) (pss_cons (ps_asg (pe_tup (pa_cons (pv 6) (pa_cons (pv 7) pa_nil))) (pg_sub (pv 3) (pv 10) (set_N hr.units)))
      (pss_one (ps_expr (pe_bm PySem.F.plainAttrs_list PySem.F.slot_list_append PySem.F.type_list_append mt_append (pv 5) (pa_cons (pv 10) pa_nil))))) pss_nil))))))))
      (pss_one (ps_set (i := 4) scPart.nd rfl (Or.inl rfl) (pv 5))))))
      (pss_one (ps_ret pe_non))))))), ?_⟩
    refine ⟨_, rfl, a, f, rfl, hf, okf, lf.1, lf.2, fun H1 s1 => ?_⟩
    refine ⟨_, rfl, b, g, rfl, hg.tups (Tups.of s1), okg, lg.1, lg.2, fun H2 s2 => ?_⟩
    have s12 := s1.trans s2
    refine ⟨_, rfl, a, f, rfl, hf.tups (Tups.of s12), lf.1, lf.2, fun c1 H3 s3 st1 => ?_⟩
    have s13 := s12.trans s3
    refine ⟨_, rfl, b, g, rfl, hg.tups (Tups.of s13), lg.1, lg.2, fun c2 H4 s4 st2 => ⟨(by show 2 ≤ sizeLine; decide), fun p np => ?_⟩⟩
    have s14 := s13.trans s4
    have s5 := same_new (o := .tup [.ref c1, .ref c2]) np
    have hk5 : KAt (upd H4 p (.tup [.ref c1, .ref c2])) p (strt f, strt g) := ⟨c1, c2, upd_same, (st1.tups (Tups.of (s4.trans s5))), st2.tups (Tups.of s5)⟩
    have s15 := s14.trans s5
    generalize upd H4 p (.tup [.ref c1, .ref c2]) = H5 at *
    -- sources, level = {start: None}, [start]
    refine fun d nd => ⟨_, rfl, upd_same, p, (strt f, strt g), rfl, hk5.tups (Tups.of (same_new nd)), _, rfl, (by show 1 ≤ sizeLine; decide), fun lv nlv => ⟨_, _, rfl, ?_⟩⟩
    have s6 : Same H5 (upd (upd H5 d (.dK [])) d (dN P w d [((strt f, strt g), p, .non)])) := same_ne (same_new nd) nd
    have dn6 : DN P w (upd (upd H5 d (.dK [])) d (dN P w d [((strt f, strt g), p, .non)])) d [((strt f, strt g), p, .non)] := dn_one upd_same (hk5.tups (Tups.of (same_new nd)))
    have nlv' : (upd (upd H5 d (.dK [])) d (dN P w d [((strt f, strt g), p, .non)])) lv = none := nlv
    have nlv5 : H5 lv = none := s6.free nlv'
    have s7 := same_new (o := .lst [.ref p]) nlv'
    have L0 : Lp P w f g H5 d lv 0 [((strt f, strt g), none)] [((strt f, strt g), p, .non)] [(strt f, strt g)] [.ref p] (upd (upd (upd H5 d (.dK [])) d (dN P w d [((strt f, strt g), p, .non)])) lv (.lst [.ref p])) := by
      refine ⟨s6.trans s7, dn6.same (by rw [dn6.at_]; exact s7 _ _ dn6.at_) (Tups.of s7), .cons ⟨rfl, rfl⟩ .nil, upd_same, .cons ⟨p, rfl, hk5.tups (Tups.of (s6.trans s7))⟩ .nil, Bfs.start (fun _ _ q => q.2) ⟨.root (by simp [sysS]), rfl⟩, fun _ => Nat.le_refl _, by show 1 < 16777216; decide⟩
    refine ⟨WPart P w f g a b p d H5, ⟨_, lv, 0, _, _, _, _, none, none, none, none, none, none, rfl, nlv5, rfl, L0⟩, ?_⟩
    clear L0 s7 nlv' nlv5 dn6 s6 nlv
    rintro m σ H1 ⟨lv, n, src, es, lev, xs, y5, y6, y7, y8, y9, y10, rfl, nlv, rfl, L1⟩
    refine ⟨_, rfl, Nat.zero_le _, fun z nz => ⟨lv, z, xs, rfl, rfl, SqL.of (same_new nz _ _ L1.lv), SqL.of upd_same, _, rfl, ?_⟩⟩
    have L := L1.same (same_new (o := .lst []) nz)
    clear L1
    generalize upd H1 z (.lst []) = H6 at *
    have hlen := L.lx.length
    by_cases hl : lev = []
    · subst hl
      have ex : xs = [] := List.eq_nil_of_length_eq_zero hlen.symm
      subst ex
      refine iteF ?_
      refine kq none .non _ (s15.trans L.sm) (fun r => ?_) rfl
      have q := L.bf.none r
      rw [sysS_p1 okf, sysS_p2 okg] at q
      exact q
    · have ex : (!xs.isEmpty) = true := by
        cases xs with
        | nil => exact absurd (List.eq_nil_of_length_eq_zero hlen) hl
        | cons x r => rfl
      refine iteB ex ?_
      refine ⟨fun σ' H' => ∃ m', m' < msr src lev ∧ WPart P w f g a b p d H5 m' σ' H', fun _ _ z => z, ?_⟩
      -- later = []
      refine ⟨Nat.zero_le _, fun lt nlt => ?_⟩
      have slt := same_new (o := .lst []) nlt
      have nlt5 : H5 lt = none := L.sm.free nlt
      have hne : lv ≠ lt := ne_of_none L.lv nlt
      have L' := L.same slt
      refine ⟨_, rfl, lv, rfl, ⟨xs, SqL.of L'.lv⟩, for_list (K := K) (a := lv) (xs := xs) (InPart P w f g a b p d lv lt H5 n src lev xs) ?_ ?_ ?_ ?_⟩
      · refine ⟨src, es, [], [], _, _, _, _, _, rfl, L'.sm, L'.dn, L'.sr, L'.lv, L'.lx, upd_same, .nil, L'.bf.mid.imp ?_, fun _ z => z, rfl, L'.sz⟩
        rintro a b (⟨i', h1, _⟩ | ⟨_, h2⟩)
        · exact absurd h1 (Nat.not_lt_zero _)
        · exact absurd h2 (Nat.not_lt_zero _)
      · rintro i σ H2 _ ⟨_, _, _, _, _, _, _, _, _, _, M⟩
        exact SqL.of M.lv
      · rintro i x σ H2 hx ⟨src', es', later, ys, y6, y7, y8, y9, y10, rfl, M⟩
        obtain ⟨k, hk, kb, rfl, hkb0⟩ := Paired.at' M.lx hx
        have hkm : k ∈ lev := List.mem_of_getElem? hk
        obtain ⟨_, r, ⟨tr1, tr2⟩, tr3⟩ := M.md.old.lv k hkm
        obtain ⟨gd1, gd2⟩ := go_good okf okg tr2
        have len1 := gd1.inp.len
        have len2 := gd2.inp.len
        have hrn : r.length < sizeLine := by
          have q1 := L.ln hl
          have q2 := L.sz
          rw [sizeLine_eq]
          omega
        -- for side in (0, 1)
        refine ⟨(by show 2 ≤ sizeLine; decide), fun sd nsd => ⟨sd, rfl, ⟨_, SqT.of upd_same⟩, for_tup (K := K) (a := sd) (xs := [.int 0, .int 1]) (SdPart P w f g a b p d lv lt kb sd H5 n src lev xs i) ?_ ?_ ?_ ?_⟩⟩
        · exact ⟨src', es', later, ys, _, _, _, _, rfl, upd_same, M.same (same_new nsd)⟩
        · rintro j σ H3 _ ⟨_, _, _, _, _, _, _, _, _, z, _⟩
          exact SqT.of z
        · clear M hkb0
          rintro j x σ H3 hx2 ⟨src', es', later, ys, y7, y8, y9, y10, rfl, hsd, M⟩
          obtain ⟨s, rfl, hj⟩ : ∃ s, x = sdV s ∧ sdN s = j := by
            match j, hx2 with
            | 0, hx2 => exact ⟨false, (Option.some.inj hx2).symm, rfl⟩
            | 1, hx2 => exact ⟨true, (Option.some.inj hx2).symm, rfl⟩
            | j + 2, hx2 => simp at hx2
          obtain ⟨kx, hkx, kb', e', hkb⟩ := Paired.at' M.lx hx
          cases (show kx = k from Option.some.inj (hkx.symm.trans hk))
          cases e'
          obtain ⟨a1, a2, e0, t1, t2⟩ := id hkb
          have sm := s15.trans M.sm
          -- one, two = after(..), after(..)
          refine ⟨_, rfl, _, rfl, kb, _, 0, .ref a1, rfl, rfl, SqT.of e0, rfl, _, rfl, a, a1, f, k.1, s, rfl, hf.tups (Tups.of sm), t1, len1, lf.1, lf.2, fun p1 q1 H7 s7 e1 st1 => ?_⟩
          refine ⟨_, rfl, _, rfl, kb, _, 1, .ref a2, rfl, rfl, SqT.of (s7 _ _ e0), rfl, _, rfl, b, a2, g, k.2, s, rfl, hg.tups (Tups.of (sm.trans s7)), t2.tups (Tups.of s7), len2, lg.1, lg.2, fun p2 q2 H8 s8 e2 st2 => ⟨_, _, rfl, ?_⟩⟩
          have M8 := M.same (s7.trans s8)
          have e1' := s8 _ _ e1
          have st1' := st1.tups (Tups.of s8)
          have hkb8 := hkb.tups (Tups.of (s7.trans s8))
          have hsd8 := (s7.trans s8) _ _ hsd
          have sm8 := sm.trans (s7.trans s8)
          clear M t1 t2 e0 e1 st1 sm hkb hsd
          refine ⟨_, rfl, p1, _, 1, winV (aft f k.1 s).2, rfl, rfl, SqT.of e1', rfl, _, rfl, p2, _, 1, winV (aft g k.2 s).2, rfl, rfl, SqT.of e2, rfl, scal_win _ _, !decide ((aft f k.1 s).2 = (aft g k.2 s).2), congrArg (fun b => V.bl (!b)) (dec_win _ _), ?_⟩
          by_cases hw : (aft f k.1 s).2 = (aft g k.2 s).2
          · rw [decide_eq_true hw]
            refine iteF ?_
            refine ⟨_, rfl, _, rfl, p1, _, 0, .ref q1, rfl, rfl, SqT.of e1', rfl, a, q1, f, (aft f k.1 s).1, rfl, hf.tups (Tups.of sm8), st1', okf, by rw [aft_len]; exact len1, lf.2, fun z1 H9 s9 v1 => ?_⟩
            refine ⟨_, rfl, _, rfl, p2, _, 0, .ref q2, rfl, rfl, SqT.of (s9 _ _ e2), rfl, b, q2, g, (aft g k.2 s).1, rfl, hg.tups (Tups.of (sm8.trans s9)), st2.tups (Tups.of s9), okg, by rw [aft_len]; exact len2, lg.2, fun z2 H10 s10 v2 => ⟨(by show 2 ≤ sizeLine; decide), fun rk nrk => ?_⟩⟩
            have s11 := same_new (o := .tup [.ref z1, .ref z2]) nrk
            have hrk : KAt (upd H10 rk (.tup [.ref z1, .ref z2])) rk ((sysS f g).nx k s) := ⟨z1, z2, upd_same, v1.tups (Tups.of (s10.trans s11)), v2.tups (Tups.of s11)⟩
            have s81 := s9.trans (s10.trans s11)
            have M11 := M8.same s81
            have e3 := s81 _ _ e1'
            have hkb11 := hkb8.tups (Tups.of s81)
            have hsd11 := s81 _ _ hsd8
            clear M8 e1' e2 st1' st2 hkb8 hsd8 v1 v2 nrk s11
            generalize upd H10 rk (.tup [.ref z1, .ref z2]) = H11 at *
            have hw' : (sysS f g).w1 k s = (sysS f g).w2 k s := hw
            have next : ∀ (src2 : Src) (es2 : List Ent) (later2 : List KK) (ys2 : List V) (H12 : Hp) (y8 y9 y10 : Option V), H12 sd = some (.tup [.int 0, .int 1]) → Md P w f g H5 d lv lt n src lev xs src2 es2 later2 ys2 (Done lev i (j + 1)) H12 →
                SdPart P w f g a b p d lv lt kb sd H5 n src lev xs i (j + 1) [some (.ref a), some (.ref b), some (.ref p), some (.ref d), some (.ref lv), some (.ref lt), some (.ref kb), some (sdV s), y8, y9, y10] H12 :=
              fun src2 es2 later2 ys2 H12 y8 y9 y10 h1 h2 => ⟨src2, es2, later2, ys2, _, _, _, _, rfl, h1, h2⟩
            refine ⟨_, rfl, p1, _, 1, winV (aft f k.1 s).2, rfl, rfl, SqT.of e3, rfl, decide (winV (aft f k.1 s).2 = .non), rfl, ?_⟩
            cases ew : (aft f k.1 s).2 with
            | some x =>
              refine iteF (iteF ?_)
              exact next _ _ _ _ _ _ _ _ hsd11 (M11.skip hw' (fun z => by rw [show (sysS f g).w1 k s = some x from ew] at z; cases z) (done_step hk hj))
            | none =>
              refine iteT ?_
              refine ⟨_, rfl, _, rfl, rk, (sysS f g).nx k s, d, es', rfl, rfl, hrk, M11.dn, _, rfl, ?_⟩
              by_cases hm : (sysS f g).nx k s ∈ es'.map (·.1)
              · rw [decide_eq_true hm]
                refine iteF ?_
                exact next _ _ _ _ _ _ _ _ hsd11 (M11.skip hw' (fun _ => by rw [← M11.sr.keys]; exact hm) (done_step hk hj))
              · rw [decide_eq_false hm]
                refine iteT ?_
                refine ⟨_, rfl, _, rfl, (by show 2 ≤ sizeLine; decide), fun t nt => ?_⟩
                have s12 := same_new (o := .tup [.ref kb, sdV s]) nt
                have M12 := M11.same s12
                have hes : es'.length < sizeLine := by
                  have q1 := M12.sz
                  have q2 := M12.sr.length
                  rw [sizeLine_eq]
                  omega
                have hys : ys.length < sizeLine := by
                  have q1 := M12.sz
                  have q2 := M12.ly.length
                  have q3 := M12.len
                  rw [sizeLine_eq]
                  omega
                refine ⟨_, rfl, _, rfl, d, es', rk, (sysS f g).nx k s, rfl, rfl, M12.dn, hrk.tups (Tups.of s12), hm, hes, ?_⟩
                have ndl : lt ≠ d := (ne_of M12.dn.at_ M12.la (fun z => nomatch z)).symm
                refine ⟨_, rfl, .inl ⟨rfl, _, SqL.of ((upd_ne ndl).trans M12.la)⟩, _, rfl, lt, ys, .ref rk, rfl, rfl, (upd_ne ndl).trans M12.la, hys, ?_⟩
                have hsd12 := s12 _ _ hsd11
                refine next _ _ _ _ _ _ _ _ ?_ (M12.put cnt nd nlt5 hne hkm ew (by rw [← hw']; exact ew) (hrk.tups (Tups.of s12)) (hkb11.tups (Tups.of s12)) upd_same hm (done_step hk hj))
                rw [upd_ne (ne_of hsd12 M12.la (fun z => nomatch z)), upd_ne (ne_of hsd12 M12.dn.at_ (fun z => nomatch z))]
                exact hsd12
          · rw [decide_eq_false hw]
            refine iteT ?_
            have trc : Trace src' k r := tr1.mono M8.sub
            refine ⟨_, rfl, _, rfl, d, kb, es', src', k, r, rfl, M8.dn, M8.sr, hkb8, trc, hrn, fun p3 H9 s9 np9 e9 => ?_⟩
            refine ⟨_, rfl, (by show 1 ≤ sizeLine; decide), fun l2 nl2 => ?_⟩
            have s10 := same_new (o := .lst [sdV s]) nl2
            refine ⟨p3, l2, r.map sdV, [sdV s], rfl, rfl, s10 _ _ e9, upd_same, by rw [List.length_map]; exact hrn, fun p4 np4 => ?_⟩
            have s11 := same_new (o := .lst (r.map sdV ++ [sdV s])) np4
            refine kq (some (r ++ [s])) (.ref p4) _ (sm8.trans (s9.trans (s10.trans s11))) ?_ ⟨p4, rfl, ?_⟩
            · obtain ⟨f1, f2⟩ := L.bf.found (s := s) tr2 tr3 hw
              rw [sysS_p1 okf, sysS_p2 okg] at f1
              refine ⟨f1, fun r' hr' => ?_⟩
              rw [List.length_append, List.length_singleton, tr3]
              exact f2 r' (by rw [sysS_p1 okf, sysS_p2 okg]; exact hr')
            · rw [upd_same, List.map_append]
              rfl
        · rintro σ H3 ⟨src', es', later, ys, y7, y8, y9, y10, rfl, hsd, M⟩
          exact ⟨src', es', later, ys, _, _, _, _, _, rfl, M.imp done_next⟩
      · rintro σ H2 ⟨src', es', later, ys, y6, y7, y8, y9, y10, rfl, M⟩
        have B := M.md.fin (fun k hk s => by rw [← hlen]; exact done_all k hk s)
        refine ⟨_, rfl, ?_⟩
        refine ⟨msr src' later, msr_lt hl M.len M.sz, lt, n + 1, src', es', later, ys, _, _, _, _, _, _, rfl, nlt5, rfl, M.sm, M.dn, M.sr, M.la, M.ly, B, fun hl' => ?_, M.sz⟩
        have q1 := L.ln hl
        have q2 : 0 < later.length := List.length_pos_iff.mpr hl'
        have q3 := M.len
        omega
end
end SF
set_option Elab.async false
set_option linter.all false
set_option maxRecDepth 100000
set_option maxHeartbeats 8000000
/-! the walk: the law's draws and forms -/
namespace SF
open PySem PySem.Spec PyProof.Rows L2
abbrev sDraw : Stmt := topS 22
abbrev sPick : Stmt := topS 23
abbrev sLv : Stmt := topS 24
abbrev sFm : Stmt := topS 25
abbrev sNear : Stmt := topS 30
/-- all but the town stands -/
def But (t : Addr) (H H' : Hp) : Prop := ∀ b o, H b = some o → b ≠ t → H' b = some o
theorem But.refl (t : Addr) (H : Hp) : But t H H := fun _ _ e _ => e
theorem But.trans {t : Addr} {H H1 H2 : Hp} (a : But t H H1) (b : But t H1 H2) : But t H H2 := fun c o e n => b c o (a c o e n) n
theorem But.same {t : Addr} {H H1 : Hp} (a : Same H H1) : But t H H1 := fun c o e _ => a c o e
theorem But.upd {t : Addr} {H H1 : Hp} {o : HO} (a : But t H H1) : But t H (upd H1 t o) := fun c x e n => by
  rw [upd_ne n]
  exact a c x e n
def Town (H : Hp) (t : Addr) : Prop := ∃ p g : Int, H t = some (.lst [.int p, .int g]) ∧ 0 ≤ p
theorem But.tups {t : Addr} {H H' : Hp} (h : But t H H') (T : Town H t) : Tups H H' := fun b xs e => h b _ e (by
  obtain ⟨p, g, e', _⟩ := T
  exact ne_of e e' (fun z => nomatch z))
/-- the script: read, never written -/
def Scr (K : PySem.W.Frag) (H : Hp) (a t : Addr) : Prop := ∃ ns : List Int, SqL K H a (ns.map V.int) ∧ a ≠ t ∧ ns.length ≤ 63
theorem Scr.but {K : PySem.W.Frag} {H H' : Hp} {a t : Addr} (s : Scr K H a t) (b : But t H H') : Scr K H' a t := by
  obtain ⟨ns, (h | ⟨o, h⟩) | h, n, l⟩ := s
  · exact ⟨ns, .inl (.inl (b _ _ h n)), n, l⟩
  · exact ⟨ns, .inl (.inr ⟨o, b _ _ h n⟩), n, l⟩
  · exact ⟨ns, .inr h, n, l⟩
theorem small_mod (x : Int) : (x % 2147483647).natAbs < 2 ^ 64 := by
  have h1 := Int.emod_nonneg x (show (2147483647 : Int) ≠ 0 by decide)
  have h2 := Int.emod_lt_of_pos x (show (0 : Int) < 2147483647 by decide)
  omega
theorem big_mul : CMulW ((10 : Int) ^ (60 : Int).toNat) ((10 : Int) ^ (60 : Int).toNat) := by
  unfold CMulW
  decide +kernel
theorem big_pos : (0 : Int) < (10 : Int) ^ (60 : Int).toNat * (10 : Int) ^ (60 : Int).toNat := by decide +kernel
section
variable {P : Program} {w : World} {K : PySem.W.Frag} {mg : Str → Option Value} {base : Heap}
def spDraw (K : PySem.W.Frag) : Sp := fun vs H Q _ => ∃ a t m, vs = [.ref a, .ref t, .int m] ∧ Scr K H a t ∧ Town H t ∧ 0 < m ∧ m < 1000000 ∧ ∀ r H', 0 ≤ r → r < m → But t H H' → Town H' t → Q (.int r) H'
theorem scDraw : FnScope ["_law_script", "_law_town", "_law_many", "_law_one", "_law_at", "_law_mixed"] ["_law_script", "_law_town", "_law_many"] (defScope sDraw) := ⟨rfl, rfl, rfl, by decide +kernel, rfl, by decide +kernel, by decide +kernel⟩
theorem ok_draw {f : Addr} {fd : FuncData} (D : Def K mg "_law_draw" sDraw ["_law_script", "_law_town", "_law_many"] f fd) (T : Txt K mg) : FnOk P w K mg base CX0 1 f fd ["_law_script", "_law_town", "_law_many"] (spDraw K) := by
  refine D.F.ok scDraw (fun vs H Q E h => ?_) (fun cdv A outer s0 H vs Q E hr h => ?_)
  · obtain ⟨a, t, m, rfl, _⟩ := h
    rfl
  · obtain ⟨a, t, m, rfl, ⟨ns, hS, hat, hlen⟩, ⟨p, g, ht, hp⟩, m0, m1, k⟩ := h
    refine ⟨_, (pss_cons (ps_if (pt_cmpR op_gt (pe_ix ix_list (pv 1) pe_int (fun _ _ => rfl)) pe_int (nomark _)) (pss_cons (ps_set (i := 3) scDraw.nd rfl (Or.inl rfl) (pe_op op_mod (pe_ix ix_list (pv 1) pe_int (fun _ _ => rfl)) (pv 2)))
      (pss_cons (ps_asg (pe_op op_fdiv (pe_ix ix_list (pv 1) pe_int (fun _ _ => rfl)) (pv 2)) (pg_sub (pv 1) pe_int set_list))
      (pss_one (ps_ret (pv 3))))) pss_nil)
      (pss_cons (ps_set (i := 4) scDraw.nd rfl (Or.inl rfl) (pe_ix ix_list (pv 1) pe_int (fun _ _ => rfl)))
      (pss_cons (ps_augS (pv 1) pe_int get_list pe_int ip_add set_list)
      (pss_cons (ps_if (pt_cmpR (op_eqNil hr.units) (pv 0) (pe_lst pa_nil) (nomark _)) (pss_one (ps_ret (pe_op op_mod (pv 4) (pv 2)))) pss_nil)
      (pss_cons (ps_if (PW.pt (pw_and (pt_cmpR op_lt (pv 4) (pe_callB call_len_seq (by rfl) T.len (by decide +kernel) (pa_cons (pv 0) pa_nil)) (nomark _)) (pw_and1 (pt_cmpR op_ge (pe_ix ix_list (pv 0) (pv 4) (fun _ _ => rfl)) (pe_op op_pow pe_int pe_int) (nomark _))))) (pss_cons (ps_asg (pe_op op_mod (pe_op op_fdiv (pe_ix ix_list (pv 0) (pv 4) (fun _ _ => rfl)) (pv 2)) (pe_op op_mulW (pe_op op_pow pe_int pe_int) (pe_op op_pow pe_int pe_int))) (pg_sub (pv 1) pe_int set_list))
      (pss_one (ps_ret (pe_op op_mod (pe_ix ix_list (pv 0) (pv 4) (fun _ _ => rfl)) (pv 2))))) pss_nil)
      (pss_cons (ps_set (i := 5) scDraw.nd rfl (Or.inl rfl) (pe_op op_mod (pe_op op_add (pe_op op_add (pe_op op_mul (pe_ix ix_list (pv 0) (pe_op op_mod (pv 4) (pe_callB call_len_seq (by rfl) T.len (by decide +kernel) (pa_cons (pv 0) pa_nil))) (fun _ _ => rfl)) pe_int) (pe_op op_mul pe_int (pv 4))) pe_int) pe_int))
      (pss_one (ps_ret (pe_op op_mod (pe_op op_mod (pe_op op_mod (pe_op op_pow (pv 5) pe_int) pe_int) pe_int) (pv 2)))))))))), ?_⟩
    have mod_ok : ∀ x : Int, 0 ≤ x % m ∧ x % m < m := fun x => ⟨Int.emod_nonneg _ (by omega), Int.emod_lt_of_pos _ m0⟩
    refine ⟨_, rfl, t, _, 1, .int g, rfl, rfl, SqL.of ht, rfl, _, _, rfl, rfl, ?_⟩
    by_cases hg : 0 < g
    · refine ⟨true, congrArg V.bl (decide_eq_true hg), iteT ?_⟩
      refine ⟨_, rfl, t, _, 1, .int g, rfl, rfl, SqL.of ht, rfl, _, rfl, _, _, rfl, rfl, m0, ?_⟩
      refine ⟨_, rfl, t, _, 1, .int g, rfl, rfl, SqL.of ht, rfl, _, rfl, _, _, rfl, rfl, ⟨m0, by omega⟩, _, rfl, t, _, 1, 1, rfl, rfl, ht, rfl, _, rfl, ?_⟩
      exact k _ _ (mod_ok g).1 (mod_ok g).2 (But.upd (But.refl _ _)) ⟨p, g / m, upd_same, hp⟩
    · refine ⟨false, congrArg V.bl (decide_eq_false hg), iteF ?_⟩
      refine ⟨_, rfl, t, _, 0, .int p, rfl, rfl, SqL.of ht, rfl, ?_⟩
      refine ⟨_, rfl, t, _, 0, .int p, rfl, rfl, ht, Int.le_refl _, rfl, p, 1, rfl, rfl, t, _, 0, 0, rfl, rfl, ht, rfl, ?_⟩
      have b1 : But t H (upd H t (.lst [.int (p + 1), .int g])) := But.upd (But.refl _ _)
      have S1 : SqL K (upd H t (.lst [.int (p + 1), .int g])) a (ns.map V.int) := by
        rcases hS with (h | ⟨o, h⟩) | h
        · exact .inl (.inl (b1 _ _ h hat))
        · exact .inl (.inr ⟨o, b1 _ _ h hat⟩)
        · exact .inr h
      have ht1 : (upd H t (.lst [.int (p + 1), .int g])) t = some (.lst [.int (p + 1), .int g]) := upd_same
      show tSeq _ _ _ _ (upd H t (.lst [.int (p + 1), .int g]))
      generalize upd H t (.lst [.int (p + 1), .int g]) = H1 at *
      refine ⟨_, rfl, Nat.zero_le _, fun z nz => ⟨a, z, ns.map V.int, rfl, rfl, (same_new nz).seq S1, SqL.of upd_same, _, rfl, ?_⟩⟩
      have s2 := same_new (o := .lst []) nz
      have S2 := s2.seq S1
      have ht2 := s2 _ _ ht1
      have b2 := b1.trans (But.same s2)
      generalize upd H1 z (.lst []) = H2 at *
      cases ns with
      | nil =>
        refine iteT ?_
        refine ⟨_, rfl, _, rfl, _, _, rfl, rfl, m0, ?_⟩
        exact k _ _ (mod_ok p).1 (mod_ok p).2 b2 ⟨p + 1, g, ht2, by omega⟩
      | cons n0 nr =>
        refine iteF ?_
        have hl : ((n0 :: nr).map V.int).length = nr.length + 1 := by simp
        refine ⟨_, rfl, _, rfl, a, _, rfl, .inl S2, _, _, rfl, rfl, ?_⟩
        have hlen' : ((((n0 :: nr).map V.int).length : Nat) : Int) = ((nr.length + 1 : Nat) : Int) := by rw [hl]
        have hl0 : (0 : Int) < ((((n0 :: nr).map V.int).length : Nat) : Int) := by rw [hlen']; omega
        have at_ok : ∀ i : Int, 0 ≤ i → i < ((((n0 :: nr).map V.int).length : Nat) : Int) → ∃ x, atI ((n0 :: nr).map V.int) i = some (.int x) := fun i h0 h1 => by
          have h2 : i.toNat < (n0 :: nr).length := by rw [hlen'] at h1; simp; omega
          refine ⟨(n0 :: nr)[i.toNat], ?_⟩
          have e : i = ((i.toNat : Nat) : Int) := by omega
          exact at_of e (by rw [List.getElem?_map, List.getElem?_eq_getElem h2]; rfl)
        obtain ⟨mx, mq_at⟩ := at_ok (p % ((((n0 :: nr).map V.int).length : Nat) : Int)) (Int.emod_nonneg _ (by omega)) (Int.emod_lt_of_pos _ hl0)
        by_cases hp2 : p < ((((n0 :: nr).map V.int).length : Nat) : Int)
        · obtain ⟨x, hx⟩ := at_ok p hp hp2
          refine ⟨true, congrArg V.bl (decide_eq_true hp2), iteT ?_⟩
          refine ⟨_, rfl, _, rfl, a, _, p, .int x, rfl, rfl, S2, hx, _, _, rfl, rfl, ⟨by decide, by decide, by decide⟩, _, _, rfl, rfl, ?_⟩
          by_cases hb : (10 : Int) ^ (18 : Int).toNat ≤ x
          · refine ⟨true, congrArg V.bl (decide_eq_true hb), iteT ?_⟩
            refine ⟨_, rfl, _, rfl, a, _, p, .int x, rfl, rfl, S2, hx, _, rfl, _, _, rfl, rfl, ⟨m0, by omega⟩, _, _, rfl, rfl, ⟨by decide, by decide, by decide⟩, _, _, rfl, rfl, ⟨by decide, by decide, by decide⟩, _, _, rfl, rfl, big_mul, _, _, rfl, rfl, big_pos, _, rfl, t, _, 1, 1, rfl, rfl, ht2, rfl, ?_⟩
            have b3 : But t H2 (upd H2 t (.lst [.int (p + 1), .int (x / m % ((10 : Int) ^ (60 : Int).toNat * (10 : Int) ^ (60 : Int).toNat))])) := But.upd (But.refl _ _)
            have S3 : SqL K (upd H2 t (.lst [.int (p + 1), .int (x / m % ((10 : Int) ^ (60 : Int).toNat * (10 : Int) ^ (60 : Int).toNat))])) a ((n0 :: nr).map V.int) := by
              rcases S2 with (h | ⟨o, h⟩) | h
              · exact .inl (.inl (b3 _ _ h hat))
              · exact .inl (.inr ⟨o, b3 _ _ h hat⟩)
              · exact .inr h
            refine ⟨_, rfl, _, rfl, a, _, p, .int x, rfl, rfl, S3, hx, _, rfl, _, _, rfl, rfl, m0, ?_⟩
            exact k _ _ (mod_ok _).1 (mod_ok _).2 (b2.trans b3) ⟨p + 1, _, upd_same, by omega⟩
          · refine ⟨false, congrArg V.bl (decide_eq_false hb), iteF ?_⟩
            refine ⟨_, rfl, _, rfl, _, rfl, a, _, rfl, .inl S2, _, _, rfl, rfl, hl0, a, _, _, .int mx, rfl, rfl, S2, mq_at, ?_⟩
            refine ⟨_, _, rfl, rfl, .inr ⟨by decide, by decide⟩, _, rfl, _, _, rfl, rfl, .inl ⟨by decide, by decide⟩, _, _, rfl, rfl, _, _, rfl, rfl, _, _, rfl, rfl, (by show (0 : Int) < 2147483647; decide), ?_⟩
            refine ⟨_, rfl, _, _, rfl, rfl, ⟨by decide, by decide, ?_⟩, _, _, rfl, rfl, (by show (0 : Int) < 2147483647; decide), _, _, rfl, rfl, (by show (0 : Int) < 999983; decide), _, rfl, _, _, rfl, rfl, m0, ?_⟩
            · exact small_mod _
            · exact k _ _ (mod_ok _).1 (mod_ok _).2 b2 ⟨p + 1, g, ht2, by omega⟩
        · refine ⟨false, congrArg V.bl (decide_eq_false hp2), iteF (iteF ?_)⟩
          refine ⟨_, rfl, _, rfl, _, rfl, a, _, rfl, .inl S2, _, _, rfl, rfl, hl0, a, _, _, .int mx, rfl, rfl, S2, mq_at, ?_⟩
          refine ⟨_, _, rfl, rfl, .inr ⟨by decide, by decide⟩, _, rfl, _, _, rfl, rfl, .inl ⟨by decide, by decide⟩, _, _, rfl, rfl, _, _, rfl, rfl, _, _, rfl, rfl, (by show (0 : Int) < 2147483647; decide), ?_⟩
          refine ⟨_, rfl, _, _, rfl, rfl, ⟨by decide, by decide, ?_⟩, _, _, rfl, rfl, (by show (0 : Int) < 2147483647; decide), _, _, rfl, rfl, (by show (0 : Int) < 999983; decide), _, rfl, _, _, rfl, rfl, m0, ?_⟩
          · exact small_mod _
          · exact k _ _ (mod_ok _).1 (mod_ok _).2 b2 ⟨p + 1, g, ht2, by omega⟩
/-! ### pick, level, form -/
def spPick (K : PySem.W.Frag) : Sp := fun vs H Q _ => ∃ a t l xs, vs = [.ref a, .ref t, .ref l] ∧ Scr K H a t ∧ Town H t ∧ H l = some (.lst xs) ∧ l ≠ t ∧ 0 < xs.length ∧ xs.length < 1000 ∧ ∀ x H', x ∈ xs → But t H H' → Town H' t → Q x H'
theorem scPick : FnScope ["_law_script", "_law_town", "_law_some"] ["_law_script", "_law_town", "_law_some"] (defScope sPick) := ⟨rfl, rfl, rfl, by decide +kernel, rfl, by decide +kernel, by decide +kernel⟩
theorem ok_pick {f fD : Addr} {fd fdD : FuncData} (D : Def K mg "_law_pick" sPick ["_law_script", "_law_town", "_law_some"] f fd) (DD : Def K mg "_law_draw" sDraw ["_law_script", "_law_town", "_law_many"] fD fdD) (T : Txt K mg) :
    FnOk P w K mg base CX0 2 f fd ["_law_script", "_law_town", "_law_some"] (spPick K) := by
  have GD : FnOk P w K mg base CX0 1 fD fdD ["_law_script", "_law_town", "_law_many"] (spDraw K) := ok_draw DD T
  refine D.F.ok scPick (fun vs H Q E h => ?_) (fun cdv A outer s0 H vs Q E hr h => ?_)
  · obtain ⟨a, t, l, xs, rfl, _⟩ := h
    rfl
  · obtain ⟨a, t, l, xs, rfl, S, W, hl, hne, h0, h1, k⟩ := h
    refine ⟨_, (pss_one (ps_ret (pe_ix ix_list (pv 2) (pe_call GD hr (by rfl) DD.mgf DD.F.kp DD.b .nil pass0 (pa_cons (pv 0) (pa_cons (pv 1) (pa_cons (pe_callB call_len_seq (by rfl) T.len (by decide +kernel) (pa_cons (pv 2) pa_nil)) pa_nil)))) (fun _ _ => rfl)))), ?_⟩
    refine ⟨_, rfl, _, rfl, _, rfl, _, rfl, l, xs, rfl, .inl (SqL.of hl), a, t, _, rfl, S, W, by omega, by omega, fun r H1 r0 r1 b W1 => ?_⟩
    have hlt : r.toNat < xs.length := by omega
    refine ⟨l, xs, r, xs[r.toNat], rfl, rfl, SqL.of (b _ _ hl hne), at_of (show r = ((r.toNat : Nat) : Int) by omega) (List.getElem?_eq_getElem hlt), ?_⟩
    exact k _ _ (List.getElem_mem hlt) b W1
def spLv (K : PySem.W.Frag) : Sp := fun vs H Q _ => ∃ (a t : Addr) (z : Int) (m : Nat), vs = [.ref a, .ref t, .int z] ∧ z = (m : Nat) ∧ 1 ≤ m ∧ m ≤ 4 ∧ Scr K H a t ∧ Town H t ∧ ∀ v b H', Lev m v → LvAt H' b v → But t H H' → Town H' t → Q (.ref b) H'
theorem scLv : FnScope ["_law_script", "_law_town", "_law_most", "_law_target", "_law_cap"] ["_law_script", "_law_town", "_law_most"] (defScope sLv) := ⟨rfl, rfl, rfl, by decide +kernel, rfl, by decide +kernel, by decide +kernel⟩
theorem town_ne {H : Hp} {l t : Addr} (W : Town H t) (n : H l = none) : l ≠ t := by
  obtain ⟨p, g, e, _⟩ := W
  exact (ne_of_none e n).symm
theorem Town.same {H H' : Hp} {t : Addr} (W : Town H t) (s : Same H H') : Town H' t := by
  obtain ⟨p, g, e, h⟩ := W
  exact ⟨p, g, s _ _ e, h⟩
theorem ok_lv {f fD fK : Addr} {fd fdD fdK : FuncData} (D : Def K mg "_law_level" sLv ["_law_script", "_law_town", "_law_most"] f fd) (DD : Def K mg "_law_draw" sDraw ["_law_script", "_law_town", "_law_many"] fD fdD)
    (DK : Def K mg "_law_pick" sPick ["_law_script", "_law_town", "_law_some"] fK fdK) (T : Txt K mg) : FnOk P w K mg base CX0 3 f fd ["_law_script", "_law_town", "_law_most"] (spLv K) := by
  have GD : FnOk P w K mg base CX0 1 fD fdD ["_law_script", "_law_town", "_law_many"] (spDraw K) := ok_draw DD T
  have GK : FnOk P w K mg base CX0 2 fK fdK ["_law_script", "_law_town", "_law_some"] (spPick K) := ok_pick DK DD T
  refine D.F.ok scLv (fun vs H Q E h => ?_) (fun cdv A outer s0 H vs Q E hr h => ?_)
  · obtain ⟨a, t, z, m, rfl, _⟩ := h
    rfl
  · obtain ⟨a, t, z, m, rfl, hz, m1, m4, S, W, k⟩ := h
    have hr1 : Room 1 _ := hr.mono (by decide)
    refine ⟨_, (pss_cons (ps_set (i := 3) scLv.nd rfl (Or.inl rfl) (pe_op op_add pe_int (pe_call GD hr1 (by rfl) DD.mgf DD.F.kp DD.b .nil pass0 (pa_cons (pv 0) (pa_cons (pv 1) (pa_cons (pv 2) pa_nil))))))
      (pss_cons (ps_set (i := 4) scLv.nd rfl (Or.inl rfl) (pe_call GK hr (by rfl) DK.mgf DK.F.kp DK.b .nil pass0 (pa_cons (pv 0) (pa_cons (pv 1) (pa_cons (pe_lst (pa_cons pe_non (pa_cons pe_non (pa_cons (pv 3) (pa_cons (pe_op op_add (pv 3) pe_int) (pa_cons (pe_op op_add (pv 3) pe_int) pa_nil)))))) pa_nil)))))
      (pss_one (ps_ret (pe_tup (pa_cons (pv 3) (pa_cons (pe_op op_add pe_int (pe_call GD hr1 (by rfl) DD.mgf DD.F.kp DD.b .nil pass0 (pa_cons (pv 0) (pa_cons (pv 1) (pa_cons pe_int pa_nil))))) (pa_cons (pv 4) pa_nil)))))))), ?_⟩
    refine ⟨_, rfl, _, rfl, _, rfl, a, t, z, rfl, S, W, by omega, by omega, fun r H1 r0 r1 b1 W1 => ⟨_, _, rfl, rfl, ?_⟩⟩
    refine ⟨_, rfl, _, rfl, _, rfl, _, rfl, _, _, rfl, rfl, _, rfl, _, _, rfl, rfl, (by show 5 ≤ sizeLine; decide), fun l nl => ?_⟩
    have s2 := same_new (o := .lst [.non, .non, .int (1 + r), .int (1 + r + 1), .int (1 + r + 3)]) nl
    have b2 := b1.trans (But.same s2)
    refine ⟨a, t, l, _, rfl, S.but b2, W1.same s2, upd_same, town_ne W1 nl, by show 0 < 5; decide, by show 5 < 1000; decide, fun x H3 hx b3 W3 => ?_⟩
    have b13 := b2.trans b3
    refine ⟨_, rfl, _, rfl, _, rfl, a, t, 3, rfl, S.but b13, W3, by decide, by decide, fun r2 H4 q0 q1 b4 W4 => ⟨_, _, rfl, rfl, _, rfl, (by show 3 ≤ sizeLine; decide), fun b nb => ?_⟩⟩
    have s5 := same_new (o := .tup [.int (1 + r), .int (1 + r2), x]) nb
    obtain ⟨c, hc, hx2⟩ : ∃ c : Option Nat, capV c = x ∧ (c = none ∨ c = some (1 + r).toNat ∨ c = some ((1 + r).toNat + 1) ∨ c = some ((1 + r).toNat + 3)) := by
      simp only [List.mem_cons, List.not_mem_nil, or_false] at hx
      rcases hx with e | e | e | e | e
      · exact ⟨none, e.symm, .inl rfl⟩
      · exact ⟨none, e.symm, .inl rfl⟩
      · exact ⟨some (1 + r).toNat, by rw [e]; exact congrArg V.int (by omega), .inr (.inl rfl)⟩
      · exact ⟨some ((1 + r).toNat + 1), by rw [e]; exact congrArg V.int (by omega), .inr (.inr (.inl rfl))⟩
      · exact ⟨some ((1 + r).toNat + 3), by rw [e]; exact congrArg V.int (by omega), .inr (.inr (.inr rfl))⟩
    refine k ⟨(1 + r).toNat, (1 + r2).toNat, c⟩ b _ ⟨⟨?_, ?_⟩, ⟨?_, ?_⟩, hx2⟩ ?_ ((b13.trans b4).trans (But.same s5)) (W4.same s5)
    · show 1 ≤ (1 + r).toNat
      omega
    · show (1 + r).toNat ≤ m
      omega
    · show 1 ≤ (1 + r2).toNat
      omega
    · show (1 + r2).toNat ≤ 3
      omega
    · refine Eq.trans upd_same ?_
      show some (HO.tup [V.int (1 + r), V.int (1 + r2), x]) = some (HO.tup [V.int (((1 + r).toNat : Nat) : Int), V.int (((1 + r2).toNat : Nat) : Int), capV c])
      rw [hc, show (((1 + r).toNat : Nat) : Int) = 1 + r by omega, show (((1 + r2).toNat : Nat) : Int) = 1 + r2 by omega]
abbrev lvR (H : Hp) : Lvl → V → Prop := fun v x => ∃ b, x = .ref b ∧ LvAt H b v
theorem lvR_tups {H H' : Hp} (t : Tups H H') {f : Frm} {xs : List V} (r : Paired (lvR H) f xs) : Paired (lvR H') f xs := r.mono fun p x ⟨b, e, q⟩ => ⟨b, e, q.tups t⟩
def spFm (K : PySem.W.Frag) : Sp := fun vs H Q _ => ∃ a t, vs = [.ref a, .ref t] ∧ Scr K H a t ∧ Town H t ∧ ∀ f b H', Drawn f → FmAt H' b f → But t H H' → Town H' t → Q (.ref b) H'
theorem scFm : FnScope ["_law_script", "_law_town", "_law_levels", "_law_k"] ["_law_script", "_law_town"] (defScope sFm) := ⟨rfl, rfl, rfl, by decide +kernel, rfl, by decide +kernel, by decide +kernel⟩
theorem drawn_of {n m : Nat} (hm : m = if n < 3 then 5 - n else 2) (h1 : 1 ≤ n) (h3 : n ≤ 3) {f : Frm} (hl : f.length = n) (h : ∀ v ∈ f, Lev m v) : Drawn f := by
  have hn : n = 1 ∨ n = 2 ∨ n = 3 := by omega
  rcases hn with e | e | e
  · subst e
    match f, hl with
    | [a], _ => exact .inl ⟨a, rfl, by have := h a (by simp); rw [hm] at this; exact this⟩
  · subst e
    match f, hl with
    | [a, b], _ => exact .inr (.inl ⟨a, b, rfl, by have := h a (by simp); rw [hm] at this; exact this, by have := h b (by simp); rw [hm] at this; exact this⟩)
  · subst e
    match f, hl with
    | [a, b, c], _ => exact .inr (.inr ⟨a, b, c, rfl, by have := h a (by simp); rw [hm] at this; exact this, by have := h b (by simp); rw [hm] at this; exact this, by have := h c (by simp); rw [hm] at this; exact this⟩)
theorem ok_fm {f fD fK fL : Addr} {fd fdD fdK fdL : FuncData} (D : Def K mg "_law_form" sFm ["_law_script", "_law_town"] f fd) (DD : Def K mg "_law_draw" sDraw ["_law_script", "_law_town", "_law_many"] fD fdD)
    (DK : Def K mg "_law_pick" sPick ["_law_script", "_law_town", "_law_some"] fK fdK) (DL : Def K mg "_law_level" sLv ["_law_script", "_law_town", "_law_most"] fL fdL) (T : Txt K mg) : FnOk P w K mg base CX0 4 f fd ["_law_script", "_law_town"] (spFm K) := by
  have GK : FnOk P w K mg base CX0 2 fK fdK ["_law_script", "_law_town", "_law_some"] (spPick K) := ok_pick DK DD T
  have GL : FnOk P w K mg base CX0 3 fL fdL ["_law_script", "_law_town", "_law_most"] (spLv K) := ok_lv DL DD DK T
  refine D.F.ok scFm (fun vs H Q E h => ?_) (fun cdv A outer s0 H vs Q E hr h => ?_)
  · obtain ⟨a, t, rfl, _⟩ := h
    rfl
  · obtain ⟨a, t, rfl, S, W, k⟩ := h
    have hr2 : Room 2 _ := hr.mono (by decide)
    refine ⟨_, (pss_cons (ps_set (i := 2) scFm.nd rfl (Or.inr rfl) (pe_call GK hr2 (by rfl) DK.mgf DK.F.kp DK.b .nil pass0 (pa_cons (pv 0) (pa_cons (pv 1) (pa_cons (pe_lst (pa_cons pe_int (pa_cons pe_int (pa_cons pe_int (pa_cons pe_int (pa_cons pe_int pa_nil)))))) pa_nil)))))
      (pss_one (ps_ret (pe_callTy (T := "tuple") call_tuple_of (by rfl) T.tuple_ (by decide +kernel) (pa_cons (pe_lc (own := [("_law_k", 3)]) (g := gName 3) (tt := tYes) (by rfl) scFm.nd (pi_range1 (by rfl) T.rng (pa_cons (pv 2) pa_nil)) (blkOk_by (own := [("_law_k", 3)]) (N := ["_law_script", "_law_town", "_law_levels", "_law_k"]) (sc := defScope sFm) (by decide +kernel)) (fun _ _ _ _ _ => pg_name (i := 3) scFm.nd rfl (Or.inl rfl)) (fun _ _ _ _ _ => pts_nil) (fun _ _ _ _ _ => (pe_call GL hr (by rfl) DL.mgf DL.F.kp DL.b .nil pass0 (pa_cons (pv 0) (pa_cons (pv 1) (pa_cons (pe_ifExp (pt_cmpR op_lt (pv 2) pe_int (nomark _)) (pe_op op_sub pe_int (pv 2)) pe_int) pa_nil)))))) pa_nil))))), ?_⟩
    refine ⟨_, rfl, _, rfl, (by show 5 ≤ sizeLine; decide), fun l nl => ?_⟩
    have s1 := same_new (o := .lst [.int 1, .int 1, .int 2, .int 2, .int 3]) nl
    refine ⟨a, t, l, _, rfl, S.but (But.same s1), W.same s1, upd_same, town_ne W nl, by show 0 < 5; decide, by show 5 < 1000; decide, fun x H2 hx b2 W2 => ?_⟩
    have b12 := (But.same s1).trans b2
    obtain ⟨n, rfl, n1, n3⟩ : ∃ n : Nat, x = .int (n : Nat) ∧ 1 ≤ n ∧ n ≤ 3 := by
      simp only [List.mem_cons, List.not_mem_nil, or_false] at hx
      rcases hx with e | e | e | e | e
      · exact ⟨1, e, by decide, by decide⟩
      · exact ⟨1, e, by decide, by decide⟩
      · exact ⟨2, e, by decide, by decide⟩
      · exact ⟨2, e, by decide, by decide⟩
      · exact ⟨3, e, by decide, by decide⟩
    obtain ⟨m, hm⟩ : ∃ m : Nat, m = if n < 3 then 5 - n else 2 := ⟨_, rfl⟩
    refine ⟨_, rfl, (n : Nat), rfl, by omega, by omega, fun d nd => ?_⟩
    have s3 := same_new (o := .lst []) nd
    have ndt : d ≠ t := town_ne W2 nd
    refine lc_range (lo := 0) (n := (((n : Nat) : Int)).toNat) (fun i H1 => ∃ (fm : Frm) (xs : List V), H1 d = some (.lst xs) ∧ Paired (lvR H1) fm xs ∧ fm.length = i ∧ (∀ v ∈ fm, Lev m v) ∧ But t H2 H1 ∧ Town H1 t)
      ⟨[], [], upd_same, .nil, rfl, (fun _ h => nomatch h), But.same s3, W2.same s3⟩ ?_ ?_
    · rintro i H1 hi ⟨fm, xs, z1, z2, z3, z4, z5, z6⟩
      have b1 := b12.trans z5
      have go : ∀ z : Int, z = (m : Nat) → spLv K ([.ref a, .ref t, .int z] ++ []) H1 (fun y H4 => ∃ acc, H4 d = some (.lst acc) ∧ acc.length < sizeLine ∧ ∃ (fm : Frm) (xs : List V), (upd H4 d (.lst (acc ++ [y]))) d = some (.lst xs) ∧
          Paired (lvR (upd H4 d (.lst (acc ++ [y])))) fm xs ∧ fm.length = i + 1 ∧ (∀ v ∈ fm, Lev m v) ∧ But t H2 (upd H4 d (.lst (acc ++ [y]))) ∧ Town (upd H4 d (.lst (acc ++ [y]))) t) E0 := fun z hz => by
        refine ⟨a, t, z, m, rfl, hz, by split at hm <;> omega, by split at hm <;> omega, S.but b1, z6, fun v b H4 hv hb b4 W4 => ?_⟩
        have hd4 := b4 _ _ z1 ndt
        have xl : xs.length = i := by rw [← z3]; exact z2.length.symm
        have hi' : i < 3 := by omega
        have t4 := b4.tups z6
        have t5 : Tups H4 (upd H4 d (.lst (xs ++ [.ref b]))) := tups_lst hd4
        refine ⟨xs, hd4, small1000 (by omega), fm ++ [v], xs ++ [.ref b], upd_same, Paired.snoc (lvR_tups (t4.trans t5) z2) ⟨b, rfl, hb.tups t5⟩, by simp [z3], fun u hu => ?_, fun c o e ne => ?_, ?_⟩
        · rcases List.mem_append.mp hu with hu | hu
          · exact z4 u hu
          · rw [List.mem_singleton.mp hu]
            exact hv
        · rw [upd_ne (ne_of_none e nd)]
          exact (z5.trans b4) _ _ e ne
        · obtain ⟨p, g, e1, e2⟩ := W4
          exact ⟨p, g, by rw [upd_ne ndt.symm]; exact e1, e2⟩
      refine ⟨rfl, ?_⟩
      refine ⟨_, rfl, _, rfl, _, rfl, _, _, rfl, rfl, decide (n < 3), congrArg V.bl ?_, ite2 (fun q => ?_) (fun q => ?_)⟩
      · by_cases q : n < 3
        · rw [decide_eq_true q]
          exact decide_eq_true (by omega)
        · rw [decide_eq_false q]
          exact decide_eq_false (by omega)
      · have q' := of_decide_eq_true q
        refine ⟨_, rfl, _, _, rfl, rfl, ?_⟩
        exact go _ (by rw [hm, if_pos q']; omega)
      · have q' : ¬ n < 3 := fun z => q (decide_eq_true z)
        exact go _ (by rw [hm, if_neg q']; rfl)
    · rintro H1 ⟨fm, xs, z1, z2, z3, z4, z5, z6⟩
      refine ⟨d, xs, rfl, .inl ⟨SqL.of z1, fun q nq => ?_⟩⟩
      have s6 := same_new (o := .tup xs) nq
      exact k fm q _ (drawn_of hm n1 n3 (by rw [z3]; omega) z4) ⟨xs, upd_same, lvR_tups (Tups.of s6) z2⟩ ((b12.trans z5).trans (But.same s6)) (z6.same s6)
end
end SF
set_option Elab.async false
set_option linter.all false
set_option maxRecDepth 100000
set_option maxHeartbeats 8000000
/-! the walk: the form beside a form -/
namespace SF
open PySem PySem.Spec PyProof.Rows L2
section
variable {K : PySem.W.Frag}
theorem sl_to {H : Hp} {a : Addr} {xs : List V} {i : Nat} {Q : VK} (ha : H a = some (.tup xs)) (hi : i ≤ xs.length) (k : ∀ b H', Same H H' → H' b = some (.tup (xs.take i)) → Q (.ref b) H') : rSlA K (.ref a) none (some (i : Int)) H Q := by
  refine ⟨a, xs, rfl, SqT.of ha, fun ⟨_, h2⟩ => ?_, fun _ p np => ?_⟩
  · rw [HT.sIx_nat] at h2
    refine k a H (Same.refl _) ?_
    rw [ha, List.take_of_length_le (by omega)]
  · refine k p _ (same_new np) ?_
    rw [upd_same]
    unfold cutV
    rw [HT.sIx_nat, HT.sIx_none, List.drop_zero, Nat.sub_zero, Nat.min_eq_left hi]
theorem sl_from {H : Hp} {a : Addr} {xs : List V} {i : Nat} {Q : VK} (ha : H a = some (.tup xs)) (hi : i ≤ xs.length) (k : ∀ b H', Same H H' → H' b = some (.tup (xs.drop i)) → Q (.ref b) H') : rSlA K (.ref a) (some (i : Int)) none H Q := by
  refine ⟨a, xs, rfl, SqT.of ha, fun ⟨h1, _⟩ => ?_, fun _ p np => ?_⟩
  · rw [HT.sIx_nat] at h1
    refine k a H (Same.refl _) ?_
    rw [ha, show i = 0 by omega, List.drop_zero]
  · refine k p _ (same_new np) ?_
    rw [upd_same]
    unfold cutV
    rw [HT.sIx_nat, HT.sIx_none, Nat.min_eq_left hi, List.take_of_length_le (by simp)]
theorem cat_is {H : Hp} {a b : Addr} {xs ys : List V} {Q : VK} (ha : H a = some (.tup xs)) (hb : H b = some (.tup ys)) (hz : xs.length + ys.length ≤ sizeLine) (k : ∀ c H', Same H H' → H' c = some (.tup (xs ++ ys)) → Q (.ref c) H') : rCatA K (.ref a) (.ref b) H Q := by
  refine ⟨a, b, xs, ys, rfl, rfl, SqT.of ha, SqT.of hb, hz, fun e => ?_, fun _ e => ?_, fun _ _ p np => ?_⟩
  · subst e
    exact k b H (Same.refl _) hb
  · subst e
    exact k a H (Same.refl _) (by rw [List.append_nil]; exact ha)
  · exact k p _ (same_new np) upd_same
theorem paired_take {α β : Type} {R : α → β → Prop} : ∀ {l : List α} {m : List β} (i : Nat), Paired R l m → Paired R (l.take i) (m.take i)
  | _, _, 0, _ => by rw [List.take_zero, List.take_zero]; exact .nil
  | _, _, i + 1, .nil => .nil
  | _, _, i + 1, .cons r t => .cons r (paired_take i t)
theorem paired_drop {α β : Type} {R : α → β → Prop} : ∀ {l : List α} {m : List β} (i : Nat), Paired R l m → Paired R (l.drop i) (m.drop i)
  | _, _, 0, h => h
  | _, _, i + 1, .nil => .nil
  | _, _, i + 1, .cons r t => paired_drop i t
theorem paired_app {α β : Type} {R : α → β → Prop} : ∀ {l l' : List α} {m m' : List β}, Paired R l m → Paired R l' m' → Paired R (l ++ l') (m ++ m')
  | _, _, _, _, .nil, h => h
  | _, _, _, _, .cons r t, h => .cons r (paired_app t h)
end
theorem small3 {n : Nat} (h : n ≤ 3) : n ≤ sizeLine := Nat.le_trans h (by decide)
section
variable {P : Program} {w : World} {K : PySem.W.Frag} {mg : Str → Option Value} {base : Heap}
def spNear (K : PySem.W.Frag) : Sp := fun vs H Q _ => ∃ a t b f, vs = [.ref a, .ref t, .ref b] ∧ Scr K H a t ∧ Town H t ∧ FmAt H b f ∧ 1 ≤ f.length ∧ f.length ≤ 3 ∧ ∀ g c H', NearF f g → FmAt H' c g → But t H H' → Town H' t → Q (.ref c) H'
theorem scNear : FnScope ["_law_script", "_law_town", "_law_form_here", "_law_at", "_law_target", "_law_lead", "_law_cap", "_law_what"] ["_law_script", "_law_town", "_law_form_here"] (defScope sNear) := ⟨rfl, rfl, rfl, by decide +kernel, rfl, by decide +kernel, by decide +kernel⟩
theorem ok_near {f fD : Addr} {fd fdD : FuncData} (D : Def K mg "_law_near" sNear ["_law_script", "_law_town", "_law_form_here"] f fd) (DD : Def K mg "_law_draw" sDraw ["_law_script", "_law_town", "_law_many"] fD fdD) (T : Txt K mg) :
    FnOk P w K mg base CX0 2 f fd ["_law_script", "_law_town", "_law_form_here"] (spNear K) := by
  have GD : FnOk P w K mg base CX0 1 fD fdD ["_law_script", "_law_town", "_law_many"] (spDraw K) := ok_draw DD T
  refine D.F.ok scNear (fun vs H Q E h => ?_) (fun cdv A outer s0 H vs Q E hr h => ?_)
  · obtain ⟨a, t, b, f, rfl, _⟩ := h
    rfl
  · obtain ⟨a, t, b, f, rfl, S, W, hf, l1, l3, k⟩ := h
    obtain ⟨xs, hb, rf⟩ := id hf
    have hl := rf.length
    have bt : b ≠ t := by
      obtain ⟨p, g, e, _⟩ := W
      exact ne_of hb e (fun z => nomatch z)
    refine ⟨_, (pss_cons (ps_set (i := 3) scNear.nd rfl (Or.inl rfl) (pe_call GD hr (by rfl) DD.mgf DD.F.kp DD.b .nil pass0 (pa_cons (pv 0) (pa_cons (pv 1) (pa_cons (pe_callB call_len_seq (by rfl) T.len (by decide +kernel) (pa_cons (pv 2) pa_nil)) pa_nil)))))
      (pss_cons (ps_asg (pe_ix ix_tup (pv 2) (pv 3) (fun _ _ => rfl)) (pg_tup rfl (pgs_cons (pg_name (i := 4) scNear.nd rfl (Or.inl rfl)) (pgs_cons (pg_name (i := 5) scNear.nd rfl (Or.inl rfl)) (pgs_cons (pg_name (i := 6) scNear.nd rfl (Or.inl rfl)) pgs_nil)))))
      (pss_cons (ps_set (i := 7) scNear.nd rfl (Or.inl rfl) (pe_call GD hr (by rfl) DD.mgf DD.F.kp DD.b .nil pass0 (pa_cons (pv 0) (pa_cons (pv 1) (pa_cons pe_int pa_nil)))))
      (pss_cons (ps_if (pt_cmpR op_eq (pv 7) pe_int (nomark _)) (pss_one (ps_set (i := 6) scNear.nd rfl (Or.inl rfl) (pe_ifExp (pt_cmp (pc_notN (pv 6))) pe_non (pe_op op_add (pv 4) (pe_call GD hr (by rfl) DD.mgf DD.F.kp DD.b .nil pass0 (pa_cons (pv 0) (pa_cons (pv 1) (pa_cons pe_int pa_nil)))))))) (pss_one (ps_if (pt_cmpR op_eq (pv 7) pe_int (nomark _)) (pss_one (ps_set (i := 5) scNear.nd rfl (Or.inl rfl) (pe_op op_add pe_int (pe_call GD hr (by rfl) DD.mgf DD.F.kp DD.b .nil pass0 (pa_cons (pv 0) (pa_cons (pv 1) (pa_cons pe_int pa_nil))))))) (pss_one (ps_if (pt_cmpR op_eq (pv 7) pe_int (nomark _)) (pss_cons (ps_set (i := 4) scNear.nd rfl (Or.inl rfl) (pe_op op_add pe_int (pe_op op_mod (pv 4) pe_int)))
      (pss_one (ps_set (i := 6) scNear.nd rfl (Or.inl rfl) (pe_ifExp (pt_cmp (pc_isN (pv 6))) pe_non (pe_callB (call_max2 rfl) (by rfl) T.max_ (by decide +kernel) (pa_cons (pv 6) (pa_cons (pv 4) pa_nil))))))) (pss_one (ps_ret (pe_ifExp (pt_cmpR op_lt (pe_callB call_len_seq (by rfl) T.len (by decide +kernel) (pa_cons (pv 2) pa_nil)) pe_int (nomark _)) (pe_op op_catA (pe_op op_catA (pe_slice sl_tupA (pv 2) po_none (po_some (pv 3))) (pe_tup (pa_cons (pe_tup (pa_cons pe_int (pa_cons pe_int (pa_cons pe_non pa_nil)))) pa_nil))) (pe_slice sl_tupA (pv 2) (po_some (pv 3)) po_none)) (pv 2)))))))))
      (pss_one (ps_ret (pe_op op_catA (pe_op op_catA (pe_slice sl_tupA (pv 2) po_none (po_some (pv 3))) (pe_tup (pa_cons (pe_tup (pa_cons (pv 4) (pa_cons (pv 5) (pa_cons (pv 6) pa_nil)))) pa_nil))) (pe_slice sl_tupA (pv 2) (po_some (pe_op op_add (pv 3) pe_int)) po_none)))))))), ?_⟩
    refine ⟨_, rfl, _, rfl, _, rfl, b, xs, rfl, .inr (SqT.of hb), a, t, _, rfl, S, W, by omega, by omega, fun at' H1 r0 r1 b1 W1 => ?_⟩
    have S1 := S.but b1
    have t1 := b1.tups W
    have hb1 : H1 b = some (.tup xs) := b1 _ _ hb bt
    obtain ⟨i, hi⟩ : ∃ i : Nat, at' = (i : Nat) := ⟨at'.toNat, by omega⟩
    subst hi
    have il : i < xs.length := by omega
    have ilf : i < f.length := by omega
    obtain ⟨⟨vt, vl, vc⟩, hv, vb, hxv, hvb⟩ := Paired.at' rf (List.getElem?_eq_getElem il)
    have hx : xs[i]? = some (.ref vb) := by rw [List.getElem?_eq_getElem il, hxv]
    refine ⟨_, rfl, _, rfl, b, xs, (i : Nat), .ref vb, rfl, rfl, SqT.of hb1, atI_nat hx, vb, lvV ⟨vt, vl, vc⟩, rfl, SqT.of (t1 _ _ hvb), rfl, _, _, rfl, _, _, rfl, _, _, rfl, rfl, ?_⟩
    refine ⟨_, rfl, _, rfl, a, t, 4, rfl, S1, W1, by decide, by decide, fun wh H2 w0 w1 b2 W2 => ?_⟩
    have b12 := b1.trans b2
    have S2 := S1.but b2
    have fin : ∀ (H3 H4 : Hp) (q c : Addr) (u : Lvl), NearL ⟨vt, vl, vc⟩ u → But t H H3 → Town H3 t → Same H3 H4 → H4 c = some (.tup (xs.take i ++ [.ref q] ++ xs.drop (i + 1))) → LvAt H4 q u → Q (.ref c) H4 := fun H3 H4 q c u hu b3 W3 s34 e hq =>
      k _ c H4 (.inl ⟨i, ⟨vt, vl, vc⟩, u, hv, hu, rfl⟩) ⟨_, e, by
        rw [List.append_assoc]
        have z := lvR_tups ((b3.tups W).trans (Tups.of s34)) rf
        exact paired_app (paired_take i z) (.cons ⟨q, rfl, hq⟩ (paired_drop (i + 1) z))⟩ (b3.trans (But.same s34)) (W3.same s34)
    have hz : (xs.take i).length + 1 + (xs.drop (i + 1)).length ≤ 3 := by
      rw [List.length_take, List.length_drop]
      omega
    by_cases h0 : wh = 0
    · subst h0
      refine ⟨_, rfl, rfl, true, congrArg V.bl (decide_eq_true rfl), iteT ?_⟩
      cases vc with
      | some c =>
        refine ⟨_, rfl, true, congrArg (fun b => V.bl (!b)) (decide_eq_false (fun z => nomatch z)), iteT ?_⟩
        have hb3 := b12 _ _ hb bt
        refine ⟨_, rfl, _, rfl, (i : Nat), rfl, sl_to hb3 (by omega) fun c1 H4 s4 e4 => ⟨_, rfl, _, rfl, _, rfl, (by show 3 ≤ sizeLine; decide), fun q nq => ⟨(by show 1 ≤ sizeLine; decide), fun y ny => ?_⟩⟩⟩
        have s5 := same_new (o := .tup [.int (vt : Nat), .int (vl : Nat), .non]) nq
        have s6 := same_new (o := .tup [.ref q]) ny
        refine cat_is ((s5.trans s6) _ _ e4) upd_same (small3 (by simp; omega)) fun c2 H6 s7 e6 => ?_
        have s36 := (s4.trans (s5.trans s6)).trans s7
        refine ⟨_, rfl, _, rfl, _, _, rfl, rfl, ((i + 1 : Nat) : Int), congrArg V.int (by omega), ?_⟩
        unfold tNoPart
        refine sl_from (i := i + 1) (s36 _ _ hb3) (by omega) fun c3 H7 s8 e7 => ?_
        refine cat_is (s8 _ _ e6) e7 (small3 (by simp; omega)) fun c4 H8 s9 e8 => ?_
        have s38 := s36.trans (s8.trans s9)
        have hq := (s6.trans (s7.trans (s8.trans s9))) _ _ (upd_same (H := H4) (a := q) (o := .tup [.int (vt : Nat), .int (vl : Nat), .non]))
        exact fin H2 H8 q c4 ⟨vt, vl, none⟩ (.inl ⟨(fun z => nomatch z), rfl⟩) b12 W2 s38 e8 hq
      | none =>
        refine ⟨_, rfl, false, congrArg (fun b => V.bl (!b)) (decide_eq_true rfl), iteF ?_⟩
        refine ⟨_, rfl, _, rfl, _, rfl, a, t, 3, rfl, S2, W2, by decide, by decide, fun r H3 q0 q1 b3 W3 => ⟨_, _, rfl, rfl, ?_⟩⟩
        have hb3 := (b12.trans b3) _ _ hb bt
        refine ⟨_, rfl, _, rfl, (i : Nat), rfl, sl_to hb3 (by omega) fun c1 H4 s4 e4 => ⟨_, rfl, _, rfl, _, rfl, (by show 3 ≤ sizeLine; decide), fun q nq => ⟨(by show 1 ≤ sizeLine; decide), fun y ny => ?_⟩⟩⟩
        have s5 := same_new (o := .tup [.int (vt : Nat), .int (vl : Nat), .int ((vt : Nat) + r)]) nq
        have s6 := same_new (o := .tup [.ref q]) ny
        refine cat_is ((s5.trans s6) _ _ e4) upd_same (small3 (by simp; omega)) fun c2 H6 s7 e6 => ?_
        have s36 := (s4.trans (s5.trans s6)).trans s7
        refine ⟨_, rfl, _, rfl, _, _, rfl, rfl, ((i + 1 : Nat) : Int), congrArg V.int (by omega), ?_⟩
        unfold tNoPart
        refine sl_from (i := i + 1) (s36 _ _ hb3) (by omega) fun c3 H7 s8 e7 => ?_
        refine cat_is (s8 _ _ e6) e7 (small3 (by simp; omega)) fun c4 H8 s9 e8 => ?_
        have s38 := s36.trans (s8.trans s9)
        have hq := (s6.trans (s7.trans (s8.trans s9))) _ _ (upd_same (H := H4) (a := q) (o := .tup [.int (vt : Nat), .int (vl : Nat), .int ((vt : Nat) + r)]))
        refine fin H3 H8 q c4 ⟨vt, vl, some (vt + r.toNat)⟩ (.inr (.inl ⟨rfl, r.toNat, by omega, rfl⟩)) (b12.trans b3) W3 s38 e8 (hq.trans ?_)
        show some (HO.tup [.int (vt : Nat), .int (vl : Nat), .int ((vt : Nat) + r)]) = some (HO.tup [.int (vt : Nat), .int (vl : Nat), .int ((vt + r.toNat : Nat) : Int)])
        rw [show ((vt + r.toNat : Nat) : Int) = (vt : Nat) + r by omega]
    · refine ⟨_, rfl, rfl, false, congrArg V.bl (decide_eq_false fun z => h0 (V.int.inj z)), iteF ?_⟩
      by_cases h1 : wh = 1
      · subst h1
        refine ⟨_, rfl, rfl, true, congrArg V.bl (decide_eq_true rfl), iteT ?_⟩
        refine ⟨_, rfl, _, rfl, a, t, 3, rfl, S2, W2, by decide, by decide, fun r H3 q0 q1 b3 W3 => ⟨_, _, rfl, rfl, ?_⟩⟩
        have hb3 := (b12.trans b3) _ _ hb bt
        refine ⟨_, rfl, _, rfl, (i : Nat), rfl, sl_to hb3 (by omega) fun c1 H4 s4 e4 => ⟨_, rfl, _, rfl, _, rfl, (by show 3 ≤ sizeLine; decide), fun q nq => ⟨(by show 1 ≤ sizeLine; decide), fun y ny => ?_⟩⟩⟩
        have s5 := same_new (o := .tup [.int (vt : Nat), .int (1 + r), capV vc]) nq
        have s6 := same_new (o := .tup [.ref q]) ny
        refine cat_is ((s5.trans s6) _ _ e4) upd_same (small3 (by simp; omega)) fun c2 H6 s7 e6 => ?_
        have s36 := (s4.trans (s5.trans s6)).trans s7
        refine ⟨_, rfl, _, rfl, _, _, rfl, rfl, ((i + 1 : Nat) : Int), congrArg V.int (by omega), ?_⟩
        unfold tNoPart
        refine sl_from (i := i + 1) (s36 _ _ hb3) (by omega) fun c3 H7 s8 e7 => ?_
        refine cat_is (s8 _ _ e6) e7 (small3 (by simp; omega)) fun c4 H8 s9 e8 => ?_
        have s38 := s36.trans (s8.trans s9)
        have hq := (s6.trans (s7.trans (s8.trans s9))) _ _ (upd_same (H := H4) (a := q) (o := .tup [.int (vt : Nat), .int (1 + r), capV vc]))
        refine fin H3 H8 q c4 ⟨vt, 1 + r.toNat, vc⟩ (.inr (.inr (.inl ⟨r.toNat, by omega, rfl⟩))) (b12.trans b3) W3 s38 e8 (hq.trans ?_)
        show some (HO.tup [.int (vt : Nat), .int (1 + r), capV vc]) = some (HO.tup [.int (vt : Nat), .int ((1 + r.toNat : Nat) : Int), capV vc])
        rw [show ((1 + r.toNat : Nat) : Int) = 1 + r by omega]
      · refine ⟨_, rfl, rfl, false, congrArg V.bl (decide_eq_false fun z => h1 (V.int.inj z)), iteF ?_⟩
        by_cases h2 : wh = 2
        · subst h2
          refine ⟨_, rfl, rfl, true, congrArg V.bl (decide_eq_true rfl), iteT ?_⟩
          refine ⟨_, rfl, _, _, rfl, rfl, (by show (0 : Int) < 3; decide), _, _, rfl, rfl, ?_⟩
          have hb3 := b12 _ _ hb bt
          have et : (1 : Int) + (vt : Nat) % 3 = ((1 + vt % 3 : Nat) : Int) := by omega
          cases vc with
          | none =>
            refine ⟨_, rfl, true, congrArg V.bl (decide_eq_true rfl), iteT ?_⟩
            refine ⟨_, rfl, _, rfl, (i : Nat), rfl, sl_to hb3 (by omega) fun c1 H4 s4 e4 => ⟨_, rfl, _, rfl, _, rfl, (by show 3 ≤ sizeLine; decide), fun q nq => ⟨(by show 1 ≤ sizeLine; decide), fun y ny => ?_⟩⟩⟩
            have s5 := same_new (o := .tup [.int (1 + (vt : Nat) % 3), .int (vl : Nat), .non]) nq
            have s6 := same_new (o := .tup [.ref q]) ny
            refine cat_is ((s5.trans s6) _ _ e4) upd_same (small3 (by simp; omega)) fun c2 H6 s7 e6 => ?_
            have s36 := (s4.trans (s5.trans s6)).trans s7
            refine ⟨_, rfl, _, rfl, _, _, rfl, rfl, ((i + 1 : Nat) : Int), congrArg V.int (by omega), ?_⟩
            unfold tNoPart
            refine sl_from (i := i + 1) (s36 _ _ hb3) (by omega) fun c3 H7 s8 e7 => ?_
            refine cat_is (s8 _ _ e6) e7 (small3 (by simp; omega)) fun c4 H8 s9 e8 => ?_
            have s38 := s36.trans (s8.trans s9)
            have hq := (s6.trans (s7.trans (s8.trans s9))) _ _ (upd_same (H := H4) (a := q) (o := .tup [.int (1 + (vt : Nat) % 3), .int (vl : Nat), .non]))
            refine fin H2 H8 q c4 ⟨1 + vt % 3, vl, none⟩ (.inr (.inr (.inr rfl))) b12 W2 s38 e8 (hq.trans ?_)
            show some (HO.tup [.int (1 + (vt : Nat) % 3), .int (vl : Nat), .non]) = some (HO.tup [.int ((1 + vt % 3 : Nat) : Int), .int (vl : Nat), .non])
            rw [et]
          | some c =>
            refine ⟨_, rfl, false, congrArg V.bl (decide_eq_false (fun z => nomatch z)), iteF ?_⟩
            refine ⟨_, rfl, _, rfl, (c : Nat), 1 + (vt : Nat) % 3, rfl, ?_⟩
            obtain ⟨mx, hmx⟩ : ∃ mx : Int, mx = (if (1 + ((vt : Nat) : Int) % 3) > ((c : Nat) : Int) then (1 + ((vt : Nat) : Int) % 3) else ((c : Nat) : Int) : Int) := ⟨_, rfl⟩
            rw [← hmx]
            refine ⟨_, rfl, _, rfl, (i : Nat), rfl, sl_to hb3 (by omega) fun c1 H4 s4 e4 => ⟨_, rfl, _, rfl, _, rfl, (by show 3 ≤ sizeLine; decide), fun q nq => ⟨(by show 1 ≤ sizeLine; decide), fun y ny => ?_⟩⟩⟩
            have s5 := same_new (o := .tup [.int (1 + (vt : Nat) % 3), .int (vl : Nat), .int mx]) nq
            have s6 := same_new (o := .tup [.ref q]) ny
            refine cat_is ((s5.trans s6) _ _ e4) upd_same (small3 (by simp; omega)) fun c2 H6 s7 e6 => ?_
            have s36 := (s4.trans (s5.trans s6)).trans s7
            refine ⟨_, rfl, _, rfl, _, _, rfl, rfl, ((i + 1 : Nat) : Int), congrArg V.int (by omega), ?_⟩
            unfold tNoPart
            refine sl_from (i := i + 1) (s36 _ _ hb3) (by omega) fun c3 H7 s8 e7 => ?_
            refine cat_is (s8 _ _ e6) e7 (small3 (by simp; omega)) fun c4 H8 s9 e8 => ?_
            have s38 := s36.trans (s8.trans s9)
            have hq := (s6.trans (s7.trans (s8.trans s9))) _ _ (upd_same (H := H4) (a := q) (o := .tup [.int (1 + (vt : Nat) % 3), .int (vl : Nat), .int mx]))
            refine fin H2 H8 q c4 ⟨1 + vt % 3, vl, some (max c (1 + vt % 3))⟩ (.inr (.inr (.inr rfl))) b12 W2 s38 e8 (hq.trans ?_)
            show some (HO.tup [.int (1 + (vt : Nat) % 3), .int (vl : Nat), .int mx]) = some (HO.tup [.int ((1 + vt % 3 : Nat) : Int), .int (vl : Nat), .int ((max c (1 + vt % 3) : Nat) : Int)])
            rw [et, show mx = ((max c (1 + vt % 3) : Nat) : Int) by rw [hmx]; split <;> omega]
        · refine ⟨_, rfl, rfl, false, congrArg V.bl (decide_eq_false fun z => h2 (V.int.inj z)), iteF ?_⟩
          have hb3 := b12 _ _ hb bt
          by_cases hs : xs.length < 3
          · refine ⟨_, rfl, b, xs, rfl, .inr (SqT.of hb3), _, _, rfl, rfl, true, congrArg V.bl (decide_eq_true (by omega)), iteT ?_⟩
            refine ⟨_, rfl, _, rfl, (i : Nat), rfl, sl_to hb3 (by omega) fun c1 H4 s4 e4 => ⟨(by show 3 ≤ sizeLine; decide), fun q nq => ⟨(by show 1 ≤ sizeLine; decide), fun y ny => ?_⟩⟩⟩
            have s5 := same_new (o := .tup [.int 1, .int 1, .non]) nq
            have s6 := same_new (o := .tup [.ref q]) ny
            refine cat_is ((s5.trans s6) _ _ e4) upd_same (small3 (by simp; omega)) fun c2 H6 s7 e6 => ?_
            have s36 := (s4.trans (s5.trans s6)).trans s7
            refine ⟨_, rfl, _, rfl, (i : Nat), rfl, ?_⟩
            unfold tNoPart
            refine sl_from (i := i) (s36 _ _ hb3) (by omega) fun c3 H7 s8 e7 => ?_
            refine cat_is (s8 _ _ e6) e7 (small3 (by simp; omega)) fun c4 H8 s9 e8 => ?_
            have s38 := s36.trans (s8.trans s9)
            have hq := (s6.trans (s7.trans (s8.trans s9))) _ _ (upd_same (H := H4) (a := q) (o := .tup [.int 1, .int 1, .non]))
            refine k (f.take i ++ one1 :: f.drop i) c4 H8 (.inr (.inl ⟨i, ilf, by omega, rfl⟩)) ⟨_, e8, ?_⟩ (b12.trans (But.same s38)) (W2.same s38)
            rw [List.append_assoc]
            have z := lvR_tups ((b12.tups W).trans (Tups.of s38)) rf
            exact paired_app (paired_take i z) (.cons ⟨q, rfl, hq⟩ (paired_drop i z))
          · refine ⟨_, rfl, b, xs, rfl, .inr (SqT.of hb3), _, _, rfl, rfl, false, congrArg V.bl (decide_eq_false (by omega)), iteF ?_⟩
            exact ⟨_, rfl, k f b H2 (.inr (.inr rfl)) ⟨xs, hb3, lvR_tups (b12.tups W) rf⟩ b12 W2⟩
end
end SF
set_option Elab.async false
set_option linter.all false
set_option maxRecDepth 100000
set_option maxHeartbeats 8000000
/-! the walk: the law's own play: won, after, play -/
namespace SF
open PySem PySem.Spec PyProof.Rows L2
abbrev sWon : Stmt := topS 26
abbrev sLaf : Stmt := topS 27
abbrev sPlay : Stmt := topS 28
/-- list(x), tuple(x), t[i] in a comprehension's body, where the frag is to be named -/
def rListK (K : PySem.W.Frag) : List V → Hp → VK → Prop := fun xs H Q => ∃ p ys, xs = [.ref p] ∧ (SqL K H p ys ∨ SqT K H p ys) ∧ ∀ l, H l = none → Q (.ref l) (upd H l (.lst ys))
theorem call_listK {X : Cx} {K : PySem.W.Frag} (h : X.K = K) : CallR X (.type "list") (rListK K) := by
  subst h
  exact call_list_of
def rTupleK (K : PySem.W.Frag) : List V → Hp → VK → Prop := fun xs H Q => ∃ p ys, xs = [.ref p] ∧ ((SqL K H p ys ∧ ∀ l, H l = none → Q (.ref l) (upd H l (.tup ys))) ∨ (SqT K H p ys ∧ Q (.ref p) H))
theorem call_tupleK {X : Cx} {K : PySem.W.Frag} (h : X.K = K) : CallR X (.type "tuple") (rTupleK K) := by
  subst h
  exact call_tuple_of
theorem ix_tupK {X : Cx} {K : PySem.W.Frag} (h : X.K = K) : IxR X (rIxT K) := by
  subst h
  exact ix_tup
theorem ne_mem {a b : Addr} {l : List Addr} (h : a ∈ l) (n : b ∉ l) : a ≠ b := fun e => n (by rw [← e]; exact h)
theorem nodup_set {z : Addr} : ∀ {bs : List Addr}, bs.Nodup → z ∉ bs → ∀ i, (bs.set i z).Nodup
  | [], _, _, _ => List.nodup_nil
  | b :: bs, h, hz, 0 => by
    rw [List.nodup_cons] at h
    exact List.nodup_cons.mpr ⟨fun q => hz (List.mem_cons_of_mem _ q), h.2⟩
  | b :: bs, h, hz, i + 1 => by
    rw [List.nodup_cons] at h
    refine List.nodup_cons.mpr ⟨fun q => ?_, nodup_set h.2 (fun q => hz (List.mem_cons_of_mem _ q)) i⟩
    rcases List.mem_or_eq_of_mem_set q with q | q
    · exact h.1 q
    · exact hz (by rw [q]; exact List.mem_cons_self)
section
variable {P : Program} {w : World} {K : PySem.W.Frag} {mg : Str → Option Value} {base : Heap}
def spWon : Sp := fun vs H Q _ => ∃ b v x y, vs = [.ref b, .int x, .int y] ∧ LvAt H b v ∧ ∃ n m : Nat, x = (n : Nat) ∧ y = (m : Nat) ∧ Q (.bl (decide (lwon v n m))) H
theorem scWon : FnScope ["_law_level_here", "_law_one", "_law_two", "_law_target", "_law_lead", "_law_cap"] ["_law_level_here", "_law_one", "_law_two"] (defScope sWon) := ⟨rfl, rfl, rfl, by decide +kernel, rfl, by decide +kernel, by decide +kernel⟩
theorem ok_won {f : Addr} {fd : FuncData} (D : Def K mg "_law_won" sWon ["_law_level_here", "_law_one", "_law_two"] f fd) : FnOk P w K mg base CX0 1 f fd ["_law_level_here", "_law_one", "_law_two"] spWon := by
  refine D.F.ok scWon (fun vs H Q E h => ?_) (fun cdv A outer s0 H vs Q E hr h => ?_)
  · obtain ⟨b, v, x, y, rfl, _⟩ := h
    rfl
  · obtain ⟨b, ⟨vt, vl, vc⟩, x, y, rfl, hb, n, m, rfl, rfl, k⟩ := h
    refine ⟨_, (pss_cons (ps_asg (pv 0) (pg_tup rfl (pgs_cons (pg_name (i := 3) scWon.nd rfl (Or.inl rfl)) (pgs_cons (pg_name (i := 4) scWon.nd rfl (Or.inl rfl)) (pgs_cons (pg_name (i := 5) scWon.nd rfl (Or.inl rfl)) pgs_nil)))))
      (pss_one (ps_ret (pe_or (pe_and (pe_cmpR op_ge (pv 1) (pv 3) (nomark _)) (pe_one (pe_cmpR op_ge (pe_op op_sub (pv 1) (pv 2)) (pv 4) (nomark _)))) (pe_one (pe_and (pe_cmp (pc_notN (pv 5))) (pe_one (pe_cmpR op_eq (pv 1) (pv 5) (nomark _))))))))), ?_⟩
    refine ⟨_, rfl, b, lvV ⟨vt, vl, vc⟩, rfl, SqT.of hb, rfl, _, _, rfl, _, _, rfl, _, _, rfl, rfl, ?_⟩
    have capOr : ∀ (B : Bool), B = decide (lwon ⟨vt, vl, vc⟩ n m) → Q (.bl B) H := fun B e => by
      rw [e]
      exact k
    by_cases h1 : vt ≤ n
    · refine ⟨_, rfl, _, rfl, _, _, rfl, rfl, true, congrArg V.bl (decide_eq_true (show ((vt : Nat) : Int) ≤ (n : Nat) by omega)), iteT ?_⟩
      refine ⟨_, rfl, _, rfl, _, _, rfl, rfl, _, rfl, _, _, rfl, rfl, ?_⟩
      by_cases h2 : m + vl ≤ n
      · refine ⟨true, congrArg V.bl (decide_eq_true (show ((vl : Nat) : Int) ≤ (n : Nat) - (m : Nat) by omega)), iteT ?_⟩
        exact capOr _ (decide_eq_true (.inl ⟨h1, h2⟩)).symm
      · refine ⟨false, congrArg V.bl (decide_eq_false (show ¬ ((vl : Nat) : Int) ≤ (n : Nat) - (m : Nat) by omega)), iteF ?_⟩
        cases vc with
        | none =>
          refine ⟨_, rfl, false, congrArg (fun b => V.bl (!b)) (decide_eq_true rfl), iteF ?_⟩
          exact capOr _ (decide_eq_false fun z => z.elim (fun z => h2 z.2) (fun z => nomatch z)).symm
        | some c =>
          refine ⟨_, rfl, true, congrArg (fun b => V.bl (!b)) (decide_eq_false (fun z => nomatch z)), iteT ?_⟩
          refine ⟨_, rfl, _, rfl, rfl, ?_⟩
          have e := eq_cap n (some c)
          show Q (.bl (decide (V.int (n : Nat) = capV (some c)))) H
          refine capOr _ (e.trans ?_)
          by_cases h3 : (some c : Option Nat) = some n
          · rw [decide_eq_true h3]
            exact (decide_eq_true (.inr h3)).symm
          · rw [decide_eq_false h3]
            exact (decide_eq_false fun z => z.elim (fun z => h2 z.2) h3).symm
    · refine ⟨_, rfl, _, rfl, _, _, rfl, rfl, false, congrArg V.bl (decide_eq_false (show ¬ ((vt : Nat) : Int) ≤ (n : Nat) by omega)), iteF ⟨false, rfl, iteF ?_⟩⟩
      cases vc with
      | none =>
        refine ⟨_, rfl, false, congrArg (fun b => V.bl (!b)) (decide_eq_true rfl), iteF ?_⟩
        exact capOr _ (decide_eq_false fun z => z.elim (fun z => h1 z.1) (fun z => nomatch z)).symm
      | some c =>
        refine ⟨_, rfl, true, congrArg (fun b => V.bl (!b)) (decide_eq_false (fun z => nomatch z)), iteT ?_⟩
        refine ⟨_, rfl, _, rfl, rfl, ?_⟩
        have e := eq_cap n (some c)
        show Q (.bl (decide (V.int (n : Nat) = capV (some c)))) H
        refine capOr _ (e.trans ?_)
        by_cases h3 : (some c : Option Nat) = some n
        · rw [decide_eq_true h3]
          exact (decide_eq_true (.inr h3)).symm
        · rw [decide_eq_false h3]
          exact (decide_eq_false fun z => z.elim (fun z => h1 z.1) h3).symm
/-! ### the law's after -/
def prL (p : Pr) : HO := .lst [.int (p.1 : Nat), .int (p.2 : Nat)]
abbrev plR (H : Hp) : Pr → V → Prop := fun p x => ∃ b, x = .ref b ∧ H b = some (prL p)
def StL (H : Hp) (a : Addr) (st : Stt) : Prop := ∃ xs, H a = some (.lst xs) ∧ Paired (plR H) st xs
theorem plR_same {H H' : Hp} (s : Same H H') {st : Stt} {xs : List V} (r : Paired (plR H) st xs) : Paired (plR H') st xs := r.mono fun p x ⟨b, e, q⟩ => ⟨b, e, s _ _ q⟩
theorem StL.same {H H' : Hp} {a : Addr} {st : Stt} (h : StL H a st) (s : Same H H') : StL H' a st := by
  obtain ⟨xs, e, r⟩ := h
  exact ⟨xs, s _ _ e, plR_same s r⟩
theorem paired_ix {α β : Type} {R : α → β → Prop} : ∀ {l : List α} {m : List β}, l.length = m.length → (∀ (i : Nat) (a : α) (b : β), l[i]? = some a → m[i]? = some b → R a b) → Paired R l m
  | [], [], _, _ => .nil
  | a :: l, b :: m, e, h => .cons (h 0 a b rfl rfl) (paired_ix (by simpa using e) fun i x y hx hy => h (i + 1) x y (by simpa using hx) (by simpa using hy))
  | [], _ :: _, e, _ => by simp at e
  | _ :: _, [], e, _ => by simp at e
/-- the units, in fresh lists -/
structure UL (H0 H1 : Hp) (l : Addr) (bs : List Addr) (st : Stt) : Prop where
  at_ : H1 l = some (.lst (bs.map V.ref))
  nd : bs.Nodup
  ln : bs.length = st.length
  it : ∀ (i : Nat) (b : Addr) (p : Pr), bs[i]? = some b → st[i]? = some p → H1 b = some (prL p)
  fr : ∀ b ∈ bs, H0 b = none
  lo : l ∉ bs
  l0 : H0 l = none
  sm : Same H0 H1
section
variable {H0 H1 H2 : Hp} {l : Addr} {bs : List Addr} {st : Stt}
theorem UL.ex (U : UL H0 H1 l bs st) : ∀ b ∈ bs, ∃ o, H1 b = some o := fun b hb => by
  obtain ⟨i, hi⟩ := List.mem_iff_getElem?.mp hb
  have h1 := (List.getElem?_eq_some_iff.mp hi).1
  exact ⟨_, U.it i b _ hi (List.getElem?_eq_getElem (by rw [← U.ln]; exact h1))⟩
theorem UL.same (U : UL H0 H1 l bs st) (s : Same H1 H2) : UL H0 H2 l bs st :=
  ⟨s _ _ U.at_, U.nd, U.ln, fun i b p h1 h2 => s _ _ (U.it i b p h1 h2), U.fr, U.lo, U.l0, U.sm.trans s⟩
theorem UL.toSt (U : UL H0 H1 l bs st) : StL H1 l st :=
  ⟨_, U.at_, paired_ix (by rw [List.length_map]; exact U.ln.symm) fun i p x hp hx => by
    rw [List.getElem?_map] at hx
    cases e : bs[i]? with
    | none => rw [e] at hx; cases hx
    | some b =>
      rw [e] at hx
      exact ⟨b, (Option.some.inj hx).symm, U.it i b p e hp⟩⟩
theorem UL.start (h : H0 l = none) : UL H0 (upd H0 l (.lst [])) l [] [] :=
  ⟨upd_same, List.nodup_nil, rfl, (fun _ _ _ h => nomatch h), (fun _ h => nomatch h), (fun h => nomatch h), h, same_new h⟩
theorem UL.snoc (U : UL H0 H1 l bs st) {z : Addr} (nz : H1 z = none) (p : Pr) : UL H0 (upd (upd H1 z (prL p)) l (.lst (bs.map V.ref ++ [.ref z]))) l (bs ++ [z]) (st ++ [p]) := by
  have hzb : z ∉ bs := fun q => by
    obtain ⟨o, e⟩ := U.ex z q
    rw [nz] at e
    cases e
  have hzl : z ≠ l := fun q => by
    rw [q, U.at_] at nz
    cases nz
  refine ⟨?_, ?_, by simp [U.ln], fun i b q h1 h2 => ?_, fun b hb => ?_, fun hb => ?_, U.l0, same_ne (U.sm.trans (same_new nz)) U.l0⟩
  · rw [upd_same, List.map_append]
    rfl
  · refine List.nodup_append.mpr ⟨U.nd, by simp, fun a ha b hb e => ?_⟩
    rw [List.mem_singleton.mp hb] at e
    rw [e] at ha
    exact hzb ha
  · by_cases hi : i < bs.length
    · rw [List.getElem?_append_left hi] at h1
      rw [List.getElem?_append_left (by rw [← U.ln]; exact hi)] at h2
      have hb := List.mem_of_getElem? h1
      rw [upd_ne (ne_mem hb U.lo), upd_ne (ne_mem hb hzb)]
      exact U.it i b q h1 h2
    · have hi' : i = bs.length := by
        have := (List.getElem?_eq_some_iff.mp h1).1
        rw [List.length_append, List.length_singleton] at this
        omega
      subst hi'
      rw [List.getElem?_append_right (Nat.le_refl _), Nat.sub_self] at h1
      rw [List.getElem?_append_right (by rw [U.ln]; exact Nat.le_refl _), U.ln, Nat.sub_self] at h2
      cases h1
      cases h2
      rw [upd_ne hzl, upd_same]
  · rcases List.mem_append.mp hb with hb | hb
    · exact U.fr b hb
    · rw [List.mem_singleton.mp hb]
      exact U.sm.free nz
  · rcases List.mem_append.mp hb with hb | hb
    · exact U.lo hb
    · exact hzl (List.mem_singleton.mp hb).symm
theorem UL.setP (U : UL H0 H1 l bs st) {i : Nat} {c : Addr} (hi : bs[i]? = some c) (p : Pr) : UL H0 (upd H1 c (prL p)) l bs (st.set i p) := by
  have hc := List.mem_of_getElem? hi
  have hlc : l ≠ c := fun e => U.lo (e ▸ hc)
  refine ⟨?_, U.nd, by rw [List.length_set]; exact U.ln, fun j b q h1 h2 => ?_, U.fr, U.lo, U.l0, same_ne U.sm (U.fr c hc)⟩
  · rw [upd_ne hlc]
    exact U.at_
  · have hb := List.mem_of_getElem? h1
    by_cases e : i = j
    · subst e
      have e2 : c = b := Option.some.inj (hi.symm.trans h1)
      subst e2
      have hlt : i < st.length := by rw [← U.ln]; exact (List.getElem?_eq_some_iff.mp h1).1
      rw [List.getElem?_set_self hlt] at h2
      rw [upd_same, Option.some.inj h2]
    · rw [List.getElem?_set_ne e] at h2
      have hbc : b ≠ c := fun e2 => by
        subst e2
        obtain ⟨z1, z2⟩ := List.getElem?_eq_some_iff.mp h1
        obtain ⟨z3, z4⟩ := List.getElem?_eq_some_iff.mp hi
        exact e ((List.getElem_inj U.nd).mp (z4.trans z2.symm))
      rw [upd_ne hbc]
      exact U.it j b q h1 h2
theorem UL.setU (U : UL H0 H1 l bs st) {i : Nat} {z : Addr} (hi : i < bs.length) (nz : H1 z = none) (p : Pr) : UL H0 (upd (upd H1 z (prL p)) l (.lst ((bs.map V.ref).set i (.ref z)))) l (bs.set i z) (st.set i p) := by
  have hzb : z ∉ bs := fun q => by
    obtain ⟨o, e⟩ := U.ex z q
    rw [nz] at e
    cases e
  have hzl : z ≠ l := fun q => by
    rw [q, U.at_] at nz
    cases nz
  have hm : ∀ b ∈ bs.set i z, b ∈ bs ∨ b = z := fun b hb => List.mem_or_eq_of_mem_set hb
  have hst : i < st.length := by rw [← U.ln]; exact hi
  refine ⟨?_, ?_, by rw [List.length_set, List.length_set]; exact U.ln, fun j b q h1 h2 => ?_, fun b hb => ?_, fun hb => ?_, U.l0, same_ne (U.sm.trans (same_new nz)) U.l0⟩
  · rw [upd_same, List.map_set]
  · exact nodup_set U.nd hzb i
  · have hb := List.mem_of_getElem? h1
    by_cases e : i = j
    · subst e
      rw [List.getElem?_set_self hi] at h1
      rw [List.getElem?_set_self hst] at h2
      cases h1
      cases h2
      rw [upd_ne hzl, upd_same]
    · rw [List.getElem?_set_ne e] at h1 h2
      have hb2 := List.mem_of_getElem? h1
      rw [upd_ne (ne_mem hb2 U.lo), upd_ne (ne_mem hb2 hzb)]
      exact U.it j b q h1 h2
  · rcases hm b hb with h | h
    · exact U.fr b h
    · rw [h]
      exact U.sm.free nz
  · rcases hm l hb with h | h
    · exact U.lo h
    · exact hzl h.symm
end
def spLaf : Sp := fun vs H Q _ => ∃ a b f st s, vs = [.ref a, .ref b, sdV s] ∧ FmAt H a f ∧ StL H b st ∧ OkF f ∧ InpF f st ∧ 1 ≤ f.length ∧ f.length ≤ 3 ∧
  ∀ p q H', Same H H' → H' p = some (.tup [.ref q, winV (aft f st s).2]) → StL H' q (aft f st s).1 → Q (.ref p) H'
theorem scLaf : FnScope ["_law_form_here", "_law_state", "_law_side", "_law_units", "_law_at", "_law_pair"] ["_law_form_here", "_law_state", "_law_side"] (defScope sLaf) := ⟨rfl, rfl, rfl, by decide +kernel, rfl, by decide +kernel, by decide +kernel⟩
def LafI (H0 : Hp) (a b : Addr) (f : Frm) (st : Stt) (s : Bool) (l : Addr) (i : Nat) (σ : L2.St) (H1 : Hp) : Prop := ∃ y4 y5 bs st', σ = [some (.ref a), some (.ref b), some (sdV s), some (.ref l), y4, y5] ∧ UL H0 H1 l bs st' ∧
  ((i < f.length ∧ Rest f st s i ∧ InpF f st ∧ st' = cur i st) ∨ (i = f.length ∧ aft f st s = (st', some s)))
theorem prL_set (p : Pr) (s : Bool) : HO.lst ([V.int (p.1 : Nat), V.int (p.2 : Nat)].set (sdN s) (.int ((own p s : Nat) + 1))) = prL (plus p s) := by
  cases s <;> rfl
theorem pr_ix (p : Pr) (s : Bool) : [V.int (p.1 : Nat), V.int (p.2 : Nat)][(sdI s).toNat]? = some (.int (own p s : Nat)) := by
  cases s <;> rfl
theorem pr_at (p : Pr) (s : Bool) : atI [V.int (p.1 : Nat), V.int (p.2 : Nat)] (sdI s) = some (.int (own p s : Nat)) := by
  cases s <;> rfl
theorem pr_at2 (p : Pr) (s : Bool) : atI [V.int (p.1 : Nat), V.int (p.2 : Nat)] (1 - sdI s) = some (.int (own p (!s) : Nat)) := by
  cases s <;> rfl
theorem pr_ixN (s : Bool) : ixN 2 (sdI s) = some (sdN s) := by
  cases s <;> rfl
theorem sdI_nn (s : Bool) : 0 ≤ sdI s := by cases s <;> decide
theorem ixN_nat {n i : Nat} {k : Int} (e : k = (i : Nat)) (h : i < n) : ixN n k = some i := by
  subst e
  unfold ixN
  rw [if_pos (by omega), if_pos (by omega)]
  simp
theorem inp_at : ∀ {f : Frm} {st : Stt} {i : Nat} {v : Lvl} {p : Pr}, InpF f st → f[i]? = some v → st[i]? = some p → Inp v p
  | _ :: _, _ :: _, 0, _, _, h, h1, h2 => by
    cases h1
    cases h2
    exact h.1
  | _ :: _, _ :: _, i + 1, _, _, h, h1, h2 => inp_at h.2 (by simpa using h1) (by simpa using h2)
  | [], _, _, _, _, _, h1, _ => by simp at h1
  | _ :: _, [], _, _, _, h, _, _ => h.elim
theorem ok_laf {f fW : Addr} {fd fdW : FuncData} (D : Def K mg "_law_after" sLaf ["_law_form_here", "_law_state", "_law_side"] f fd) (DW : Def K mg "_law_won" sWon ["_law_level_here", "_law_one", "_law_two"] fW fdW) (T : Txt K mg) :
    FnOk P w K mg base CX0 2 f fd ["_law_form_here", "_law_state", "_law_side"] spLaf := by
  have GW : FnOk P w K mg base CX0 1 fW fdW ["_law_level_here", "_law_one", "_law_two"] spWon := ok_won DW
  refine D.F.ok scLaf (fun vs H Q E h => ?_) (fun cdv A outer s0 H vs Q E hr h => ?_)
  · obtain ⟨a, b, f, st, s, rfl, _⟩ := h
    rfl
  · obtain ⟨a, b, f, st, s, rfl, hf, hst, okf, inp, l1, l3, k⟩ := h
    obtain ⟨xs, ha, rf⟩ := id hf
    obtain ⟨ys, hb, rs⟩ := id hst
    have hl := rf.length
    have hl2 := rs.length
    have hlen := inp.len
    refine ⟨_, (pss_cons (ps_setLc (i := 3) (own := [("_law_pair", 5)]) (g := gName 5) (tt := tYes) (by rfl) scLaf.nd rfl rfl (sw_true rfl rfl rfl (by decide +kernel)) (pi_list (pv 1)) (blkOk_by (own := [("_law_pair", 5)]) (N := ["_law_form_here", "_law_state", "_law_side", "_law_units", "_law_at", "_law_pair"]) (sc := defScope sLaf) (by decide +kernel)) (fun _ _ _ _ _ => pg_name (i := 5) scLaf.nd rfl (Or.inl rfl)) (fun _ _ _ _ _ => pts_nil) (fun _ _ _ _ _ => (pe_callTy (T := "list") (call_listK (K := K) rfl) (by rfl) T.list_ (by decide +kernel) (pa_cons (pv 5) pa_nil))))
      (pss_cons (ps_for PassesOwn.never rfl (pi_range1 (by rfl) T.rng (pa_cons (pe_callB call_len_seq (by rfl) T.len (by decide +kernel) (pa_cons (pv 0) pa_nil)) pa_nil)) (pg_name (i := 4) scLaf.nd rfl (Or.inl rfl)) (pss_cons (ps_augS (pe_ix ix_list (pv 3) (pv 4) (fun _ _ => rfl)) (pv 2) get_list pe_int ip_add set_list)
      (pss_cons (ps_if (pt_not (pt_val (pe_call GW hr (by rfl) DW.mgf DW.F.kp DW.b .nil pass0 (pa_cons (pe_ix ix_tup (pv 0) (pv 4) (fun _ _ => rfl)) (pa_cons (pe_ix ix_list (pe_ix ix_list (pv 3) (pv 4) (fun _ _ => rfl)) (pv 2) (fun _ _ => rfl)) (pa_cons (pe_ix ix_list (pe_ix ix_list (pv 3) (pv 4) (fun _ _ => rfl)) (pe_op op_sub pe_int (pv 2)) (fun _ _ => rfl)) pa_nil)))))) (pss_one (ps_ret (pe_tup (pa_cons (pv 3) (pa_cons pe_non pa_nil))))) pss_nil)
      (pss_one (ps_if (pt_cmpR op_lt (pe_op op_add (pv 4) pe_int) (pe_callB call_len_seq (by rfl) T.len (by decide +kernel) (pa_cons (pv 0) pa_nil)) (nomark _)) (pss_one (ps_asg (pe_lst (pa_cons pe_int (pa_cons pe_int pa_nil))) (pg_sub (pv 3) (pv 4) set_list))) pss_nil)))))
      (pss_one (ps_ret (pe_tup (pa_cons (pv 3) (pa_cons (pv 2) pa_nil))))))), ?_⟩
    refine ⟨_, rfl, b, rfl, ⟨ys, SqL.of hb⟩, fun d nd => ?_⟩
    refine lc_list (K := K) (a := b) (xs := ys) (fun i H1 => ∃ bs, UL H H1 d bs (st.take i)) ⟨[], UL.start nd⟩ (fun i H1 _ ⟨_, U⟩ => SqL.of (U.sm _ _ hb)) ?_ ?_
    · rintro i x H1 hx ⟨bs, U⟩
      obtain ⟨p, hp, pb, rfl, hpb⟩ := Paired.at' rs hx
      refine ⟨rfl, ?_⟩
      refine ⟨_, rfl, pb, _, rfl, .inl (SqL.of (U.sm _ _ hpb)), fun z nz => ?_⟩
      have hbl : bs.length ≤ 3 := by
        have q := U.ln
        rw [List.length_take] at q
        omega
      have e0 := (same_new (o := prL p) nz) _ _ U.at_
      refine ⟨_, e0, by rw [List.length_map]; exact small1000 (by omega), bs ++ [z], ?_⟩
      rw [List.take_add_one, hp]
      exact U.snoc nz p
    · rintro H1 ⟨bs, U⟩
      rw [← hl2, List.take_length] at U
      have ha1 := U.sm _ _ ha
      refine ⟨_, rfl, a, xs, rfl, .inr (SqT.of ha1), _, rfl, ?_⟩
      refine ⟨by omega, by omega, for_range (lo := 0) (n := ((xs.length : Nat) : Int).toNat) (LafI H a b f st s d) ?_ ?_ ?_⟩
      · exact ⟨none, none, bs, st, rfl, U, .inl ⟨by omega, rest_zero _ _ _, inp, by simp [cur]⟩⟩
      · clear U ha1 bs H1
        rintro i σ H1 hi ⟨y4, y5, bs, st', rfl, U, hcs⟩
        have hix : i < f.length := by omega
        rcases hcs with ⟨_, hR, _, rfl⟩ | ⟨q, _⟩
        case inr => omega
        have i2 : i < st.length := by omega
        have hcl : (cur i st).length = st.length := by unfold cur; simp; omega
        have hbs : i < bs.length := by rw [U.ln, hcl]; exact i2
        have hc : bs[i]? = some bs[i] := List.getElem?_eq_getElem hbs
        have hcm : (bs.map V.ref)[i]? = some (.ref bs[i]) := by rw [List.getElem?_map, hc]; rfl
        have hp := U.it i _ _ hc (cur_get i2)
        obtain ⟨vb, hvb0, xb, exb, hvb1⟩ : ∃ x, xs[i]? = some x ∧ ∃ b, x = .ref b ∧ LvAt H b f[i] := Paired.at rf (List.getElem?_eq_getElem hix)
        subst exb
        have e0 : (0 : Int) + (i : Nat) = ((i : Nat) : Int) := by omega
        refine ⟨_, rfl, _, rfl, d, _, _, .ref bs[i], rfl, rfl, SqL.of U.at_, at_of e0 hcm, _, rfl, bs[i], _, _, _, rfl, rfl, hp, sdI_nn s, pr_ix _ s, _, _, rfl, rfl, bs[i], _, _, sdN s, rfl, rfl, hp, pr_ixN s, ?_⟩
        rw [prL_set]
        have U2 := U.setP hc (plus st[i] s)
        have hp2 : (upd H1 bs[i] (prL (plus st[i] s))) bs[i] = some (prL (plus st[i] s)) := upd_same
        generalize upd H1 bs[i] (prL (plus st[i] s)) = H2 at *
        have ha2 := U2.sm _ _ ha
        refine ⟨_, rfl, _, rfl, a, xs, _, .ref xb, rfl, rfl, SqT.of ha2, at_of e0 hvb0, ?_⟩
        refine ⟨_, rfl, _, rfl, d, _, _, .ref bs[i], rfl, rfl, SqL.of U2.at_, at_of e0 hcm, _, rfl, bs[i], _, _, _, rfl, rfl, SqL.of hp2, pr_at _ s, ?_⟩
        refine ⟨_, rfl, _, rfl, d, _, _, .ref bs[i], rfl, rfl, SqL.of U2.at_, at_of e0 hcm, _, rfl, _, _, rfl, rfl, bs[i], _, _, _, rfl, rfl, SqL.of hp2, pr_at2 _ s, ?_⟩
        refine ⟨xb, f[i], _, _, rfl, U2.sm _ _ hvb1, _, _, rfl, rfl, _, rfl, ?_⟩
        have ei : Inp f[i] st[i] := inp_at inp (List.getElem?_eq_getElem hix) (List.getElem?_eq_getElem i2)
        have okv := okf f[i] (List.getElem_mem hix)
        have rw1 := rwin_plus (s := s) okv.2.1.1 ei
        by_cases hw : lwon f[i] (own (plus st[i] s) s) (own (plus st[i] s) (!s))
        · rw [if_pos hw] at rw1
          rw [decide_eq_true hw]
          refine iteF ?_
          refine ⟨_, rfl, _, _, rfl, rfl, _, rfl, a, xs, rfl, .inr (SqT.of ha2), _, _, rfl, rfl, ?_⟩
          by_cases hL : i + 1 < f.length
          · refine ⟨true, congrArg V.bl (decide_eq_true (by omega)), iteT ?_⟩
            refine ⟨(by show 2 ≤ sizeLine; decide), fun z nz => ?_⟩
            have U3 := U2.setU (z := z) hbs nz (0, 0)
            rw [cur_next i2] at U3
            refine ⟨_, rfl, _, rfl, d, _, _, i, rfl, rfl, (same_new nz) _ _ U2.at_, ixN_nat e0 (by rw [List.length_map]; exact hbs), ?_⟩
            exact ⟨_, _, _, _, rfl, U3, .inl ⟨hL, rest_next hR hix i2 rw1 hL, inp, rfl⟩⟩
          · refine ⟨false, congrArg V.bl (decide_eq_false (by omega)), iteF ?_⟩
            exact ⟨_, _, _, _, rfl, U2, .inr ⟨by omega, rest_last hR hix i2 rw1 (by omega)⟩⟩
        · rw [if_neg hw] at rw1
          rw [decide_eq_false hw]
          refine iteT ?_
          refine ⟨_, rfl, (by show 2 ≤ sizeLine; decide), fun p np => ?_⟩
          have s3 := same_new (o := .tup [.ref d, .non]) np
          have U3 := U2.same s3
          refine k p d _ U3.sm ?_ ?_
          · rw [upd_same, rest_none hR hix i2 rw1]
            rfl
          · rw [rest_none hR hix i2 rw1]
            exact U3.toSt
      · rintro σ H2 ⟨y4, y5, bs, st', rfl, U, hcs⟩
        rcases hcs with ⟨q, _⟩ | ⟨_, e⟩
        case inl => omega
        refine ⟨_, rfl, _, rfl, (by show 2 ≤ sizeLine; decide), fun p np => ?_⟩
        have s3 := same_new (o := .tup [.ref d, sdV s]) np
        have U3 := U.same s3
        refine k p d _ U3.sm ?_ ?_
        · rw [upd_same, e]
          rfl
        · rw [e]
          exact U3.toSt
end
end SF
set_option Elab.async false
set_option linter.all false
set_option maxRecDepth 100000
set_option maxHeartbeats 8000000
/-! the walk: the law's play of a row -/
namespace SF
open PySem PySem.Spec PyProof.Rows L2
section
variable {P : Program} {w : World} {K : PySem.W.Frag} {mg : Str → Option Value} {base : Heap}
def spPlay : Sp := fun vs H Q _ => ∃ a l f r, vs = [.ref a, .ref l] ∧ FmAt H a f ∧ OkF f ∧ 1 ≤ f.length ∧ f.length ≤ 3 ∧ H l = some (.lst (r.map sdV)) ∧ ∀ p v u H', Same H H' → H' p = some (.tup [winV (win f r), v, u]) → Q (.ref p) H'
theorem scPlay : FnScope ["_law_form_here", "_law_row_here", "_law_state", "_law_won_here", "_law_many", "_law_side", "_law_level_here", "_law_pair"] ["_law_form_here", "_law_row_here"] (defScope sPlay) := ⟨rfl, rfl, rfl, by decide +kernel, rfl, by decide +kernel, by decide +kernel⟩
def PlI (H0 : Hp) (a l : Addr) (f : Frm) (r : List Bool) (i : Nat) (σ : L2.St) (H1 : Hp) : Prop := ∃ u st o m y5 y6 y7, σ = [some (.ref a), some (.ref l), some (.ref u), some (winV o), some (.int m), y5, y6, y7] ∧ Same H0 H1 ∧ StL H1 u st ∧ st.length = f.length ∧
  ((o = none ∧ InpF f st ∧ win f r = plW f st (r.drop i)) ∨ (∃ x, o = some x ∧ win f r = some x))
theorem ok_play {f fA fW : Addr} {fd fdA fdW : FuncData} (D : Def K mg "_law_play" sPlay ["_law_form_here", "_law_row_here"] f fd) (DA : Def K mg "_law_after" sLaf ["_law_form_here", "_law_state", "_law_side"] fA fdA)
    (DW : Def K mg "_law_won" sWon ["_law_level_here", "_law_one", "_law_two"] fW fdW) (T : Txt K mg) : FnOk P w K mg base CX0 3 f fd ["_law_form_here", "_law_row_here"] spPlay := by
  have GA : FnOk P w K mg base CX0 2 fA fdA ["_law_form_here", "_law_state", "_law_side"] spLaf := ok_laf DA DW T
  refine D.F.ok scPlay (fun vs H Q E h => ?_) (fun cdv A outer s0 H vs Q E hr h => ?_)
  · obtain ⟨a, l, f, r, rfl, _⟩ := h
    rfl
  · obtain ⟨a, l, f, r, rfl, hf, okf, l1, l3, hrow, k⟩ := h
    obtain ⟨xs, ha, rf⟩ := id hf
    have hl := rf.length
    refine ⟨_, (pss_cons (ps_par3 (i := 2) (j := 3) (l := 4) (by rfl) scPlay.nd rfl rfl rfl (by decide) (by decide) (by decide) rfl rfl rfl (pa_cons (pe_lc (own := [("_law_level_here", 6)]) (g := gName 6) (tt := tYes) (by rfl) scPlay.nd (pi_tup (pv 0)) (blkOk_by (own := [("_law_level_here", 6)]) (N := ["_law_form_here", "_law_row_here", "_law_state", "_law_won_here", "_law_many", "_law_side", "_law_level_here", "_law_pair"]) (sc := defScope sPlay) (by decide +kernel)) (fun _ _ _ _ _ => pg_name (i := 6) scPlay.nd rfl (Or.inl rfl)) (fun _ _ _ _ _ => pts_nil) (fun _ _ _ _ _ => (pe_lst (pa_cons pe_int (pa_cons pe_int pa_nil))))) (pa_cons pe_non (pa_cons pe_int pa_nil))) (by rfl))
      (pss_cons (ps_for PassesOwn.never rfl (pi_list (pv 1)) (pg_name (i := 5) scPlay.nd rfl (Or.inl rfl)) (pss_one (ps_if (pt_cmp (pc_isN (pv 3))) (pss_cons (ps_asg (pe_call GA hr (by rfl) DA.mgf DA.F.kp DA.b .nil pass0 (pa_cons (pv 0) (pa_cons (pv 2) (pa_cons (pv 5) pa_nil)))) (pg_tup rfl (pgs_cons (pg_name (i := 2) scPlay.nd rfl (Or.inl rfl)) (pgs_cons (pg_name (i := 3) scPlay.nd rfl (Or.inl rfl)) pgs_nil))))
      (pss_one (ps_set (i := 4) scPlay.nd rfl (Or.inl rfl) (pe_op op_add (pv 4) pe_int)))) pss_nil)))
      (pss_one (ps_ret (pe_tup (pa_cons (pv 3) (pa_cons (pv 4) (pa_cons (pe_callTy (T := "tuple") call_tuple_of (by rfl) T.tuple_ (by decide +kernel) (pa_cons (pe_lc (own := [("_law_pair", 7)]) (g := gName 7) (tt := tYes) (by rfl) scPlay.nd (pi_list (pv 2)) (blkOk_by (own := [("_law_pair", 7)]) (N := ["_law_form_here", "_law_row_here", "_law_state", "_law_won_here", "_law_many", "_law_side", "_law_level_here", "_law_pair"]) (sc := defScope sPlay) (by decide +kernel)) (fun _ _ _ _ _ => pg_name (i := 7) scPlay.nd rfl (Or.inl rfl)) (fun _ _ _ _ _ => pts_nil) (fun _ _ _ _ _ => (pe_callTy (T := "tuple") (call_tupleK (K := K) rfl) (by rfl) T.tuple_ (by decide +kernel) (pa_cons (pv 7) pa_nil)))) pa_nil)) pa_nil)))))))), ?_⟩
    refine ⟨_, rfl, a, rfl, ⟨xs, SqT.of ha⟩, fun d nd => ?_⟩
    refine lc_tup (K := K) (a := a) (xs := xs) (fun i H1 => ∃ bs, UL H H1 d bs (List.replicate i (0, 0))) ⟨[], UL.start nd⟩ (fun i H1 _ ⟨_, U⟩ => SqT.of (U.sm _ _ ha)) ?_ ?_
    · rintro i x H1 hx ⟨bs, U⟩
      have hi := (List.getElem?_eq_some_iff.mp hx).1
      refine ⟨rfl, ?_⟩
      refine ⟨(by show 2 ≤ sizeLine; decide), fun z nz => ?_⟩
      have hbl : bs.length ≤ 3 := by
        have q := U.ln
        rw [List.length_replicate] at q
        omega
      have e0 := (same_new (o := prL (0, 0)) nz) _ _ U.at_
      refine ⟨_, e0, by rw [List.length_map]; exact small1000 (by omega), bs ++ [z], ?_⟩
      rw [List.replicate_succ']
      exact U.snoc nz (0, 0)
    · rintro H1 ⟨bs, U⟩
      rw [← hl, ← strt_rep] at U
      refine ⟨_, _, _, rfl, ?_⟩
      have hrow1 := U.sm _ _ hrow
      refine ⟨_, rfl, l, rfl, ⟨_, SqL.of hrow1⟩, for_list (K := K) (a := l) (xs := r.map sdV) (PlI H a l f r) ?_ ?_ ?_ ?_⟩
      · exact ⟨d, strt f, none, 0, none, none, none, rfl, U.sm, U.toSt, by simp [strt], .inl ⟨rfl, inpF_strt okf, by rw [List.drop_zero]; rfl⟩⟩
      · rintro i σ H2 _ ⟨_, _, _, _, _, _, _, _, z, _⟩
        exact SqL.of (z _ _ hrow)
      · clear U hrow1 bs nd d H1
        rintro i x σ H2 hx ⟨u, st, o, m, y5, y6, y7, rfl, sm, hst, hln, hcs⟩
        rw [List.getElem?_map] at hx
        obtain ⟨s, hs, rfl⟩ : ∃ s, r[i]? = some s ∧ x = sdV s := by
          cases e : r[i]? with
          | none => rw [e] at hx; cases hx
          | some s => rw [e] at hx; exact ⟨s, rfl, (Option.some.inj hx).symm⟩
        have hi := (List.getElem?_eq_some_iff.mp hs).1
        have hdr : r.drop i = s :: r.drop (i + 1) := by
          rw [List.drop_eq_getElem_cons hi]
          rw [(List.getElem?_eq_some_iff.mp hs).2]
        rcases hcs with ⟨rfl, inp, hw⟩ | ⟨x, rfl, hw⟩
        · refine ⟨_, rfl, true, congrArg V.bl (decide_eq_true rfl), iteT ?_⟩
          refine ⟨_, rfl, _, rfl, _, rfl, a, u, f, st, s, rfl, hf.tups (Tups.of sm), hst, okf, inp, l1, l3, fun p q H3 s3 e3 st3 => ?_⟩
          refine ⟨p, _, rfl, SqT.of e3, rfl, _, _, rfl, _, _, rfl, rfl, ?_⟩
          refine ⟨_, rfl, _, _, rfl, rfl, ?_⟩
          refine ⟨q, (aft f st s).1, (aft f st s).2, _, _, _, _, rfl, sm.trans s3, st3, by rw [aft_len]; exact hln, ?_⟩
          rw [hdr] at hw
          have hw2 : win f r = (match (aft f st s).2 with | some x => some x | none => plW f (aft f st s).1 (r.drop (i + 1))) := hw
          cases e : (aft f st s).2 with
          | none =>
            rw [e] at hw2
            exact .inl ⟨rfl, inpF_aft okf inp e, hw2⟩
          | some x =>
            rw [e] at hw2
            exact .inr ⟨x, rfl, hw2⟩
        · refine ⟨_, rfl, false, congrArg V.bl (decide_eq_false (fun z => nomatch z)), iteF ?_⟩
          exact ⟨u, st, some x, m, _, _, _, rfl, sm, hst, hln, .inr ⟨x, rfl, hw⟩⟩
      · rintro σ H2 ⟨u, st, o, m, y5, y6, y7, rfl, sm, hst, hln, hcs⟩
        have ho : o = win f r := by
          rcases hcs with ⟨rfl, _, hw⟩ | ⟨x, rfl, hw⟩
          · rw [hw, List.length_map, List.drop_length]
            rfl
          · exact hw.symm
        subst ho
        obtain ⟨ys, hu, ru⟩ := hst
        have hlu := ru.length
        refine ⟨_, rfl, _, rfl, _, rfl, u, rfl, ⟨ys, SqL.of hu⟩, fun z nz => ?_⟩
        refine lc_list (K := K) (a := u) (xs := ys) (fun i H3 => Same H2 H3 ∧ ∃ zs, H3 z = some (.lst zs) ∧ zs.length = i) ⟨same_new nz, [], upd_same, rfl⟩ (fun i H3 _ ⟨q, _⟩ => SqL.of (q _ _ hu)) ?_ ?_
        · rintro i x H3 hx ⟨q, zs, e1, e2⟩
          obtain ⟨pp, hpp, pb, rfl, hpb⟩ := Paired.at' ru hx
          have hi := (List.getElem?_eq_some_iff.mp hx).1
          refine ⟨rfl, ?_⟩
          refine ⟨_, rfl, pb, _, rfl, .inl ⟨SqL.of (q _ _ hpb), fun y ny => ?_⟩⟩
          have s4 := same_new (o := .tup [.int (pp.1 : Nat), .int (pp.2 : Nat)]) ny
          refine ⟨zs, s4 _ _ e1, small1000 (by omega), same_ne (q.trans s4) nz, _, upd_same, by simp [e2]⟩
        · rintro H3 ⟨q, zs, e1, e2⟩
          refine ⟨z, zs, rfl, .inl ⟨SqL.of e1, fun y ny => ⟨(by show 3 ≤ sizeLine; decide), fun p np => ?_⟩⟩⟩
          have s4 := same_new (o := .tup zs) ny
          have s5 := same_new (o := .tup [winV (win f r), .int m, .ref y]) np
          exact k p _ _ _ (sm.trans (q.trans (s4.trans s5))) upd_same
end
end SF
set_option Elab.async false
set_option linter.all false
set_option maxRecDepth 100000
set_option maxHeartbeats 16000000
/-! the walk: the law's own search -/
namespace SF
open PySem PySem.Spec PyProof.Rows L2
abbrev sFirst : Stmt := topS 31
theorem go_inp {f g : Frm} (hf : OkF f) (hg : OkF g) : ∀ {r : List Bool} {k k' : KK}, InpF f k.1 → InpF g k.2 → (sysU f g).go k r = some k' → InpF f k'.1 ∧ InpF g k'.2
  | [], k, k', h1, h2, h => by
    cases h
    exact ⟨h1, h2⟩
  | s :: r, k, k', h1, h2, h => by
    unfold Sys.go at h
    split at h
    · rename_i hw
      exact go_inp hf hg (k := (sysU f g).nx k s) (inpF_aft hf h1 hw.1) (inpF_aft hg h2 hw.2) h
    · cases h
abbrev TU (f g : Frm) : KK → List Bool → Prop := fun k r => (sysU f g).go (sysU f g).st r = some k
/-- the items of a level: a tuple of two lists of units -/
abbrev nR (H : Hp) : KK → V → Prop := fun k x => ∃ t a1 a2, x = .ref t ∧ H t = some (.tup [.ref a1, .ref a2]) ∧ StL H a1 k.1 ∧ StL H a2 k.2 ∧ k.1 ≠ [] ∧ k.2 ≠ []
theorem nR_same {H H' : Hp} (s : Same H H') {ks : List KK} {xs : List V} (r : Paired (nR H) ks xs) : Paired (nR H') ks xs := r.mono fun k x ⟨t, a1, a2, e, h, h1, h2, n⟩ => ⟨t, a1, a2, e, s _ _ h, h1.same s, h2.same s, n⟩
/-- x is no unit, no list of units, no tuple -/
structure Apart (H : Hp) (x : Addr) : Prop where
  tup : ∀ t zs, H t = some (.tup zs) → t ≠ x
  pr : ∀ b p, H b = some (prL p) → b ≠ x
  st : ∀ a st, StL H a st → st ≠ [] → a ≠ x
theorem StL.upd {H : Hp} {x a : Addr} {o : HO} {st : Stt} (A : Apart H x) (h : StL H a st) (n : st ≠ []) : StL (upd H x o) a st := by
  have e := A.st a st h n
  obtain ⟨xs, h1, h2⟩ := h
  refine ⟨xs, (upd_ne e).trans h1, h2.mono fun p y ⟨b, e1, e2⟩ => ⟨b, e1, (upd_ne (A.pr b p e2)).trans e2⟩⟩
theorem nR_upd {H : Hp} {x : Addr} {o : HO} (A : Apart H x) {ks : List KK} {xs : List V} (r : Paired (nR H) ks xs) : Paired (nR (upd H x o)) ks xs :=
  r.mono fun k y ⟨t, a1, a2, e, h, h1, h2, n1, n2⟩ => ⟨t, a1, a2, e, (upd_ne (A.tup t _ h)).trans h, h1.upd A n1, h2.upd A n2, n1, n2⟩
theorem apart_dict {P : Program} {w : World} {H : Hp} {d : Addr} {es : List Ent} (h : H d = some (dN P w d es)) : Apart H d :=
  ⟨fun t zs e => ne_of e h (fun z => nomatch z), fun b p e => ne_of e h (fun z => nomatch z), fun a st ⟨xs, e, _⟩ _ => ne_of e h (fun z => nomatch z)⟩
theorem apart_later {H : Hp} {l : Addr} {ks : List KK} {ys : List V} (h : H l = some (.lst ys)) (r : Paired (nR H) ks ys) : Apart H l := by
  refine ⟨fun t zs e => ne_of e h (fun z => nomatch z), fun b p e q => ?_, fun a st ⟨xs, e, r2⟩ n q => ?_⟩
  · subst q
    rw [h] at e
    have e' : ys = [.int (p.1 : Nat), .int (p.2 : Nat)] := by
      injection e with e
      injection e
    subst e'
    cases r with
    | cons r1 _ =>
      obtain ⟨_, _, _, e, _⟩ := r1
      cases e
  · subst q
    rw [h] at e
    have e' : ys = xs := by
      injection e with e
      injection e
    subst e'
    cases r2 with
    | nil => exact n rfl
    | cons q1 _ => cases r with
      | cons r1 _ =>
        obtain ⟨t, _, _, e1, e2, _⟩ := r1
        obtain ⟨b, e3, e4⟩ := q1
        rw [e1] at e3
        cases e3
        rw [e2] at e4
        cases e4
/-- the heap ahead of a turn of the while -/
structure Fi (P : Program) (w : World) (f g : Frm) (H0 : Hp) (d nw : Addr) (n : Nat) (es : List Ent) (lev : List KK) (xs : List V) (H1 : Hp) : Prop where
  sm : Same H0 H1
  dn : DN P w H1 d es
  nw : H1 nw = some (.lst xs)
  lx : Paired (nR H1) lev xs
  bf : Bfs (sysU f g) (TU f g) n ((sysU f g).st :: es.map (·.1)) lev
  sz : es.length ≤ 800 * n
  n25 : n ≤ 25
/-- .. in the midst of a level -/
structure Fm (P : Program) (w : World) (f g : Frm) (H0 : Hp) (d nw lt : Addr) (n : Nat) (es0 : List Ent) (lev : List KK) (xs : List V) (c : Nat) (es : List Ent) (later : List KK) (ys : List V) (D : KK → Bool → Prop) (H1 : Hp) : Prop where
  sm : Same H0 H1
  dn : DN P w H1 d es
  nw : H1 nw = some (.lst xs)
  lx : Paired (nR H1) lev xs
  la : H1 lt = some (.lst ys)
  ly : Paired (nR H1) later ys
  md : Mid (sysU f g) (TU f g) n ((sysU f g).st :: es0.map (·.1)) lev (TU f g) ((sysU f g).st :: es.map (·.1)) later D
  len : es.length = es0.length + later.length
  cnt : later.length ≤ c
section
variable {P : Program} {w : World} {f g : Frm} {H0 H1 H2 : Hp} {d nw lt : Addr} {n c c' : Nat} {es0 es : List Ent} {lev later : List KK} {xs ys : List V} {D D' : KK → Bool → Prop}
theorem Fi.same (M : Fi P w f g H0 d nw n es lev xs H1) (s : Same H1 H2) : Fi P w f g H0 d nw n es lev xs H2 :=
  ⟨M.sm.trans s, M.dn.same (by rw [M.dn.at_]; exact s _ _ M.dn.at_) (Tups.of s), s _ _ M.nw, nR_same s M.lx, M.bf, M.sz, M.n25⟩
theorem Fm.same (M : Fm P w f g H0 d nw lt n es0 lev xs c es later ys D H1) (s : Same H1 H2) : Fm P w f g H0 d nw lt n es0 lev xs c es later ys D H2 :=
  ⟨M.sm.trans s, M.dn.same (by rw [M.dn.at_]; exact s _ _ M.dn.at_) (Tups.of s), s _ _ M.nw, nR_same s M.lx, s _ _ M.la, nR_same s M.ly, M.md, M.len, M.cnt⟩
theorem Fm.imp (M : Fm P w f g H0 d nw lt n es0 lev xs c es later ys D H1) (hc : c ≤ c') (h : ∀ a b, D' a b → D a b) : Fm P w f g H0 d nw lt n es0 lev xs c' es later ys D' H1 :=
  ⟨M.sm, M.dn, M.nw, M.lx, M.la, M.ly, M.md.imp h, M.len, Nat.le_trans M.cnt hc⟩
theorem Fm.skip (M : Fm P w f g H0 d nw lt n es0 lev xs c es later ys D H1) {k : KK} {s : Bool} (h : (sysU f g).w1 k s = (sysU f g).w2 k s) (h2 : (sysU f g).w1 k s = none → (sysU f g).nx k s ∈ es.map (·.1))
    (hD : ∀ a b, D' a b → D a b ∨ (a = k ∧ b = s)) : Fm P w f g H0 d nw lt n es0 lev xs (c + 1) es later ys D' H1 :=
  ⟨M.sm, M.dn, M.nw, M.lx, M.la, M.ly, M.md.skip h (fun z => List.mem_cons_of_mem _ (h2 z)) hD, M.len, Nat.le_succ_of_le M.cnt⟩
theorem Fm.put (M : Fm P w f g H0 d nw lt n es0 lev xs c es later ys D H1) (hd : H0 d = none) (hl : H0 lt = none) (hne : nw ≠ lt) {k : KK} {s : Bool} {rk t q1 q2 : Addr} (hk : k ∈ lev)
    (h1 : (sysU f g).w1 k s = none) (h2 : (sysU f g).w2 k s = none) (hrk : KAt H1 rk ((sysU f g).nx k s)) (e1 : StL H1 q1 ((sysU f g).nx k s).1) (e2 : StL H1 q2 ((sysU f g).nx k s).2) (n1 : ((sysU f g).nx k s).1 ≠ []) (n2 : ((sysU f g).nx k s).2 ≠ [])
    (nt : H1 t = none) (hn : (sysU f g).nx k s ∉ es.map (·.1)) (hD : ∀ a b, D' a b → D a b ∨ (a = k ∧ b = s)) :
    Fm P w f g H0 d nw lt n es0 lev xs (c + 1) (es ++ [((sysU f g).nx k s, rk, .bl true)]) (later ++ [(sysU f g).nx k s]) (ys ++ [.ref t]) D'
      (upd (upd (upd H1 d (dN P w d (es ++ [((sysU f g).nx k s, rk, .bl true)]))) t (.tup [.ref q1, .ref q2])) lt (.lst (ys ++ [.ref t]))) := by
  generalize hnx : (sysU f g).nx k s = nx at *
  have ndl : d ≠ lt := ne_of M.dn.at_ M.la (fun z => nomatch z)
  have ndv : d ≠ nw := ne_of M.dn.at_ M.nw (fun z => nomatch z)
  have ntd : t ≠ d := (ne_of_none M.dn.at_ nt).symm
  have ntl : t ≠ lt := (ne_of_none M.la nt).symm
  have t1 : Tups H1 (upd H1 d (dN P w d (es ++ [(nx, rk, .bl true)]))) := fun b zs e => by
    rw [upd_ne (ne_of e M.dn.at_ (fun z => nomatch z))]
    exact e
  have dn1 := dn_put (v := .bl true) M.dn hrk hn
  have lx1 : Paired (nR (upd H1 d (dN P w d (es ++ [(nx, rk, .bl true)])))) lev xs := nR_upd (apart_dict M.dn.at_) M.lx
  have ly1 : Paired (nR (upd H1 d (dN P w d (es ++ [(nx, rk, .bl true)])))) later ys := nR_upd (apart_dict M.dn.at_) M.ly
  have f1 : StL (upd H1 d (dN P w d (es ++ [(nx, rk, .bl true)]))) q1 nx.1 := e1.upd (apart_dict M.dn.at_) n1
  have f2 : StL (upd H1 d (dN P w d (es ++ [(nx, rk, .bl true)]))) q2 nx.2 := e2.upd (apart_dict M.dn.at_) n2
  have la1 : (upd H1 d (dN P w d (es ++ [(nx, rk, .bl true)]))) lt = some (.lst ys) := (upd_ne ndl.symm).trans M.la
  have nw1 : (upd H1 d (dN P w d (es ++ [(nx, rk, .bl true)]))) nw = some (.lst xs) := (upd_ne ndv.symm).trans M.nw
  have nt1 : (upd H1 d (dN P w d (es ++ [(nx, rk, .bl true)]))) t = none := (upd_ne ntd).trans nt
  have sm1 : Same H0 (upd H1 d (dN P w d (es ++ [(nx, rk, .bl true)]))) := same_ne M.sm hd
  generalize upd H1 d (dN P w d (es ++ [(nx, rk, .bl true)])) = H3 at *
  have s3 := same_new (o := .tup [.ref q1, .ref q2]) nt1
  have et : (upd H3 t (.tup [.ref q1, .ref q2])) t = some (.tup [.ref q1, .ref q2]) := upd_same
  have dn2 := dn1.same (by rw [dn1.at_]; exact s3 _ _ dn1.at_) (Tups.of s3)
  have lx2 := nR_same s3 lx1
  have ly2 := nR_same s3 ly1
  have g1 := f1.same s3
  have g2 := f2.same s3
  have la2 := s3 _ _ la1
  have nw2 := s3 _ _ nw1
  have sm2 := sm1.trans s3
  generalize upd H3 t (.tup [.ref q1, .ref q2]) = H4 at *
  have A := apart_later la2 ly2
  have t3 : Tups H4 (upd H4 lt (.lst (ys ++ [.ref t]))) := tups_lst la2
  refine ⟨same_ne sm2 hl, dn2.same (upd_ne ndl) t3, (upd_ne hne).trans nw2, nR_upd A lx2, upd_same, Paired.snoc (nR_upd A ly2) ⟨t, q1, q2, rfl, t3 _ _ et, g1.upd A n1, g2.upd A n2, n1, n2⟩, ?_, ?_, ?_⟩
  · have z := M.md.add (T'' := TU f g) (D' := D') h1 h2 (fun _ _ q => q) (fun _ _ q => q) ?_ hD
    · rw [hnx] at z
      rw [List.map_append]
      exact z
    · obtain ⟨_, r, z1, z2⟩ := M.md.old.lv k hk
      exact ⟨r ++ [s], go_snoc s z1 h1 h2, by rw [List.length_append, List.length_singleton, z2]⟩
  · rw [List.length_append, List.length_append, M.len]
    simp
    omega
  · rw [List.length_append, List.length_singleton]
    exact Nat.succ_le_succ M.cnt
end
end SF
set_option Elab.async false
set_option linter.all false
set_option maxRecDepth 100000
set_option maxHeartbeats 16000000
/-! the walk: the law's own search, its loops -/
namespace SF
open PySem PySem.Spec PyProof.Rows L2
def FirstSpec (f g : Frm) (due : V) (far : Int) : Prop :=
  (∃ n : Nat, due = .int (n : Nat) ∧ (∃ r, r.length = n ∧ win f r ≠ win g r) ∧ ∀ r, win f r ≠ win g r → n ≤ r.length) ∨ (due = .non ∧ ∀ r, win f r ≠ win g r → far < (r.length : Nat))
theorem strt_ne {f : Frm} (h : 1 ≤ f.length) : strt f ≠ [] := fun z => by
  have e := congrArg List.length z
  rw [strt_rep, List.length_replicate, List.length_nil] at e
  omega
theorem aft_ne {f : Frm} {st : Stt} {s : Bool} (h : st ≠ []) : (aft f st s).1 ≠ [] := fun z => by
  have e := congrArg List.length z
  rw [aft_len, List.length_nil] at e
  exact h (List.length_eq_zero_iff.mp e)
section
variable {P : Program} {w : World} {K : PySem.W.Frag} {mg : Str → Option Value} {base : Heap}
def spFirst : Sp := fun vs H Q _ => ∃ a b f g, vs = [.ref a, .ref b, .int 25] ∧ FmAt H a f ∧ FmAt H b g ∧ OkF f ∧ OkF g ∧ (1 ≤ f.length ∧ f.length ≤ 3) ∧ (1 ≤ g.length ∧ g.length ≤ 3) ∧
  ∀ due far p H', Same H H' → FirstSpec f g due far → H' p = some (.tup [due, .int far]) → Q (.ref p) H'
theorem scFirst : FnScope ["_law_one", "_law_two", "_law_most", "_law_start", "_law_seen", "_law_newest", "_law_long", "_law_later", "_law_first_here", "_law_second", "_law_side", "_law_here", "_law_there", "_law_key", "_law_level_here", "_law_pair"] ["_law_one", "_law_two", "_law_most"] (defScope sFirst) := ⟨rfl, rfl, rfl, by decide +kernel, rfl, by decide +kernel, by decide +kernel⟩
def WFi (P : Program) (w : World) (f g : Frm) (a b c0 d : Addr) (H0 : Hp) (m : Nat) (σ : L2.St) (H1 : Hp) : Prop := ∃ nw n es lev xs y7 y8 y9 y10 y11 y12 y13 y14 y15, m = 25 - n ∧ H0 nw = none ∧
  σ = [some (.ref a), some (.ref b), some (.int 25), some (.ref c0), some (.ref d), some (.ref nw), some (.int (n : Nat)), y7, y8, y9, y10, y11, y12, y13, y14, y15] ∧ Fi P w f g H0 d nw n es lev xs H1
def InFi (P : Program) (w : World) (f g : Frm) (a b c0 d nw lt : Addr) (H0 : Hp) (n : Nat) (es : List Ent) (lev : List KK) (xs : List V) (i : Nat) (σ : L2.St) (H1 : Hp) : Prop := ∃ es' later ys y8 y9 y10 y11 y12 y13 y14 y15,
  σ = [some (.ref a), some (.ref b), some (.int 25), some (.ref c0), some (.ref d), some (.ref nw), some (.int ((n + 1 : Nat))), some (.ref lt), y8, y9, y10, y11, y12, y13, y14, y15] ∧ Fm P w f g H0 d nw lt n es lev xs (2 * i) es' later ys (Done lev i 0) H1
def SdFi (P : Program) (w : World) (f g : Frm) (a b c0 d nw lt t0 a1 a2 sd : Addr) (H0 : Hp) (n : Nat) (es : List Ent) (lev : List KK) (xs : List V) (i j : Nat) (σ : L2.St) (H1 : Hp) : Prop := ∃ es' later ys y10 y11 y12 y13 y14 y15,
  σ = [some (.ref a), some (.ref b), some (.int 25), some (.ref c0), some (.ref d), some (.ref nw), some (.int ((n + 1 : Nat))), some (.ref lt), some (.ref a1), some (.ref a2), y10, y11, y12, y13, y14, y15] ∧ H1 sd = some (.tup [.int 0, .int 1]) ∧ H1 t0 = some (.tup [.ref a1, .ref a2]) ∧
  Fm P w f g H0 d nw lt n es lev xs (2 * i + j) es' later ys (Done lev i j) H1
theorem ok_first {f fA fW : Addr} {fd fdA fdW : FuncData} (D : Def K mg "_law_first" sFirst ["_law_one", "_law_two", "_law_most"] f fd) (DA : Def K mg "_law_after" sLaf ["_law_form_here", "_law_state", "_law_side"] fA fdA)
    (DW : Def K mg "_law_won" sWon ["_law_level_here", "_law_one", "_law_two"] fW fdW) (T : Txt K mg) : FnOk P w K mg base CX0 3 f fd ["_law_one", "_law_two", "_law_most"] spFirst := by
  have GA : FnOk P w K mg base CX0 2 fA fdA ["_law_form_here", "_law_state", "_law_side"] spLaf := ok_laf DA DW T
  refine D.F.ok scFirst (fun vs H Q E h => ?_) (fun cdv A outer s0 H vs Q E hr h => ?_)
  · obtain ⟨a, b, f, g, rfl, _⟩ := h
    rfl
  · obtain ⟨a, b, f, g, rfl, hf, hg, okf, okg, lf, lg, kq⟩ := h
    obtain ⟨xf, haf, rf⟩ := id hf
    obtain ⟨xg, hag, rg⟩ := id hg
    have hlf := rf.length
    have hlg := rg.length
    refine ⟨_, (pss_cons (ps_set (i := 3) scFirst.nd rfl (Or.inl rfl) (pe_tup (pa_cons (pe_lc (own := [("_law_level_here", 14)]) (g := gName 14) (tt := tYes) (by rfl) scFirst.nd (pi_tup (pv 0)) (blkOk_by (own := [("_law_level_here", 14)]) (N := ["_law_one", "_law_two", "_law_most", "_law_start", "_law_seen", "_law_newest", "_law_long", "_law_later", "_law_first_here", "_law_second", "_law_side", "_law_here", "_law_there", "_law_key", "_law_level_here", "_law_pair"]) (sc := defScope sFirst) (by decide +kernel)) (fun _ _ _ _ _ => pg_name (i := 14) scFirst.nd rfl (Or.inl rfl)) (fun _ _ _ _ _ => pts_nil) (fun _ _ _ _ _ => (pe_lst (pa_cons pe_int (pa_cons pe_int pa_nil))))) (pa_cons (pe_lc (own := [("_law_level_here", 14)]) (g := gName 14) (tt := tYes) (by rfl) scFirst.nd (pi_tup (pv 1)) (blkOk_by (own := [("_law_level_here", 14)]) (N := ["_law_one", "_law_two", "_law_most", "_law_start", "_law_seen", "_law_newest", "_law_long", "_law_later", "_law_first_here", "_law_second", "_law_side", "_law_here", "_law_there", "_law_key", "_law_level_here", "_law_pair"]) (sc := defScope sFirst) (by decide +kernel)) (fun _ _ _ _ _ => pg_name (i := 14) scFirst.nd rfl (Or.inl rfl)) (fun _ _ _ _ _ => pts_nil) (fun _ _ _ _ _ => (pe_lst (pa_cons pe_int (pa_cons pe_int pa_nil))))) pa_nil))))
      (pss_cons (ps_par3 (i := 4) (j := 5) (l := 6) (by rfl) scFirst.nd rfl rfl rfl (by decide) (by decide) (by decide) rfl rfl rfl (pa_cons pe_newN (pa_cons (pe_lst (pa_cons (pv 3) pa_nil)) (pa_cons pe_int pa_nil))) (by rfl))
      (pss_cons (ps_while PassesOwn.never (PW.pt (pw_and (pt_cmpR (op_neNil hr.units) (pv 5) (pe_lst pa_nil) (nomark _)) (pw_and (pt_cmpR op_lt (pv 6) (pv 2) (nomark _)) (pw_and1 (pt_cmpR op_lt (pe_callB call_len_seq (by rfl) T.len (by decide +kernel) (pa_cons (pv 5) pa_nil)) pe_int (nomark _)))))) (pss_cons (ps_par (i := 7) (j := 6) (by rfl) scFirst.nd rfl rfl (by decide) rfl rfl (pa_cons (pe_lst pa_nil) (pa_cons (pe_op op_add (pv 6) pe_int) pa_nil)) (by rfl))
      (pss_cons (ps_for PassesOwn.never rfl (pi_list (pv 5)) (pg_tup rfl (pgs_cons (pg_name (i := 8) scFirst.nd rfl (Or.inl rfl)) (pgs_cons (pg_name (i := 9) scFirst.nd rfl (Or.inl rfl)) pgs_nil))) (pss_one (ps_for PassesOwn.never rfl (pi_tup (pe_tup (pa_cons pe_int (pa_cons pe_int pa_nil)))) (pg_name (i := 10) scFirst.nd rfl (Or.inl rfl)) (pss_cons (ps_par (i := 11) (j := 12) (by rfl) scFirst.nd rfl rfl (by decide) rfl rfl (pa_cons (pe_call GA hr (by rfl) DA.mgf DA.F.kp DA.b .nil pass0 (pa_cons (pv 0) (pa_cons (pv 8) (pa_cons (pv 10) pa_nil)))) (pa_cons (pe_call GA hr (by rfl) DA.mgf DA.F.kp DA.b .nil pass0 (pa_cons (pv 1) (pa_cons (pv 9) (pa_cons (pv 10) pa_nil)))) pa_nil)) (by rfl))
      (pss_cons (ps_if (pt_cmpR op_ne (pe_ix ix_tup (pv 11) pe_int (fun _ _ => rfl)) (pe_ix ix_tup (pv 12) pe_int (fun _ _ => rfl)) (nomark _)) (pss_one (ps_ret (pe_tup (pa_cons (pv 6) (pa_cons (pv 6) pa_nil))))) pss_nil)
      (pss_cons (ps_set (i := 13) scFirst.nd rfl (Or.inl rfl) (pe_tup (pa_cons (pe_callTy (T := "tuple") call_tuple_of (by rfl) T.tuple_ (by decide +kernel) (pa_cons (pe_lc (own := [("_law_pair", 15)]) (g := gName 15) (tt := tYes) (by rfl) scFirst.nd (pi_list (pe_ix ix_tup (pv 11) pe_int (fun _ _ => rfl))) (blkOk_by (own := [("_law_pair", 15)]) (N := ["_law_one", "_law_two", "_law_most", "_law_start", "_law_seen", "_law_newest", "_law_long", "_law_later", "_law_first_here", "_law_second", "_law_side", "_law_here", "_law_there", "_law_key", "_law_level_here", "_law_pair"]) (sc := defScope sFirst) (by decide +kernel)) (fun _ _ _ _ _ => pg_name (i := 15) scFirst.nd rfl (Or.inl rfl)) (fun _ _ _ _ _ => pts_nil) (fun _ _ _ _ _ => (pe_callTy (T := "tuple") (call_tupleK (K := K) rfl) (by rfl) T.tuple_ (by decide +kernel) (pa_cons (pv 15) pa_nil)))) pa_nil)) (pa_cons (pe_callTy (T := "tuple") call_tuple_of (by rfl) T.tuple_ (by decide +kernel) (pa_cons (pe_lc (own := [("_law_pair", 15)]) (g := gName 15) (tt := tYes) (by rfl) scFirst.nd (pi_list (pe_ix ix_tup (pv 12) pe_int (fun _ _ => rfl))) (blkOk_by (own := [("_law_pair", 15)]) (N := ["_law_one", "_law_two", "_law_most", "_law_start", "_law_seen", "_law_newest", "_law_long", "_law_later", "_law_first_here", "_law_second", "_law_side", "_law_here", "_law_there", "_law_key", "_law_level_here", "_law_pair"]) (sc := defScope sFirst) (by decide +kernel)) (fun _ _ _ _ _ => pg_name (i := 15) scFirst.nd rfl (Or.inl rfl)) (fun _ _ _ _ _ => pts_nil) (fun _ _ _ _ _ => (pe_callTy (T := "tuple") (call_tupleK (K := K) rfl) (by rfl) T.tuple_ (by decide +kernel) (pa_cons (pv 15) pa_nil)))) pa_nil)) pa_nil))))
      (pss_one (ps_if (PW.pt (pw_and (pt_cmp (pc_isN (pe_ix ix_tup (pv 11) pe_int (fun _ _ => rfl)))) (pw_and1 (pt_cmpR (op_notInN hr.units) (pv 13) (pv 4) (by rfl))))) (pss_cons (ps_asg pe_bl (pg_sub (pv 4) (pv 13) (set_N hr.units)))
      (pss_one (ps_expr (pe_bm PySem.F.plainAttrs_list PySem.F.slot_list_append PySem.F.type_list_append mt_append (pv 7) (pa_cons (pe_tup (pa_cons (pe_ix ix_tup (pv 11) pe_int (fun _ _ => rfl)) (pa_cons (pe_ix ix_tup (pv 12) pe_int (fun _ _ => rfl)) pa_nil))) pa_nil))))) pss_nil))))))))
      (pss_one (ps_set (i := 5) scFirst.nd rfl (Or.inl rfl) (pv 7))))))
      (pss_one (ps_ret (pe_tup (pa_cons pe_non (pa_cons (pe_ifExp (pt_cmpR (op_neNil hr.units) (pv 5) (pe_lst pa_nil) (nomark _)) (pv 6) (pe_op op_pow pe_int pe_int)) pa_nil)))))))), ?_⟩
    -- start
    refine ⟨_, rfl, a, rfl, ⟨xf, SqT.of haf⟩, fun d1 nd1 => ?_⟩
    refine lc_tup (K := K) (a := a) (xs := xf) (fun i H1 => ∃ bs, UL H H1 d1 bs (List.replicate i (0, 0))) ⟨[], UL.start nd1⟩ (fun i H1 _ ⟨_, U⟩ => SqT.of (U.sm _ _ haf)) ?_ ?_
    · rintro i x H1 hx ⟨bs, U⟩
      have hi := (List.getElem?_eq_some_iff.mp hx).1
      refine ⟨rfl, ?_⟩
      refine ⟨(by show 2 ≤ sizeLine; decide), fun z nz => ?_⟩
      have hbl : bs.length ≤ 3 := by
        have q := U.ln
        rw [List.length_replicate] at q
        omega
      have e0 := (same_new (o := prL (0, 0)) nz) _ _ U.at_
      refine ⟨_, e0, by rw [List.length_map]; exact small1000 (by omega), bs ++ [z], ?_⟩
      rw [List.replicate_succ']
      exact U.snoc nz (0, 0)
    rintro H1 ⟨bs1, U1⟩
    rw [← hlf, ← strt_rep] at U1
    have s1 := U1.sm
    have st1 := U1.toSt
    clear U1 bs1
    refine ⟨_, rfl, b, rfl, ⟨xg, SqT.of (s1 _ _ hag)⟩, fun d2 nd2 => ?_⟩
    refine lc_tup (K := K) (a := b) (xs := xg) (fun i H2 => ∃ bs, UL H1 H2 d2 bs (List.replicate i (0, 0))) ⟨[], UL.start nd2⟩ (fun i H2 _ ⟨_, U⟩ => SqT.of ((s1.trans U.sm) _ _ hag)) ?_ ?_
    · rintro i x H2 hx ⟨bs, U⟩
      have hi := (List.getElem?_eq_some_iff.mp hx).1
      refine ⟨rfl, ?_⟩
      refine ⟨(by show 2 ≤ sizeLine; decide), fun z nz => ?_⟩
      have hbl : bs.length ≤ 3 := by
        have q := U.ln
        rw [List.length_replicate] at q
        omega
      have e0 := (same_new (o := prL (0, 0)) nz) _ _ U.at_
      refine ⟨_, e0, by rw [List.length_map]; exact small1000 (by omega), bs ++ [z], ?_⟩
      rw [List.replicate_succ']
      exact U.snoc nz (0, 0)
    rintro H2 ⟨bs2, U2⟩
    rw [← hlg, ← strt_rep] at U2
    have s12 := s1.trans U2.sm
    have st1' := st1.same U2.sm
    have st2 := U2.toSt
    clear U2 bs2 st1
    refine ⟨(by show 2 ≤ sizeLine; decide), fun c0 nc0 => ?_⟩
    have s3 := same_new (o := .tup [.ref d1, .ref d2]) nc0
    have sH := s12.trans s3
    have et : (upd H2 c0 (.tup [.ref d1, .ref d2])) c0 = some (.tup [.ref d1, .ref d2]) := upd_same
    have st1 := st1'.same s3
    have st2' := st2.same s3
    clear st1' st2 s12 s1
    generalize upd H2 c0 (.tup [.ref d1, .ref d2]) = H5 at *
    -- seen, newest, long = {}, [start], 0
    refine fun d nd => ⟨_, rfl, (by show 1 ≤ sizeLine; decide), fun nw nnw => ⟨_, _, _, rfl, ?_⟩⟩
    have s6 : Same H5 (upd H5 d (dN P w d [])) := same_new nd
    have nnw5 : H5 nw = none := s6.free nnw
    have s7 := same_new (o := .lst [.ref c0]) nnw
    have ne1 := strt_ne lf.1
    have ne2 := strt_ne lg.1
    have L0 : Fi P w f g H5 d nw 0 [] [(sysU f g).st] [.ref c0] (upd (upd H5 d (dN P w d [])) nw (.lst [.ref c0])) :=
      ⟨s6.trans s7, (dn_nil (P := P) (w := w)).same (s7 _ _ upd_same |>.trans upd_same.symm) (Tups.of s7), upd_same, .cons ⟨c0, d1, d2, rfl, (s6.trans s7) _ _ et, st1.same (s6.trans s7), st2'.same (s6.trans s7), ne1, ne2⟩ .nil,
        Bfs.start (fun _ _ q => q) rfl, Nat.zero_le _, Nat.zero_le _⟩
    refine ⟨WFi P w f g a b c0 d H5, ⟨_, nw, 0, _, _, _, none, none, none, none, none, none, none, none, none, rfl, nnw5, rfl, L0⟩, ?_⟩
    clear L0 s7 nnw5 s6 nnw nw
    rintro m σ H1 ⟨nw, n, es, lev, xs, y7, y8, y9, y10, y11, y12, y13, y14, y15, rfl, nnw, rfl, L1⟩
    refine ⟨_, rfl, Nat.zero_le _, fun z nz => ⟨nw, z, xs, rfl, rfl, SqL.of (same_new nz _ _ L1.nw), SqL.of upd_same, _, rfl, ?_⟩⟩
    have L := L1.same (same_new (o := .lst []) nz)
    clear L1
    generalize upd H1 z (.lst []) = H6 at *
    have hlen := L.lx.length
    have safe : lev ≠ [] → ∀ r, win f r ≠ win g r → ((n : Nat) : Int) < (r.length : Nat) := fun _ r hr => by
      by_cases hn : r.length ≤ n
      · refine absurd ?_ hr
        have q := L.bf.safe r hn
        rw [sysU_p1, sysU_p2] at q
        exact q
      · omega
    by_cases hl : lev = []
    · subst hl
      have ex : xs = [] := List.eq_nil_of_length_eq_zero hlen.symm
      subst ex
      refine iteF (iteF ?_)
      refine ⟨_, rfl, Nat.zero_le _, fun z9 nz9 => ⟨nw, z9, _, rfl, rfl, SqL.of ((same_new nz9) _ _ L.nw), SqL.of upd_same, _, rfl, iteF ?_⟩⟩
      have s9 := same_new (o := .lst []) nz9
      refine ⟨_, _, rfl, rfl, ⟨by decide, by decide, by decide⟩, (by show 2 ≤ sizeLine; decide), fun p np => ?_⟩
      refine kq .non _ p _ (sH.trans (L.sm.trans (s9.trans (same_new np)))) (.inr ⟨rfl, fun r hr => ?_⟩) upd_same
      refine absurd ?_ hr
      have q := L.bf.none r
      rw [sysU_p1, sysU_p2] at q
      exact q
    · have ex : (!xs.isEmpty) = true := by
        cases xs with
        | nil => exact absurd (List.eq_nil_of_length_eq_zero hlen) hl
        | cons x r => rfl
      have out : ∀ p, ∀ H9, Same H6 H9 → H9 p = some (.tup [.non, .int (n : Nat)]) → Q (.ref p) H9 := fun p H9 s9 e9 => kq .non _ p _ (sH.trans (L.sm.trans s9)) (.inr ⟨rfl, safe hl⟩) e9
      refine iteB ex ?_
      by_cases h25 : n < 25
      case neg =>
        refine ⟨_, rfl, _, rfl, _, _, rfl, rfl, false, congrArg V.bl (decide_eq_false (by omega)), iteF (iteF ?_)⟩
        refine ⟨_, rfl, Nat.zero_le _, fun z9 nz9 => ⟨nw, z9, _, rfl, rfl, SqL.of ((same_new nz9) _ _ L.nw), SqL.of upd_same, _, rfl, iteB ex ?_⟩⟩
        refine ⟨_, rfl, (by show 2 ≤ sizeLine; decide), fun p np => out p _ ((same_new nz9).trans (same_new np)) upd_same⟩
      refine ⟨_, rfl, _, rfl, _, _, rfl, rfl, true, congrArg V.bl (decide_eq_true (by omega)), iteT ?_⟩
      by_cases h400 : xs.length < 400
      case neg =>
        refine ⟨_, rfl, nw, xs, rfl, .inl (SqL.of L.nw), _, _, rfl, rfl, false, congrArg V.bl (decide_eq_false (by omega)), iteF ?_⟩
        refine ⟨_, rfl, Nat.zero_le _, fun z9 nz9 => ⟨nw, z9, _, rfl, rfl, SqL.of ((same_new nz9) _ _ L.nw), SqL.of upd_same, _, rfl, iteB ex ?_⟩⟩
        refine ⟨_, rfl, (by show 2 ≤ sizeLine; decide), fun p np => out p _ ((same_new nz9).trans (same_new np)) upd_same⟩
      refine ⟨_, rfl, nw, xs, rfl, .inl (SqL.of L.nw), _, _, rfl, rfl, true, congrArg V.bl (decide_eq_true (by omega)), iteT ?_⟩
      clear out ex
      refine ⟨fun σ' H' => ∃ m', m' < 25 - n ∧ WFi P w f g a b c0 d H5 m' σ' H', fun _ _ z => z, ?_⟩
      -- later, long = [], long + 1
      refine ⟨Nat.zero_le _, fun lt nlt => ⟨_, rfl, _, _, rfl, rfl, _, _, rfl, ?_⟩⟩
      have slt := same_new (o := .lst []) nlt
      have nlt5 : H5 lt = none := L.sm.free nlt
      have hne : nw ≠ lt := ne_of_none L.nw nlt
      have L' := L.same slt
      refine ⟨_, rfl, nw, rfl, ⟨xs, SqL.of L'.nw⟩, for_list (K := K) (a := nw) (xs := xs) (InFi P w f g a b c0 d nw lt H5 n es lev xs) ?_ ?_ ?_ ?_⟩
      · refine ⟨es, [], [], _, _, _, _, _, _, _, _, rfl, L'.sm, L'.dn, L'.nw, L'.lx, upd_same, .nil, L'.bf.mid.imp ?_, rfl, Nat.zero_le _⟩
        rintro a b (⟨i', h1, _⟩ | ⟨_, h2⟩)
        · exact absurd h1 (Nat.not_lt_zero _)
        · exact absurd h2 (Nat.not_lt_zero _)
      · rintro i σ H2 _ ⟨_, _, _, _, _, _, _, _, _, _, _, _, M⟩
        exact SqL.of M.nw
      · rintro i x σ H2 hx ⟨es', later, ys, y8, y9, y10, y11, y12, y13, y14, y15, rfl, M⟩
        obtain ⟨k, hk, t0, a1, a2, rfl, ht0, _⟩ := Paired.at' M.lx hx
        have hkm : k ∈ lev := List.mem_of_getElem? hk
        have hi400 := (List.getElem?_eq_some_iff.mp hx).1
        obtain ⟨_, r, tr2, tr3⟩ := M.md.old.lv k hkm
        obtain ⟨inp1, inp2⟩ := go_inp okf okg (inpF_strt okf) (inpF_strt okg) tr2
        have len1 := inp1.len
        have len2 := inp2.len
        refine ⟨t0, _, rfl, SqT.of ht0, rfl, _, _, rfl, _, _, rfl, rfl, ?_⟩
        refine ⟨(by show 2 ≤ sizeLine; decide), fun sd nsd => ⟨sd, rfl, ⟨_, SqT.of upd_same⟩, for_tup (K := K) (a := sd) (xs := [.int 0, .int 1]) (SdFi P w f g a b c0 d nw lt t0 a1 a2 sd H5 n es lev xs i) ?_ ?_ ?_ ?_⟩⟩
        · exact ⟨es', later, ys, _, _, _, _, _, _, rfl, upd_same, (same_new nsd) _ _ ht0, M.same (same_new nsd)⟩
        · rintro j σ H3 _ ⟨_, _, _, _, _, _, _, _, _, _, z, _⟩
          exact SqT.of z
        · clear M ht0
          rintro j x σ H3 hx2 ⟨es', later, ys, y10, y11, y12, y13, y14, y15, rfl, hsd, ht0, M⟩
          obtain ⟨s, rfl, hj⟩ : ∃ s, x = sdV s ∧ sdN s = j := by
            match j, hx2 with
            | 0, hx2 => exact ⟨false, (Option.some.inj hx2).symm, rfl⟩
            | 1, hx2 => exact ⟨true, (Option.some.inj hx2).symm, rfl⟩
            | j + 2, hx2 => simp at hx2
          have hj1 : j ≤ 1 := by
            rw [← hj]
            unfold sdN
            split <;> omega
          obtain ⟨kx, hkx, t1, b1, b2, e', ht1, vk1, vk2, n1, n2⟩ := Paired.at' M.lx hx
          cases (show kx = k from Option.some.inj (hkx.symm.trans hk))
          cases e'
          rw [ht0] at ht1
          cases ht1
          have sm := sH.trans M.sm
          refine ⟨_, rfl, _, rfl, _, rfl, a, a1, f, k.1, s, rfl, hf.tups (Tups.of sm), vk1, okf, inp1, lf.1, lf.2, fun p1 q1 H7 s7 e1 v1 => ?_⟩
          refine ⟨_, rfl, _, rfl, _, rfl, b, a2, g, k.2, s, rfl, hg.tups (Tups.of (sm.trans s7)), vk2.same s7, okg, inp2, lg.1, lg.2, fun p2 q2 H8 s8 e2 v2 => ⟨_, _, rfl, ?_⟩⟩
          have M8 := M.same (s7.trans s8)
          have e1' := s8 _ _ e1
          have v1' := v1.same s8
          have hsd8 := (s7.trans s8) _ _ hsd
          have ht8 := (s7.trans s8) _ _ ht0
          have sm8 := sm.trans (s7.trans s8)
          clear M vk1 vk2 e1 v1 sm hsd ht0
          refine ⟨_, rfl, p1, _, 1, winV (aft f k.1 s).2, rfl, rfl, SqT.of e1', rfl, _, rfl, p2, _, 1, winV (aft g k.2 s).2, rfl, rfl, SqT.of e2, rfl, scal_win _ _, !decide ((aft f k.1 s).2 = (aft g k.2 s).2), congrArg (fun b => V.bl (!b)) (dec_win _ _), ?_⟩
          by_cases hw : (aft f k.1 s).2 = (aft g k.2 s).2
          · rw [decide_eq_true hw]
            refine iteF ?_
            obtain ⟨ys1, hq1, rq1⟩ := id (v1')
            have hly1 := rq1.length
            have hl31 : ys1.length ≤ 3 := by
              rw [← hly1, aft_len]
              omega
            refine ⟨_, rfl, p1, _, 0, .ref q1, rfl, rfl, SqT.of (e1'), rfl, q1, rfl, ⟨ys1, SqL.of hq1⟩, fun z1 nz1 => ?_⟩
            refine lc_list (K := K) (a := q1) (xs := ys1) (fun i H9 => Same H8 H9 ∧ ∃ zs, H9 z1 = some (.lst zs) ∧ Paired (prR H9) (((aft f k.1 s).1).take i) zs) ⟨same_new nz1, [], upd_same, by rw [List.take_zero]; exact .nil⟩ (fun i H9 _ ⟨q, _⟩ => SqL.of (q _ _ hq1)) ?_ ?_
            · rintro i x H9 hx ⟨q, zs, v1, v2⟩
              obtain ⟨pp, hpp, pb, rfl, hpb⟩ := Paired.at' rq1 hx
              have hi := (List.getElem?_eq_some_iff.mp hx).1
              refine ⟨rfl, ?_⟩
              refine ⟨_, rfl, pb, _, rfl, .inl ⟨SqL.of (q _ _ hpb), fun y ny => ?_⟩⟩
              have s4 := same_new (o := .tup [.int (pp.1 : Nat), .int (pp.2 : Nat)]) ny
              have v3 := v2.length
              rw [List.length_take] at v3
              have s5 := (same_ne (l := z1) (o := .lst (zs ++ [.ref y])) (q.trans s4) nz1)
              have t5 : Tups (upd H9 y (.tup [.int (pp.1 : Nat), .int (pp.2 : Nat)])) (upd (upd H9 y (.tup [.int (pp.1 : Nat), .int (pp.2 : Nat)])) z1 (.lst (zs ++ [.ref y]))) := tups_lst (s4 _ _ v1)
              refine ⟨zs, s4 _ _ v1, small1000 (by omega), s5, _, upd_same, ?_⟩
              rw [List.take_add_one, hpp]
              exact (prR_tups ((Tups.of s4).trans t5) v2).snoc ⟨y, rfl, t5 _ _ upd_same⟩
            rintro H9 ⟨s9, zs1, w1, w2⟩
            rw [← hly1, List.take_length] at w2
            refine ⟨z1, zs1, rfl, .inl ⟨SqL.of w1, fun k1 nk1 => ?_⟩⟩
            have s10 := s9.trans (same_new (o := .tup zs1) nk1)
            have hk1 : StAt (upd H9 k1 (.tup zs1)) k1 (aft f k.1 s).1 := ⟨zs1, upd_same, prR_tups (Tups.of (same_new nk1)) w2⟩
            have M10 := M8.same s10
            have g1 := s10 _ _ e1'
            have g2 := s10 _ _ e2
            have u1 := v1'.same s10
            have u2 := v2.same s10
            have hsd10 := s10 _ _ hsd8
            have ht10 := s10 _ _ ht8
            clear M8 e1' e2 v1' v2 hsd8 ht8 rq1 hq1 w1 w2 nk1 s9 nz1
            generalize upd H9 k1 (.tup zs1) = H10 at *
            obtain ⟨ys2, hq2, rq2⟩ := id (u2)
            have hly2 := rq2.length
            have hl32 : ys2.length ≤ 3 := by
              rw [← hly2, aft_len]
              omega
            refine ⟨_, rfl, p2, _, 0, .ref q2, rfl, rfl, SqT.of (g2), rfl, q2, rfl, ⟨ys2, SqL.of hq2⟩, fun z2 nz2 => ?_⟩
            refine lc_list (K := K) (a := q2) (xs := ys2) (fun i H9 => Same H10 H9 ∧ ∃ zs, H9 z2 = some (.lst zs) ∧ Paired (prR H9) (((aft g k.2 s).1).take i) zs) ⟨same_new nz2, [], upd_same, by rw [List.take_zero]; exact .nil⟩ (fun i H9 _ ⟨q, _⟩ => SqL.of (q _ _ hq2)) ?_ ?_
            · rintro i x H9 hx ⟨q, zs, v1, v2⟩
              obtain ⟨pp, hpp, pb, rfl, hpb⟩ := Paired.at' rq2 hx
              have hi := (List.getElem?_eq_some_iff.mp hx).1
              refine ⟨rfl, ?_⟩
              refine ⟨_, rfl, pb, _, rfl, .inl ⟨SqL.of (q _ _ hpb), fun y ny => ?_⟩⟩
              have s4 := same_new (o := .tup [.int (pp.1 : Nat), .int (pp.2 : Nat)]) ny
              have v3 := v2.length
              rw [List.length_take] at v3
              have s5 := (same_ne (l := z2) (o := .lst (zs ++ [.ref y])) (q.trans s4) nz2)
              have t5 : Tups (upd H9 y (.tup [.int (pp.1 : Nat), .int (pp.2 : Nat)])) (upd (upd H9 y (.tup [.int (pp.1 : Nat), .int (pp.2 : Nat)])) z2 (.lst (zs ++ [.ref y]))) := tups_lst (s4 _ _ v1)
              refine ⟨zs, s4 _ _ v1, small1000 (by omega), s5, _, upd_same, ?_⟩
              rw [List.take_add_one, hpp]
              exact (prR_tups ((Tups.of s4).trans t5) v2).snoc ⟨y, rfl, t5 _ _ upd_same⟩
            rintro H11 ⟨s11, zs2, w1, w2⟩
            rw [← hly2, List.take_length] at w2
            refine ⟨z2, zs2, rfl, .inl ⟨SqL.of w1, fun k2 nk2 => ⟨(by show 2 ≤ sizeLine; decide), fun rk nrk => ?_⟩⟩⟩
            have s12 := same_new (o := .tup zs2) nk2
            have s13 := same_new (o := .tup [.ref k1, .ref k2]) nrk
            have hk2 : StAt (upd H11 k2 (.tup zs2)) k2 (aft g k.2 s).1 := ⟨zs2, upd_same, prR_tups (Tups.of s12) w2⟩
            have s14 := s11.trans (s12.trans s13)
            have hrk : KAt (upd (upd H11 k2 (.tup zs2)) rk (.tup [.ref k1, .ref k2])) rk ((sysU f g).nx k s) := ⟨k1, k2, upd_same, hk1.tups (Tups.of s14), hk2.tups (Tups.of s13)⟩
            have M14 := M10.same s14
            have r1 := s14 _ _ g1
            have r2 := s14 _ _ g2
            have x1 := u1.same s14
            have x2 := u2.same s14
            have hsd14 := s14 _ _ hsd10
            have ht14 := s14 _ _ ht10
            clear M10 g1 g2 u1 u2 hsd10 ht10 rq2 hq2 w1 w2 hk1 hk2 nrk s12 s13 nk2 nz2
            generalize upd (upd H11 k2 (.tup zs2)) rk (.tup [.ref k1, .ref k2]) = H14 at *
            have hw' : (sysU f g).w1 k s = (sysU f g).w2 k s := hw
            have next : ∀ (es2 : List Ent) (later2 : List KK) (ys2 : List V) (H12 : Hp) (y11 y12 y13 y14 y15 : Option V), H12 sd = some (.tup [.int 0, .int 1]) → H12 t0 = some (.tup [.ref a1, .ref a2]) → Fm P w f g H5 d nw lt n es lev xs (2 * i + j + 1) es2 later2 ys2 (Done lev i (j + 1)) H12 →
                SdFi P w f g a b c0 d nw lt t0 a1 a2 sd H5 n es lev xs i (j + 1) [some (.ref a), some (.ref b), some (.int 25), some (.ref c0), some (.ref d), some (.ref nw), some (.int ((n + 1 : Nat))), some (.ref lt), some (.ref a1), some (.ref a2), some (sdV s), y11, y12, y13, y14, y15] H12 :=
              fun es2 later2 ys2 H12 y11 y12 y13 y14 y15 h1 h2 h3 => ⟨es2, later2, ys2, _, _, _, _, _, _, rfl, h1, h2, h3⟩
            refine ⟨_, rfl, p1, _, 1, winV (aft f k.1 s).2, rfl, rfl, SqT.of r1, rfl, decide (winV (aft f k.1 s).2 = .non), rfl, ?_⟩
            cases ew : (aft f k.1 s).2 with
            | some x =>
              refine iteF (iteF ?_)
              exact next _ _ _ _ _ _ _ _ _ hsd14 ht14 (M14.skip hw' (fun z => by rw [show (sysU f g).w1 k s = some x from ew] at z; cases z) (done_step hk hj))
            | none =>
              refine iteT ?_
              refine ⟨_, rfl, _, rfl, rk, (sysU f g).nx k s, d, es', rfl, rfl, hrk, M14.dn, _, rfl, ?_⟩
              by_cases hm : (sysU f g).nx k s ∈ es'.map (·.1)
              · rw [decide_eq_true hm]
                refine iteF ?_
                exact next _ _ _ _ _ _ _ _ _ hsd14 ht14 (M14.skip hw' (fun _ => hm) (done_step hk hj))
              · rw [decide_eq_false hm]
                refine iteT ?_
                have o1 := L.sz
                have o2 := M14.len
                have o3 := M14.cnt
                have hes : es'.length < sizeLine := by
                  rw [sizeLine_eq]
                  omega
                have hys : ys.length < sizeLine := by
                  have o4 := M14.ly.length
                  rw [sizeLine_eq]
                  omega
                refine ⟨_, rfl, _, rfl, d, es', rk, (sysU f g).nx k s, rfl, rfl, M14.dn, hrk, hm, hes, ?_⟩
                have ndl : lt ≠ d := (ne_of M14.dn.at_ M14.la (fun z => nomatch z)).symm
                have la2 : (upd H14 d (dN P w d (es' ++ [((sysU f g).nx k s, rk, .bl true)]))) lt = some (.lst ys) := (upd_ne ndl).trans M14.la
                have tD : Tups H14 (upd H14 d (dN P w d (es' ++ [((sysU f g).nx k s, rk, .bl true)]))) := fun b zs e => by
                  rw [upd_ne (ne_of e M14.dn.at_ (fun z => nomatch z))]
                  exact e
                refine ⟨_, rfl, .inl ⟨rfl, _, SqL.of la2⟩, _, rfl, p1, _, 0, .ref q1, rfl, rfl, SqT.of (tD _ _ r1), rfl, _, rfl, p2, _, 0, .ref q2, rfl, rfl, SqT.of (tD _ _ r2), rfl, (by show 2 ≤ sizeLine; decide), fun t nt => ?_⟩
                have ntd : t ≠ d := fun z => by
                  rw [z, upd_same] at nt
                  cases nt
                have nt14 : H14 t = none := by
                  rw [upd_ne ntd] at nt
                  exact nt
                refine ⟨lt, ys, .ref t, rfl, rfl, (same_new nt) _ _ la2, hys, ?_⟩
                have tL : Tups (upd H14 d (dN P w d (es' ++ [((sysU f g).nx k s, rk, .bl true)]))) (upd (upd (upd H14 d (dN P w d (es' ++ [((sysU f g).nx k s, rk, .bl true)]))) t (.tup [.ref q1, .ref q2])) lt (.lst (ys ++ [.ref t]))) := (Tups.of (same_new nt)).trans (tups_lst ((same_new nt) _ _ la2))
                exact next _ _ _ _ _ _ _ _ _ (tL _ _ (tD _ _ hsd14)) (tL _ _ (tD _ _ ht14)) (M14.put nd nlt5 hne hkm ew (by rw [← hw']; exact ew) hrk x1 x2 (aft_ne n1) (aft_ne n2) nt14 hm (done_step hk hj))
          · rw [decide_eq_false hw]
            refine iteT ?_
            refine ⟨_, rfl, _, rfl, (by show 2 ≤ sizeLine; decide), fun p np => ?_⟩
            obtain ⟨f1, f2⟩ := L.bf.found (s := s) tr2 tr3 hw
            rw [sysU_p1, sysU_p2] at f1
            refine kq (.int ((n + 1 : Nat))) _ p _ (sm8.trans (same_new np)) (.inl ⟨n + 1, rfl, ⟨r ++ [s], by rw [List.length_append, List.length_singleton, tr3], f1⟩, fun r' hr' => f2 r' ?_⟩) upd_same
            rw [sysU_p1, sysU_p2]
            exact hr'
        · rintro σ H3 ⟨es', later, ys, y10, y11, y12, y13, y14, y15, rfl, hsd, _, M⟩
          exact ⟨es', later, ys, _, _, _, _, _, _, _, _, rfl, M.imp (by show 2 * i + 2 ≤ 2 * (i + 1); omega) done_next⟩
      · rintro σ H2 ⟨es', later, ys, y8, y9, y10, y11, y12, y13, y14, y15, rfl, M⟩
        have B := M.md.fin (fun k hk s => by rw [← hlen]; exact done_all k hk s)
        refine ⟨_, rfl, ?_⟩
        refine ⟨25 - (n + 1), by omega, lt, n + 1, es', later, ys, _, _, _, _, _, _, _, _, _, rfl, nlt5, rfl, M.sm, M.dn, M.la, M.ly, B, ?_, h25⟩
        have q1 := L.sz
        have q2 := M.len
        have q3 := M.cnt
        omega
end
end SF
set_option Elab.async false
set_option linter.all false
set_option maxRecDepth 100000
set_option maxHeartbeats 16000000
/-! the walk: the law -/
namespace SF
open PySem PySem.Spec PyProof.Rows L2
abbrev sLaw : Stmt := topS 32
/-- a new list, not one of the module's own objects -/
def tLstK (K : PySem.W.Frag) (t : TA) : TE := fun σ H Q => t σ H fun xs H1 => xs.length ≤ sizeLine ∧ ∀ p, H1 p = none → K.lookup p = none → Q (.ref p) (upd H1 p (.lst xs))
theorem pe_lstK {X : Cx} {es : List Expr} {t : TA} {pos : Pos} (h : PA X es t) : PE X (.List es pos) (tLstK X.K t) := by
  refine ⟨fun pins s σ H Q I hq => ?_⟩
  refine wpAny_List_spliced (thn (h.run pos pins s σ H _ I hq) fun us s1 ⟨xs, H1, I1, r, z, q⟩ => ⟨by rw [← r.length]; exact z, ?_⟩)
  have hf : H1 s1.heap.objs.size = none := I1.hok.fresh (Nat.le_refl _)
  have hk : X.K.lookup s1.heap.objs.size = none := by
    cases e : X.K.lookup s1.heap.objs.size with
    | none => rfl
    | some o =>
      have q := I1.kIn _ _ e
      simp [Heap.get?] at q
  refine ⟨.ref s1.heap.objs.size, upd H1 s1.heap.objs.size (.lst xs), I1.laid (t' := s1.toks) (fun b u e => Heap.get?_push_of_some _ e) (Nat.le_refl _) ?_, rfl, q _ hf hk⟩
  exact ⟨z, us, 0, r, Heap.get?_push_size _ rfl⟩
theorem te_cut {te : TE} {σ : L2.St} {H : Hp} {Q : VK} (C : V → Hp → Prop) (h : ∀ Q' : VK, (∀ v H', C v H' → Q' v H') → te σ H Q') (k : ∀ v H', C v H' → Q v H') : te σ H Q := h Q k
theorem seq_ne {K : PySem.W.Frag} {H : Hp} {a t : Addr} {xs : List V} (h : SqL K H a xs) (n : H t = none) (nk : K.lookup t = none) : a ≠ t := by
  rcases h with (h | ⟨o, h⟩) | ⟨o, _, _, h, _⟩
  · exact ne_of_none h n
  · exact ne_of_none h n
  · intro e
    rw [e, nk] at h
    cases h
theorem plW_app {f : Frm} {x : Bool} (r' : List Bool) : ∀ {r : List Bool} {st : Stt}, plW f st r = some x → plW f st (r ++ r') = some x
  | [], _, h => nomatch h
  | s :: r, st, h => by
    show (match (aft f st s).2 with | some x => some x | none => plW f (aft f st s).1 (r ++ r')) = some x
    have h' : (match (aft f st s).2 with | some x => some x | none => plW f (aft f st s).1 r) = some x := h
    cases e : (aft f st s).2 with
    | some y =>
      rw [e] at h'
      exact h'
    | none =>
      rw [e] at h'
      exact plW_app r' h'
/-- ahead of the last point of a shortest row none has won -/
theorem part_init {f g : Frm} {r : List Bool} (h : PartSpec f g (some r)) : r ≠ [] ∧ win f r.dropLast = none ∧ win g r.dropLast = none := by
  obtain ⟨h1, h2⟩ := h
  have hne : r ≠ [] := fun z => by
    subst z
    exact h1 rfl
  have er : r = r.dropLast ++ [r.getLast hne] := (List.dropLast_concat_getLast hne).symm
  have e : win f r.dropLast = win g r.dropLast := by
    by_cases q : win f r.dropLast = win g r.dropLast
    · exact q
    · have z := h2 _ q
      rw [List.length_dropLast] at z
      have : 0 < r.length := List.length_pos_iff.mpr hne
      omega
  cases ew : win f r.dropLast with
  | none => exact ⟨hne, rfl, by rw [← e]; exact ew⟩
  | some x =>
    refine absurd ?_ h1
    have a1 : win f r = some x := by
      rw [er]
      exact plW_app _ ew
    have a2 : win g r = some x := by
      rw [er]
      exact plW_app _ (e.symm.trans ew)
    rw [a1, a2]
theorem cut_init {xs : List V} : cutV xs none (some (-1)) = xs.dropLast := by
  have e : HT.sIx xs.length xs.length (some (-1)) = xs.length - 1 := by
    show (if (-1 : Int) < 0 then ((-1 : Int) + (xs.length : Int)).toNat else min (-1 : Int).toNat xs.length) = xs.length - 1
    rw [if_pos (by decide)]
    omega
  unfold cutV
  rw [e, HT.sIx_none, List.drop_zero, Nat.sub_zero, List.dropLast_eq_take]
section
variable {P : Program} {w : World} {K : PySem.W.Frag} {mg : Str → Option Value} {base : Heap}
def RowsI (H0 : Hp) (t d : Addr) (i : Nat) (H1 : Hp) : Prop := But t H0 H1 ∧ Town H1 t ∧ ∃ xs, H1 d = some (.lst xs) ∧ xs.length = i ∧ ∀ x ∈ xs, ∃ (p : Addr) (r : List Bool), x = .ref p ∧ p ≠ d ∧ p ≠ t ∧ H1 p = some (.lst (r.map sdV))
def spLaw (K : PySem.W.Frag) : Sp := fun vs H Q _ => ∃ (a : Addr) (ns : List Int), vs = [.ref a] ∧ SqL K H a (ns.map V.int) ∧ ns.length ≤ 63 ∧ ∀ H', Q (.bl true) H'
theorem scLaw : FnScope ["_law_script", "_law_town", "_law_one", "_law_two", "_law_told", "_law_back", "_law_due", "_law_far", "_law_rows", "_law_apart", "_law_k", "_law_step", "_law_row_here"] ["_law_script"] (defScope sLaw) := ⟨rfl, rfl, rfl, by decide +kernel, rfl, by decide +kernel, by decide +kernel⟩
theorem ok_law {f fD fK fL fF fN fW fA fY fI fP : Addr} {fd fdD fdK fdL fdF fdN fdW fdA fdY fdI fdP : FuncData} (D : Def K mg "law" sLaw ["_law_script"] f fd)
    (DD : Def K mg "_law_draw" sDraw ["_law_script", "_law_town", "_law_many"] fD fdD) (DK : Def K mg "_law_pick" sPick ["_law_script", "_law_town", "_law_some"] fK fdK)
    (DL : Def K mg "_law_level" sLv ["_law_script", "_law_town", "_law_most"] fL fdL) (DF : Def K mg "_law_form" sFm ["_law_script", "_law_town"] fF fdF) (DNr : Def K mg "_law_near" sNear ["_law_script", "_law_town", "_law_form_here"] fN fdN)
    (DW : Def K mg "_law_won" sWon ["_law_level_here", "_law_one", "_law_two"] fW fdW) (DA : Def K mg "_law_after" sLaf ["_law_form_here", "_law_state", "_law_side"] fA fdA) (DY : Def K mg "_law_play" sPlay ["_law_form_here", "_law_row_here"] fY fdY)
    (DI : Def K mg "_law_first" sFirst ["_law_one", "_law_two", "_law_most"] fI fdI) (DP : Def K mg "parting" sPart ["form", "other"] fP fdP) (kit : Kit K mg) (T : Txt K mg) : FnOk P w K mg base CX0 6 f fd ["_law_script"] (spLaw K) := by
  have GD : FnOk P w K mg base CX0 1 fD fdD ["_law_script", "_law_town", "_law_many"] (spDraw K) := ok_draw DD T
  have GF : FnOk P w K mg base CX0 4 fF fdF ["_law_script", "_law_town"] (spFm K) := ok_fm DF DD DK DL T
  have GN : FnOk P w K mg base CX0 2 fN fdN ["_law_script", "_law_town", "_law_form_here"] (spNear K) := ok_near DNr DD T
  have GY : FnOk P w K mg base CX0 3 fY fdY ["_law_form_here", "_law_row_here"] spPlay := ok_play DY DA DW T
  have GI : FnOk P w K mg base CX0 3 fI fdI ["_law_one", "_law_two", "_law_most"] spFirst := ok_first DI DA DW T
  have GP : FnOk P w K mg base CX0 5 fP fdP ["form", "other"] spPart := ok_part DP kit T
  refine D.F.ok scLaw (fun vs H Q E h => ?_) (fun cdv A outer s0 H vs Q E hr h => ?_)
  · obtain ⟨a, ns, rfl, _⟩ := h
    rfl
  · obtain ⟨a, ns, rfl, hS, hlen, kq⟩ := h
    have hr5 := hr
    have hr4 : Room 4 _ := hr.mono (by decide)
    have hr3 : Room 3 _ := hr.mono (by decide)
    have hr2 : Room 2 _ := hr.mono (by decide)
    have hr1 : Room 1 _ := hr.mono (by decide)
    refine ⟨_, (pss_cons (ps_set (i := 1) scLaw.nd rfl (Or.inr rfl) (pe_lstK (pa_cons pe_int (pa_cons pe_int pa_nil))))
      (pss_cons (ps_set (i := 2) scLaw.nd rfl (Or.inr rfl) (pe_call GF hr4 (by rfl) DF.mgf DF.F.kp DF.b .nil pass0 (pa_cons (pv 0) (pa_cons (pv 1) pa_nil))))
      (pss_cons (ps_set (i := 3) scLaw.nd rfl (Or.inr rfl) (pe_ifExp (pt_cmpR op_gt (pe_call GD hr1 (by rfl) DD.mgf DD.F.kp DD.b .nil pass0 (pa_cons (pv 0) (pa_cons (pv 1) (pa_cons pe_int pa_nil)))) pe_int (nomark _)) (pe_call GN hr2 (by rfl) DNr.mgf DNr.F.kp DNr.b .nil pass0 (pa_cons (pv 0) (pa_cons (pv 1) (pa_cons (pv 2) pa_nil)))) (pe_call GF hr4 (by rfl) DF.mgf DF.F.kp DF.b .nil pass0 (pa_cons (pv 0) (pa_cons (pv 1) pa_nil)))))
      (pss_cons (ps_par (i := 4) (j := 5) (by rfl) scLaw.nd rfl rfl (by decide) rfl rfl (pa_cons (pe_call GP hr5 (by rfl) DP.mgf DP.F.kp DP.b .nil pass0 (pa_cons (pv 2) (pa_cons (pv 3) pa_nil))) (pa_cons (pe_call GP hr5 (by rfl) DP.mgf DP.F.kp DP.b .nil pass0 (pa_cons (pv 3) (pa_cons (pv 2) pa_nil))) pa_nil)) (by rfl))
      (pss_cons (ps_asg (pe_call GI hr3 (by rfl) DI.mgf DI.F.kp DI.b .nil pass0 (pa_cons (pv 2) (pa_cons (pv 3) (pa_cons pe_int pa_nil)))) (pg_tup rfl (pgs_cons (pg_name (i := 6) scLaw.nd rfl (Or.inl rfl)) (pgs_cons (pg_name (i := 7) scLaw.nd rfl (Or.inl rfl)) pgs_nil))))
      (pss_cons (ps_if (PW.pt (pw_or (pt_cmpR op_ne (pe_cmp (pc_isN (pv 4))) (pe_cmp (pc_isN (pv 5))) (nomark _)) (pw_or1 (pt_cmp (pc_notN (pe_call GP hr5 (by rfl) DP.mgf DP.F.kp DP.b .nil pass0 (pa_cons (pv 2) (pa_cons (pv 2) pa_nil)))))))) (pss_one (ps_ret pe_bl)) pss_nil)
      (pss_cons (ps_if (pt_cmp (pc_isN (pv 4))) (pss_cons (ps_setLc (i := 8) (own := [("_law_k", 10)]) (g := gName 10) (tt := tYes) (by rfl) scLaw.nd rfl rfl (sw_true rfl rfl rfl (by decide +kernel)) (pi_range1 (by rfl) T.rng (pa_cons pe_int pa_nil)) (blkOk_by (own := [("_law_k", 10)]) (N := ["_law_script", "_law_town", "_law_one", "_law_two", "_law_told", "_law_back", "_law_due", "_law_far", "_law_rows", "_law_apart", "_law_k", "_law_step", "_law_row_here"]) (sc := defScope sLaw) (by decide +kernel)) (fun _ _ _ _ _ => pg_name (i := 10) scLaw.nd rfl (Or.inl rfl)) (fun _ _ _ _ _ => pts_nil) (fun _ _ _ _ _ => (pe_lc (own := [("_law_step", 11)]) (g := gName 11) (tt := tYes) (by rfl) scLaw.nd (pi_range1 (by rfl) T.rng (pa_cons pe_int pa_nil)) (blkOk_by (own := [("_law_step", 11)]) (N := ["_law_script", "_law_town", "_law_one", "_law_two", "_law_told", "_law_back", "_law_due", "_law_far", "_law_rows", "_law_apart", "_law_k", "_law_step", "_law_row_here"]) (sc := relS { kind := .function, names := [(".0", .local), ("_law_k", .local), ("range", .globalImplicit), ("_law_script", .free), ("_law_town", .free)], isGenerator := false, isCoroutine := false } (defScope sLaw)) (by decide +kernel)) (fun _ _ _ _ _ => pg_name (i := 11) scLaw.nd rfl (Or.inl rfl)) (fun _ _ _ _ _ => pts_nil) (fun _ _ _ _ _ => (pe_call GD hr1 (by rfl) DD.mgf DD.F.kp DD.b .nil pass0 (pa_cons (pv 0) (pa_cons (pv 1) (pa_cons pe_int pa_nil))))))))
      (pss_cons (ps_setLc (i := 9) (own := [("_law_row_here", 12)]) (g := gName 12) (by rfl) scLaw.nd rfl rfl (sw_true rfl rfl rfl (by decide +kernel)) (pi_list (pv 8)) (blkOk_by (own := [("_law_row_here", 12)]) (N := ["_law_script", "_law_town", "_law_one", "_law_two", "_law_told", "_law_back", "_law_due", "_law_far", "_law_rows", "_law_apart", "_law_k", "_law_step", "_law_row_here"]) (sc := defScope sLaw) (by decide +kernel)) (fun _ _ _ _ _ => pg_name (i := 12) scLaw.nd rfl (Or.inl rfl)) (fun _ _ _ _ _ => (pts_one (pt_cmpR op_ne (pe_ix (ix_tupK (K := K) rfl) (pe_call GY hr3 (by rfl) DY.mgf DY.F.kp DY.b .nil pass0 (pa_cons (pv 2) (pa_cons (pv 12) pa_nil))) pe_int (fun _ _ => rfl)) (pe_ix (ix_tupK (K := K) rfl) (pe_call GY hr3 (by rfl) DY.mgf DY.F.kp DY.b .nil pass0 (pa_cons (pv 3) (pa_cons (pv 12) pa_nil))) pe_int (fun _ _ => rfl)) (nomark _)))) (fun _ _ _ _ _ => (pv 12)))
      (pss_one (ps_ret (pe_and (pe_cmp (pc_isN (pv 6))) (pe_one (pe_cmpR (op_eqNil hr.units) (pv 9) (pe_lst pa_nil) (nomark _)))))))) pss_nil)
      (pss_cons (ps_if (PW.pt (pw_or (pt_cmpR op_ne (pe_callB call_len_seq (by rfl) T.len (by decide +kernel) (pa_cons (pv 5) pa_nil)) (pe_callB call_len_seq (by rfl) T.len (by decide +kernel) (pa_cons (pv 4) pa_nil)) (nomark _)) (pw_or1 (pt_cmpR op_eq (pe_ix ix_tup (pe_call GY hr3 (by rfl) DY.mgf DY.F.kp DY.b .nil pass0 (pa_cons (pv 2) (pa_cons (pv 4) pa_nil))) pe_int (fun _ _ => rfl)) (pe_ix ix_tup (pe_call GY hr3 (by rfl) DY.mgf DY.F.kp DY.b .nil pass0 (pa_cons (pv 3) (pa_cons (pv 4) pa_nil))) pe_int (fun _ _ => rfl)) (nomark _))))) (pss_one (ps_ret pe_bl)) pss_nil)
      (pss_cons (ps_if (PW.pt (pw_or (pt_cmp (pc_notN (pe_ix ix_tup (pe_call GY hr3 (by rfl) DY.mgf DY.F.kp DY.b .nil pass0 (pa_cons (pv 2) (pa_cons (pe_slice sl_list (pv 4) po_none (po_some (pe_un un_neg pe_int))) pa_nil))) pe_int (fun _ _ => rfl)))) (pw_or1 (pt_cmp (pc_notN (pe_ix ix_tup (pe_call GY hr3 (by rfl) DY.mgf DY.F.kp DY.b .nil pass0 (pa_cons (pv 3) (pa_cons (pe_slice sl_list (pv 4) po_none (po_some (pe_un un_neg pe_int))) pa_nil))) pe_int (fun _ _ => rfl))))))) (pss_one (ps_ret pe_bl)) pss_nil)
      (pss_one (ps_ret (pe_ifExp (pt_cmp (pc_notN (pv 6))) (pe_cmpR op_eq (pe_callB call_len_seq (by rfl) T.len (by decide +kernel) (pa_cons (pv 4) pa_nil)) (pv 6) (nomark _)) (pe_cmpR op_gt (pe_callB call_len_seq (by rfl) T.len (by decide +kernel) (pa_cons (pv 4) pa_nil)) (pv 7) (nomark _)))))))))))))), ?_⟩
    refine ⟨(by show 2 ≤ sizeLine; decide), fun t nt nkt => ?_⟩
    have s1 := same_new (o := .lst [.int 0, .int 0]) nt
    have S1 : Scr K (upd H t (.lst [.int 0, .int 0])) a t := ⟨ns, s1.seq hS, seq_ne hS nt nkt, hlen⟩
    have W1 : Town (upd H t (.lst [.int 0, .int 0])) t := ⟨0, 0, upd_same, Int.le_refl _⟩
    show tSeq _ _ _ _ (upd H t (.lst [.int 0, .int 0]))
    generalize upd H t (.lst [.int 0, .int 0]) = H1 at *
    refine ⟨_, rfl, _, rfl, a, t, rfl, S1, W1, fun f b1 H2 hd hf b2 W2 => ?_⟩
    have S2 := S1.but b2
    clear S1 W1 b2
    show tSeq _ _ _ _ H2
    unfold tSeq tAsg
    dsimp only
    refine te_cut (te := tIf _ _ _) (fun v H4 => ∃ g c, v = .ref c ∧ Fit f g ∧ FmAt H4 b1 f ∧ FmAt H4 c g ∧ Scr K H4 a t ∧ Town H4 t) (fun Q' k' => ?_) ?_
    · have fit0 := fit_drawn hd hd
      refine ⟨_, rfl, _, rfl, a, t, 4, rfl, S2, W2, by decide, by decide, fun r H3 r0 r1 b3 W3 => ⟨_, _, rfl, rfl, ?_⟩⟩
      have S3 := S2.but b3
      have hf3 := hf.tups (b3.tups W2)
      by_cases hr0 : 0 < r
      · refine ⟨true, congrArg V.bl (decide_eq_true hr0), iteT ?_⟩
        refine ⟨_, rfl, _, rfl, _, rfl, a, t, b1, f, rfl, S3, W3, hf3, fit0.lf.1, fit0.lf.2, fun g c H4 hN hg b4 W4 => ?_⟩
        exact k' _ _ ⟨g, c, rfl, fit_near hd hN, hf3.tups (b4.tups W3), hg, S3.but b4, W4⟩
      · refine ⟨false, congrArg V.bl (decide_eq_false hr0), iteF ?_⟩
        refine ⟨_, rfl, _, rfl, a, t, rfl, S3, W3, fun g c H4 hd2 hg b4 W4 => ?_⟩
        exact k' _ _ ⟨g, c, rfl, fit_drawn hd hd2, hf3.tups (b4.tups W3), hg, S3.but b4, W4⟩
    · rintro _ H4 ⟨g, c, rfl, fit, hf4, hg4, S4, W4⟩
      clear S2 W2 hf hd s1 nt hS
      obtain ⟨okf, okg, lf, lg, cfg, cgf, cff⟩ := fit
      -- told, back
      refine ⟨_, rfl, _, rfl, b1, c, f, g, rfl, hf4, hg4, okf, okg, lf, lg, cfg, fun told v1 H5 s5 ps1 rv1 => ?_⟩
      refine ⟨_, rfl, _, rfl, c, b1, g, f, rfl, hg4.tups (Tups.of s5), hf4.tups (Tups.of s5), okg, okf, lg, lf, cgf, fun back v2 H6 s6 ps2 rv2 => ⟨_, _, rfl, ?_⟩⟩
      have s46 := s5.trans s6
      -- due, far
      refine ⟨_, rfl, _, rfl, b1, c, f, g, rfl, hf4.tups (Tups.of s46), hg4.tups (Tups.of s46), okf, okg, lf, lg, fun due far p H7 s7 fs e7 => ?_⟩
      refine ⟨p, _, rfl, SqT.of e7, rfl, _, _, rfl, _, _, rfl, rfl, ?_⟩
      have s47 := s46.trans s7
      have s57 := s6.trans s7
      -- (told is None) != (back is None)
      cases told with
      | none =>
        cases back with
        | some r2 => exact absurd (ps1 r2).symm ps2.1
        | none =>
          have ev1 : v1 = .non := rv1
          have ev2 : v2 = .non := rv2
          subst ev1 ev2
          refine ⟨_, rfl, _, rfl, rfl, false, rfl, iteF ?_⟩
          refine ⟨_, rfl, _, rfl, b1, b1, f, f, rfl, hf4.tups (Tups.of s47), hf4.tups (Tups.of s47), okf, okf, lf, lf, cff, fun self v3 H8 s8 ps3 rv3 => ?_⟩
          cases self with
          | some r3 => exact absurd rfl ps3.1
          | none =>
            have ev3 : v3 = .non := rv3
            subst ev3
            refine ⟨false, congrArg (fun b => V.bl (!b)) (decide_eq_true rfl), iteF ?_⟩
            refine ⟨_, rfl, true, congrArg V.bl (decide_eq_true rfl), iteT ?_⟩
            have s48 := s47.trans s8
            have S8 := S4.but (But.same s48)
            have W8 := W4.same s48
            refine ⟨4, rfl, by decide, by decide, fun d nd => ?_⟩
            have hdt := town_ne W8 nd
            refine lc_range (lo := 0) (n := (4 : Int).toNat) (RowsI H8 t d) ⟨But.same (same_new nd), W8.same (same_new nd), [], upd_same, rfl, (fun _ h => nomatch h)⟩ ?_ ?_
            · rintro i H9 hi ⟨b9, W9, xs, e1, e2, e3⟩
              refine ⟨rfl, ?_⟩
              refine ⟨80, rfl, by decide, by decide, fun d2 nd2 => ?_⟩
              have hdt2 := town_ne W9 nd2
              have hd2 : d ≠ d2 := ne_of_none e1 nd2
              refine lc_range (lo := 0) (n := (80 : Int).toNat) (fun j H10 => But t H9 H10 ∧ Town H10 t ∧ ∃ r : List Bool, H10 d2 = some (.lst (r.map sdV)) ∧ r.length = j) ⟨But.same (same_new nd2), W9.same (same_new nd2), [], upd_same, rfl⟩ ?_ ?_
              · rintro j H10 hj ⟨b10, W10, r, g1, g2⟩
                refine ⟨rfl, ?_⟩
                refine ⟨_, rfl, _, rfl, a, t, 2, rfl, S8.but (b9.trans b10), W10, by decide, by decide, fun z H11 z0 z1 b11 W11 => ?_⟩
                have hj' : j < 80 := hj
                refine ⟨r.map sdV, b11 _ _ g1 hdt2, by rw [List.length_map]; exact small1000 (by omega), fun b o e n => ?_, ?_, r ++ [decide (z = 1)], ?_, by simp [g2]⟩
                · rw [upd_ne (ne_of_none e nd2)]
                  exact (b10.trans b11) _ _ e n
                · obtain ⟨pp, gg, w1, w2⟩ := W11
                  exact ⟨pp, gg, by rw [upd_ne hdt2.symm]; exact w1, w2⟩
                · rw [upd_same, List.map_append]
                  have ez : V.int z = sdV (decide (z = 1)) := by
                    by_cases h : z = 1
                    · rw [decide_eq_true h, h]
                      rfl
                    · rw [decide_eq_false h]
                      exact congrArg V.int (show z = 0 by omega)
                  rw [ez]
                  rfl
              · rintro H10 ⟨b10, W10, r, g1, g2⟩
                have hi' : i < 4 := hi
                refine ⟨xs, b10 _ _ e1 hdt, small1000 (by omega), fun b o e n => ?_, ?_, xs ++ [.ref d2], upd_same, by simp [e2], fun x hx => ?_⟩
                · rw [upd_ne (ne_of_none e nd)]
                  exact (b9.trans b10) _ _ e n
                · obtain ⟨pp, gg, w1, w2⟩ := W10
                  exact ⟨pp, gg, by rw [upd_ne hdt.symm]; exact w1, w2⟩
                · rcases List.mem_append.mp hx with hx | hx
                  · obtain ⟨p3, r3, rfl, n3, n4, h3⟩ := e3 x hx
                    refine ⟨p3, r3, rfl, n3, n4, ?_⟩
                    rw [upd_ne n3]
                    exact b10 _ _ h3 n4
                  · exact ⟨d2, r, List.mem_singleton.mp hx, hd2.symm, hdt2, by rw [upd_ne hd2.symm]; exact g1⟩
            · rintro H9 ⟨b9, W9, xs, e1, e2, e3⟩
              refine ⟨_, rfl, d, rfl, ⟨xs, SqL.of e1⟩, fun d3 nd3 => ?_⟩
              refine lc_list (K := K) (a := d) (xs := xs) (fun i H10 => Same H9 H10 ∧ H10 d3 = some (.lst [])) ⟨same_new nd3, upd_same⟩ (fun i H10 _ ⟨q, _⟩ => SqL.of (q _ _ e1)) ?_ ?_
              · rintro i x H10 hx ⟨q, e⟩
                obtain ⟨pr, r, rfl, _, _, hp⟩ := e3 x (List.mem_of_getElem? hx)
                have tt : Tups H4 H10 := (Tups.of s48).trans ((b9.tups W8).trans (Tups.of q))
                refine ⟨rfl, ?_⟩
                refine ⟨_, rfl, _, rfl, b1, pr, f, r, rfl, hf4.tups tt, okf, lf.1, lf.2, q _ _ hp, fun x1 y1 z1 H11 s11 e11 => ⟨x1, _, 0, winV (win f r), rfl, rfl, SqT.of e11, rfl, ?_⟩⟩
                refine ⟨_, rfl, _, rfl, c, pr, g, r, rfl, hg4.tups (tt.trans (Tups.of s11)), okg, lg.1, lg.2, (q.trans s11) _ _ hp, fun x2 y2 z2 H12 s12 e12 => ⟨x2, _, 0, winV (win g r), rfl, rfl, SqT.of e12, rfl, scal_win _ _, false, congrArg (fun b => V.bl (!b)) (decide_eq_true (congrArg winV (ps1 r))), iteF ?_⟩⟩
                exact ⟨q.trans (s11.trans s12), (s11.trans s12) _ _ e⟩
              · rintro H10 ⟨q, e⟩
                rcases fs with ⟨n, _, ⟨r, _, hr⟩, _⟩ | ⟨rfl, _⟩
                · exact absurd (ps1 r) hr
                · refine ⟨_, rfl, true, congrArg V.bl (decide_eq_true rfl), iteT ?_⟩
                  refine ⟨_, rfl, Nat.zero_le _, fun z nz => ⟨d3, z, [], rfl, rfl, SqL.of ((same_new nz) _ _ e), SqL.of upd_same, ?_⟩⟩
                  exact kq _
      | some r1 =>
        cases back with
        | none => exact absurd (ps2 r1).symm ps1.1
        | some r2 =>
          obtain ⟨p1, rfl, hp1⟩ := rv1
          obtain ⟨p2, rfl, hp2⟩ := rv2
          refine ⟨_, rfl, _, rfl, rfl, false, rfl, iteF ?_⟩
          refine ⟨_, rfl, _, rfl, b1, b1, f, f, rfl, hf4.tups (Tups.of s47), hf4.tups (Tups.of s47), okf, okf, lf, lf, cff, fun self v3 H8 s8 ps3 rv3 => ?_⟩
          cases self with
          | some r3 => exact absurd rfl ps3.1
          | none =>
            have ev3 : v3 = .non := rv3
            subst ev3
            refine ⟨false, congrArg (fun b => V.bl (!b)) (decide_eq_true rfl), iteF ?_⟩
            refine ⟨_, rfl, false, congrArg V.bl (decide_eq_false (fun z => nomatch z)), iteF ?_⟩
            have s48 := s47.trans s8
            have q1 := (s57.trans s8) _ _ hp1
            have q2 := (s7.trans s8) _ _ hp2
            have hf8 := hf4.tups (Tups.of s48)
            have hg8 := hg4.tups (Tups.of s48)
            have el : r2.length = r1.length := Nat.le_antisymm (ps2.2 r1 fun z => ps1.1 z.symm) (ps1.2 r2 fun z => ps2.1 z.symm)
            obtain ⟨_, i1, i2⟩ := part_init ps1
            clear nkt hf4 hg4 hp1 hp2 e7 S4 W4 cfg cgf cff
            refine ⟨_, rfl, p2, _, rfl, .inl (SqL.of q2), _, rfl, p1, _, rfl, .inl (SqL.of q1), rfl, false, congrArg (fun b => V.bl (!b)) (decide_eq_true (congrArg V.int (by rw [List.length_map, List.length_map, el]))), iteF ?_⟩
            refine ⟨_, rfl, _, rfl, b1, p1, f, r1, rfl, hf8, okf, lf.1, lf.2, q1, fun x1 y1 z1 H9 s9 e9 => ⟨x1, _, 0, winV (win f r1), rfl, rfl, SqT.of e9, rfl, ?_⟩⟩
            refine ⟨_, rfl, _, rfl, c, p1, g, r1, rfl, hg8.tups (Tups.of s9), okg, lg.1, lg.2, s9 _ _ q1, fun x2 y2 z2 H10 s10 e10 => ⟨x2, _, 0, winV (win g r1), rfl, rfl, SqT.of e10, rfl, scal_win _ _, false, congrArg V.bl (decide_eq_false fun z => ps1.1 (win_inj z)), iteF ?_⟩⟩
            have s810 := s9.trans s10
            have ed : cutV (r1.map sdV) none (some (-1)) = r1.dropLast.map sdV := by rw [cut_init, List.map_dropLast]
            refine ⟨_, rfl, _, rfl, 1, rfl, -1, rfl, p1, _, rfl, SqL.of (s810 _ _ q1), fun l nl => ?_⟩
            have s11 := same_new (o := .lst (cutV (r1.map sdV) none (some (-1)))) nl
            have s811 := s810.trans s11
            refine ⟨b1, l, f, r1.dropLast, rfl, hf8.tups (Tups.of s811), okf, lf.1, lf.2, by rw [upd_same, ed], fun x3 y3 z3 H12 s12 e12 => ⟨x3, _, 0, winV (win f r1.dropLast), rfl, rfl, SqT.of e12, rfl, ?_⟩⟩
            refine ⟨false, congrArg (fun b => V.bl (!b)) (decide_eq_true (congrArg winV i1)), iteF ?_⟩
            have s812 := s811.trans s12
            refine ⟨_, rfl, _, rfl, 1, rfl, -1, rfl, p1, _, rfl, SqL.of (s812 _ _ q1), fun l2 nl2 => ?_⟩
            have s13 := same_new (o := .lst (cutV (r1.map sdV) none (some (-1)))) nl2
            have s813 := s812.trans s13
            refine ⟨c, l2, g, r1.dropLast, rfl, hg8.tups (Tups.of s813), okg, lg.1, lg.2, by rw [upd_same, ed], fun x4 y4 z4 H14 s14 e14 => ⟨x4, _, 0, winV (win g r1.dropLast), rfl, rfl, SqT.of e14, rfl, ?_⟩⟩
            refine ⟨false, congrArg (fun b => V.bl (!b)) (decide_eq_true (congrArg winV i2)), iteF ?_⟩
            have q3 := (s813.trans s14) _ _ q1
            rcases fs with ⟨n, rfl, ⟨r, hr1, hr2⟩, hmin⟩ | ⟨rfl, hmin⟩
            · refine ⟨_, rfl, true, congrArg (fun b => V.bl (!b)) (decide_eq_false (fun z => nomatch z)), iteT ?_⟩
              refine ⟨_, rfl, p1, _, rfl, .inl (SqL.of q3), _, rfl, rfl, ?_⟩
              have en : r1.length = n := Nat.le_antisymm (by rw [← hr1]; exact ps1.2 r hr2) (hmin r1 ps1.1)
              rw [decide_eq_true (congrArg V.int (by rw [List.length_map, en]))]
              exact kq _
            · refine ⟨_, rfl, false, congrArg (fun b => V.bl (!b)) (decide_eq_true rfl), iteF ?_⟩
              refine ⟨_, rfl, p1, _, rfl, .inl (SqL.of q3), _, rfl, _, _, rfl, rfl, ?_⟩
              have en := hmin r1 ps1.1
              show Q (.bl (decide (far < (((r1.map sdV).length : Nat) : Int)))) _
              rw [decide_eq_true (by rw [List.length_map]; exact en)]
              exact kq _
end
end SF
set_option Elab.async false
set_option linter.all false
set_option maxRecDepth 100000
/-! the head of the law -/
namespace SF
open PySem PySem.Spec PyProof.Rows L2
theorem all_mk {l : PySem.W.OpenLaw} {w : World} {K : PySem.W.Frag} {h : Heap} {mg : Str → Option Value} {fa : Addr} (X : K.In h) (G : h.Ns mainGlobals mg) (hfa : mg "law" = some (.ref fa))
    {fC fL fG fN fR fS fP fA fT fW fQ fdr fpk flv ffm fwn fla fpl fnr ffi flw : Addr} {odC anC odL anL odG anG odN anN odR anR odS anS odP anP odA anA odT anT odW anW odQ anQ oddr andr odpk anpk odlv anlv odfm anfm odwn anwn odla anla odpl anpl odnr annr odfi anfi odlw anlw : Option Addr} {slC slL slG slN slR slS slP slA slT slW slQ sldr slpk sllv slfm slwn slla slpl slnr slfi sllw : Array (Option Value)}
    {ocC kVC dcC pmC cdC ctC ocL kVL dcL pmL cdL ctL ocG kVG dcG pmG cdG ctG ocN kVN dcN pmN cdN ctN ocR kVR dcR pmR cdR ctR ocS kVS dcS pmS cdS ctS ocP kVP dcP pmP cdP ctP ocA kVA dcA pmA cdA ctA ocT kVT dcT pmT cdT ctT ocW kVW dcW pmW cdW ctW ocQ kVQ dcQ pmQ cdQ ctQ ocdr kVdr dcdr pmdr cddr ctdr ocpk kVpk dcpk pmpk cdpk ctpk oclv kVlv dclv pmlv cdlv ctlv ocfm kVfm dcfm pmfm cdfm ctfm ocwn kVwn dcwn pmwn cdwn ctwn ocla kVla dcla pmla cdla ctla ocpl kVpl dcpl pmpl cdpl ctpl ocnr kVnr dcnr pmnr cdnr ctnr ocfi kVfi dcfi pmfi cdfi ctfi oclw kVlw dclw pmlw cdlw ctlw : Value} {ttg tld tcp tlvs : Tok}
    (aC : PySem.W.nsIn K mainGlobals "is_count" = some (some (.ref fC))) (lC : K.lookup fC = some ⟨ocC, odC, .func (PySem.W.fnOf "is_count" "is_count" (defArgs sCount) (defBody sCount) (defScope sCount) .none kVC dcC pmC anC cdC ctC), slC⟩) (cC : PySem.W.codeIn K cdC "is_count" = true) (kC : PySem.W.keepIn K (.ref fC) = true)
    (aL : PySem.W.nsIn K mainGlobals "is_level" = some (some (.ref fL))) (lL : K.lookup fL = some ⟨ocL, odL, .func (PySem.W.fnOf "is_level" "is_level" (defArgs sLevel) (defBody sLevel) (defScope sLevel) .none kVL dcL pmL anL cdL ctL), slL⟩) (cL : PySem.W.codeIn K cdL "is_level" = true) (kL : PySem.W.keepIn K (.ref fL) = true)
    (aG : PySem.W.nsIn K mainGlobals "is_form" = some (some (.ref fG))) (lG : K.lookup fG = some ⟨ocG, odG, .func (PySem.W.fnOf "is_form" "is_form" (defArgs sForm) (defBody sForm) (defScope sForm) .none kVG dcG pmG anG cdG ctG), slG⟩) (cG : PySem.W.codeIn K cdG "is_form" = true) (kG : PySem.W.keepIn K (.ref fG) = true)
    (aN : PySem.W.nsIn K mainGlobals "need_form" = some (some (.ref fN))) (lN : K.lookup fN = some ⟨ocN, odN, .func (PySem.W.fnOf "need_form" "need_form" (defArgs sNeed) (defBody sNeed) (defScope sNeed) .none kVN dcN pmN anN cdN ctN), slN⟩) (cN : PySem.W.codeIn K cdN "need_form" = true) (kN : PySem.W.keepIn K (.ref fN) = true)
    (aR : PySem.W.nsIn K mainGlobals "round_winner" = some (some (.ref fR))) (lR : K.lookup fR = some ⟨ocR, odR, .func (PySem.W.fnOf "round_winner" "round_winner" (defArgs sRw) (defBody sRw) (defScope sRw) .none kVR dcR pmR anR cdR ctR), slR⟩) (cR : PySem.W.codeIn K cdR "round_winner" = true) (kR : PySem.W.keepIn K (.ref fR) = true)
    (aS : PySem.W.nsIn K mainGlobals "start_of" = some (some (.ref fS))) (lS : K.lookup fS = some ⟨ocS, odS, .func (PySem.W.fnOf "start_of" "start_of" (defArgs sStart) (defBody sStart) (defScope sStart) .none kVS dcS pmS anS cdS ctS), slS⟩) (cS : PySem.W.codeIn K cdS "start_of" = true) (kS : PySem.W.keepIn K (.ref fS) = true)
    (aP : PySem.W.nsIn K mainGlobals "plus" = some (some (.ref fP))) (lP : K.lookup fP = some ⟨ocP, odP, .func (PySem.W.fnOf "plus" "plus" (defArgs sPlus) (defBody sPlus) (defScope sPlus) .none kVP dcP pmP anP cdP ctP), slP⟩) (cP : PySem.W.codeIn K cdP "plus" = true) (kP : PySem.W.keepIn K (.ref fP) = true)
    (aA : PySem.W.nsIn K mainGlobals "after" = some (some (.ref fA))) (lA : K.lookup fA = some ⟨ocA, odA, .func (PySem.W.fnOf "after" "after" (defArgs sAfter) (defBody sAfter) (defScope sAfter) .none kVA dcA pmA anA cdA ctA), slA⟩) (cA : PySem.W.codeIn K cdA "after" = true) (kA : PySem.W.keepIn K (.ref fA) = true)
    (aT : PySem.W.nsIn K mainGlobals "settled" = some (some (.ref fT))) (lT : K.lookup fT = some ⟨ocT, odT, .func (PySem.W.fnOf "settled" "settled" (defArgs sSet) (defBody sSet) (defScope sSet) .none kVT dcT pmT anT cdT ctT), slT⟩) (cT : PySem.W.codeIn K cdT "settled" = true) (kT : PySem.W.keepIn K (.ref fT) = true)
    (aW : PySem.W.nsIn K mainGlobals "row_to" = some (some (.ref fW))) (lW : K.lookup fW = some ⟨ocW, odW, .func (PySem.W.fnOf "row_to" "row_to" (defArgs sRow) (defBody sRow) (defScope sRow) .none kVW dcW pmW anW cdW ctW), slW⟩) (cW : PySem.W.codeIn K cdW "row_to" = true) (kW : PySem.W.keepIn K (.ref fW) = true)
    (aQ : PySem.W.nsIn K mainGlobals "parting" = some (some (.ref fQ))) (lQ : K.lookup fQ = some ⟨ocQ, odQ, .func (PySem.W.fnOf "parting" "parting" (defArgs sPart) (defBody sPart) (defScope sPart) .none kVQ dcQ pmQ anQ cdQ ctQ), slQ⟩) (cQ : PySem.W.codeIn K cdQ "parting" = true) (kQ : PySem.W.keepIn K (.ref fQ) = true)
    (adr : PySem.W.nsIn K mainGlobals "_law_draw" = some (some (.ref fdr))) (ldr : K.lookup fdr = some ⟨ocdr, oddr, .func (PySem.W.fnOf "_law_draw" "_law_draw" (defArgs sDraw) (defBody sDraw) (defScope sDraw) .none kVdr dcdr pmdr andr cddr ctdr), sldr⟩) (cdr : PySem.W.codeIn K cddr "_law_draw" = true) (kdr : PySem.W.keepIn K (.ref fdr) = true)
    (apk : PySem.W.nsIn K mainGlobals "_law_pick" = some (some (.ref fpk))) (lpk : K.lookup fpk = some ⟨ocpk, odpk, .func (PySem.W.fnOf "_law_pick" "_law_pick" (defArgs sPick) (defBody sPick) (defScope sPick) .none kVpk dcpk pmpk anpk cdpk ctpk), slpk⟩) (cpk : PySem.W.codeIn K cdpk "_law_pick" = true) (kpk : PySem.W.keepIn K (.ref fpk) = true)
    (alv : PySem.W.nsIn K mainGlobals "_law_level" = some (some (.ref flv))) (llv : K.lookup flv = some ⟨oclv, odlv, .func (PySem.W.fnOf "_law_level" "_law_level" (defArgs sLv) (defBody sLv) (defScope sLv) .none kVlv dclv pmlv anlv cdlv ctlv), sllv⟩) (clv : PySem.W.codeIn K cdlv "_law_level" = true) (klv : PySem.W.keepIn K (.ref flv) = true)
    (afm : PySem.W.nsIn K mainGlobals "_law_form" = some (some (.ref ffm))) (lfm : K.lookup ffm = some ⟨ocfm, odfm, .func (PySem.W.fnOf "_law_form" "_law_form" (defArgs sFm) (defBody sFm) (defScope sFm) .none kVfm dcfm pmfm anfm cdfm ctfm), slfm⟩) (cfm : PySem.W.codeIn K cdfm "_law_form" = true) (kfm : PySem.W.keepIn K (.ref ffm) = true)
    (awn : PySem.W.nsIn K mainGlobals "_law_won" = some (some (.ref fwn))) (lwn : K.lookup fwn = some ⟨ocwn, odwn, .func (PySem.W.fnOf "_law_won" "_law_won" (defArgs sWon) (defBody sWon) (defScope sWon) .none kVwn dcwn pmwn anwn cdwn ctwn), slwn⟩) (cwn : PySem.W.codeIn K cdwn "_law_won" = true) (kwn : PySem.W.keepIn K (.ref fwn) = true)
    (ala : PySem.W.nsIn K mainGlobals "_law_after" = some (some (.ref fla))) (lla : K.lookup fla = some ⟨ocla, odla, .func (PySem.W.fnOf "_law_after" "_law_after" (defArgs sLaf) (defBody sLaf) (defScope sLaf) .none kVla dcla pmla anla cdla ctla), slla⟩) (cla : PySem.W.codeIn K cdla "_law_after" = true) (kla : PySem.W.keepIn K (.ref fla) = true)
    (apl : PySem.W.nsIn K mainGlobals "_law_play" = some (some (.ref fpl))) (lpl : K.lookup fpl = some ⟨ocpl, odpl, .func (PySem.W.fnOf "_law_play" "_law_play" (defArgs sPlay) (defBody sPlay) (defScope sPlay) .none kVpl dcpl pmpl anpl cdpl ctpl), slpl⟩) (cpl : PySem.W.codeIn K cdpl "_law_play" = true) (kpl : PySem.W.keepIn K (.ref fpl) = true)
    (anr : PySem.W.nsIn K mainGlobals "_law_near" = some (some (.ref fnr))) (lnr : K.lookup fnr = some ⟨ocnr, odnr, .func (PySem.W.fnOf "_law_near" "_law_near" (defArgs sNear) (defBody sNear) (defScope sNear) .none kVnr dcnr pmnr annr cdnr ctnr), slnr⟩) (cnr : PySem.W.codeIn K cdnr "_law_near" = true) (knr : PySem.W.keepIn K (.ref fnr) = true)
    (afi : PySem.W.nsIn K mainGlobals "_law_first" = some (some (.ref ffi))) (lfi : K.lookup ffi = some ⟨ocfi, odfi, .func (PySem.W.fnOf "_law_first" "_law_first" (defArgs sFirst) (defBody sFirst) (defScope sFirst) .none kVfi dcfi pmfi anfi cdfi ctfi), slfi⟩) (cfi : PySem.W.codeIn K cdfi "_law_first" = true) (kfi : PySem.W.keepIn K (.ref ffi) = true)
    (alw : PySem.W.nsIn K mainGlobals "law" = some (some (.ref flw))) (llw : K.lookup flw = some ⟨oclw, odlw, .func (PySem.W.fnOf "law" "law" (defArgs sLaw) (defBody sLaw) (defScope sLaw) .none kVlw dclw pmlw anlw cdlw ctlw), sllw⟩) (clw : PySem.W.codeIn K cdlw "law" = true) (klw : PySem.W.keepIn K (.ref flw) = true)
    (atg : PySem.W.nsIn K mainGlobals "TARGET" = some (some (.int 5 ttg)))
    (ald : PySem.W.nsIn K mainGlobals "LEAD" = some (some (.int 3 tld)))
    (acp : PySem.W.nsIn K mainGlobals "CAP" = some (some (.int 9 tcp)))
    (alvs : PySem.W.nsIn K mainGlobals "LEVELS" = some (some (.int 3 tlvs)))
    (z0 : PySem.W.nsIn K mainGlobals "isinstance" = some none) (z1 : PySem.W.nsIn K mainGlobals "int" = some none) (z2 : PySem.W.nsIn K mainGlobals "bool" = some none) (z3 : PySem.W.nsIn K mainGlobals "tuple" = some none) (z4 : PySem.W.nsIn K mainGlobals "list" = some none) (z5 : PySem.W.nsIn K mainGlobals "len" = some none) (z6 : PySem.W.nsIn K mainGlobals "all" = some none) (z7 : PySem.W.nsIn K mainGlobals "enumerate" = some none) (z8 : PySem.W.nsIn K mainGlobals "zip" = some none) (z9 : PySem.W.nsIn K mainGlobals "min" = some none) (z10 : PySem.W.nsIn K mainGlobals "max" = some none) (z11 : PySem.W.nsIn K mainGlobals "range" = some none) :
    ∃ fd : FuncData, (∀ (s : Shared) (v : Value), BindsTo s fd ⟨[v], []⟩ [("_law_script", v)]) ∧ ∀ base : Heap, K.In base → base.Ns mainGlobals mg → FnOk l.prog w K mg base CX0 6 fa fd ["_law_script"] (spLaw K) := by
  have e := hfa.symm.trans (PySem.W.mg_of X G alw)
  cases e
  have T : Txt K mg := ⟨PySem.W.mg_none_of X G z0, PySem.W.mg_none_of X G z1, PySem.W.mg_none_of X G z2, PySem.W.mg_none_of X G z3, PySem.W.mg_none_of X G z4, PySem.W.mg_none_of X G z5, PySem.W.mg_none_of X G z6, PySem.W.mg_none_of X G z7, PySem.W.mg_none_of X G z8, PySem.W.mg_none_of X G z9, PySem.W.mg_none_of X G z10, PySem.W.mg_none_of X G z11, ⟨_, PySem.W.mg_of X G atg⟩, ⟨_, PySem.W.mg_of X G ald⟩, ⟨_, PySem.W.mg_of X G acp⟩, ⟨_, PySem.W.mg_of X G alvs⟩⟩
  have FC := fun_mk (st := sCount) lC cC kC
  have DC : Def K mg "is_count" sCount ["value", "least", "most"] fC _ := ⟨FC, PySem.W.mg_of X G aC, FC.binds (ps := ["value", "least", "most"]) fun _ _ _ _ _ _ us hl => match us, hl with | [_, _, _], _ => rfl⟩
  have FL := fun_mk (st := sLevel) lL cL kL
  have DL : Def K mg "is_level" sLevel ["value"] fL _ := ⟨FL, PySem.W.mg_of X G aL, FL.binds (ps := ["value"]) fun _ _ _ _ _ _ us hl => match us, hl with | [_], _ => rfl⟩
  have FG := fun_mk (st := sForm) lG cG kG
  have DG : Def K mg "is_form" sForm ["value"] fG _ := ⟨FG, PySem.W.mg_of X G aG, FG.binds (ps := ["value"]) fun _ _ _ _ _ _ us hl => match us, hl with | [_], _ => rfl⟩
  have FN := fun_mk (st := sNeed) lN cN kN
  have DN : Def K mg "need_form" sNeed ["value"] fN _ := ⟨FN, PySem.W.mg_of X G aN, FN.binds (ps := ["value"]) fun _ _ _ _ _ _ us hl => match us, hl with | [_], _ => rfl⟩
  have FR := fun_mk (st := sRw) lR cR kR
  have DR : Def K mg "round_winner" sRw ["level", "pair"] fR _ := ⟨FR, PySem.W.mg_of X G aR, FR.binds (ps := ["level", "pair"]) fun _ _ _ _ _ _ us hl => match us, hl with | [_, _], _ => rfl⟩
  have FS := fun_mk (st := sStart) lS cS kS
  have DS : Def K mg "start_of" sStart ["form"] fS _ := ⟨FS, PySem.W.mg_of X G aS, FS.binds (ps := ["form"]) fun _ _ _ _ _ _ us hl => match us, hl with | [_], _ => rfl⟩
  have FP := fun_mk (st := sPlus) lP cP kP
  have DP : Def K mg "plus" sPlus ["pair", "side"] fP _ := ⟨FP, PySem.W.mg_of X G aP, FP.binds (ps := ["pair", "side"]) fun _ _ _ _ _ _ us hl => match us, hl with | [_, _], _ => rfl⟩
  have FA := fun_mk (st := sAfter) lA cA kA
  have DA : Def K mg "after" sAfter ["form", "score", "side"] fA _ := ⟨FA, PySem.W.mg_of X G aA, FA.binds (ps := ["form", "score", "side"]) fun _ _ _ _ _ _ us hl => match us, hl with | [_, _, _], _ => rfl⟩
  have FT := fun_mk (st := sSet) lT cT kT
  have DT : Def K mg "settled" sSet ["form", "now"] fT _ := ⟨FT, PySem.W.mg_of X G aT, FT.binds (ps := ["form", "now"]) fun _ _ _ _ _ _ us hl => match us, hl with | [_, _], _ => rfl⟩
  have FW := fun_mk (st := sRow) lW cW kW
  have DW : Def K mg "row_to" sRow ["sources", "key"] fW _ := ⟨FW, PySem.W.mg_of X G aW, FW.binds (ps := ["sources", "key"]) fun _ _ _ _ _ _ us hl => match us, hl with | [_, _], _ => rfl⟩
  have FQ := fun_mk (st := sPart) lQ cQ kQ
  have DQ : Def K mg "parting" sPart ["form", "other"] fQ _ := ⟨FQ, PySem.W.mg_of X G aQ, FQ.binds (ps := ["form", "other"]) fun _ _ _ _ _ _ us hl => match us, hl with | [_, _], _ => rfl⟩
  have Fdr := fun_mk (st := sDraw) ldr cdr kdr
  have Ddr : Def K mg "_law_draw" sDraw ["_law_script", "_law_town", "_law_many"] fdr _ := ⟨Fdr, PySem.W.mg_of X G adr, Fdr.binds (ps := ["_law_script", "_law_town", "_law_many"]) fun _ _ _ _ _ _ us hl => match us, hl with | [_, _, _], _ => rfl⟩
  have Fpk := fun_mk (st := sPick) lpk cpk kpk
  have Dpk : Def K mg "_law_pick" sPick ["_law_script", "_law_town", "_law_some"] fpk _ := ⟨Fpk, PySem.W.mg_of X G apk, Fpk.binds (ps := ["_law_script", "_law_town", "_law_some"]) fun _ _ _ _ _ _ us hl => match us, hl with | [_, _, _], _ => rfl⟩
  have Flv := fun_mk (st := sLv) llv clv klv
  have Dlv : Def K mg "_law_level" sLv ["_law_script", "_law_town", "_law_most"] flv _ := ⟨Flv, PySem.W.mg_of X G alv, Flv.binds (ps := ["_law_script", "_law_town", "_law_most"]) fun _ _ _ _ _ _ us hl => match us, hl with | [_, _, _], _ => rfl⟩
  have Ffm := fun_mk (st := sFm) lfm cfm kfm
  have Dfm : Def K mg "_law_form" sFm ["_law_script", "_law_town"] ffm _ := ⟨Ffm, PySem.W.mg_of X G afm, Ffm.binds (ps := ["_law_script", "_law_town"]) fun _ _ _ _ _ _ us hl => match us, hl with | [_, _], _ => rfl⟩
  have Fwn := fun_mk (st := sWon) lwn cwn kwn
  have Dwn : Def K mg "_law_won" sWon ["_law_level_here", "_law_one", "_law_two"] fwn _ := ⟨Fwn, PySem.W.mg_of X G awn, Fwn.binds (ps := ["_law_level_here", "_law_one", "_law_two"]) fun _ _ _ _ _ _ us hl => match us, hl with | [_, _, _], _ => rfl⟩
  have Fla := fun_mk (st := sLaf) lla cla kla
  have Dla : Def K mg "_law_after" sLaf ["_law_form_here", "_law_state", "_law_side"] fla _ := ⟨Fla, PySem.W.mg_of X G ala, Fla.binds (ps := ["_law_form_here", "_law_state", "_law_side"]) fun _ _ _ _ _ _ us hl => match us, hl with | [_, _, _], _ => rfl⟩
  have Fpl := fun_mk (st := sPlay) lpl cpl kpl
  have Dpl : Def K mg "_law_play" sPlay ["_law_form_here", "_law_row_here"] fpl _ := ⟨Fpl, PySem.W.mg_of X G apl, Fpl.binds (ps := ["_law_form_here", "_law_row_here"]) fun _ _ _ _ _ _ us hl => match us, hl with | [_, _], _ => rfl⟩
  have Fnr := fun_mk (st := sNear) lnr cnr knr
  have Dnr : Def K mg "_law_near" sNear ["_law_script", "_law_town", "_law_form_here"] fnr _ := ⟨Fnr, PySem.W.mg_of X G anr, Fnr.binds (ps := ["_law_script", "_law_town", "_law_form_here"]) fun _ _ _ _ _ _ us hl => match us, hl with | [_, _, _], _ => rfl⟩
  have Ffi := fun_mk (st := sFirst) lfi cfi kfi
  have Dfi : Def K mg "_law_first" sFirst ["_law_one", "_law_two", "_law_most"] ffi _ := ⟨Ffi, PySem.W.mg_of X G afi, Ffi.binds (ps := ["_law_one", "_law_two", "_law_most"]) fun _ _ _ _ _ _ us hl => match us, hl with | [_, _, _], _ => rfl⟩
  have Flw := fun_mk (st := sLaw) llw clw klw
  have Dlw : Def K mg "law" sLaw ["_law_script"] fa _ := ⟨Flw, PySem.W.mg_of X G alw, Flw.binds (ps := ["_law_script"]) fun _ _ _ _ _ _ us hl => match us, hl with | [_], _ => rfl⟩
  have kit : Kit K mg := ⟨_, _, DC, _, _, DL, _, _, DG, _, _, DN, _, _, DR, _, _, DS, _, _, DP, _, _, DA, _, _, DT, _, _, DW⟩
  exact ⟨PySem.W.fnOf "law" "law" (defArgs sLaw) (defBody sLaw) (defScope sLaw) .none kVlw dclw pmlw anlw cdlw ctlw, fun s v => .of_eq rfl, fun base _ _ => ok_law Dlw Ddr Dpk Dlv Dfm Dnr Dwn Dla Dpl Dfi DQ kit T⟩
theorem walk {l : PySem.W.OpenLaw} {q : Program} {loose : List Str} {XP : (Str → Option Value) → Heap → Prop} {YP : World → Heap → Prop} {d : DefRec} {K : Params → PySem.W.Frag} (hn : l.most = some 63) (hdf : d.params.defaults = [])
    (hY : ∀ (w : World) (h : Heap), YP w h → (K w.params).In h)
    (F : ∀ (w : World) (mg : Str → Option Value) (fa : Addr) (h : Heap), (K w.params).In h → h.Ns mainGlobals mg → mg d.name = some (.ref fa) →
      ∃ fd : FuncData, (∀ (s : Shared) (u : Value), BindsTo s fd ⟨[u], []⟩ [("_law_script", u)]) ∧ ∀ base : Heap, (K w.params).In base → base.Ns mainGlobals mg → FnOk l.prog w (K w.params) mg base CX0 6 fa fd ["_law_script"] (spLaw (K w.params))) :
    PySem.W.WalkO q loose XP YP l.row.toRowW d [] (fun f vs => PySem.call f vs) :=
  L2.walk_of (n := 63) (k := 6) (x := "_law_script") (CX := fun _ => CX0) (sp := fun w => spLaw (K w.params)) hn (by decide) hdf ⟨rfl, by decide, by decide⟩ hY F (fun _ _ a ns hl _ hS => ⟨a, ns, rfl, hS, hl, fun _ => rfl⟩) fun _ _ _ _ _ z => z
end SF
open PySem PySem.W PyProof.Rows
set_option maxRecDepth 100000 in
set_option maxHeartbeats 0 in
theorem PySem.Challenge.cw_scoreforms_k09_whole_parting_holds : PySem.Challenge.rw_scoreforms_k09_whole_parting.Holds := by
  w_on; o_law; k_head; (case hw => w_witness2)
  k_fill
  refine SF.walk (l := PySem.Challenge.rw_scoreforms_k09_whole_parting) rfl rfl (fun w h Y => PySem.W.kIn_of Y) ?F
  case F =>
    intro w mg fa h KX G hmg
    refine' SF.all_mk KX G hmg ?aC ?lC ?cC ?kC ?aL ?lL ?cL ?kL ?aG ?lG ?cG ?kG ?aN ?lN ?cN ?kN ?aR ?lR ?cR ?kR ?aS ?lS ?cS ?kS ?aP ?lP ?cP ?kP ?aA ?lA ?cA ?kA ?aT ?lT ?cT ?kT ?aW ?lW ?cW ?kW ?aQ ?lQ ?cQ ?kQ ?adr ?ldr ?cdr ?kdr ?apk ?lpk ?cpk ?kpk ?alv ?llv ?clv ?klv ?afm ?lfm ?cfm ?kfm ?awn ?lwn ?cwn ?kwn ?ala ?lla ?cla ?kla ?apl ?lpl ?cpl ?kpl ?anr ?lnr ?cnr ?knr ?afi ?lfi ?cfi ?kfi ?alw ?llw ?clw ?klw ?atg ?ald ?acp ?alvs ?z0 ?z1 ?z2 ?z3 ?z4 ?z5 ?z6 ?z7 ?z8 ?z9 ?z10 ?z11
    (case aC => k_is); (case lC => k_is); (case cC => k_is); (case kC => k_is)
    (case aL => k_is); (case lL => k_is); (case cL => k_is); (case kL => k_is)
    (case aG => k_is); (case lG => k_is); (case cG => k_is); (case kG => k_is)
    (case aN => k_is); (case lN => k_is); (case cN => k_is); (case kN => k_is)
    (case aR => k_is); (case lR => k_is); (case cR => k_is); (case kR => k_is)
    (case aS => k_is); (case lS => k_is); (case cS => k_is); (case kS => k_is)
    (case aP => k_is); (case lP => k_is); (case cP => k_is); (case kP => k_is)
    (case aA => k_is); (case lA => k_is); (case cA => k_is); (case kA => k_is)
    (case aT => k_is); (case lT => k_is); (case cT => k_is); (case kT => k_is)
    (case aW => k_is); (case lW => k_is); (case cW => k_is); (case kW => k_is)
    (case aQ => k_is); (case lQ => k_is); (case cQ => k_is); (case kQ => k_is)
    (case adr => k_is); (case ldr => k_is); (case cdr => k_is); (case kdr => k_is)
    (case apk => k_is); (case lpk => k_is); (case cpk => k_is); (case kpk => k_is)
    (case alv => k_is); (case llv => k_is); (case clv => k_is); (case klv => k_is)
    (case afm => k_is); (case lfm => k_is); (case cfm => k_is); (case kfm => k_is)
    (case awn => k_is); (case lwn => k_is); (case cwn => k_is); (case kwn => k_is)
    (case ala => k_is); (case lla => k_is); (case cla => k_is); (case kla => k_is)
    (case apl => k_is); (case lpl => k_is); (case cpl => k_is); (case kpl => k_is)
    (case anr => k_is); (case lnr => k_is); (case cnr => k_is); (case knr => k_is)
    (case afi => k_is); (case lfi => k_is); (case cfi => k_is); (case kfi => k_is)
    (case alw => k_is); (case llw => k_is); (case clw => k_is); (case klw => k_is)
    (case atg => k_is); (case ald => k_is); (case acp => k_is); (case alvs => k_is)
    (case z0 => k_is); (case z1 => k_is); (case z2 => k_is); (case z3 => k_is)
    (case z4 => k_is); (case z5 => k_is); (case z6 => k_is); (case z7 => k_is)
    (case z8 => k_is); (case z9 => k_is); (case z10 => k_is); (case z11 => k_is)
#print axioms PySem.Challenge.cw_scoreforms_k09_whole_parting_holds

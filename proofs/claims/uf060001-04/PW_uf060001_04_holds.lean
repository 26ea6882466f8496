import PyProof.Rows.All
import Wide.All
import OpenK.AllK
import Wide.FinOn
import PyProof.P3Statements
import PyProof.P3Eq
import PyProof.CompFree
import PyProof.Cells
import PyProof.ForAny
import PyProof.Rows.Top
import KE.IntBitsLaws
import PyProof.Rows.SortRuns
import PyProof.Rows.SortShell
import PyProof.Rows.SortShellK
import KE.KSortTup
import PySem.Challenge.RW_uf060001_04
/-! Linear arithmetic by a checked certificate: small proofs. -/
set_option autoImplicit false
set_option genSizeOf false
set_option genSizeOfSpec false
set_option genInjectivity false
set_option genCtorIdx false
namespace Lin

/-- terms over Nat -/
inductive T where
  | v (i : Nat)
  | k (n : Nat)
  | a (x y : T)
  | m (n : Nat) (x : T)
  | w (x : T) (n : Nat)
/-- terms over Int -/
inductive Z where
  | v (i : Nat)
  | k (c : Int)
  | n (t : T)
  | a (x y : Z)
  | s (x y : Z)
  | g (x : Z)
  | m (c : Int) (x : Z)
  | w (x : Z) (c : Int)
inductive F where
  | le (x y : T)
  | lt (x y : T)
  | eq (x y : T)
  | zle (x y : Z)
  | zlt (x y : Z)
  | zeq (x y : Z)
  | no (f : F)
  | an (f g : F)
  | or (f g : F)
  | ff

noncomputable def at_ {α : Type} (d : α) : List α → Nat → α
  | [], _ => d
  | x :: _, 0 => x
  | _ :: r, i + 1 => at_ d r i

noncomputable def T.den (ρ : List Nat) : T → Nat
  | .v i => at_ 0 ρ i
  | .k n => n
  | .a x y => x.den ρ + y.den ρ
  | .m n x => n * x.den ρ
  | .w x n => x.den ρ * n
noncomputable def Z.den (ρ : List Nat) (ζ : List Int) : Z → Int
  | .v i => at_ 0 ζ i
  | .k c => c
  | .n t => (t.den ρ : Nat)
  | .a x y => x.den ρ ζ + y.den ρ ζ
  | .s x y => x.den ρ ζ - y.den ρ ζ
  | .g x => - x.den ρ ζ
  | .m c x => c * x.den ρ ζ
  | .w x c => x.den ρ ζ * c
noncomputable def F.den (ρ : List Nat) (ζ : List Int) : F → Prop
  | .le x y => x.den ρ ≤ y.den ρ
  | .lt x y => x.den ρ < y.den ρ
  | .eq x y => x.den ρ = y.den ρ
  | .zle x y => x.den ρ ζ ≤ y.den ρ ζ
  | .zlt x y => x.den ρ ζ < y.den ρ ζ
  | .zeq x y => x.den ρ ζ = y.den ρ ζ
  | .no f => ¬ f.den ρ ζ
  | .an f g => f.den ρ ζ ∧ g.den ρ ζ
  | .or f g => f.den ρ ζ ∨ g.den ρ ζ
  | .ff => False

/-- a linear form: constant, then coefficients of the Nat atoms and of the Int atoms -/
structure P where
  c : Int
  n : List Int
  z : List Int
noncomputable def addL : List Int → List Int → List Int
  | [], l => l
  | l, [] => l
  | x :: r, y :: s => (x + y) :: addL r s
noncomputable def mulL (c : Int) : List Int → List Int
  | [] => []
  | x :: r => (c * x) :: mulL c r
noncomputable def one : Nat → List Int
  | 0 => [1]
  | i + 1 => 0 :: one i
noncomputable def dotN : List Int → List Nat → Int
  | [], _ => 0
  | _ :: _, [] => 0
  | x :: r, y :: s => x * (y : Int) + dotN r s
noncomputable def dotZ : List Int → List Int → Int
  | [], _ => 0
  | _ :: _, [] => 0
  | x :: r, y :: s => x * y + dotZ r s
noncomputable def P.ev (ρ : List Nat) (ζ : List Int) (p : P) : Int := p.c + dotN p.n ρ + dotZ p.z ζ
noncomputable def P.add (p q : P) : P := ⟨p.c + q.c, addL p.n q.n, addL p.z q.z⟩
noncomputable def P.mul (c : Int) (p : P) : P := ⟨c * p.c, mulL c p.n, mulL c p.z⟩
noncomputable def T.pol : T → P
  | .v i => ⟨0, one i, []⟩
  | .k n => ⟨n, [], []⟩
  | .a x y => x.pol.add y.pol
  | .m n x => x.pol.mul n
  | .w x n => x.pol.mul n
noncomputable def Z.pol : Z → P
  | .v i => ⟨0, [], one i⟩
  | .k c => ⟨c, [], []⟩
  | .n t => t.pol
  | .a x y => x.pol.add y.pol
  | .s x y => x.pol.add (y.pol.mul (-1))
  | .g x => x.pol.mul (-1)
  | .m c x => x.pol.mul c
  | .w x c => x.pol.mul c

theorem dotN_add : ∀ (a b : List Int) (ρ : List Nat), dotN (addL a b) ρ = dotN a ρ + dotN b ρ
  | [], b, ρ => by simp [addL, dotN]
  | x :: a, [], ρ => by simp [addL, dotN]
  | x :: a, y :: b, [] => by simp [addL, dotN]
  | x :: a, y :: b, r :: ρ => by simp only [addL, dotN, dotN_add a b ρ, Int.add_mul]; lia
theorem dotZ_add : ∀ (a b ζ : List Int), dotZ (addL a b) ζ = dotZ a ζ + dotZ b ζ
  | [], b, ρ => by simp [addL, dotZ]
  | x :: a, [], ρ => by simp [addL, dotZ]
  | x :: a, y :: b, [] => by simp [addL, dotZ]
  | x :: a, y :: b, r :: ρ => by simp only [addL, dotZ, dotZ_add a b ρ, Int.add_mul]; lia
theorem dotN_mul (c : Int) : ∀ (a : List Int) (ρ : List Nat), dotN (mulL c a) ρ = c * dotN a ρ
  | [], ρ => by simp [mulL, dotN]
  | x :: a, [] => by simp [mulL, dotN]
  | x :: a, r :: ρ => by simp only [mulL, dotN, dotN_mul c a ρ, Int.mul_add, Int.mul_assoc]
theorem dotZ_mul (c : Int) : ∀ (a ζ : List Int), dotZ (mulL c a) ζ = c * dotZ a ζ
  | [], ρ => by simp [mulL, dotZ]
  | x :: a, [] => by simp [mulL, dotZ]
  | x :: a, r :: ρ => by simp only [mulL, dotZ, dotZ_mul c a ρ, Int.mul_add, Int.mul_assoc]
theorem dotN_one : ∀ (i : Nat) (ρ : List Nat), dotN (one i) ρ = (at_ 0 ρ i : Nat)
  | i, [] => by cases i <;> rfl
  | 0, r :: ρ => by simp [one, dotN, at_]
  | i + 1, r :: ρ => by simp [one, dotN, at_, dotN_one i ρ]
theorem dotZ_one : ∀ (i : Nat) (ζ : List Int), dotZ (one i) ζ = at_ 0 ζ i
  | i, [] => by cases i <;> rfl
  | 0, r :: ρ => by simp [one, dotZ, at_]
  | i + 1, r :: ρ => by simp [one, dotZ, at_, dotZ_one i ρ]

section
variable {ρ : List Nat} {ζ : List Int}
theorem P.ev_add (p q : P) : (p.add q).ev ρ ζ = p.ev ρ ζ + q.ev ρ ζ := by simp only [P.ev, P.add, dotN_add, dotZ_add]; lia
theorem P.ev_mul (c : Int) (p : P) : (p.mul c).ev ρ ζ = c * p.ev ρ ζ := by simp only [P.ev, P.mul, dotN_mul, dotZ_mul, Int.mul_add]
theorem T.ev_pol : ∀ t : T, t.pol.ev ρ ζ = (t.den ρ : Nat)
  | .v i => by simp [T.pol, T.den, P.ev, dotN_one, dotZ]
  | .k n => by simp [T.pol, T.den, P.ev, dotN, dotZ]
  | .a x y => by simp only [T.pol, T.den, P.ev_add, T.ev_pol x, T.ev_pol y]; lia
  | .m n x => by simp only [T.pol, T.den, P.ev_mul, T.ev_pol x, Int.natCast_mul]
  | .w x n => by simp only [T.pol, T.den, P.ev_mul, T.ev_pol x, Int.natCast_mul, Int.mul_comm]
theorem Z.ev_pol : ∀ t : Z, t.pol.ev ρ ζ = t.den ρ ζ
  | .v i => by simp [Z.pol, Z.den, P.ev, dotN, dotZ_one]
  | .k cc => by simp [Z.pol, Z.den, P.ev, dotN, dotZ]
  | .n t => T.ev_pol t
  | .a x y => by simp only [Z.pol, Z.den, P.ev_add, Z.ev_pol x, Z.ev_pol y]
  | .s x y => by simp only [Z.pol, Z.den, P.ev_add, P.ev_mul, Z.ev_pol x, Z.ev_pol y]; lia
  | .g x => by simp only [Z.pol, Z.den, P.ev_mul, Z.ev_pol x]; lia
  | .m c x => by simp only [Z.pol, Z.den, P.ev_mul, Z.ev_pol x]
  | .w x c => by simp only [Z.pol, Z.den, P.ev_mul, Z.ev_pol x, Int.mul_comm]
end

/-- a certificate: multipliers of the facts (each ≤ 0), or a split -/
inductive Ct where
  | l (cs : List Nat)
  | s (a b : Ct)

noncomputable def sub1 (p q : P) (c : Int) : P := (p.add (q.mul (-1))).add ⟨c, [], []⟩
theorem ev_sub1 {ρ : List Nat} {ζ : List Int} (p q : P) (c : Int) : (sub1 p q c).ev ρ ζ = p.ev ρ ζ - q.ev ρ ζ + c := by
  have h : P.ev ρ ζ ⟨c, [], []⟩ = c := by simp [P.ev, dotN, dotZ]
  rw [sub1, P.ev_add, P.ev_add, P.ev_mul, h]; lia

/-- the sum of the facts, each as often as the certificate says -/
noncomputable def comb : List Nat → List P → P
  | [], _ => ⟨0, [], []⟩
  | _ :: _, [] => ⟨0, [], []⟩
  | c :: cs, p :: ps => (p.mul (c : Nat)).add (comb cs ps)
noncomputable def allNon : List Int → Bool
  | [] => true
  | x :: r => (0 ≤ x : Bool) && allNon r
noncomputable def allZero : List Int → Bool
  | [] => true
  | x :: r => (x == 0) && allZero r
/-- a form that is above nought whatever the atoms -/
noncomputable def P.bad (p : P) : Bool := decide (0 < p.c) && allNon p.n && allZero p.z

theorem comb_le {ρ : List Nat} {ζ : List Int} : ∀ (cs : List Nat) (ps : List P), (∀ p ∈ ps, p.ev ρ ζ ≤ 0) → (comb cs ps).ev ρ ζ ≤ 0
  | [], _, _ => by simp [comb, P.ev, dotN, dotZ]
  | _ :: _, [], _ => by simp [comb, P.ev, dotN, dotZ]
  | c :: cs, p :: ps, h => by
    have h1 := h p List.mem_cons_self
    have h2 := comb_le cs ps fun q hq => h q (List.mem_cons_of_mem _ hq)
    rw [comb, P.ev_add, P.ev_mul]
    have := Int.mul_le_mul_of_nonneg_left h1 (Int.natCast_nonneg c)
    lia
theorem allNon_dot : ∀ (l : List Int) (ρ : List Nat), allNon l = true → 0 ≤ dotN l ρ
  | [], _, _ => Int.le_refl _
  | x :: l, [], _ => Int.le_refl _
  | x :: l, r :: ρ, h => by
    simp only [allNon, Bool.and_eq_true, decide_eq_true_eq] at h
    have h1 := allNon_dot l ρ h.2
    have := Int.mul_nonneg h.1 (Int.natCast_nonneg r)
    simp only [dotN]; lia
theorem allZero_dot : ∀ (l ζ : List Int), allZero l = true → dotZ l ζ = 0
  | [], _, _ => rfl
  | x :: l, [], _ => rfl
  | x :: l, r :: ρ, h => by
    simp only [allZero, Bool.and_eq_true, beq_iff_eq] at h
    simp [dotZ, h.1, allZero_dot l ρ h.2]
theorem bad_pos {ρ : List Nat} {ζ : List Int} {p : P} (h : p.bad = true) : 0 < p.ev ρ ζ := by
  simp only [P.bad, Bool.and_eq_true, decide_eq_true_eq] at h
  have h1 := allNon_dot p.n ρ h.1.2
  have h2 := allZero_dot p.z ζ h.2
  simp only [P.ev, h2]; lia

/-- one formula, said (b) or denied: what to do with it -/
inductive W where
  | ps (l : List P)
  | two (f : F) (b : Bool) (g : F) (c : Bool)
  | alt (f : F) (b : Bool) (g : F) (c : Bool)
  | done
  | not (f : F) (b : Bool)
noncomputable def F.step : F → Bool → W
  | .le x y, true => .ps [sub1 x.pol y.pol 0]
  | .le x y, false => .ps [sub1 y.pol x.pol 1]
  | .lt x y, true => .ps [sub1 x.pol y.pol 1]
  | .lt x y, false => .ps [sub1 y.pol x.pol 0]
  | .eq x y, true => .ps [sub1 x.pol y.pol 0, sub1 y.pol x.pol 0]
  | .eq x y, false => .alt (.lt x y) true (.lt y x) true
  | .zle x y, true => .ps [sub1 x.pol y.pol 0]
  | .zle x y, false => .ps [sub1 y.pol x.pol 1]
  | .zlt x y, true => .ps [sub1 x.pol y.pol 1]
  | .zlt x y, false => .ps [sub1 y.pol x.pol 0]
  | .zeq x y, true => .ps [sub1 x.pol y.pol 0, sub1 y.pol x.pol 0]
  | .zeq x y, false => .alt (.zlt x y) true (.zlt y x) true
  | .no f, b => .not f (!b)
  | .an f g, true => .two f true g true
  | .an f g, false => .alt f false g false
  | .or f g, true => .alt f true g true
  | .or f g, false => .two f false g false
  | .ff, true => .done
  | .ff, false => .ps []

noncomputable def sg (ρ : List Nat) (ζ : List Int) (f : F) (b : Bool) : Prop := if b then f.den ρ ζ else ¬ f.den ρ ζ

/-- fuel, facts so far, formulas to come -/
noncomputable def chk : Nat → List P → List (F × Bool) → Ct → Bool
  | 0, _, _, _ => false
  | _ + 1, ps, [], .l cs => (comb cs ps).bad
  | _ + 1, _, [], .s _ _ => false
  | n + 1, ps, (f, b) :: fs, ct => match f.step b with
    | .ps l => chk n (ps ++ l) fs ct
    | .two f b g c => chk n ps ((f, b) :: (g, c) :: fs) ct
    | .alt f b g c => match ct with
      | .s x y => chk n ps ((f, b) :: fs) x && chk n ps ((g, c) :: fs) y
      | .l _ => false
    | .done => true
    | .not f b => chk n ps ((f, b) :: fs) ct

theorem chk_sound {ρ : List Nat} {ζ : List Int} : ∀ (n : Nat) (ps : List P) (fs : List (F × Bool)) (ct : Ct), chk n ps fs ct = true → (∀ p ∈ ps, p.ev ρ ζ ≤ 0) → (∀ f ∈ fs, sg ρ ζ f.1 f.2) → False
  | 0, _, _, _, h, _, _ => by cases h
  | n + 1, ps, [], .l cs, h, hp, _ => by
    have h1 := comb_le cs ps hp
    have h2 := bad_pos (ρ := ρ) (ζ := ζ) h
    lia
  | n + 1, ps, [], .s _ _, h, _, _ => by cases h
  | n + 1, ps, (f, b) :: fs, ct, h, hp, hf => by
    have hf0 := hf (f, b) List.mem_cons_self
    have hfr : ∀ g ∈ fs, sg ρ ζ g.1 g.2 := fun g hg => hf g (List.mem_cons_of_mem _ hg)
    have cons2 : ∀ {g : F} {c : Bool}, sg ρ ζ g c → ∀ x ∈ (g, c) :: fs, sg ρ ζ x.1 x.2 := fun hg x hx => by
      rcases List.mem_cons.mp hx with rfl | hx
      · exact hg
      · exact hfr x hx
    have app : ∀ {l : List P}, (∀ p ∈ l, p.ev ρ ζ ≤ 0) → ∀ p ∈ ps ++ l, p.ev ρ ζ ≤ 0 := fun hl p hm => by
      rcases List.mem_append.mp hm with h | h
      · exact hp p h
      · exact hl p h
    have o1 : ∀ {p q : P} {c : Int}, p.ev ρ ζ - q.ev ρ ζ + c ≤ 0 → ∀ x ∈ [sub1 p q c], x.ev ρ ζ ≤ 0 := fun hq x hx => by
      rw [List.mem_singleton.mp hx, ev_sub1]; exact hq
    simp only [chk] at h
    cases f with
    | le x y =>
      cases b with
      | true => exact chk_sound n _ fs ct h (app (o1 (by have : x.den ρ ≤ y.den ρ := hf0; simp only [T.ev_pol]; lia))) hfr
      | false => exact chk_sound n _ fs ct h (app (o1 (by have : ¬ x.den ρ ≤ y.den ρ := hf0; simp only [T.ev_pol]; lia))) hfr
    | lt x y =>
      cases b with
      | true => exact chk_sound n _ fs ct h (app (o1 (by have : x.den ρ < y.den ρ := hf0; simp only [T.ev_pol]; lia))) hfr
      | false => exact chk_sound n _ fs ct h (app (o1 (by have : ¬ x.den ρ < y.den ρ := hf0; simp only [T.ev_pol]; lia))) hfr
    | eq x y =>
      cases b with
      | true =>
        have hq : x.den ρ = y.den ρ := hf0
        exact chk_sound n _ fs ct h (app fun p hm => by
          rcases List.mem_cons.mp hm with rfl | hm
          · rw [ev_sub1]; simp only [T.ev_pol]; lia
          · rw [List.mem_singleton.mp hm, ev_sub1]; simp only [T.ev_pol]; lia) hfr
      | false =>
        have hq : ¬ x.den ρ = y.den ρ := hf0
        cases ct with
        | l _ => cases h
        | s a c =>
          have h := Bool.and_eq_true_iff.mp h
          rcases Nat.lt_or_gt_of_ne hq with h0 | h0
          · exact chk_sound n _ _ a h.1 hp (cons2 (show sg ρ ζ (.lt x y) true from h0))
          · exact chk_sound n _ _ c h.2 hp (cons2 (show sg ρ ζ (.lt y x) true from h0))
    | zle x y =>
      cases b with
      | true => exact chk_sound n _ fs ct h (app (o1 (by have : x.den ρ ζ ≤ y.den ρ ζ := hf0; simp only [Z.ev_pol]; lia))) hfr
      | false => exact chk_sound n _ fs ct h (app (o1 (by have : ¬ x.den ρ ζ ≤ y.den ρ ζ := hf0; simp only [Z.ev_pol]; lia))) hfr
    | zlt x y =>
      cases b with
      | true => exact chk_sound n _ fs ct h (app (o1 (by have : x.den ρ ζ < y.den ρ ζ := hf0; simp only [Z.ev_pol]; lia))) hfr
      | false => exact chk_sound n _ fs ct h (app (o1 (by have : ¬ x.den ρ ζ < y.den ρ ζ := hf0; simp only [Z.ev_pol]; lia))) hfr
    | zeq x y =>
      cases b with
      | true =>
        have hq : x.den ρ ζ = y.den ρ ζ := hf0
        exact chk_sound n _ fs ct h (app fun p hm => by
          rcases List.mem_cons.mp hm with rfl | hm
          · rw [ev_sub1]; simp only [Z.ev_pol]; lia
          · rw [List.mem_singleton.mp hm, ev_sub1]; simp only [Z.ev_pol]; lia) hfr
      | false =>
        have hq : ¬ x.den ρ ζ = y.den ρ ζ := hf0
        cases ct with
        | l _ => cases h
        | s a c =>
          have h := Bool.and_eq_true_iff.mp h
          rcases Int.lt_or_gt_of_ne hq with h0 | h0
          · exact chk_sound n _ _ a h.1 hp (cons2 (show sg ρ ζ (.zlt x y) true from h0))
          · exact chk_sound n _ _ c h.2 hp (cons2 (show sg ρ ζ (.zlt y x) true from h0))
    | no f =>
      refine chk_sound n _ _ ct h hp (cons2 ?_)
      cases b with
      | true => exact hf0
      | false => exact Classical.not_not.mp hf0
    | an f g =>
      cases b with
      | true =>
        have hq : f.den ρ ζ ∧ g.den ρ ζ := hf0
        refine chk_sound n _ _ ct h hp fun x hx => ?_
        rcases List.mem_cons.mp hx with rfl | hx
        · exact hq.1
        · exact cons2 (show sg ρ ζ g true from hq.2) x hx
      | false =>
        have hq : ¬ (f.den ρ ζ ∧ g.den ρ ζ) := hf0
        cases ct with
        | l _ => cases h
        | s a c =>
          have h := Bool.and_eq_true_iff.mp h
          rcases Classical.not_and_iff_not_or_not.mp hq with h0 | h0
          · exact chk_sound n _ _ a h.1 hp (cons2 (show sg ρ ζ f false from h0))
          · exact chk_sound n _ _ c h.2 hp (cons2 (show sg ρ ζ g false from h0))
    | or f g =>
      cases b with
      | true =>
        have hq : f.den ρ ζ ∨ g.den ρ ζ := hf0
        cases ct with
        | l _ => cases h
        | s a c =>
          have h := Bool.and_eq_true_iff.mp h
          rcases hq with h0 | h0
          · exact chk_sound n _ _ a h.1 hp (cons2 (show sg ρ ζ f true from h0))
          · exact chk_sound n _ _ c h.2 hp (cons2 (show sg ρ ζ g true from h0))
      | false =>
        have hq : ¬ (f.den ρ ζ ∨ g.den ρ ζ) := hf0
        have hq := not_or.mp hq
        refine chk_sound n _ _ ct h hp fun x hx => ?_
        rcases List.mem_cons.mp hx with rfl | hx
        · exact hq.1
        · exact cons2 (show sg ρ ζ g false from hq.2) x hx
    | ff =>
      cases b with
      | true => exact hf0
      | false => exact chk_sound n _ fs ct h (app fun p hm => by cases hm) hfr

/-- hypotheses, then the goal -/
noncomputable def imp (ρ : List Nat) (ζ : List Int) (g : F) : List F → Prop
  | [] => g.den ρ ζ
  | h :: hs => h.den ρ ζ → imp ρ ζ g hs
theorem imp_of {ρ : List Nat} {ζ : List Int} {g : F} : ∀ (hs : List F), ((∀ h ∈ hs, h.den ρ ζ) → g.den ρ ζ) → imp ρ ζ g hs
  | [], k => k fun _ h => nomatch h
  | h :: hs, k => fun x => imp_of hs fun y => k fun z hz => by
    rcases List.mem_cons.mp hz with rfl | hz
    · exact x
    · exact y z hz
theorem lin (hs : List F) (g : F) (ct : Ct) (ok : chk 400 [] ((g, false) :: hs.map fun h => (h, true)) ct = true) (ρ : List Nat) (ζ : List Int) : imp ρ ζ g hs :=
  imp_of hs fun h => Classical.byContradiction fun hn => chk_sound 400 [] _ ct ok (fun _ h => nomatch h) fun f hf => by
    rcases List.mem_cons.mp hf with rfl | hf
    · exact hn
    · refine Classical.byContradiction fun hnX => ?_
      obtain ⟨x, hx, rfl⟩ := List.mem_map.mp hf
      refine hnX ?_
      clear hnX
      exact h x hx

theorem sub_ax (a b : Nat) : (b ≤ a ∧ a - b + b = a) ∨ (a ≤ b ∧ a - b = 0) := by
  rcases Nat.le_total b a with h | h
  · exact .inl ⟨h, Nat.sub_add_cancel h⟩
  · exact .inr ⟨h, Nat.sub_eq_zero_of_le h⟩
theorem div_ax (a n : Nat) (h : 0 < n) : n * (a / n) ≤ a ∧ a < n * (a / n) + n := ⟨Nat.mul_div_le a n, Nat.lt_mul_div_succ a h⟩
theorem nat_ax (x : Int) : (0 ≤ x ∧ (x.toNat : Int) = x) ∨ (x ≤ 0 ∧ x.toNat = 0) := by
  rcases Int.le_total 0 x with h | h
  · exact .inl ⟨h, Int.toNat_of_nonneg h⟩
  · exact .inr ⟨h, Int.toNat_of_nonpos h⟩
theorem min_ax (a b : Nat) : (a ≤ b ∧ min a b = a) ∨ (b ≤ a ∧ min a b = b) := by
  rcases Nat.le_total a b with h | h
  · exact .inl ⟨h, Nat.min_eq_left h⟩
  · exact .inr ⟨h, Nat.min_eq_right h⟩
theorem max_ax (a b : Nat) : (a ≤ b ∧ max a b = b) ∨ (b ≤ a ∧ max a b = a) := by
  rcases Nat.le_total a b with h | h
  · exact .inl ⟨h, Nat.max_eq_right h⟩
  · exact .inr ⟨h, Nat.max_eq_left h⟩
end Lin
set_option genInjectivity true
set_option genCtorIdx true

/-! A small language of my own: plain values, an abstract heap of lists and instances, an evaluator. -/
set_option autoImplicit false
set_option genSizeOf false
set_option genSizeOfSpec false
namespace Mini
open PySem

inductive V where
  | none
  | bool (b : Bool)
  | int (i : Int)
  | str (s : Str)
  | tup (l : List V)
  | obj (n : Nat)
  | ty (t : Nat)
  | frz (l : List Int)
  deriving Inhabited

inductive O where
  | list (l : List V)
  | inst (c : Nat) (d : Nat)
  | ns (l : List (Nat × V))
  | exc (c : Nat)
  deriving Inhabited

abbrev H := List O
abbrev L := List (Option V)

inductive Bop where | add | sub | mul | fdiv | mod | pow
  deriving DecidableEq, Inhabited
inductive Cop where | eq | ne | lt | le | gt | ge | is | isnot | mem | nmem
  deriving DecidableEq, Inhabited
inductive Blt where | len | max | min | sorted | int | list | sum | isinstance
  deriving DecidableEq, Inhabited
inductive Mth where | append | pop | index
  deriving DecidableEq, Inhabited

set_option genInjectivity false
set_option genCtorIdx false
mutual
inductive Ex where
  | lit (v : V)
  | var (i : Nat)
  | ty (t : Nat)
  | bin (op : Bop) (a b : Ex)
  | neg (a : Ex)
  | not (a : Ex)
  | and (a b : Ex)
  | or (a b : Ex)
  | cmp (a : Ex) (r : Ch)
  | ife (c a b : Ex)
  | tup (es : Es)
  | lst (es : Es)
  | idx (a i : Ex)
  | slc (a : Ex) (lo hi st : Oe)
  | comp (elt : Ex) (tg : Nat) (it : It) (ifs : Es)
  | call (f : Nat) (as : Es)
  | blt (b : Blt) (as : Es)
  | mth (m : Mth) (o : Ex) (as : Es)
  | ucall (m : Nat) (o : Ex) (as : Es)
  | attr (o : Ex) (a : Nat)
  | new (c : Nat) (as : Es)
inductive Es where
  | nil
  | cons (e : Ex) (es : Es)
inductive Ch where
  | one (op : Cop) (b : Ex)
  | more (op : Cop) (b : Ex) (r : Ch)
inductive Oe where
  | no
  | yes (e : Ex)
inductive It where
  | ex (e : Ex)
  | rng1 (e : Ex)
  | rng2 (a b : Ex)
  | enum (e : Ex)
end


inductive Tg where
  | one (i : Nat)
  | many (is : List Nat)
  deriving Inhabited

mutual
inductive St where
  | expr (e : Ex)
  | asg (t : Tg) (e : Ex)
  | aset (o : Ex) (a : Nat) (e : Ex)
  | iset (o i e : Ex)
  | ret (e : Ex)
  | ife (c : Ex) (a b : Ss)
  | for_ (t : Tg) (it : It) (b : Ss)
  | whl (c : Ex) (b : Ss)
  | brk
  | pass
  | raise (c : Nat)
  | try_ (b : Ss) (c : Nat) (x : Option Nat) (h : Ss)
inductive Ss where
  | nil
  | cons (s : St) (ss : Ss)
end

set_option genInjectivity true
set_option genCtorIdx true
/-- what an expression gives: a value, or an exception of a class -/
inductive R (α : Type) where
  | ok (a : α)
  | exc (c : Nat)
  deriving Inhabited

abbrev X (α : Type) := Option (R α × H)

noncomputable def bnd {α β : Type} (x : X α) (f : α → H → X β) : X β :=
  match x with
  | .none => .none
  | some (.ok a, σ) => f a σ
  | some (.exc c, σ) => some (.exc c, σ)

@[simp] theorem bnd_none {α β : Type} (f : α → H → X β) : bnd .none f = .none := rfl
@[simp] theorem bnd_ok {α β : Type} (a : α) (σ : H) (f : α → H → X β) : bnd (some (.ok a, σ)) f = f a σ := rfl
@[simp] theorem bnd_exc {α β : Type} (c : Nat) (σ : H) (f : α → H → X β) : bnd (some (.exc c, σ)) f = some (.exc c, σ) := rfl

noncomputable def okX {α : Type} (a : Option α) (σ : H) : X α := a.map fun v => (.ok v, σ)
@[simp] theorem okX_some {α : Type} (a : α) (σ : H) : okX (some a) σ = some (.ok a, σ) := rfl
@[simp] theorem okX_none {α : Type} (σ : H) : okX (.none : Option α) σ = .none := rfl
/-- a result with its own heap -/
noncomputable def okH {α : Type} (a : Option (α × H)) : X α := a.map fun v => (.ok v.1, v.2)
@[simp] theorem okH_some {α : Type} (a : α) (σ : H) : okH (some (a, σ)) = some (.ok a, σ) := rfl
@[simp] theorem okH_none {α : Type} : okH (.none : Option (α × H)) = .none := rfl

/-- plain data of a value -/
noncomputable def toD : Nat → H → V → Option PyData
  | 0, _, _ => .none
  | f + 1, σ, v => match v with
    | .none => some .none
    | .bool b => some (.bool b)
    | .int i => some (.int i)
    | .str s => if PyData.strOk s then some (.str s) else .none
    | .tup l => (l.mapM (toD f σ)).map .tuple
    | .obj n => match σ[n]? with
      | some (.list l) => (l.mapM (toD f σ)).map .list
      | _ => .none
    | .ty _ => .none
    | .frz _ => .none

noncomputable def eqV (σ : H) (a b : V) : Option Bool :=
  match toD 6 σ a, toD 6 σ b with
  | some x, some y => some (PyData.eqv x y)
  | _, _ => .none

noncomputable def truth : V → Option Bool
  | .bool b => some b
  | .none => some false
  | _ => .none

noncomputable def bigE : Nat := 2 ^ 21
noncomputable def Big (a : Int) : Prop := a.natAbs < 2 ^ bigE
noncomputable def mulOK (a b : Int) : Prop := a.natAbs < 2 ^ 64 ∨ b.natAbs < 2 ^ 64 ∨ (Big a ∧ Big b)
noncomputable def lenMax : Nat := 1000000

/-- items of a value that has items -/
noncomputable def items (σ : H) : V → Option (List V)
  | .tup l => some l
  | .frz l => some (l.map .int)
  | .obj n => match σ[n]? with
    | some (.list l) => some l
    | _ => .none
  | _ => .none
noncomputable def listOf (σ : H) : V → Option (List V)
  | .frz l => some (l.map .int)
  | .obj n => match σ[n]? with
    | some (.list l) => some l
    | _ => .none
  | _ => .none

open Classical in
noncomputable def mkList (σ : H) (l : List V) : Option (V × H) := if l.length ≤ lenMax then some (.obj σ.length, σ ++ [.list l]) else .none

noncomputable def asInt : V → Option Int
  | .int i => some i
  | _ => .none
noncomputable def asTup : V → Option (List V)
  | .tup l => some l
  | _ => .none
theorem asInt_inv {v : V} {i : Int} (h : asInt v = some i) : v = .int i := by
  cases v with
  | int j => cases h; rfl
  | _ => cases h
theorem asTup_inv {v : V} {l : List V} (h : asTup v = some l) : v = .tup l := by
  cases v with
  | tup j => cases h; rfl
  | _ => cases h
noncomputable def arg1 : List V → Option V
  | [] => .none
  | x :: r => match r with
    | [] => some x
    | _ :: _ => .none
theorem arg1_inv {l : List V} {x : V} (h : arg1 l = some x) : l = [x] := by
  cases l with
  | nil => cases h
  | cons a r => cases r with
    | nil => cases h; rfl
    | cons _ _ => cases h
noncomputable def arg2 : List V → Option (V × V)
  | [] => .none
  | x :: r => (arg1 r).map fun y => (x, y)
theorem arg2_inv {l : List V} {p : V × V} (h : arg2 l = some p) : l = [p.1, p.2] := by
  cases l with
  | nil => cases h
  | cons a r =>
    refine Classical.byContradiction fun hnX => ?_
    obtain ⟨y, hy, rfl⟩ := Option.map_eq_some_iff.mp h
    refine hnX ?_
    clear hnX
    rw [arg1_inv hy]

open Classical in
noncomputable def arith (op : Bop) (x y : Int) : Option Int :=
  match op with
  | .add => some (x + y)
  | .sub => some (x - y)
  | .mul => if mulOK x y then some (x * y) else .none
  | .fdiv => if y ≠ 0 ∧ y.natAbs < 2 ^ 256 then some (x.fdiv y) else .none
  | .mod => if y ≠ 0 then some (x.fmod y) else .none
  | .pow => if 0 ≤ y ∧ y ≤ 256 ∧ x.natAbs < 2 ^ 64 then some (x ^ y.toNat) else .none
noncomputable def catV (σ : H) (a b : V) : Option (V × H) := (listOf σ a).bind fun x => (listOf σ b).bind fun y => mkList σ (x ++ y)
noncomputable def binop (op : Bop) (a b : V) (σ : H) : Option (V × H) :=
  match a with
  | .int x => (asInt b).bind fun y => (arith op x y).map fun z => (.int z, σ)
  | .obj n => if op = .add then catV σ (.obj n) b else .none
  | _ => .none

noncomputable def isNoneV : V → Option Bool
  | .none => some true
  | .ty _ => .none
  | _ => some false
noncomputable def isBoolV (c : Bool) : V → Option Bool
  | .bool d => some (d == c)
  | .int _ => some false
  | .none => some false
  | _ => .none
noncomputable def isV (a b : V) : Option Bool :=
  match b with
  | .none => isNoneV a
  | .bool c => isBoolV c a
  | _ => .none

noncomputable def inV (σ : H) (x : V) (l : List V) : Option Bool :=
  match l.mapM (toD 6 σ), toD 6 σ x with
  | some ds, some d => some (ds.any fun y => PyData.eqv y d)
  | _, _ => .none

noncomputable def ltV (a b : V) : Option Bool :=
  match a with
  | .int x => (asInt b).map fun y => decide (x < y)
  | _ => .none
noncomputable def leV (a b : V) : Option Bool := (asInt a).bind fun x => (asInt b).map fun y => decide (x ≤ y)
noncomputable def cmpop (op : Cop) (a b : V) (σ : H) : Option Bool :=
  match op with
  | .eq => eqV σ a b
  | .ne => (eqV σ a b).map (!·)
  | .lt => ltV a b
  | .gt => ltV b a
  | .le => leV a b
  | .ge => leV b a
  | .is => isV a b
  | .isnot => (isV a b).map (!·)
  | .mem => .none
  | .nmem => .none

noncomputable def idxN (i : Int) (n : Nat) : Option Nat :=
  if 0 ≤ i then (if i < n then some i.toNat else .none) else (if 0 ≤ i + n then some (i + n).toNat else .none)

noncomputable def getIdx (σ : H) (a i : V) : Option V := (asInt i).bind fun k => (items σ a).bind fun l => (idxN k l.length).bind fun j => l[j]?

noncomputable def clampS (i : Int) (n : Nat) : Nat := if i < 0 then (i + n).toNat else min i.toNat n
noncomputable def evens {α : Type} : List α → List α
  | [] => []
  | [x] => [x]
  | x :: _ :: r => x :: evens r
noncomputable def asBound : V → Option (Option Int)
  | .none => some .none
  | .int i => some (some i)
  | _ => .none
noncomputable def loN (b : Option Int) (n : Nat) : Nat := b.elim 0 fun i => clampS i n
noncomputable def hiN (b : Option Int) (n : Nat) : Nat := b.elim n fun i => clampS i n
/-- a slice with bounds none or ints, step none or 2 -/
noncomputable def sliceL (l : List V) (lo hi st : V) : Option (List V) :=
  (asBound lo).bind fun a => (asBound hi).bind fun b => (asBound st).bind fun c =>
    if c = .none then some ((l.take (hiN b l.length)).drop (loN a l.length))
    else .none
noncomputable def sliceV (σ : H) (a lo hi st : V) : Option (V × H) := (listOf σ a).bind fun l => (sliceL l lo hi st).bind (mkList σ)

noncomputable def asInts : List V → Option (List Int)
  | [] => some []
  | .int i :: r => (asInts r).map (i :: ·)
  | _ => .none

/-- keys for the order of sorted: an int, or a tuple of three asInts -/
structure T3 where
  a : Int
  b : Int
  c : Int
  deriving DecidableEq, Inhabited
noncomputable def T3.v (x : T3) : V := .tup [.int x.a, .int x.b, .int x.c]
noncomputable def T3.le (x y : T3) : Bool := decide (x.a < y.a) || (decide (x.a = y.a) && (decide (x.b < y.b) || (decide (x.b = y.b) && decide (x.c ≤ y.c))))
noncomputable def arg3 : List V → Option (V × V × V)
  | [] => .none
  | x :: r => (arg2 r).map fun p => (x, p.1, p.2)
noncomputable def t3Of (v : V) : Option T3 := (asTup v).bind fun l => (arg3 l).bind fun p => (asInt p.1).bind fun a => (asInt p.2.1).bind fun b => (asInt p.2.2).map fun c => ⟨a, b, c⟩
noncomputable def t3s : List V → Option (List T3)
  | [] => some []
  | v :: r => (t3Of v).bind fun t => (t3s r).map (t :: ·)
noncomputable def sortV (l : List V) : Option (List V) :=
  match asInts l with
  | some is => some ((is.mergeSort (fun a b => decide (a ≤ b))).map .int)
  | .none => match t3s l with
    | some ts => some ((ts.mergeSort T3.le).map T3.v)
    | .none => .none

/-- type numbers: 0 int, 1 bool, 2 tuple, 3 list, 4 ValueError, 10 .. 13 SpanError, BadStretch, Twice, Missing, 20 Wood -/
noncomputable def excSub (c t : Nat) : Bool := c == t || (t == 10 && (c == 11 || c == 12 || c == 13)) || t == 4
noncomputable def kindNo (σ : H) : V → Option Nat
  | .int _ => some 0
  | .bool _ => some 1
  | .tup _ => some 2
  | .none => some 5
  | .str _ => some 6
  | .obj n => match σ[n]? with
    | some (.list _) => some 3
    | _ => .none
  | _ => .none
noncomputable def isiV (σ : H) (v : V) (t : Nat) : Option Bool := (kindNo σ v).bind fun k => if t ≤ 3 then some (k == t || (k == 1 && t == 0)) else .none

noncomputable def maxI : List Int → Int → Int
  | [], m => m
  | x :: r, m => maxI r (if m < x then x else m)
noncomputable def minI : List Int → Int → Int
  | [], m => m
  | x :: r, m => minI r (if x < m then x else m)

noncomputable def bestV (f : List Int → Int → Int) (σ : H) (as : List V) : Option (V × H) := (arg1 as).bind fun a => ((listOf σ a).bind asInts).bind fun l => match l with
  | [] => .none
  | x :: r => some (.int (f r x), σ)
noncomputable def twoV (f : Int → Int → Int) (σ : H) (as : List V) : Option (V × H) := (arg2 as).bind fun p => (asInt p.1).bind fun x => (asInt p.2).map fun y => (.int (f x y), σ)
noncomputable def intV (σ : H) : V → Option (V × H)
  | .bool x => some (.int (if x then 1 else 0), σ)
  | .int x => some (.int x, σ)
  | _ => .none
noncomputable def tyNo : V → Option Nat
  | .ty t => some t
  | _ => .none
noncomputable def bltV (b : Blt) (as : List V) (σ : H) : Option (V × H) :=
  match b with
  | .len => (arg1 as).bind fun v => (items σ v).map fun l => (.int l.length, σ)
  | .max => if as.length = 1 then bestV maxI σ as else twoV (fun x y => if x < y then y else x) σ as
  | .min => if as.length = 1 then bestV minI σ as else twoV (fun x y => if y < x then y else x) σ as
  | .sorted => (arg1 as).bind fun v => ((listOf σ v).bind sortV).bind (mkList σ)
  | .int => (arg1 as).bind (intV σ)
  | .list => (arg1 as).bind fun v => (listOf σ v).bind (mkList σ)
  | .sum => .none
  | .isinstance => (arg2 as).bind fun p => (tyNo p.2).bind fun t => (isiV σ p.1 t).map fun r => (.bool r, σ)

noncomputable def setObj (σ : H) (n : Nat) (o : O) : H := σ.set n o

noncomputable def objNo : V → Option Nat
  | .obj n => some n
  | _ => .none
noncomputable def appV (σ : H) (n : Nat) (l : List V) (as : List V) : Option (V × H) := (arg1 as).bind fun x => if l.length < lenMax then some (.none, setObj σ n (.list (l ++ [x]))) else .none
noncomputable def popV (σ : H) (n : Nat) (l : List V) (as : List V) : Option (V × H) := if as = [] then l.getLast?.map fun x => (x, setObj σ n (.list l.dropLast)) else .none
noncomputable def mthV (m : Mth) (o : V) (as : List V) (σ : H) : Option (V × H) := (objNo o).bind fun n => (listOf σ o).bind fun l => match m with
  | .append => appV σ n l as
  | .pop => popV σ n l as
  | .index => .none

noncomputable def nsOf (σ : H) : V → Option (Nat × List (Nat × V))
  | .obj n => match σ[n]? with
    | some (.inst _ d) => match σ[d]? with
      | some (.ns l) => some (d, l)
      | _ => .none
    | _ => .none
  | _ => .none
noncomputable def nsPut : List (Nat × V) → Nat → V → List (Nat × V)
  | [], a, v => [(a, v)]
  | (b, w) :: r, a, v => if b = a then (b, v) :: r else (b, w) :: nsPut r a v

inductive Mode where | pure | fresh | raw
  deriving DecidableEq, Inhabited

structure Fn where
  ps : List Nat
  size : Nat
  body : Ss
  mode : Mode

/-- the program's tables -/
structure Pg where
  fn : Nat → Option Fn
  mt : Nat → Nat → Option Nat
  init : Nat → Option Nat

mutual
noncomputable def below (n : Nat) : V → Bool
  | .obj m => decide (m < n)
  | .tup l => belows n l
  | _ => true
noncomputable def belows (n : Nat) : List V → Bool
  | [] => true
  | v :: r => below n v && belows n r
end

open Classical in
noncomputable def gc (m : Mode) (σ : H) (x : X V) : X V :=
  match m with
  | .raw => x
  | .pure => match x with
    | some (.ok v, σ') => if σ'.take σ.length = σ ∧ below σ.length v = true then some (.ok v, σ) else .none
    | some (.exc c, σ') => if σ'.take σ.length = σ then some (.exc c, σ) else .none
    | .none => .none
  | .fresh => match x with
    | some (.ok (.obj m), σ') => if σ'.take σ.length = σ then
        (if m < σ.length then some (.ok (.obj m), σ) else match σ'[m]? with
          | some (.list l) => if belows σ.length l = true then some (.ok (.obj σ.length), σ ++ [.list l]) else .none
          | _ => .none)
      else .none
    | _ => .none

inductive Fl where
  | next
  | brk
  | ret (v : V)
  | exc (c : Nat)
  deriving Inhabited
abbrev Y := Option (Fl × L × H)

noncomputable def bndY {α : Type} (x : X α) (ℓ : L) (f : α → H → Y) : Y :=
  match x with
  | .none => .none
  | some (.ok a, σ) => f a σ
  | some (.exc c, σ) => some (.exc c, ℓ, σ)
@[simp] theorem bndY_none {α : Type} (ℓ : L) (f : α → H → Y) : bndY (.none : X α) ℓ f = .none := rfl
@[simp] theorem bndY_ok {α : Type} (a : α) (σ : H) (ℓ : L) (f : α → H → Y) : bndY (some (.ok a, σ)) ℓ f = f a σ := rfl
@[simp] theorem bndY_exc {α : Type} (c : Nat) (σ : H) (ℓ : L) (f : α → H → Y) : bndY (some (.exc c, σ) : X α) ℓ f = some (.exc c, ℓ, σ) := rfl

/-- one statement behind another -/
noncomputable def seqY (x : Y) (f : L → H → Y) : Y :=
  match x with
  | some (.next, ℓ, σ) => f ℓ σ
  | r => r
@[simp] theorem seqY_next (ℓ : L) (σ : H) (f : L → H → Y) : seqY (some (.next, ℓ, σ)) f = f ℓ σ := rfl
@[simp] theorem seqY_ret (v : V) (ℓ : L) (σ : H) (f : L → H → Y) : seqY (some (.ret v, ℓ, σ)) f = some (.ret v, ℓ, σ) := rfl
@[simp] theorem seqY_brk (ℓ : L) (σ : H) (f : L → H → Y) : seqY (some (.brk, ℓ, σ)) f = some (.brk, ℓ, σ) := rfl
@[simp] theorem seqY_exc (c : Nat) (ℓ : L) (σ : H) (f : L → H → Y) : seqY (some (.exc c, ℓ, σ)) f = some (.exc c, ℓ, σ) := rfl
@[simp] theorem seqY_none (f : L → H → Y) : seqY .none f = .none := rfl

noncomputable def setL (ℓ : L) (i : Nat) (v : V) : Option L := if i < ℓ.length then some (ℓ.set i (some v)) else .none
noncomputable def setMany : List Nat → List V → L → Option L
  | [], [], ℓ => some ℓ
  | i :: is, v :: vs, ℓ => (setL ℓ i v).bind (setMany is vs)
  | _, _, _ => .none
noncomputable def setTg (t : Tg) (v : V) (ℓ : L) : Option L :=
  match t with
  | .one i => setL ℓ i v
  | .many _ => .none

/-- what an iterable draws: its items, and what must stay as it is while they are drawn -/
structure Src where
  vs : List V
  keep : H → Prop

open Classical in
noncomputable def compL (body : L → H → X (Option V)) (tg : Nat) (keep : H → Prop) : List V → List V → L → H → X (List V)
  | [], acc, _, σ => some (.ok acc, σ)
  | v :: r, acc, ℓ, σ => match setL ℓ tg v with
    | .none => .none
    | some ℓ' => match body ℓ' σ with
      | some (.ok y, σ') => if keep σ' ∧ acc.length < lenMax then compL body tg keep r (match y with | some w => acc ++ [w] | .none => acc) ℓ' σ' else .none
      | _ => .none

open Classical in
noncomputable def forL (body : L → H → Y) (t : Tg) (keep : H → Prop) : List V → L → H → Y
  | [], ℓ, σ => some (.next, ℓ, σ)
  | v :: r, ℓ, σ => match setTg t v ℓ with
    | .none => .none
    | some ℓ' => match body ℓ' σ with
      | some (.next, ℓ2, σ2) => if keep σ2 then forL body t keep r ℓ2 σ2 else .none
      | some (.brk, ℓ2, σ2) => some (.next, ℓ2, σ2)
      | some (.ret v, ℓ2, σ2) => some (.ret v, ℓ2, σ2)
      | _ => .none

/-- how calls are answered -/
structure Cl where
  pg : Pg
  call : Nat → List V → H → X V

noncomputable def rngL (a b : Int) : List V := (List.range (b - a).toNat).map fun k => V.int (a + (k : Nat))
noncomputable def enumL (l : List V) : List V := l.zipIdx.map fun p => V.tup [.int p.2, p.1]

mutual
noncomputable def evalE (C : Cl) : Ex → L → H → X V
  | .lit v, _, σ => some (.ok v, σ)
  | .var i, ℓ, σ => okX (ℓ[i]?.join) σ
  | .ty t, _, σ => some (.ok (.ty t), σ)
  | .bin op a b, ℓ, σ => bnd (evalE C a ℓ σ) fun x σ1 => bnd (evalE C b ℓ σ1) fun y σ2 => okH (binop op x y σ2)
  | .neg a, ℓ, σ => bnd (evalE C a ℓ σ) fun x σ1 => match x with
    | .int i => some (.ok (.int (-i)), σ1)
    | _ => .none
  | .not a, ℓ, σ => bnd (evalE C a ℓ σ) fun x σ1 => okX ((truth x).map fun b => V.bool (!b)) σ1
  | .and a b, ℓ, σ => bnd (evalE C a ℓ σ) fun x σ1 => match truth x with
    | some true => evalE C b ℓ σ1
    | some false => some (.ok x, σ1)
    | .none => .none
  | .or a b, ℓ, σ => bnd (evalE C a ℓ σ) fun x σ1 => match truth x with
    | some true => some (.ok x, σ1)
    | some false => evalE C b ℓ σ1
    | .none => .none
  | .cmp a r, ℓ, σ => bnd (evalE C a ℓ σ) fun x σ1 => evalCh C x r ℓ σ1
  | .ife c a b, ℓ, σ => bnd (evalE C c ℓ σ) fun x σ1 => match truth x with
    | some true => evalE C a ℓ σ1
    | some false => evalE C b ℓ σ1
    | .none => .none
  | .tup es, ℓ, σ => bnd (evalEs C es ℓ σ) fun vs σ1 => if vs.length ≤ lenMax then some (.ok (.tup vs), σ1) else .none
  | .lst es, ℓ, σ => bnd (evalEs C es ℓ σ) fun vs σ1 => okH (mkList σ1 vs)
  | .idx a i, ℓ, σ => bnd (evalE C a ℓ σ) fun x σ1 => bnd (evalE C i ℓ σ1) fun y σ2 => okX (getIdx σ2 x y) σ2
  | .slc a lo hi st, ℓ, σ => bnd (evalE C a ℓ σ) fun x σ1 => bnd (evalOe C lo ℓ σ1) fun l σ2 => bnd (evalOe C hi ℓ σ2) fun u σ3 => bnd (evalOe C st ℓ σ3) fun s σ4 =>
      okH (sliceV σ4 x l u s)
  | .comp elt tg it ifs, ℓ, σ => bnd (evalIt C it ℓ σ) fun src σ1 =>
      bnd (compL (fun ℓ' σ' => bnd (evalIfs C ifs ℓ' σ') fun b σ2 => if b then bnd (evalE C elt ℓ' σ2) fun v σ3 => some (.ok (some v), σ3) else some (.ok .none, σ2)) tg src.keep src.vs [] ℓ σ1) fun vs σ2 =>
        some (.ok (.obj σ2.length), σ2 ++ [.list vs])
  | .call f as, ℓ, σ => bnd (evalEs C as ℓ σ) fun vs σ1 => C.call f vs σ1
  | .blt b as, ℓ, σ => bnd (evalEs C as ℓ σ) fun vs σ1 => okH (bltV b vs σ1)
  | .mth m o as, ℓ, σ => bnd (evalE C o ℓ σ) fun x σ1 => bnd (evalEs C as ℓ σ1) fun vs σ2 => okH (mthV m x vs σ2)
  | .ucall m o as, ℓ, σ => bnd (evalE C o ℓ σ) fun x σ1 => match x with
    | .obj n => match σ1[n]? with
      | some (.inst c _) => match C.pg.mt c m with
        | some f => bnd (evalEs C as ℓ σ1) fun vs σ2 => C.call f (x :: vs) σ2
        | .none => .none
      | _ => .none
    | _ => .none
  | .attr o a, ℓ, σ => bnd (evalE C o ℓ σ) fun x σ1 => okX ((nsOf σ1 x).bind fun p => p.2.lookup a) σ1
  | .new c as, ℓ, σ => bnd (evalEs C as ℓ σ) fun vs σ1 => match C.pg.init c with
    | some f => bnd (C.call f (.obj (σ1.length + 1) :: vs) (σ1 ++ [.ns [], .inst c σ1.length])) fun r σ2 => match r with
      | .none => some (.ok (.obj (σ1.length + 1)), σ2)
      | _ => .none
    | .none => .none
noncomputable def evalEs (C : Cl) : Es → L → H → X (List V)
  | .nil, _, σ => some (.ok [], σ)
  | .cons e es, ℓ, σ => bnd (evalE C e ℓ σ) fun v σ1 => bnd (evalEs C es ℓ σ1) fun vs σ2 => some (.ok (v :: vs), σ2)
noncomputable def evalCh (C : Cl) (x : V) : Ch → L → H → X V
  | .one op b, ℓ, σ => bnd (evalE C b ℓ σ) fun y σ1 => okX ((cmpop op x y σ1).map V.bool) σ1
  | .more op b r, ℓ, σ => bnd (evalE C b ℓ σ) fun y σ1 => match cmpop op x y σ1 with
    | some true => evalCh C y r ℓ σ1
    | some false => some (.ok (.bool false), σ1)
    | .none => .none
noncomputable def evalOe (C : Cl) : Oe → L → H → X V
  | .no, _, σ => some (.ok .none, σ)
  | .yes e, ℓ, σ => evalE C e ℓ σ
noncomputable def evalIt (C : Cl) : It → L → H → X Src
  | .ex e, ℓ, σ => bnd (evalE C e ℓ σ) fun x σ1 => match x with
    | .tup l => some (.ok ⟨l, fun _ => True⟩, σ1)
    | .frz l => some (.ok ⟨l.map .int, fun _ => True⟩, σ1)
    | .obj n => match σ1[n]? with
      | some (.list l) => some (.ok ⟨l, fun σ' => σ'[n]? = some (.list l)⟩, σ1)
      | _ => .none
    | _ => .none
  | .rng1 e, ℓ, σ => bnd (evalE C e ℓ σ) fun x σ1 => match x with
    | .int b => if -lenMax ≤ b ∧ b ≤ lenMax then some (.ok ⟨rngL 0 b, fun _ => True⟩, σ1) else .none
    | _ => .none
  | .rng2 _ _, _, _ => .none
  | .enum _, _, _ => .none
noncomputable def evalIfs (C : Cl) : Es → L → H → X Bool
  | .nil, _, σ => some (.ok true, σ)
  | .cons e es, ℓ, σ => bnd (evalE C e ℓ σ) fun v σ1 => match truth v with
    | some true => evalIfs C es ℓ σ1
    | some false => some (.ok false, σ1)
    | .none => .none
end

mutual
noncomputable def exec (C : Cl) : St → L → H → Y
  | .expr e, ℓ, σ => bndY (evalE C e ℓ σ) ℓ fun _ σ1 => some (.next, ℓ, σ1)
  | .asg t e, ℓ, σ => bndY (evalE C e ℓ σ) ℓ fun v σ1 => (setTg t v ℓ).map fun ℓ' => (Fl.next, ℓ', σ1)
  | .aset _ _ _, _, _ => .none
  | .iset _ _ _, _, _ => .none
  | .ret e, ℓ, σ => bndY (evalE C e ℓ σ) ℓ fun v σ1 => some (.ret v, ℓ, σ1)
  | .ife c a b, ℓ, σ => bndY (evalE C c ℓ σ) ℓ fun v σ1 => match truth v with
    | some true => execs C a ℓ σ1
    | some false => execs C b ℓ σ1
    | .none => .none
  | .for_ (.one t) it b, ℓ, σ => bndY (evalIt C it ℓ σ) ℓ fun src σ1 => forL (execs C b) (.one t) src.keep src.vs ℓ σ1
  | .for_ (.many _) _ _, _, _ => .none
  | .whl _ _, _, _ => .none
  | .brk, ℓ, σ => some (.brk, ℓ, σ)
  | .pass, ℓ, σ => some (.next, ℓ, σ)
  | .raise c, ℓ, σ => some (.exc c, ℓ, σ)
  | .try_ _ _ _ _, _, _ => .none
noncomputable def execs (C : Cl) : Ss → L → H → Y
  | .nil, ℓ, σ => some (.next, ℓ, σ)
  | .cons s ss, ℓ, σ => seqY (exec C s ℓ σ) fun ℓ1 σ1 => execs C ss ℓ1 σ1
end

noncomputable def retX (y : Y) : X V :=
  match y with
  | some (.ret v, _, σ) => some (.ok v, σ)
  | some (.next, _, σ) => some (.ok .none, σ)
  | some (.exc c, _, σ) => some (.exc c, σ)
  | _ => .none
@[simp] theorem retX_ret (v : V) (ℓ : L) (σ : H) : retX (some (.ret v, ℓ, σ)) = some (.ok v, σ) := rfl
@[simp] theorem retX_next (ℓ : L) (σ : H) : retX (some (.next, ℓ, σ)) = some (.ok .none, σ) := rfl
@[simp] theorem retX_exc (c : Nat) (ℓ : L) (σ : H) : retX (some (.exc c, ℓ, σ)) = some (.exc c, σ) := rfl
@[simp] theorem retX_none : retX .none = .none := rfl

noncomputable def startL (F : Fn) (as : List V) : Option L := setMany F.ps as (List.replicate F.size .none)

noncomputable def callF (pg : Pg) : Nat → Nat → List V → H → X V
  | 0, _, _, _ => .none
  | d + 1, f, as, σ => match pg.fn f with
    | .none => .none
    | some F => match startL F as with
      | .none => .none
      | some ℓ => gc F.mode σ (retX (execs ⟨pg, callF pg d⟩ F.body ℓ σ))

end Mini

/-! From the model's syntax to the small language. -/
set_option autoImplicit false
namespace Mini
open PySem

structure Tabs where
  fns : List (Str × Nat)
  tys : List (Str × Nat)
  blts : List (Str × Blt)
  cls : List (Str × Nat)
  meths : List (Str × Nat)
  attrs : List (Str × Nat)
  excs : List (Str × Nat)

structure CEnv where
  names : List (Str × NameKind)
  slots : List (Str × Nat)
  next : Nat

noncomputable def cConst : Const → Option V
  | .none => some .none
  | .bool b => some (.bool b)
  | .int i => some (.int i)
  | .str s => some (.str s)
  | _ => .none

noncomputable def cOp : Operator → Option Bop
  | .Add => some .add
  | .Sub => some .sub
  | .Mult => some .mul
  | .FloorDiv => some .fdiv
  | .Mod => some .mod
  | .Pow => some .pow
  | _ => .none

noncomputable def cCop : CmpOp → Cop
  | .Eq => .eq | .NotEq => .ne | .Lt => .lt | .LtE => .le | .Gt => .gt | .GtE => .ge | .Is => .is | .IsNot => .isnot | .In => .mem | .NotIn => .nmem

noncomputable def cVar (c : CEnv) (x : Str) : Option Nat :=
  match c.names.lookup x with
  | some .local | some .cell => if x == ("__debug__" : Str) then .none else c.slots.lookup x
  | _ => .none

noncomputable def cName (T : Tabs) (c : CEnv) (x : Str) : Option Ex :=
  match c.names.lookup x with
  | some .local | some .cell => (cVar c x).map .var
  | some .globalImplicit => if x == ("__debug__" : Str) then .none else (T.tys.lookup x).map .ty
  | _ => .none

noncomputable def isGlob (c : CEnv) (x : Str) : Bool := c.names.lookup x == some .globalImplicit && !(x == ("__debug__" : Str))

/-- the names of a comprehension's block as the model relabels them -/
noncomputable def compNames (c : CEnv) (sc : Scope) : List (Str × NameKind) :=
  sc.names.map fun (n, k) => if k == .free && c.names.lookup n == some .cell then (n, .cell) else (n, k)
noncomputable def compSlots (c : CEnv) (sc : Scope) : List (Str × Nat) :=
  ((sc.names.filter fun p => p.2 == .local).zipIdx.map fun p => (p.1.1, c.next + p.2)) ++
  (sc.names.filterMap fun p => if p.2 == .free && c.names.lookup p.1 == some .cell then (c.slots.lookup p.1).map fun j => (p.1, j) else .none)
noncomputable def compC (c : CEnv) (sc : Scope) : CEnv := ⟨compNames c sc, compSlots c sc, c.next + (sc.names.filter fun p => p.2 == .local).length⟩

/-- a comprehension's block is as it must be: names once, no cells of its own, what it takes from outside is a cell there -/
noncomputable def compOK (c : CEnv) (sc : Scope) : Bool :=
  (sc.kind == .function) && !sc.isGenerator && !sc.isCoroutine && decide (sc.names.map (·.1)).Nodup && sc.names.all (fun p => p.2 != .cell && (p.2 != .free || c.names.lookup p.1 == some .cell))

noncomputable def boolEx (op : BoolOp) (a b : Ex) : Ex := match op with | .And => .and a b | .Or => .or a b

/-- a call of a name -/
noncomputable def cCall (T : Tabs) (c : CEnv) (f : Str) (as : Es) : Option Ex :=
  if isGlob c f then
    match T.fns.lookup f with
    | some n => some (.call n as)
    | .none => match T.blts.lookup f with
      | some b => some (.blt b as)
      | .none => match T.cls.lookup f with
        | some n => some (.new n as)
        | .none => .none
  else .none

noncomputable def sAppend : Str := "append"
noncomputable def sPop : Str := "pop"
noncomputable def sIndex : Str := "index"
noncomputable def sRange : Str := "range"
noncomputable def sEnum : Str := "enumerate"

noncomputable def cMeth (T : Tabs) (m : Str) (o : Ex) (as : Es) : Option Ex :=
  if m == sAppend then some (.mth .append o as)
  else if m == sPop then some (.mth .pop o as)
  else if m == sIndex then some (.mth .index o as)
  else (T.meths.lookup m).map fun k => .ucall k o as

noncomputable def isCall : Expr → Bool
  | .Call .. => true
  | _ => false

noncomputable def nameIs : Expr → Option Str
  | .Name x _ => some x
  | _ => .none

noncomputable def cUn : UnaryOp → Ex → Option Ex
  | .USub, a => some (.neg a)
  | .Not, a => some (.not a)
  | _, _ => .none

noncomputable def cRng (f : Str) (xs : Es) : Option It := match xs with
  | .nil => .none
  | .cons a r => match r with
    | .nil => if f == sRange then some (.rng1 a) else if f == sEnum then some (.enum a) else .none
    | .cons b r' => match r' with
      | .nil => if f == sRange then some (.rng2 a b) else .none
      | .cons _ _ => .none

mutual
noncomputable def cE (T : Tabs) : CEnv → Expr → Option Ex
  | _, .Constant k _ _ => (cConst k).map .lit
  | c, .Name x _ => cName T c x
  | c, .BinOp l op r _ => (cE T c l).bind fun a => (cOp op).bind fun o => (cE T c r).map fun b => .bin o a b
  | c, .UnaryOp op x _ => (cE T c x).bind fun a => cUn op a
  | c, .BoolOp op vs _ => cB T op c vs
  | c, .Compare l ops cs _ => (cE T c l).bind fun a => (cCh T c ops cs).map fun r => .cmp a r
  | c, .IfExp t b o _ => (cE T c t).bind fun x => (cE T c b).bind fun y => (cE T c o).map fun z => .ife x y z
  | c, .Tuple es _ _ => (cEs T c es).map .tup
  | c, .List es _ => (cEs T c es).map .lst
  | c, .Subscript v s _ => (cE T c v).bind fun a => (cS T c s).elim ((cE T c s).map fun i => .idx a i) fun p => some (.slc a p.1 p.2.1 p.2.2)
  | c, .ListComp elt gens sc _ => (cGen T sc c gens).bind fun g => (cE T (compC c sc) elt).bind fun e => if compOK c sc then some (.comp e g.1 g.2.1 g.2.2) else .none
  | c, .Call f as ks pos => if ks.isEmpty ∧ as.length < 20 then (cEs T c as).bind fun xs => cF T xs pos c f else .none
  | c, .Attribute o a _ => (cE T c o).bind fun x => (T.attrs.lookup a).bind fun k => if isCall o then .none else some (.attr x k)
  | _, _ => .none
noncomputable def cF (T : Tabs) (xs : Es) (pos : Pos) : CEnv → Expr → Option Ex
  | c, .Name f _ => cCall T c f xs
  | c, .Attribute o m p => (cE T c o).bind fun x => if p.endLine == pos.line && !isCall o then cMeth T m x xs else .none
  | _, _ => .none
noncomputable def cS (T : Tabs) : CEnv → Expr → Option (Oe × Oe × Oe)
  | c, .Slice lo hi st _ => (cO T c lo).bind fun x => (cO T c hi).bind fun y => (cO T c st).map fun z => (x, y, z)
  | _, _ => .none
noncomputable def cO (T : Tabs) : CEnv → Option Expr → Option Oe
  | _, .none => some .no
  | c, some e => (cE T c e).map .yes
noncomputable def cB (T : Tabs) (op : BoolOp) : CEnv → List Expr → Option Ex
  | _, [] => .none
  | c, e :: r => if r.isEmpty then cE T c e else (cE T c e).bind fun a => (cB T op c r).map fun b => boolEx op a b
noncomputable def cEs (T : Tabs) : CEnv → List Expr → Option Es
  | _, [] => some .nil
  | c, e :: r => (cE T c e).bind fun a => (cEs T c r).map fun b => .cons a b
noncomputable def cCh (T : Tabs) : CEnv → List CmpOp → List Expr → Option Ch
  | _, _, [] => .none
  | _, [], _ :: _ => .none
  | c, op :: ops, e :: es => (cE T c e).bind fun a => if es.isEmpty then (if ops.isEmpty then some (.one (cCop op) a) else .none) else (cCh T c ops es).map fun r => .more (cCop op) a r
noncomputable def cR (T : Tabs) : CEnv → Expr → Option It
  | c, .Call f as ks _ => if ks.isEmpty then (nameIs f).bind fun f => if isGlob c f then (cEs T c as).bind (cRng f) else .none else .none
  | _, _ => .none
noncomputable def cGen (T : Tabs) (sc : Scope) : CEnv → List Comprehension → Option (Nat × It × Es)
  | _, [] => .none
  | c, ⟨tg, iter, ifs, async⟩ :: gs => if gs.isEmpty ∧ async = 0 then
      (nameIs tg).bind fun x => (cVar (compC c sc) x).bind fun i => if (compC c sc).names.lookup x = some .local then
        ((cR T c iter).elim ((cE T c iter).map .ex) some).bind fun it => (cEs T (compC c sc) ifs).map fun fs => (i, it, fs) else .none
    else .none
end

noncomputable def cVars (c : CEnv) : List Expr → Option (List Nat)
  | [] => some []
  | e :: r => (nameIs e).bind fun x => (cVar c x).bind fun i => (cVars c r).map fun is => i :: is

/-- a target of names -/
noncomputable def cTg (c : CEnv) : Expr → Option Tg
  | .Name x _ => (cVar c x).map .one
  | .Tuple es _ _ => (cVars c es).map .many
  | _ => .none

noncomputable def cTo (T : Tabs) (c : CEnv) (v : Ex) : Expr → Option St
  | .Name x _ => (cVar c x).map fun i => .asg (.one i) v
  | .Tuple es _ _ => (cVars c es).map fun is => .asg (.many is) v
  | .Attribute o a _ => (cE T c o).bind fun x => (T.attrs.lookup a).map fun k => .aset x k v
  | .Subscript o i _ => (cE T c o).bind fun x => (cE T c i).map fun k => .iset x k v
  | _ => .none
noncomputable def cAsg (T : Tabs) (c : CEnv) (v : Ex) : List Expr → Option St
  | [] => .none
  | t :: ts => if ts.isEmpty then cTo T c v t else .none

noncomputable def isStrC : Const → Bool
  | .str _ => true
  | _ => false
noncomputable def isStrE : Expr → Bool
  | .Constant k _ _ => isStrC k
  | _ => false
noncomputable def oneStr : List Expr → Bool
  | [] => false
  | e :: r => isStrE e && r.isEmpty
/-- «raise C('text')» -/
noncomputable def cRaiseE (T : Tabs) (c : CEnv) : Expr → Option St
  | .Call f as ks _ => (nameIs f).bind fun x => if isGlob c x && oneStr as && ks.isEmpty then (T.excs.lookup x).map .raise else .none
  | _ => .none
noncomputable def cRaise (T : Tabs) (c : CEnv) (e k : Option Expr) : Option St := if k.isNone then e.bind (cRaiseE T c) else .none

noncomputable def cIter (T : Tabs) (c : CEnv) (e : Expr) : Option It := (cR T c e).elim ((cE T c e).map .ex) some

/-- the head of the one handler: its class and its name -/
noncomputable def cHead (T : Tabs) (c : CEnv) (t : Option Expr) (x : Option Str) : Option (Nat × Option Nat) :=
  (t.bind nameIs).bind fun f => if isGlob c f then (T.excs.lookup f).bind fun k => x.elim (some (k, .none)) fun n => (cVar c n).map fun i => (k, some i) else .none

noncomputable def isComp : Expr → Bool
  | .ListComp .. => true
  | .SetComp .. => true
  | .DictComp .. => true
  | _ => false

noncomputable def cRet (T : Tabs) (c : CEnv) : Option Expr → Option St
  | some e => (cE T c e).map .ret
  | .none => some (.ret (.lit .none))

mutual
noncomputable def cSt (T : Tabs) (c : CEnv) : Stmt → Option St
  | .Expr e _ => if isComp e then .none else (cE T c e).map .expr
  | .Assign ts v _ => (cE T c v).bind fun a => cAsg T c a ts
  | .Return v _ => cRet T c v
  | .If t a b _ => (cE T c t).bind fun x => (cSs T c a).bind fun y => (cSs T c b).map fun z => .ife x y z
  | .For t i b o _ => if o.isEmpty then (cTg c t).bind fun x => (cIter T c i).bind fun y => (cSs T c b).map fun z => .for_ x y z else .none
  | .While t b o _ => if o.isEmpty then (cE T c t).bind fun x => (cSs T c b).map fun y => .whl x y else .none
  | .Break _ => some .brk
  | .Pass _ => some .pass
  | .Raise e k _ => cRaise T c e k
  | .Try b hs o f _ => if o.isEmpty ∧ f.isEmpty then (cSs T c b).bind fun x => (cHs T c hs).map fun h => .try_ x h.1 h.2.1 h.2.2 else .none
  | _ => .none
noncomputable def cSs (T : Tabs) (c : CEnv) : List Stmt → Option Ss
  | [] => some .nil
  | s :: r => (cSt T c s).bind fun a => (cSs T c r).map fun b => .cons a b
noncomputable def cHs (T : Tabs) (c : CEnv) : List ExceptHandler → Option (Nat × Option Nat × Ss)
  | [] => .none
  | .ExceptHandler t n b _ :: hs => if hs.isEmpty then (cHead T c t n).bind fun k => (cSs T c b).map fun y => (k.1, k.2, y) else .none
end

noncomputable def ownOf (names : List (Str × NameKind)) : List (Str × NameKind) := names.filter fun p => p.2 == .local || p.2 == .cell
noncomputable def slotsOf (names : List (Str × NameKind)) : List (Str × Nat) := (ownOf names).zipIdx.map fun p => (p.1.1, p.2)
noncomputable def fnC (sc : Scope) : CEnv := ⟨sc.names, slotsOf sc.names, (ownOf sc.names).length⟩

noncomputable def cFn (T : Tabs) (mode : Mode) (extra : Nat) (as : Arguments) (sc : Scope) (body : List Stmt) : Option Fn :=
  ((as.args.map (·.arg)).mapM (fun x => (slotsOf sc.names).lookup x)).bind fun ps => (cSs T (fnC sc) body).map fun b => ⟨ps, (ownOf sc.names).length + extra, b, mode⟩

end Mini

set_option autoImplicit false
namespace Mini
open PySem
noncomputable def fnNames : List (Str × Nat) := [(Str.ofString "meet", 0), (Str.ofString "need_whole", 1), (Str.ofString "need_span", 2), (Str.ofString "stretch_of", 3), (Str.ofString "gaps_of", 4), (Str.ofString "clumps_of", 5), (Str.ofString "deepest_of", 6), (Str.ofString "height_of", 7), (Str.ofString "made", 8), (Str.ofString "balanced", 9), (Str.ofString "with_one", 10), (Str.ofString "least_of", 11), (Str.ofString "without", 12), (Str.ofString "has", 13), (Str.ofString "walked", 14), (Str.ofString "asked", 15), (Str.ofString "_law_at", 16), (Str.ofString "_law_made", 17), (Str.ofString "_wall", 18), (Str.ofString "_law_thing", 19), (Str.ofString "_law_number", 20), (Str.ofString "_law_good", 21), (Str.ofString "_law_called", 22), (Str.ofString "_law_named", 23), (Str.ofString "_law_word", 24), (Str.ofString "_law_is_int", 25), (Str.ofString "_law_tuple_is", 26), (Str.ofString "_law_list_is", 27), (Str.ofString "_law_row", 28), (Str.ofString "_law_ask", 29), (Str.ofString "_law_gaps", 30), (Str.ofString "_law_clump", 31), (Str.ofString "_law_triple", 32), (Str.ofString "_law_over", 33), (Str.ofString "_law_run", 34), (Str.ofString "_law_near", 35), (Str.ofString "_law_picked", 36), (Str.ofString "_law_big", 37), (Str.ofString "_law_deeds", 38), (Str.ofString "_law_behind", 39), (Str.ofString "_law_done", 40), (Str.ofString "_law_spots", 41), (Str.ofString "_law_box", 42), (Str.ofString "_law_under", 43), (Str.ofString "_law_stands", 44), (Str.ofString "_law_do", 45), (Str.ofString "_law_told", 46), (Str.ofString "_law_spot", 47), (Str.ofString "_law_looked", 48), (Str.ofString "_law_least", 49), (Str.ofString "_law_quick", 50), (Str.ofString "_law_parts", 51), (Str.ofString "_law_deepest", 52), (Str.ofString "_law_clumps", 53), (Str.ofString "_law_gaps_of", 54), (Str.ofString "_law_hang", 55), (Str.ofString "_law_rest", 56), (Str.ofString "_law_balanced", 57), (Str.ofString "_law_deep", 58), (Str.ofString "_law_own", 59), (Str.ofString "law", 60)]
noncomputable def methNames : List (Str × Nat) := [(Str.ofString "__init__", 0), (Str.ofString "put", 1), (Str.ofString "take", 2), (Str.ofString "keeps", 3), (Str.ofString "listed", 4), (Str.ofString "total", 5), (Str.ofString "meeting", 6), (Str.ofString "holding", 7), (Str.ofString "looked", 8), (Str.ofString "gaps", 9), (Str.ofString "clumps", 10), (Str.ofString "deepest", 11), (Str.ofString "branch", 12), (Str.ofString "height", 13), (Str.ofString "boxes", 14)]
noncomputable def tyNames : List (Str × Nat) := [(Str.ofString "int", 0), (Str.ofString "bool", 1), (Str.ofString "tuple", 2), (Str.ofString "list", 3), (Str.ofString "ValueError", 4)]
noncomputable def excNames : List (Str × Nat) := [(Str.ofString "ValueError", 4), (Str.ofString "SpanError", 10), (Str.ofString "BadStretch", 11), (Str.ofString "Twice", 12), (Str.ofString "Missing", 13)]
noncomputable def bltNames : List (Str × Blt) := [(Str.ofString "len", .len), (Str.ofString "max", .max), (Str.ofString "min", .min), (Str.ofString "sorted", .sorted), (Str.ofString "int", .int), (Str.ofString "list", .list), (Str.ofString "sum", .sum), (Str.ofString "isinstance", .isinstance)]
noncomputable def tabs : Tabs := ⟨fnNames, tyNames, bltNames, [("Wood", 0)], methNames, [("top", 0), ("many", 1)], excNames⟩
end Mini

/-! The relation between the small language's state and the model's. -/
set_option autoImplicit false
namespace Mini
open PySem

abbrev tupObj (vs : List Value) : Obj := { cls := .type "tuple", data := .seq vs.toArray }
abbrev listObj (vs : List Value) (n : Nat) : Obj := { cls := .type "list", data := .seq vs.toArray n }

/-- what is fixed for one law's proof -/
structure Kx where
  prog : Program
  w : World
  h0 : Heap
  tyv : Nat → Value
  fna : Nat → Addr

abbrev Kx.M (K : Kx) : Model := model K.prog K.w

mutual
inductive RV (K : Kx) (ρ : List Addr) (h : Heap) : V → Value → Prop
  | none : RV K ρ h .none .none
  | bool (b) : RV K ρ h (.bool b) (.bool b)
  | int (i t) : RV K ρ h (.int i) (.int i t)
  | str (s t) : RV K ρ h (.str s) (.str s t)
  | tup {l a vs} : h.get? a = some (tupObj vs) → RVs K ρ h l vs → l.length ≤ lenMax → RV K ρ h (.tup l) (.ref a)
  | obj {n a} : ρ[n]? = some a → RV K ρ h (.obj n) (.ref a)
  | ty (t) : RV K ρ h (.ty t) (K.tyv t)
  | frz {l a vs n} : K.h0.get? a = some (listObj vs n) → RVs K ρ h (l.map V.int) vs → l.length ≤ lenMax → RV K ρ h (.frz l) (.ref a)
inductive RVs (K : Kx) (ρ : List Addr) (h : Heap) : List V → List Value → Prop
  | nil : RVs K ρ h [] []
  | cons {v l x vs} : RV K ρ h v x → RVs K ρ h l vs → RVs K ρ h (v :: l) (x :: vs)
end

/-- an abstract object lies at an address -/
noncomputable def OR (K : Kx) (ρ : List Addr) (h : Heap) (a : Addr) : O → Prop
  | .list l => ∃ vs n, h.get? a = some (listObj vs n) ∧ RVs K ρ h l vs ∧ l.length ≤ lenMax
  | _ => False

structure HR (K : Kx) (ρ : List Addr) (σ : H) (h : Heap) : Prop where
  keep : ∀ b o, K.h0.get? b = some o → h.get? b = some o
  len : ρ.length = σ.length
  nd : ρ.Nodup
  new : ∀ a ∈ ρ, K.h0.get? a = none
  obj : ∀ (n : Nat) o a, σ[n]? = some o → ρ[n]? = some a → OR K ρ h a o

/-- one state behind another: what is not among the objects of ρ stays -/
structure Step (ρ : List Addr) (s : Shared) (ρ' : List Addr) (s' : Shared) : Prop where
  pre : ρ <+: ρ'
  fr : ∀ b o, s.heap.get? b = some o → b ∉ ρ → s'.heap.get? b = some o
  fresh : ∀ a, a ∈ ρ' → a ∈ ρ ∨ s.heap.get? a = none
  gens : s'.gens = s.gens
  os : s'.os = s.os

theorem Step.refl (ρ : List Addr) (s : Shared) : Step ρ s ρ s := ⟨List.prefix_refl _, fun _ _ e _ => e, fun _ h => .inl h, rfl, rfl⟩
theorem Step.trans {ρ ρ1 ρ2 : List Addr} {s s1 s2 : Shared} (x : Step ρ s ρ1 s1) (y : Step ρ1 s1 ρ2 s2) : Step ρ s ρ2 s2 where
  pre := x.pre.trans y.pre
  fr := fun b o e hb => y.fr b o (x.fr b o e hb) fun h1 => by
    rcases x.fresh b h1 with h | h
    · exact hb h
    · rw [e] at h; cases h
  fresh := fun a ha => by
    rcases y.fresh a ha with h | h
    · exact x.fresh a h
    · by_cases hr : a ∈ ρ
      · exact .inl hr
      · right
        cases hg : s.heap.get? a with
        | none => rfl
        | some o => rw [x.fr a o hg hr] at h; cases h
  gens := y.gens.trans x.gens
  os := y.os.trans x.os

theorem OR.isSome {K : Kx} {ρ : List Addr} {h : Heap} {a : Addr} {o : O} (x : OR K ρ h a o) : ∃ ob, h.get? a = some ob ∧ ob.cls ≠ .type "tuple" := by
  cases o with
  | list l => obtain ⟨vs, n, e, _⟩ := x; exact ⟨_, e, by show Value.type "list" ≠ Value.type "tuple"; decide⟩
  | _ => exact x.elim

theorem HR.at_ {K : Kx} {ρ : List Addr} {σ : H} {h : Heap} (x : HR K ρ σ h) {a : Addr} (ha : a ∈ ρ) : ∃ ob, h.get? a = some ob ∧ ob.cls ≠ .type "tuple" := by
  refine Classical.byContradiction fun hnX => ?_
  obtain ⟨n, hn, rfl⟩ := List.getElem_of_mem ha
  refine hnX ?_
  clear hnX
  have hs : n < σ.length := by rw [← x.len]; exact hn
  exact (x.obj n _ _ (List.getElem?_eq_getElem hs) (List.getElem?_eq_getElem hn)).isSome

theorem pre_get {α : Type} {l l' : List α} (hp : l <+: l') {n : Nat} {a : α} (e : l[n]? = some a) : l'[n]? = some a := by
  refine Classical.byContradiction fun hnX => ?_
  obtain ⟨t, rfl⟩ := hp
  refine hnX ?_
  clear hnX
  rw [List.getElem?_append_left (List.getElem?_eq_some_iff.mp e).1]; exact e

mutual
theorem RV.mono {K : Kx} {ρ ρ' : List Addr} {h h' : Heap} (hp : ρ <+: ρ') (ht : ∀ a vs, h.get? a = some (tupObj vs) → h'.get? a = some (tupObj vs)) : ∀ {v : V} {x : Value}, RV K ρ h v x → RV K ρ' h' v x
  | _, _, .none => .none
  | _, _, .bool b => .bool b
  | _, _, .int i t => .int i t
  | _, _, .str s t => .str s t
  | _, _, .tup e r n => .tup (ht _ _ e) (RVs.mono hp ht r) n
  | _, _, .obj e => .obj (pre_get hp e)
  | _, _, .ty t => .ty t
  | _, _, .frz e r n => .frz e (RVs.mono hp ht r) n
theorem RVs.mono {K : Kx} {ρ ρ' : List Addr} {h h' : Heap} (hp : ρ <+: ρ') (ht : ∀ a vs, h.get? a = some (tupObj vs) → h'.get? a = some (tupObj vs)) : ∀ {l : List V} {vs : List Value}, RVs K ρ h l vs → RVs K ρ' h' l vs
  | _, _, .nil => .nil
  | _, _, .cons a r => .cons (RV.mono hp ht a) (RVs.mono hp ht r)
end

structure Good (K : Kx) (ρ : List Addr) (s : Shared) (ρ' : List Addr) (σ' : H) (s' : Shared) : Prop where
  hr : HR K ρ' σ' s'.heap
  st : Step ρ s ρ' s'

theorem Good.refl {K : Kx} {ρ : List Addr} {σ : H} {s : Shared} (x : HR K ρ σ s.heap) : Good K ρ s ρ σ s := ⟨x, Step.refl ρ s⟩
theorem Good.trans {K : Kx} {ρ ρ1 ρ2 : List Addr} {σ1 σ2 : H} {s s1 s2 : Shared} (x : Good K ρ s ρ1 σ1 s1) (y : Good K ρ1 s1 ρ2 σ2 s2) : Good K ρ s ρ2 σ2 s2 := ⟨y.hr, x.st.trans y.st⟩
/-- a step in the tokens alone -/
theorem Good.tok {K : Kx} {ρ ρ' : List Addr} {σ' : H} {s s' : Shared} (x : Good K ρ s ρ' σ' s') (t : Nat) : Good K ρ s ρ' σ' { s' with toks := t } :=
  ⟨x.hr, ⟨x.st.pre, x.st.fr, x.st.fresh, x.st.gens, x.st.os⟩⟩

theorem OR.mono {K : Kx} {ρ ρ' : List Addr} {h h' : Heap} {a : Addr} {o : O} (x : OR K ρ h a o) (hp : ρ <+: ρ') (hk : ∀ b o, h.get? b = some o → h'.get? b = some o) : OR K ρ' h' a o := by
  cases o with
  | list l => obtain ⟨vs, n, e, r, hl⟩ := x; exact ⟨vs, n, hk _ _ e, r.mono hp fun a vs e => hk _ _ e, hl⟩
  | _ => exact x.elim
/-- the heap grows -/
theorem HR.grow {K : Kx} {ρ : List Addr} {σ : H} {h h' : Heap} (x : HR K ρ σ h) (hk : ∀ b o, h.get? b = some o → h'.get? b = some o) : HR K ρ σ h' :=
  ⟨fun b o e => hk b o (x.keep b o e), x.len, x.nd, x.new, fun n o a h1 h2 => (x.obj n o a h1 h2).mono (List.prefix_refl _) hk⟩
theorem Good.grow {K : Kx} {ρ : List Addr} {σ : H} {s : Shared} (x : HR K ρ σ s.heap) {h' : Heap} (hk : ∀ b o, s.heap.get? b = some o → h'.get? b = some o) (t : Nat) : Good K ρ s ρ σ { s with heap := h', toks := t } :=
  ⟨x.grow hk, ⟨List.prefix_refl _, fun b o e _ => hk b o e, fun _ h => .inl h, rfl, rfl⟩⟩
/-- a new object, with a number -/
theorem Good.alloc {K : Kx} {ρ : List Addr} {σ : H} {s : Shared} (x : HR K ρ σ s.heap) {h' : Heap} {a : Addr} {o : O} (hk : ∀ b o, s.heap.get? b = some o → h'.get? b = some o) (ha : s.heap.get? a = none)
    (ho : OR K (ρ ++ [a]) h' a o) (t : Nat) : Good K ρ s (ρ ++ [a]) (σ ++ [o]) { s with heap := h', toks := t } := by
  have hna : a ∉ ρ := fun hm => by obtain ⟨ob, e, _⟩ := x.at_ hm; rw [ha] at e; cases e
  refine ⟨⟨fun b o e => hk b o (x.keep b o e), by simp [x.len], ?_, fun b hb => ?_, fun n o' b h1 h2 => ?_⟩, ⟨List.prefix_append _ _, fun b o e _ => hk b o e, fun b hb => ?_, rfl, rfl⟩⟩
  · rw [List.nodup_append]; exact ⟨x.nd, by simp, fun b hb c hc e => by simp at hc; exact hna (hc ▸ e ▸ hb)⟩
  · rcases List.mem_append.mp hb with h | h
    · exact x.new b h
    · rw [List.mem_singleton.mp h]
      cases hg : K.h0.get? a with
      | none => rfl
      | some ob => rw [x.keep a ob hg] at ha; cases ha
  · by_cases hn : n < σ.length
    · rw [List.getElem?_append_left hn] at h1
      rw [List.getElem?_append_left (by rw [x.len]; exact hn)] at h2
      exact (x.obj n o' b h1 h2).mono (List.prefix_append _ _) hk
    · have hn' : n = σ.length := by
        have := (List.getElem?_eq_some_iff.mp h1).1
        simp at this; lia
      subst hn'
      rw [List.getElem?_append_right (Nat.le_refl _)] at h1
      rw [List.getElem?_append_right (by rw [x.len]; exact Nat.le_refl _)] at h2
      simp [x.len] at h1 h2
      rw [← h1, ← h2]; exact ho
  · rcases List.mem_append.mp hb with h | h
    · exact .inl h
    · rw [List.mem_singleton.mp h]; exact .inr ha

theorem get?_size (h : Heap) : h.get? h.objs.size = none := by
  cases e : h.get? h.objs.size with
  | none => rfl
  | some o => exact absurd (Heap.lt_size e) (Nat.lt_irrefl _)

theorem Step.tups {K : Kx} {ρ ρ' : List Addr} {σ : H} {s s' : Shared} (x : Step ρ s ρ' s') (hr : HR K ρ σ s.heap) : ∀ a vs, s.heap.get? a = some (tupObj vs) → s'.heap.get? a = some (tupObj vs) :=
  fun a vs e => x.fr a _ e fun ha => by
    refine Classical.byContradiction fun hnX => ?_
    obtain ⟨ob, h1, h2⟩ := hr.at_ ha
    refine hnX ?_
    clear hnX
    rw [e] at h1; cases h1; exact h2 rfl

theorem RV.step {K : Kx} {ρ ρ' : List Addr} {σ : H} {s s' : Shared} {v : V} {x : Value} (r : RV K ρ s.heap v x) (hr : HR K ρ σ s.heap) (st : Step ρ s ρ' s') : RV K ρ' s'.heap v x := r.mono st.pre (st.tups hr)
theorem RVs.step {K : Kx} {ρ ρ' : List Addr} {σ : H} {s s' : Shared} {v : List V} {x : List Value} (r : RVs K ρ s.heap v x) (hr : HR K ρ σ s.heap) (st : Step ρ s ρ' s') : RVs K ρ' s'.heap v x := r.mono st.pre (st.tups hr)

theorem RVs.length {K : Kx} {ρ : List Addr} {h : Heap} : ∀ {l : List V} {vs : List Value}, RVs K ρ h l vs → l.length = vs.length
  | _, _, .nil => rfl
  | _, _, .cons _ r => by rw [List.length_cons, List.length_cons, RVs.length r]
theorem RVs.get {K : Kx} {ρ : List Addr} {h : Heap} : ∀ {l : List V} {vs : List Value}, RVs K ρ h l vs → ∀ {i : Nat} {v : V}, l[i]? = some v → ∃ x, vs[i]? = some x ∧ RV K ρ h v x
  | _, _, .nil, i, v, e => by simp at e
  | _, _, .cons (x := x) a r, 0, v, e => by simp at e; subst e; exact ⟨x, rfl, a⟩
  | _, _, .cons a r, i + 1, v, e => by simpa using RVs.get r (by simpa using e)
theorem RVs.append {K : Kx} {ρ : List Addr} {h : Heap} : ∀ {l : List V} {vs : List Value}, RVs K ρ h l vs → ∀ {l' : List V} {vs' : List Value}, RVs K ρ h l' vs' → RVs K ρ h (l ++ l') (vs ++ vs')
  | _, _, .nil, _, _, r => r
  | _, _, .cons a r, _, _, r' => .cons a (RVs.append r r')
theorem RVs.take {K : Kx} {ρ : List Addr} {h : Heap} : ∀ {l : List V} {vs : List Value}, RVs K ρ h l vs → ∀ n : Nat, RVs K ρ h (l.take n) (vs.take n)
  | _, _, _, 0 => by simpa using RVs.nil
  | _, _, .nil, _ + 1 => by simpa using RVs.nil
  | _, _, .cons a r, n + 1 => by simpa using RVs.cons a (RVs.take r n)
theorem RVs.drop {K : Kx} {ρ : List Addr} {h : Heap} : ∀ {l : List V} {vs : List Value}, RVs K ρ h l vs → ∀ n : Nat, RVs K ρ h (l.drop n) (vs.drop n)
  | _, _, r, 0 => r
  | _, _, .nil, _ + 1 => by simpa using RVs.nil
  | _, _, .cons a r, n + 1 => by simpa using RVs.drop r n

/-- a tree that gives a value as the evaluator says -/
noncomputable def TR (K : Kx) (A : Around) {α : Type} (t : Sem α) (ρ : List Addr) (s : Shared) (σ' : H) (P : List Addr → α → Shared → Prop) : Prop :=
  wpAny K.M A t (fun a s' => ∃ ρ', Good K ρ s ρ' σ' s' ∧ P ρ' a s') (fun _ _ => False) s

theorem TR.bind {K : Kx} {A : Around} {α β : Type} {m : Sem α} {f : α → Sem β} {ρ : List Addr} {s : Shared} {σ1 σ2 : H} {P : List Addr → α → Shared → Prop} {P' : List Addr → β → Shared → Prop}
    (h : TR K A m ρ s σ1 P) (h' : ∀ ρ1 a s1, Good K ρ s ρ1 σ1 s1 → P ρ1 a s1 → TR K A (f a) ρ1 s1 σ2 P') : TR K A (m >>= f) ρ s σ2 P' := by
  refine wpAny_bind (wpAny_mono h (fun a s1 hq => ?_) fun _ _ f => f.elim)
  refine Classical.byContradiction fun hnX => ?_
  obtain ⟨ρ1, g1, p1⟩ := hq
  refine hnX ?_
  clear hnX
  refine wpAny_mono (h' ρ1 a s1 g1 p1) (fun b s2 hq => ?_) fun _ _ f => f
  refine Classical.byContradiction fun hnX => ?_
  obtain ⟨ρ2, g2, p2⟩ := hq
  refine hnX ?_
  clear hnX
  exact ⟨ρ2, g1.trans g2, p2⟩
theorem TR.mono {K : Kx} {A : Around} {α : Type} {t : Sem α} {ρ : List Addr} {s : Shared} {σ' : H} {P P' : List Addr → α → Shared → Prop} (h : TR K A t ρ s σ' P) (hp : ∀ ρ' a s', Good K ρ s ρ' σ' s' → P ρ' a s' → P' ρ' a s') : TR K A t ρ s σ' P' :=
  wpAny_mono h (fun a s' hq => let ⟨ρ', g, p⟩ := hq; ⟨ρ', g, hp ρ' a s' g p⟩) fun _ _ f => f
/-- from any start: the step is put ahead -/
theorem TR.after {K : Kx} {A : Around} {α : Type} {t : Sem α} {ρ ρ1 : List Addr} {s s1 : Shared} {σ1 σ' : H} {P : List Addr → α → Shared → Prop} (g : Good K ρ s ρ1 σ1 s1) (h : TR K A t ρ1 s1 σ' P) :
    wpAny K.M A t (fun a s' => ∃ ρ', Good K ρ s ρ' σ' s' ∧ P ρ' a s') (fun _ _ => False) s1 :=
  wpAny_mono h (fun _ _ hq => let ⟨ρ', g', p⟩ := hq; ⟨ρ', g.trans g', p⟩) fun _ _ f => f
theorem TR.pure {K : Kx} {A : Around} {α : Type} {a : α} {ρ : List Addr} {s : Shared} {σ : H} {P : List Addr → α → Shared → Prop} (x : HR K ρ σ s.heap) (p : P ρ a s) : TR K A (pure a) ρ s σ P := wpAny_pure ⟨ρ, Good.refl x, p⟩

theorem bnd_ok_inv {α β : Type} {x : X α} {f : α → H → X β} {b : β} {σ' : H} (h : bnd x f = some (.ok b, σ')) : ∃ a σ1, x = some (.ok a, σ1) ∧ f a σ1 = some (.ok b, σ') := by
  unfold bnd at h
  split at h
  · cases h
  · exact ⟨_, _, rfl, h⟩
  · cases h
theorem okX_inv {α : Type} {a : Option α} {σ : H} {b : α} {σ' : H} (h : okX a σ = some (.ok b, σ')) : a = some b ∧ σ' = σ := by
  cases a with
  | none => cases h
  | some a => cases h; exact ⟨rfl, rfl⟩
theorem okH_inv {α : Type} {a : Option (α × H)} {b : α} {σ' : H} (h : okH a = some (.ok b, σ')) : a = some (b, σ') := by
  cases a with
  | none => cases h
  | some a => cases h; rfl
end Mini

/-! Frames; names; the judgement for expressions. -/
set_option autoImplicit false
namespace Mini
open PySem

theorem Ns.at {h h' : Heap} {a : Addr} {m : Str → Option Value} (x : h.Ns a m) (k : ∀ o, h.get? a = some o → h'.get? a = some o) : h'.Ns a m :=
  let ⟨o, es, ep, e, r⟩ := x; ⟨o, es, ep, k o e, r⟩
theorem IsCell.at {h h' : Heap} {a : Addr} {v : Option Value} (x : h.IsCell a v) (k : ∀ o, h.get? a = some o → h'.get? a = some o) : h'.IsCell a v :=
  let ⟨o, e, r⟩ := x; ⟨o, k o e, r⟩
theorem Ns.ex {h : Heap} {a : Addr} {m : Str → Option Value} (x : h.Ns a m) : ∃ o, h.get? a = some o := let ⟨o, _, _, e, _⟩ := x; ⟨o, e⟩

structure FO (K : Kx) (env : Env) (c : CEnv) (ℓ : L) (ρ : List Addr) (h : Heap) : Prop where
  kind : env.scope.kind = .function
  names : env.scope.names = c.names
  glob : env.globals = mainGlobals
  blts : env.builtins = builtinsNs
  ns : ∃ m, h.Ns env.locals m ∧ ∀ (x : Str) (i : Nat) v, c.names.lookup x = some .local → c.slots.lookup x = some i → ℓ[i]? = some (some v) → ∃ cv, m x = some cv ∧ RV K ρ h v cv
  cell : ∀ x, c.names.lookup x = some .cell → ∃ a o, env.cells.lookup x = some a ∧ h.IsCell a o ∧ ∀ (i : Nat) v, c.slots.lookup x = some i → ℓ[i]? = some (some v) → ∃ cv, o = some cv ∧ RV K ρ h v cv
  inj : ∀ x y i, c.slots.lookup x = some i → c.slots.lookup y = some i → x = y
  capart : ∀ x y a, (x, a) ∈ env.cells → (y, a) ∈ env.cells → x = y
  lnew : env.locals ∉ ρ ∧ K.h0.get? env.locals = none
  free : ∀ (i : Nat) v, c.next ≤ i → ℓ[i]? ≠ some (some v)
  lt : ∀ x i, c.slots.lookup x = some i → i < c.next
  cnew : ∀ x a, (x, a) ∈ env.cells → a ∉ ρ ∧ K.h0.get? a = none ∧ a ≠ env.locals ∧ ∃ o, h.get? a = some o ∧ ∀ vs, o ≠ tupObj vs

theorem FO.step {K : Kx} {env : Env} {c : CEnv} {ℓ : L} {ρ ρ' : List Addr} {σ : H} {s s' : Shared} (x : FO K env c ℓ ρ s.heap) (hr : HR K ρ σ s.heap) (st : Step ρ s ρ' s') : FO K env c ℓ ρ' s'.heap where
  kind := x.kind
  names := x.names
  glob := x.glob
  blts := x.blts
  ns := by
    refine Classical.byContradiction fun hnX => ?_
    obtain ⟨m, hn, hv⟩ := x.ns
    refine hnX ?_
    clear hnX
    exact ⟨m, Ns.at hn fun o e => st.fr _ _ e x.lnew.1, fun y i v h1 h2 h3 => let ⟨cv, h4, h5⟩ := hv y i v h1 h2 h3; ⟨cv, h4, h5.step hr st⟩⟩
  cell := fun y hy => by
    refine Classical.byContradiction fun hnX => ?_
    obtain ⟨a, o, h1, h2, h3⟩ := x.cell y hy
    refine hnX ?_
    clear hnX
    exact ⟨a, o, h1, IsCell.at h2 fun o e => st.fr _ _ e (x.cnew y a (mem_of_lookup h1)).1, fun i v h4 h5 => let ⟨cv, h6, h7⟩ := h3 i v h4 h5; ⟨cv, h6, h7.step hr st⟩⟩
  inj := x.inj
  capart := x.capart
  free := x.free
  lt := x.lt
  lnew := by
    refine ⟨fun hm => ?_, x.lnew.2⟩
    refine Classical.byContradiction fun hnX => ?_
    obtain ⟨m, hn, _⟩ := x.ns
    refine hnX ?_
    clear hnX
    refine Classical.byContradiction fun hnX => ?_
    obtain ⟨o, e⟩ := Ns.ex hn
    refine hnX ?_
    clear hnX
    rcases st.fresh _ hm with h | h
    · exact x.lnew.1 h
    · rw [e] at h; cases h
  cnew := fun y a hy => by
    refine Classical.byContradiction fun hnX => ?_
    obtain ⟨h1, h2, h3, o, h4, h5⟩ := x.cnew y a hy
    refine hnX ?_
    clear hnX
    refine ⟨fun hm => ?_, h2, h3, o, st.fr _ _ h4 h1, h5⟩
    rcases st.fresh _ hm with h | h
    · exact h1 h
    · rw [h4] at h; cases h

noncomputable def bltVal : Blt → Value
  | .len => .builtin "len"
  | .max => .builtin "max"
  | .min => .builtin "min"
  | .sorted => .builtin "sorted"
  | .int => .type "int"
  | .list => .type "list"
  | .sum => .builtin "sum"
  | .isinstance => .builtin "isinstance"

/-- the facts of the top -/
structure GK (K : Kx) (T : Tabs) : Prop where
  g : ∃ mg mb, K.h0.Ns mainGlobals mg ∧ K.h0.Ns builtinsNs mb ∧ (∀ x t, T.tys.lookup x = some t → mg x = some (K.tyv t) ∨ (mg x = none ∧ mb x = some (K.tyv t))) ∧
    (∀ x n, T.fns.lookup x = some n → mg x = some (.ref (K.fna n)) ∧ ∃ o fd, K.h0.get? (K.fna n) = some o ∧ o.data = .func fd) ∧
    (∀ x b, T.blts.lookup x = some b → mg x = none ∧ mb x = some (bltVal b)) ∧ mg sRange = none ∧ mb sRange = some (.type "range")

noncomputable def PE (K : Kx) (A : Around) (env : Env) (c : CEnv) (cl : Cl) (e : Expr) (a : Ex) : Prop :=
  ∀ ℓ σ v σ', evalE cl a ℓ σ = some (.ok v, σ') → ∀ ρ s, HR K ρ σ s.heap → FO K env c ℓ ρ s.heap → TR K A (eval e env) ρ s σ' fun ρ' cv s' => RV K ρ' s'.heap v cv

section
variable {K : Kx} {A : Around} {env : Env} {c : CEnv} {cl : Cl} {T : Tabs}

theorem pe_const {k : Const} {n : Nat} {pos : Pos} {v : V} (h : cConst k = some v) : PE K A env c cl (.Constant k n pos) (.lit v) := by
  intro ℓ σ v' σ' he ρ s hr fo
  cases he
  cases k <;> cases h
  · exact wpAny_Constant_none ⟨ρ, Good.refl hr, .none⟩
  · exact wpAny_Constant_bool ⟨ρ, Good.refl hr, .bool _⟩
  · exact wpAny_Constant_int ⟨ρ, (Good.refl hr).tok _, .int _ _⟩
  · exact wpAny_Constant_str ⟨ρ, (Good.refl hr).tok _, .str _ _⟩

theorem cVar_inv {x : Str} {i : Nat} (h : cVar c x = some i) : (c.names.lookup x = some .local ∨ c.names.lookup x = some .cell) ∧ (x == ("__debug__" : Str)) = false ∧ c.slots.lookup x = some i := by
  unfold cVar at h
  split at h
  · rename_i hk
    split at h
    · cases h
    · rename_i hd; exact ⟨.inl hk, by simpa using hd, h⟩
  · rename_i hk
    split at h
    · cases h
    · rename_i hd; exact ⟨.inr hk, by simpa using hd, h⟩
  · cases h

theorem pe_var {x : Str} {pos : Pos} {i : Nat} (h : cVar c x = some i) : PE K A env c cl (.Name x pos) (.var i) := by
  intro ℓ σ v σ' he ρ s hr fo
  refine Classical.byContradiction fun hnX => ?_
  obtain ⟨hj, rfl⟩ := okX_inv (show okX (ℓ[i]?.join) σ = some (.ok v, σ') from by simpa [evalE] using he)
  refine hnX ?_
  clear hnX
  refine Classical.byContradiction fun hnX => ?_
  obtain ⟨hk, hd, hs⟩ := cVar_inv h
  refine hnX ?_
  clear hnX
  have hv : ℓ[i]? = some (some v) := by
    cases hl : ℓ[i]? with
    | none => rw [hl] at hj; cases hj
    | some o => rw [hl] at hj; simp at hj; rw [hj]
  refine wpAny_Name ?_ hd
  rcases hk with hk | hk
  · refine Classical.byContradiction fun hnX => ?_
    obtain ⟨m, hn, hm⟩ := fo.ns
    refine hnX ?_
    clear hnX
    refine Classical.byContradiction fun hnX => ?_
    obtain ⟨cv, h1, h2⟩ := hm x i v hk hs hv
    refine hnX ?_
    clear hnX
    exact wpAny_loadName_local fo.kind (show env.scope.names.lookup x = _ by rw [fo.names]; exact hk) hn h1 ⟨ρ, Good.refl hr, h2⟩
  · refine Classical.byContradiction fun hnX => ?_
    obtain ⟨a, o, h1, h2, h3⟩ := fo.cell x hk
    refine hnX ?_
    clear hnX
    refine Classical.byContradiction fun hnX => ?_
    obtain ⟨cv, rfl, h4⟩ := h3 i v hs hv
    refine hnX ?_
    clear hnX
    exact wpAny_loadName_cell fo.kind (show env.scope.names.lookup x = _ by rw [fo.names]; exact hk) h1 h2 ⟨ρ, Good.refl hr, h4⟩

/-- a global name: the top's own or a built-in -/
theorem glob_load {x : Str} {pos : Pos} {v : Value} {mg mb : Str → Option Value} {Q : Value → Shared → Prop} {E : Value → Shared → Prop} {ρ : List Addr} {σ : H} {s : Shared} {ℓ : L} (hr : HR K ρ σ s.heap) (fo : FO K env c ℓ ρ s.heap)
    (hk : c.names.lookup x = some .globalImplicit) (hd : (x == ("__debug__" : Str)) = false) (hg : K.h0.Ns mainGlobals mg) (hb : K.h0.Ns builtinsNs mb) (hv : mg x = some v ∨ (mg x = none ∧ mb x = some v)) (hq : Q v s) :
    wpAny K.M A (eval (.Name x pos) env) Q E s := by
  refine Calls.Name_function_global fo.kind (show env.scope.names.lookup x = _ by rw [fo.names]; exact hk) ?_ hd
  have hg' : s.heap.Ns env.globals mg := by rw [fo.glob]; exact hg.keeps hr.keep
  rcases hv with hv | ⟨h1, h2⟩
  · exact Calls.loadGlobal_global hg' hv hq
  · exact Calls.loadGlobal_builtin hg' h1 (show s.heap.Ns env.builtins mb by rw [fo.blts]; exact hb.keeps hr.keep) h2 hq

theorem pe_name (G : GK K T) {x : Str} {pos : Pos} {a : Ex} (h : cName T c x = some a) : PE K A env c cl (.Name x pos) a := by
  unfold cName at h
  split at h
  · refine Classical.byContradiction fun hnX => ?_
    obtain ⟨i, hi, rfl⟩ := Option.map_eq_some_iff.mp h
    refine hnX ?_
    clear hnX
    exact pe_var hi
  · refine Classical.byContradiction fun hnX => ?_
    obtain ⟨i, hi, rfl⟩ := Option.map_eq_some_iff.mp h
    refine hnX ?_
    clear hnX
    exact pe_var hi
  · rename_i hk
    split at h
    · cases h
    · rename_i hd
      refine Classical.byContradiction fun hnX => ?_
      obtain ⟨t, ht, rfl⟩ := Option.map_eq_some_iff.mp h
      refine hnX ?_
      clear hnX
      intro ℓ σ v σ' he ρ s hr fo
      refine Classical.byContradiction fun hnX => ?_
      obtain ⟨mg, mb, hg, hb, hty, _⟩ := G.g
      refine hnX ?_
      clear hnX
      cases he
      exact glob_load hr fo hk (by simpa using hd) hg hb (hty x t ht) ⟨ρ, Good.refl hr, .ty t⟩
  · cases h
end
end Mini

/-! Operators. -/
set_option autoImplicit false
namespace Mini
open PySem PyProof.Rows

theorem intBits_of_natAbs {a : Int} {n : Nat} (h : a.natAbs < 2 ^ n) : Builtin.Int.intBits a ≤ n := by
  unfold Builtin.Int.intBits
  split
  · exact Nat.zero_le _
  · rename_i h0
    have hp : a.natAbs ≠ 0 := by simpa using h0
    have := (Nat.log2_lt hp).mpr h
    lia

theorem mulOK.ok {a b : Int} (h : mulOK a b) : IntMulOk a b := by
  rcases h with h | h | ⟨h1, h2⟩
  · exact IntMulOk.of_left (intBits_of_natAbs h)
  · exact IntMulOk.of_right (intBits_of_natAbs h)
  · have e1 : Builtin.Int.intBits a ≤ 2 ^ 21 := intBits_of_natAbs h1
    have e2 : Builtin.Int.intBits b ≤ 2 ^ 21 := intBits_of_natAbs h2
    unfold IntMulOk Builtin.Int.intTooBig bitsLine
    simp only [Bool.and_eq_true, decide_eq_true_eq, not_and]
    intro _
    lia

theorem mkList_inv {σ : H} {l : List V} {v : V} {σ' : H} (h : mkList σ l = some (v, σ')) : l.length ≤ lenMax ∧ v = .obj σ.length ∧ σ' = σ ++ [.list l] := by
  unfold mkList at h
  split at h
  · rename_i hl; cases h; exact ⟨hl, rfl, rfl⟩
  · cases h

section
variable {K : Kx} {A : Around}

/-- a new list object: its place in the relation -/
theorem good_list {ρ : List Addr} {σ : H} {s : Shared} (hr : HR K ρ σ s.heap) {l : List V} {vs : List Value} (r : RVs K ρ s.heap l vs) (hl : l.length ≤ lenMax) {n : Nat} (t : Nat) :
    Good K ρ s (ρ ++ [s.heap.objs.size]) (σ ++ [.list l]) { s with heap := s.heap.push (listObj vs n), toks := t } ∧ RV K (ρ ++ [s.heap.objs.size]) (s.heap.push (listObj vs n)) (.obj σ.length) (.ref s.heap.objs.size) := by
  have hk : ∀ b o, s.heap.get? b = some o → (s.heap.push (listObj vs n)).get? b = some o := fun b o e => Heap.get?_push_of_some _ e
  refine ⟨Good.alloc (o := .list l) hr hk (get?_size _) ⟨vs, n, Heap.get?_push_size _ rfl, r.mono (List.prefix_append _ _) (fun a vs e => hk _ _ e), hl⟩ t, .obj ?_⟩
  rw [List.getElem?_append_right (by rw [hr.len]; exact Nat.le_refl _), hr.len]; simp

/-- a new tuple -/
theorem good_tup {ρ : List Addr} {σ : H} {s : Shared} (hr : HR K ρ σ s.heap) {l : List V} {vs : List Value} (r : RVs K ρ s.heap l vs) (hl : l.length ≤ lenMax) (t : Nat) :
    Good K ρ s ρ σ { s with heap := s.heap.push (tupObj vs), toks := t } ∧ RV K ρ (s.heap.push (tupObj vs)) (.tup l) (.ref s.heap.objs.size) := by
  have hk : ∀ b o, s.heap.get? b = some o → (s.heap.push (tupObj vs)).get? b = some o := fun b o e => Heap.get?_push_of_some _ e
  exact ⟨Good.grow hr hk t, .tup (Heap.get?_push_size _ rfl) (r.mono (List.prefix_refl _) fun a vs e => hk _ _ e) hl⟩

theorem listOf_inv {ρ : List Addr} {σ : H} {h : Heap} (hr : HR K ρ σ h) {v : V} {x : Value} {l : List V} (e : listOf σ v = some l) (r : RV K ρ h v x) :
    ∃ a vs n, x = .ref a ∧ h.get? a = some (listObj vs n) ∧ RVs K ρ h l vs ∧ l.length ≤ lenMax := by
  cases v with
  | obj n =>
    cases r with
    | obj ha =>
      simp only [listOf] at e
      split at e
      · rename_i l' hl
        cases e
        refine Classical.byContradiction fun hnX => ?_
        obtain ⟨vs, n', h1, h2, h3⟩ := hr.obj _ _ _ hl ha
        refine hnX ?_
        clear hnX
        exact ⟨_, vs, n', rfl, h1, h2, h3⟩
      · cases e
  | frz l' =>
    cases r with
    | frz ha hv hn => cases e; exact ⟨_, _, _, rfl, hr.keep _ _ ha, hv, by simpa using hn⟩
  | _ => cases e

theorem list_len {l : List V} {vs : List Value} {ρ : List Addr} {h : Heap} (r : RVs K ρ h l vs) (hl : l.length ≤ lenMax) : vs.length ≤ sizeLine := by
  rw [← r.length, sizeLine_eq]; unfold lenMax at hl; exact Lin.lin [(.le (.v 0) (.k 1000000))] (.le (.v 0) (.k 16777216)) (.l [1, 1]) rfl [_] [] hl

theorem arith_sound {op : Bop} {a b z : Int} (h : arith op a b = some z) {o : Operator} (ho : cOp o = some op) {t u : Tok} {s : Shared} {Q : Value → Shared → Prop} {E : Value → Shared → Prop} (hq : ∀ t' n, Q (.int z t') { s with toks := n }) :
    wpAny K.M A (binaryOp o (.int a t) (.int b u)) Q E s := by
  cases o <;> cases ho
  · cases h; exact add_int (hq _ _)
  · cases h; exact sub_int' (hq _ _)
  · simp only [arith] at h
    split at h
    · rename_i hm; cases h; exact mul_int (hq _ _) hm.ok
    · cases h
  · simp only [arith] at h
    split at h
    · rename_i hm; cases h; exact mod_int' hm (hq _ _)
    · cases h
  · simp only [arith] at h
    split at h
    · rename_i hm
      cases h
      refine pow_int hm.1 ?_ (hq _ _)
      have h1 := intBits_of_natAbs hm.2.2
      exact Int.le_trans (Int.mul_le_mul (Int.ofNat_le.mpr h1) hm.2.1 hm.1 (by exact Lin.lin [] (.zle (.k 0) (.n (.k 64))) (.l [1]) rfl [] [])) (by decide)
    · cases h
  · simp only [arith] at h
    split at h
    · rename_i hm
      cases h
      refine floordiv_int hm.1 (hq _ _) (.inl (PyProof.noPylong_of_log2 ?_))
      have := (Nat.log2_lt (show (_ : Int).natAbs ≠ 0 by simpa using hm.1)).mpr hm.2
      lia
    · cases h

theorem cat_sound {x y v : V} {σ σ' : H} (h : catV σ x y = some (v, σ')) {ρ : List Addr} {s : Shared} {cx cy : Value} (hr : HR K ρ σ s.heap) (rx : RV K ρ s.heap x cx) (ry : RV K ρ s.heap y cy) : TR K A (binaryOp .Add cx cy) ρ s σ' fun ρ' cv s' => RV K ρ' s'.heap v cv := by
  refine Classical.byContradiction fun hnX => ?_
  obtain ⟨l1, h1, h⟩ := Option.bind_eq_some_iff.mp h
  refine hnX ?_
  clear hnX
  refine Classical.byContradiction fun hnX => ?_
  obtain ⟨l2, h2, h⟩ := Option.bind_eq_some_iff.mp h
  refine hnX ?_
  clear hnX
  refine Classical.byContradiction fun hnX => ?_
  obtain ⟨hl, rfl, rfl⟩ := mkList_inv h
  refine hnX ?_
  clear hnX
  refine Classical.byContradiction fun hnX => ?_
  obtain ⟨a, vs, n, rfl, g1, r1, _⟩ := listOf_inv hr h1 rx
  refine hnX ?_
  clear hnX
  refine Classical.byContradiction fun hnX => ?_
  obtain ⟨b, ws, n2, rfl, g2, r2, _⟩ := listOf_inv hr h2 ry
  refine hnX ?_
  clear hnX
  have hsz : vs.toArray.size + ws.toArray.size ≤ sizeLine := by
    have := list_len (r1.append r2) hl
    rw [List.length_append] at this; exact this
  refine concat_meets ⟨_, g1, rfl⟩ ⟨_, g2, rfl⟩ noFill_list_add seq_list_add PySem.F.slot_list_add PySem.F.entry_list_add (PySem.F.args_list_add_2 _ _) (list_addW a b vs.toArray ws.toArray n n2 none none #[] #[] hsz) ⟨g1, g2, ?_⟩
  have e : vs.toArray ++ ws.toArray = (vs ++ ws).toArray := List.append_toArray ..
  rw [e]
  refine Classical.byContradiction fun hnX => ?_
  obtain ⟨g, rr⟩ := good_list (n := 0) hr (r1.append r2) hl s.toks
  refine hnX ?_
  clear hnX
  exact ⟨_, g, rr⟩

theorem op_add {o : Operator} (h : cOp o = some .add) : o = .Add := by cases o <;> first | rfl | cases h
theorem op_mul {o : Operator} (h : cOp o = some .mul) : o = .Mult := by cases o <;> first | rfl | cases h

theorem binop_sound {op : Bop} {x y v : V} {σ σ' : H} (h : binop op x y σ = some (v, σ')) {ρ : List Addr} {s : Shared} {cx cy : Value} (hr : HR K ρ σ s.heap) (rx : RV K ρ s.heap x cx) (ry : RV K ρ s.heap y cy)
    {o : Operator} (ho : cOp o = some op) : TR K A (binaryOp o cx cy) ρ s σ' fun ρ' cv s' => RV K ρ' s'.heap v cv := by
  cases x with
  | int a =>
    refine Classical.byContradiction fun hnX => ?_
    obtain ⟨b, hb, h⟩ := Option.bind_eq_some_iff.mp h
    refine hnX ?_
    clear hnX
    obtain rfl := asInt_inv hb
    refine Classical.byContradiction fun hnX => ?_
    obtain ⟨z, hz, e⟩ := Option.map_eq_some_iff.mp h
    refine hnX ?_
    clear hnX
    cases e; cases rx; cases ry
    exact arith_sound hz ho fun _ _ => ⟨ρ, (Good.refl hr).tok _, .int _ _⟩
  | obj n =>
    simp only [binop] at h
    split at h
    · rename_i e; subst e; rw [op_add ho]; exact cat_sound h hr rx ry
    · cases h
  | _ => cases h
end
end Mini

/-! Order of tuples. -/
set_option autoImplicit false
namespace Mini
open PySem PyProof.Rows PySem.SeqAt
open AutoSeq1 (wpAny_loadPart')

section
variable {K : Kx} {A : Around}

set_option maxHeartbeats 1000000 in
set_option maxHeartbeats 1000000 in
end
end Mini

/-! Comparisons. -/
set_option autoImplicit false
namespace Mini
open PySem PyProof.Rows PySem.SeqAt

section
variable {K : Kx} {A : Around}

theorem mapM_reads {ρ : List Addr} {h : Heap} {f : V → Option PyData} {n : Nat} (hf : ∀ v cv d, f v = some d → RV K ρ h v cv → ∃ as, Reads h cv d as ∧ d.canLay0 = true ∧ d.depth ≤ n) :
    ∀ (l : List V) (vs : List Value) (ds : List PyData), l.mapM f = some ds → RVs K ρ h l vs → ∃ as, ReadsAll h vs ds as ∧ PyData.canLayAll0 ds = true ∧ PyData.depthAll ds ≤ n
  | [], vs, ds, e, r => by
    simp at e; subst e; cases r; exact ⟨[], .nil, rfl, Nat.zero_le _⟩
  | v :: l, vs, ds, e, r => by
    cases r with
    | cons r0 r1 =>
      simp only [List.mapM_cons, Option.bind_eq_bind, Option.bind_eq_some_iff] at e
      refine Classical.byContradiction fun hnX => ?_
      obtain ⟨d, hd, ds', hds, e⟩ := e
      refine hnX ?_
      clear hnX
      simp at e; subst e
      refine Classical.byContradiction fun hnX => ?_
      obtain ⟨as, h1, h2, h3⟩ := hf v _ d hd r0
      refine hnX ?_
      clear hnX
      refine Classical.byContradiction fun hnX => ?_
      obtain ⟨bs, g1, g2, g3⟩ := mapM_reads hf l _ ds' hds r1
      refine hnX ?_
      clear hnX
      exact ⟨_, .cons h1 g1, by simp [PyData.canLayAll0, h2, g2], by simp only [PyData.depthAll]; exact Lin.lin [(.le (.v 2) (.v 1)), (.le (.v 3) (.v 1)), (.or (.an (.le (.v 2) (.v 3)) (.eq (.v 0) (.v 3))) (.an (.le (.v 3) (.v 2)) (.eq (.v 0) (.v 2))))] (.le (.v 0) (.v 1)) (.s (.l [1, 0, 1, 0, 1]) (.l [1, 1, 0, 0, 1])) rfl [_, _, _, _] [] h3 g3 (Lin.max_ax _ _)⟩

theorem toD_reads {ρ : List Addr} {σ : H} {h : Heap} (hr : HR K ρ σ h) : ∀ (f : Nat) (v : V) (cv : Value) (d : PyData), toD f σ v = some d → RV K ρ h v cv → ∃ as, Reads h cv d as ∧ d.canLay0 = true ∧ d.depth ≤ f
  | 0, v, cv, d, e, r => by simp [toD] at e
  | f + 1, v, cv, d, e, r => by
    have ih := toD_reads hr f
    cases r with
    | none => simp [toD] at e; subst e; exact ⟨[], .none, rfl, Nat.zero_le _⟩
    | bool b => simp [toD] at e; subst e; exact ⟨[], .bool b, rfl, Nat.zero_le _⟩
    | int i t => simp [toD] at e; subst e; exact ⟨[], .int i t, rfl, Nat.zero_le _⟩
    | str s t =>
      simp only [toD] at e
      split at e
      · rename_i hs; cases e; exact ⟨[], .str s t, by simpa [PyData.canLay0] using hs, Nat.zero_le _⟩
      · cases e
    | tup ha rs hn =>
      simp only [toD, Option.map_eq_some_iff] at e
      refine Classical.byContradiction fun hnX => ?_
      obtain ⟨ds, h1, rfl⟩ := e
      refine hnX ?_
      clear hnX
      refine Classical.byContradiction fun hnX => ?_
      obtain ⟨as, g1, g2, g3⟩ := mapM_reads (fun v cv d => ih v cv d) _ _ ds h1 rs
      refine hnX ?_
      clear hnX
      exact ⟨as, .tuple ha rfl rfl (by simpa using g1), by simpa [PyData.canLay0] using g2, by simp only [PyData.depth]; exact Lin.lin [(.le (.v 0) (.v 1))] (.le (.a (.v 0) (.k 1)) (.a (.v 1) (.k 1))) (.l [1, 1]) rfl [_, _] [] g3⟩
    | obj ha =>
      simp only [toD] at e
      split at e
      · rename_i l hl
        simp only [Option.map_eq_some_iff] at e
        refine Classical.byContradiction fun hnX => ?_
        obtain ⟨ds, h1, rfl⟩ := e
        refine hnX ?_
        clear hnX
        refine Classical.byContradiction fun hnX => ?_
        obtain ⟨vs, n, e1, rs, _⟩ := hr.obj _ _ _ hl ha
        refine hnX ?_
        clear hnX
        refine Classical.byContradiction fun hnX => ?_
        obtain ⟨as, g1, g2, g3⟩ := mapM_reads (fun v cv d => ih v cv d) _ _ ds h1 rs
        refine hnX ?_
        clear hnX
        exact ⟨_, .list e1 rfl rfl (by simpa using g1), by simpa [PyData.canLay0] using g2, by simp only [PyData.depth]; exact Lin.lin [(.le (.v 0) (.v 1))] (.le (.a (.v 0) (.k 1)) (.a (.v 1) (.k 1))) (.l [1, 1]) rfl [_, _] [] g3⟩
      · cases e
    | ty t => simp [toD] at e
    | frz _ _ _ => simp [toD] at e

theorem eqV_inv {σ : H} {x y : V} {b : Bool} (e : eqV σ x y = some b) : ∃ dx dy, toD 6 σ x = some dx ∧ toD 6 σ y = some dy ∧ b = PyData.eqv dx dy := by
  unfold eqV at e
  split at e
  · rename_i h1 h2; cases e; exact ⟨_, _, h1, h2, rfl⟩
  · cases e

theorem items_inv {ρ : List Addr} {σ : H} {h : Heap} (hr : HR K ρ σ h) {v : V} {x : Value} {l : List V} (e : items σ v = some l) (r : RV K ρ h v x) :
    ∃ a vs, x = .ref a ∧ ((∃ n, h.get? a = some (listObj vs n)) ∨ h.get? a = some (tupObj vs)) ∧ RVs K ρ h l vs ∧ l.length ≤ lenMax := by
  cases v with
  | obj n =>
    refine Classical.byContradiction fun hnX => ?_
    obtain ⟨a, vs, n', h1, h2, h3⟩ := listOf_inv hr (l := l) (show listOf σ (.obj n) = some l from e) r
    refine hnX ?_
    clear hnX
    exact ⟨a, vs, h1, .inl ⟨n', h2⟩, h3⟩
  | frz l' =>
    refine Classical.byContradiction fun hnX => ?_
    obtain ⟨a, vs, n', h1, h2, h3⟩ := listOf_inv hr (l := l) (show listOf σ (.frz l') = some l from e) r
    refine hnX ?_
    clear hnX
    exact ⟨a, vs, h1, .inl ⟨n', h2⟩, h3⟩
  | tup l' =>
    cases r with
    | tup ha rs hn => cases e; exact ⟨_, _, rfl, .inr ha, rs, hn⟩
  | _ => cases e

theorem isV_inv {x y : V} {b : Bool} (e : isV x y = some b) {ρ : List Addr} {h : Heap} {cx cy : Value} (rx : RV K ρ h x cx) (ry : RV K ρ h y cy) : plainIs cx cy = true ∧ (cx == cy) = b := by
  cases y with
  | none =>
    cases ry
    have e : isNoneV x = some b := e
    cases rx with
    | ty t => cases e
    | _ => cases e; exact ⟨rfl, rfl⟩
  | bool c =>
    cases ry
    have e : isBoolV c x = some b := e
    cases rx with
    | bool d => cases e; exact ⟨rfl, by rw [Bool.eq_iff_iff]; simp⟩
    | int _ _ => cases e; exact ⟨rfl, rfl⟩
    | none => cases e; exact ⟨rfl, rfl⟩
    | _ => cases e
  | _ => cases e

theorem lt_sound {x y : V} {b : Bool} (h : ltV x y = some b) {ρ : List Addr} {s : Shared} {cx cy : Value} (rx : RV K ρ s.heap x cx) (ry : RV K ρ s.heap y cy) (hu : A.units + 16 < cLine) {Q : Value → Shared → Prop} {E : Value → Shared → Prop} (hq : Q (.bool b) s) :
    wpAny K.M A (compareOp .Lt cx cy) Q E s ∧ wpAny K.M A (compareOp .Gt cy cx) Q E s := by
  cases x with
  | int a =>
    refine Classical.byContradiction fun hnX => ?_
    obtain ⟨c, hc, e⟩ := Option.map_eq_some_iff.mp h
    refine hnX ?_
    clear hnX
    obtain rfl := asInt_inv hc
    subst e; cases rx; cases ry
    exact ⟨lt_int hq, gt_int hq⟩
  | _ => cases h
theorem le_sound {x y : V} {b : Bool} (h : leV x y = some b) {ρ : List Addr} {s : Shared} {cx cy : Value} (rx : RV K ρ s.heap x cx) (ry : RV K ρ s.heap y cy) {Q : Value → Shared → Prop} {E : Value → Shared → Prop} (hq : Q (.bool b) s) :
    wpAny K.M A (compareOp .LtE cx cy) Q E s ∧ wpAny K.M A (compareOp .GtE cy cx) Q E s := by
  refine Classical.byContradiction fun hnX => ?_
  obtain ⟨a, ha, h'⟩ := Option.bind_eq_some_iff.mp h
  refine hnX ?_
  clear hnX
  refine Classical.byContradiction fun hnX => ?_
  obtain ⟨c, hc, e⟩ := Option.map_eq_some_iff.mp h'
  refine hnX ?_
  clear hnX
  obtain rfl := asInt_inv ha
  obtain rfl := asInt_inv hc
  subst e; cases rx; cases ry
  exact ⟨le_int hq, ge_int hq⟩
theorem eq_sound {x y : V} {b : Bool} {σ : H} (h : eqV σ x y = some b) {ρ : List Addr} {s : Shared} {cx cy : Value} (hr : HR K ρ σ s.heap) (rx : RV K ρ s.heap x cx) (ry : RV K ρ s.heap y cy) (hu : A.units + 16 < cLine) {Q : Value → Shared → Prop} {E : Value → Shared → Prop} :
    (Q (.bool b) s → wpAny K.M A (compareOp .Eq cx cy) Q E s) ∧ (Q (.bool (!b)) s → wpAny K.M A (compareOp .NotEq cx cy) Q E s) := by
  refine Classical.byContradiction fun hnX => ?_
  obtain ⟨dx, dy, h1, h2, rfl⟩ := eqV_inv h
  refine hnX ?_
  clear hnX
  refine Classical.byContradiction fun hnX => ?_
  obtain ⟨as, g1, g2, g3⟩ := toD_reads hr 6 _ _ _ h1 rx
  refine hnX ?_
  clear hnX
  refine Classical.byContradiction fun hnX => ?_
  obtain ⟨bs, k1, k2, k3⟩ := toD_reads hr 6 _ _ _ h2 ry
  refine hnX ?_
  clear hnX
  have hu' : A.units + 1 + min dx.depth dy.depth < cLine := by
    have : min dx.depth dy.depth ≤ 6 := Nat.le_trans (Nat.min_le_left _ _) g3
    lia
  exact ⟨fun hq => compareEq_reads g1 k1 g2 k2 (by exact Lin.lin [(.lt (.a (.a (.v 0) (.k 1)) (.v 1)) (.v 2))] (.lt (.a (.v 0) (.v 1)) (.v 2)) (.l [1, 1]) rfl [_, _, _] [] hu') hq, fun hq => compareNe_reads g1 k1 g2 k2 (by exact Lin.lin [(.lt (.a (.a (.v 0) (.k 1)) (.v 1)) (.v 2))] (.lt (.a (.v 0) (.v 1)) (.v 2)) (.l [1, 1]) rfl [_, _, _] [] hu') hq⟩

theorem cmpop_sound {op : Cop} {x y : V} {b : Bool} {σ : H} (h : cmpop op x y σ = some b) {ρ : List Addr} {s : Shared} {cx cy : Value} (hr : HR K ρ σ s.heap) (rx : RV K ρ s.heap x cx) (ry : RV K ρ s.heap y cy)
    {o : CmpOp} (ho : cCop o = op) (hu : A.units + 16 < cLine) {Q : Value → Shared → Prop} {E : Value → Shared → Prop} (hq : Q (.bool b) s) : wpAny K.M A (compareOp o cx cy) Q E s := by
  subst ho
  cases o with
  | Eq => exact (eq_sound h hr rx ry hu).1 hq
  | NotEq =>
    refine Classical.byContradiction fun hnX => ?_
    obtain ⟨b', hb', rfl⟩ := Option.map_eq_some_iff.mp h
    refine hnX ?_
    clear hnX
    exact (eq_sound hb' hr rx ry hu).2 hq
  | Lt => exact (lt_sound h rx ry hu hq).1
  | LtE => exact (le_sound h rx ry hq).1
  | Gt => exact (lt_sound h ry rx hu hq).2
  | GtE => exact (le_sound h ry rx hq).2
  | Is =>
    refine Classical.byContradiction fun hnX => ?_
    obtain ⟨h1, h2⟩ := isV_inv h rx ry
    refine hnX ?_
    clear hnX
    exact wpAny_is_plain h1 (h2 ▸ hq)
  | IsNot =>
    refine Classical.byContradiction fun hnX => ?_
    obtain ⟨b', hb', rfl⟩ := Option.map_eq_some_iff.mp h
    refine hnX ?_
    clear hnX
    refine Classical.byContradiction fun hnX => ?_
    obtain ⟨h1, h2⟩ := isV_inv hb' rx ry
    refine hnX ?_
    clear hnX
    exact wpAny_isNot_plain h1 (h2 ▸ hq)
  | In => cases h
  | NotIn => cases h
end
end Mini

/-! Items and slices. -/
set_option autoImplicit false
namespace Mini
open PySem PyProof.Rows PySem.SeqAt

theorem idxN_lt {i : Int} {n k : Nat} (h : idxN i n = some k) : k < n ∧ -(n : Int) ≤ i ∧ i < n ∧ (if 0 ≤ i then k = i.toNat else k = (i + n).toNat) := by
  unfold idxN at h
  split at h
  · rename_i h0
    split at h
    · cases h; rw [if_pos h0]; refine ⟨by exact Lin.lin [(.zle (.k 0) (.v 0)), (.or (.an (.zle (.k 0) (.v 0)) (.zeq (.n (.v 0)) (.v 0))) (.an (.zle (.v 0) (.k 0)) (.eq (.v 0) (.k 0)))), (.zlt (.v 0) (.n (.v 1)))] (.lt (.v 0) (.v 1)) (.s (.l [1, 0, 0, 1, 0, 1]) (.l [1, 1, 0, 1, 0, 1])) rfl [_, _] [_] h0 (Lin.nat_ax _) ‹_›, by exact Lin.lin [(.zle (.k 0) (.v 0))] (.zle (.g (.n (.v 0))) (.v 0)) (.l [1, 1]) rfl [_] [_] h0, by exact Lin.lin [(.zlt (.v 0) (.n (.v 0)))] (.zlt (.v 0) (.n (.v 0))) (.l [1, 1]) rfl [_] [_] ‹_›, rfl⟩
    · cases h
  · rename_i h0
    split at h
    · cases h; rw [if_neg h0]; refine ⟨by exact Lin.lin [(.no (.zle (.k 0) (.v 0))), (.or (.an (.zle (.k 0) (.a (.v 0) (.n (.v 1)))) (.zeq (.n (.v 0)) (.a (.v 0) (.n (.v 1))))) (.an (.zle (.a (.v 0) (.n (.v 1))) (.k 0)) (.eq (.v 0) (.k 0)))), (.zle (.k 0) (.a (.v 0) (.n (.v 1))))] (.lt (.v 0) (.v 1)) (.s (.l [1, 1, 0, 1]) (.l [1, 1, 0, 1, 0, 1])) rfl [_, _] [_] h0 (Lin.nat_ax _) ‹_›, by exact Lin.lin [(.zle (.k 0) (.a (.v 0) (.n (.v 0))))] (.zle (.g (.n (.v 0))) (.v 0)) (.l [1, 1]) rfl [_] [_] ‹_›, by exact Lin.lin [(.no (.zle (.k 0) (.v 0)))] (.zlt (.v 0) (.n (.v 0))) (.l [1, 1]) rfl [_] [_] h0, rfl⟩
    · cases h
theorem idxN_seq {i : Int} {n k : Nat} (h : idxN i n = some k) : seqIndex? i n = some k := by
  refine Classical.byContradiction fun hnX => ?_
  obtain ⟨h1, h2, h3, h4⟩ := idxN_lt h
  refine hnX ?_
  clear hnX
  unfold seqIndex?
  by_cases h0 : 0 ≤ i
  · rw [if_pos h0] at h4
    have hn : ¬ i < 0 := by exact Lin.lin [(.zle (.k 0) (.v 0))] (.no (.zlt (.v 0) (.k 0))) (.l [1, 1]) rfl [] [_] h0
    simp only [hn, if_false]
    rw [if_pos (by simp only [Bool.and_eq_true, decide_eq_true_eq]; exact Lin.lin [(.zlt (.v 0) (.n (.v 0))), (.zle (.k 0) (.v 0))] (.an (.zle (.k 0) (.v 0)) (.zlt (.v 0) (.n (.v 0)))) (.s (.l [1, 0, 1]) (.l [1, 1])) rfl [_] [_] h3 h0), h4]
  · rw [if_neg h0] at h4
    have hn : i < 0 := by exact Lin.lin [(.no (.zle (.k 0) (.v 0)))] (.zlt (.v 0) (.k 0)) (.l [1, 1]) rfl [] [_] h0
    simp only [hn, if_true]
    rw [if_pos (by simp only [Bool.and_eq_true, decide_eq_true_eq]; exact Lin.lin [(.zle (.g (.n (.v 0))) (.v 0)), (.no (.zle (.k 0) (.v 0)))] (.an (.zle (.k 0) (.a (.v 0) (.n (.v 0)))) (.zlt (.a (.v 0) (.n (.v 0))) (.n (.v 0)))) (.s (.l [1, 1]) (.l [1, 0, 1])) rfl [_] [_] h2 h0), h4]

theorem clampS_clip (i : Int) (n : Nat) : clampS i n = clipAt n i := by
  have h := clipAt_cast n i
  unfold clampS
  split at h <;> split <;> lia

section
variable {K : Kx} {A : Around} {env : Env}

/-- the tail of a subscription of a built-in sequence -/
theorem sub_tail {value slice : Expr} {o i : Value} {T id : String} {Q : Value → Shared → Prop} {E : Value → Shared → Prop} {s : Shared} (hT : s.TypeIs o T)
    (hl : typeLookup (.type T) "__getitem__" = pure (some (.builtin id))) (h : wpAny K.M A (getItem o i) Q E s) : wpAny K.M A (subscriptTail value slice o i) Q E s := by
  unfold subscriptTail
  refine wpAny_bind ?_
  rw [getitemInPython_of_ne hT.not_modules]
  refine wpAny_bind (wpAny_specialOf hT hl ?_)
  have fin : wpAny K.M A (subscripted slice false o i) (fun r s₃ => wpAny K.M A (letTemporaryGo value o r >>= fun _ => pure r) Q E s₃) E s := by
    have k : wpAny K.M A (getItem o i) (fun r s₃ => wpAny K.M A (letTemporaryGo value o r >>= fun _ => pure r) Q E s₃) E s :=
      wpAny_mono h (fun r s₃ h₃ => wpAny_bind (wpAny_letTemporaryGo (wpAny_pure h₃))) fun _ _ x => x
    unfold subscripted
    split
    · exact wpAny_operating k
    · rename_i hb; cases hb
    · exact wpAny_operating k
  first
    | exact wpAny_pure (wpAny_bind fin)
    | exact wpAny_bind (wpAny_pure (wpAny_bind fin))
    | exact wpAny_bind fin

theorem getIdx_sound {σ : H} {x y v : V} (h : getIdx σ x y = some v) {ρ : List Addr} {s : Shared} {cx cy : Value} (hr : HR K ρ σ s.heap) (rx : RV K ρ s.heap x cx) (ry : RV K ρ s.heap y cy)
    {value slice : Expr} : TR K A (subscriptTail value slice cx cy) ρ s σ fun ρ' cv s' => RV K ρ' s'.heap v cv := by
  refine Classical.byContradiction fun hnX => ?_
  obtain ⟨k, hk, h'⟩ := Option.bind_eq_some_iff.mp h
  refine hnX ?_
  clear hnX
  obtain rfl := asInt_inv hk
  refine Classical.byContradiction fun hnX => ?_
  obtain ⟨l, hl, h''⟩ := Option.bind_eq_some_iff.mp h'
  refine hnX ?_
  clear hnX
  refine Classical.byContradiction fun hnX => ?_
  obtain ⟨j, hj, hv⟩ := Option.bind_eq_some_iff.mp h''
  refine hnX ?_
  clear hnX
  refine Classical.byContradiction fun hnX => ?_
  obtain ⟨a, vs, rfl, hobj, rs, hlen⟩ := items_inv hr hl rx
  refine hnX ?_
  clear hnX
  refine Classical.byContradiction fun hnX => ?_
  obtain ⟨cv, hc, rv⟩ := rs.get hv
  refine hnX ?_
  clear hnX
  have hlv := rs.length
  refine Classical.byContradiction fun hnX => ?_
  obtain ⟨h1, h2, h3, h4⟩ := idxN_lt hj
  refine hnX ?_
  clear hnX
  unfold lenMax at hlen
  cases ry
  have hc' : vs.toArray[j]? = some cv := by rw [List.getElem?_toArray]; exact hc
  have hsz : vs.toArray.size = l.length := hlv.symm
  rcases hobj with ⟨n, e⟩ | e
  · have hL : s.heap.IsList a vs.toArray := ⟨_, e, rfl, n, rfl⟩
    refine sub_tail hL.typeIs slot_list_getitem.lookup ?_
    split at h4
    · rename_i h0
      exact wpAny_getItem_list hL h0 (by lia) (x := cv) (h4 ▸ hc') ⟨ρ, Good.refl hr, rv⟩
    · rename_i h0
      exact wpAny_getItem_list_neg hL (by exact Lin.lin [(.no (.zle (.k 0) (.v 0)))] (.zlt (.v 0) (.k 0)) (.l [1, 1]) rfl [] [_] h0) (by rw [hsz]; exact Lin.lin [(.zle (.g (.n (.v 0))) (.v 0))] (.zle (.g (.n (.v 0))) (.v 0)) (.l [1, 1]) rfl [_] [_] h2) (by lia) (x := cv) (by rw [hsz]; exact h4 ▸ hc') ⟨ρ, Good.refl hr, rv⟩
  · refine sub_tail (T := "tuple") ⟨_, e, rfl⟩ PySem.F.slot_tuple_getitem.lookup ?_
    exact getItem_meets ⟨_, e, rfl⟩ (by decide) F.slot_tuple_getitem F.entry_tuple_getitem (F.args_tuple_getitem_2 _ _) (MeetsSeq.tuple_getitem_at a vs.toArray 0 k _ j cv (by lia) (by lia) (by rw [hsz]; exact idxN_seq hj) hc') ⟨e, ρ, Good.refl hr, rv⟩

/-- a bound of a slice -/
theorem part_of {ρ : List Addr} {h : Heap} {v : V} {x : Value} (r : RV K ρ h v x) {b : Option Int} (e : asBound v = some b) : IsPart x b := by
  cases r with
  | none => cases e; exact .none
  | int i t => cases e; exact .int i t
  | _ => cases e

theorem sliceL_pick {l r : List V} {lo hi st : V} (e : sliceL l lo hi st = some r) {ρ : List Addr} {h : Heap} {vs : List Value} {cl cu cs : Value} (rv : RVs K ρ h l vs) (rl : RV K ρ h lo cl) (ru : RV K ρ h hi cu) (rs : RV K ρ h st cs) :
    ∃ a b c, IsPart cl a ∧ IsPart cu b ∧ IsPart cs c ∧ c ≠ some 0 ∧ ∃ ws : List Value, slicePick vs.toArray a b c = ws.toArray ∧ RVs K ρ h r ws := by
  refine Classical.byContradiction fun hnX => ?_
  obtain ⟨a, ha, e1⟩ := Option.bind_eq_some_iff.mp e
  refine hnX ?_
  clear hnX
  refine Classical.byContradiction fun hnX => ?_
  obtain ⟨b, hb, e2⟩ := Option.bind_eq_some_iff.mp e1
  refine hnX ?_
  clear hnX
  refine Classical.byContradiction fun hnX => ?_
  obtain ⟨c, hc, e3⟩ := Option.bind_eq_some_iff.mp e2
  refine hnX ?_
  clear hnX
  have hsz : vs.toArray.size = l.length := rv.length.symm
  have hcl : (fun i => clampS i l.length) = clipAt l.length := funext fun i => clampS_clip i _
  have hlo : loN a l.length = a.elim 0 (clipAt l.length) := by unfold loN; rw [hcl]
  have hhi : hiN b l.length = b.elim l.length (clipAt l.length) := by unfold hiN; rw [hcl]
  refine ⟨a, b, c, part_of rl ha, part_of ru hb, part_of rs hc, ?_⟩
  split at e3
  · rename_i h0
    subst h0; cases e3
    refine ⟨by simp, (vs.take (hiN b l.length)).drop (loN a l.length), ?_, (rv.take _).drop _⟩
    rw [slicePick_plain, hsz, ← hlo, ← hhi, List.drop_take]
  · cases e3

theorem slice_sound {σ σ' : H} {x lo hi st v : V} (h : sliceV σ x lo hi st = some (v, σ')) {ρ : List Addr} {s : Shared} {cx cl cu cs : Value} {sl : Addr} (hr : HR K ρ σ s.heap) (rx : RV K ρ s.heap x cx)
    (rl : RV K ρ s.heap lo cl) (ru : RV K ρ s.heap hi cu) (rs : RV K ρ s.heap st cs) (hsl : s.heap.IsSliceOf sl cl cu cs) {value slice : Expr} :
    TR K A (subscriptTail value slice cx (.ref sl)) ρ s σ' fun ρ' cv s' => RV K ρ' s'.heap v cv := by
  refine Classical.byContradiction fun hnX => ?_
  obtain ⟨l, hl, h'⟩ := Option.bind_eq_some_iff.mp h
  refine hnX ?_
  clear hnX
  refine Classical.byContradiction fun hnX => ?_
  obtain ⟨r, h1, h2⟩ := Option.bind_eq_some_iff.mp h'
  refine hnX ?_
  clear hnX
  refine Classical.byContradiction fun hnX => ?_
  obtain ⟨hlen, rfl, rfl⟩ := mkList_inv h2
  refine hnX ?_
  clear hnX
  refine Classical.byContradiction fun hnX => ?_
  obtain ⟨a, vs, n, rfl, e, rv, hn⟩ := listOf_inv hr hl rx
  refine hnX ?_
  clear hnX
  have hL : s.heap.IsList a vs.toArray := ⟨_, e, rfl, n, rfl⟩
  refine Classical.byContradiction fun hnX => ?_
  obtain ⟨pa, pb, pc, p1, p2, p3, p4, ws, hw, rw'⟩ := sliceL_pick h1 rv rl ru rs
  refine hnX ?_
  clear hnX
  refine sub_tail hL.typeIs slot_list_getitem.lookup (wpAny_getItem_list_slice hL hsl p1 p2 p3 p4 ?_ (list_len rv hn))
  rw [hw]
  refine Classical.byContradiction fun hnX => ?_
  obtain ⟨g, rr⟩ := good_list (n := 0) hr rw' hlen s.toks
  refine hnX ?_
  clear hnX
  exact ⟨_, g, rr⟩
end
end Mini

/-! Built-in functions, sorted apart. -/
set_option autoImplicit false
namespace Mini
open PySem PyProof.Rows PySem.SeqAt

/-- room for calls to come: d frames deep -/
structure Rm (d : Nat) (A : Around) : Prop where
  handled : A.handled = none
  depth : A.depth + d < recursionLimit
  units : A.units + 4 * d + 40 < cLine

theorem Rm.deeper {d : Nat} {A : Around} (r : Rm (d + 1) A) (env : Env) : Rm d (A.deeper env) :=
  ⟨r.handled, by have := r.depth; show A.depth + 1 + d < _; exact Lin.lin [(.lt (.a (.v 0) (.a (.v 1) (.k 1))) (.v 2))] (.lt (.a (.a (.v 0) (.k 1)) (.v 1)) (.v 2)) (.l [1, 1]) rfl [_, _, _] [] this, by have := r.units; show A.units + 3 + 4 * d + 40 < _; exact Lin.lin [(.lt (.a (.a (.v 0) (.m 4 (.a (.v 1) (.k 1)))) (.k 40)) (.v 2))] (.lt (.a (.a (.a (.v 0) (.k 3)) (.m 4 (.v 1))) (.k 40)) (.v 2)) (.l [1, 1]) rfl [_, _, _] [] this⟩

structure TyOK (K : Kx) : Prop where
  int : K.tyv 0 = .type "int"
  bool : K.tyv 1 = .type "bool"
  tuple : K.tyv 2 = .type "tuple"
  list : K.tyv 3 = .type "list"

theorem maxI_spec : ∀ (l : List Int) (m : Int), (maxI l m = m ∨ maxI l m ∈ l) ∧ m ≤ maxI l m ∧ ∀ a ∈ l, a ≤ maxI l m
  | [], m => ⟨.inl rfl, Int.le_refl _, fun _ h => nomatch h⟩
  | x :: r, m => by
    have key : ∀ m', (m' = m ∨ m' = x) → m ≤ m' → x ≤ m' → maxI (x :: r) m = maxI r m' → (maxI (x :: r) m = m ∨ maxI (x :: r) m ∈ x :: r) ∧ m ≤ maxI (x :: r) m ∧ ∀ a ∈ x :: r, a ≤ maxI (x :: r) m := by
      intro m' h1 h2 h3 e
      refine Classical.byContradiction fun hnX => ?_
      obtain ⟨g1, g2, g3⟩ := maxI_spec r m'
      refine hnX ?_
      clear hnX
      rw [e]
      refine ⟨?_, Int.le_trans h2 g2, fun a ha => ?_⟩
      · rcases g1 with g1 | g1
        · rw [g1]
          rcases h1 with h1 | h1
          · exact .inl h1
          · exact .inr (h1 ▸ List.mem_cons_self)
        · exact .inr (List.mem_cons_of_mem _ g1)
      · rcases List.mem_cons.mp ha with rfl | ha
        · exact Int.le_trans h3 g2
        · exact g3 a ha
    by_cases h : m < x
    · exact key x (.inr rfl) (Int.le_of_lt h) (Int.le_refl _) (by rw [maxI, if_pos h])
    · exact key m (.inl rfl) (Int.le_refl _) (Int.not_lt.mp h) (by rw [maxI, if_neg h])
theorem minI_spec : ∀ (l : List Int) (m : Int), (minI l m = m ∨ minI l m ∈ l) ∧ minI l m ≤ m ∧ ∀ a ∈ l, minI l m ≤ a
  | [], m => ⟨.inl rfl, Int.le_refl _, fun _ h => nomatch h⟩
  | x :: r, m => by
    have key : ∀ m', (m' = m ∨ m' = x) → m' ≤ m → m' ≤ x → minI (x :: r) m = minI r m' → (minI (x :: r) m = m ∨ minI (x :: r) m ∈ x :: r) ∧ minI (x :: r) m ≤ m ∧ ∀ a ∈ x :: r, minI (x :: r) m ≤ a := by
      intro m' h1 h2 h3 e
      refine Classical.byContradiction fun hnX => ?_
      obtain ⟨g1, g2, g3⟩ := minI_spec r m'
      refine hnX ?_
      clear hnX
      rw [e]
      refine ⟨?_, Int.le_trans g2 h2, fun a ha => ?_⟩
      · rcases g1 with g1 | g1
        · rw [g1]
          rcases h1 with h1 | h1
          · exact .inl h1
          · exact .inr (h1 ▸ List.mem_cons_self)
        · exact .inr (List.mem_cons_of_mem _ g1)
      · rcases List.mem_cons.mp ha with rfl | ha
        · exact Int.le_trans g2 h3
        · exact g3 a ha
    by_cases h : x < m
    · exact key x (.inr rfl) (Int.le_of_lt h) (Int.le_refl _) (by rw [minI, if_pos h])
    · exact key m (.inl rfl) (Int.le_refl _) (Int.not_lt.mp h) (by rw [minI, if_neg h])

section
variable {K : Kx} {A : Around}

theorem ints_items {ρ : List Addr} {h : Heap} : ∀ {l : List V} {ns : List Int} {vs : List Value}, asInts l = some ns → RVs K ρ h l vs → ∃ ys : List (Int × Tok), vs = ys.map (fun p => Value.int p.1 p.2) ∧ ys.map (·.1) = ns
  | [], ns, vs, e, r => by cases e; cases r; exact ⟨[], rfl, rfl⟩
  | v :: l, ns, vs, e, r => by
    cases r with
    | cons r0 r1 =>
      cases v with
      | int i =>
        cases r0
        simp only [asInts, Option.map_eq_some_iff] at e
        refine Classical.byContradiction fun hnX => ?_
        obtain ⟨ns', h1, rfl⟩ := e
        refine hnX ?_
        clear hnX
        refine Classical.byContradiction fun hnX => ?_
        obtain ⟨ys, rfl, h2⟩ := ints_items h1 r1
        refine hnX ?_
        clear hnX
        exact ⟨(i, _) :: ys, rfl, by rw [List.map_cons, h2]⟩
      | _ => cases e

theorem numAt_map {ys : List (Int × Tok)} {i : Nat} : numAt ys.toArray i = ((ys.map (·.1))[i]?).getD 0 := by
  unfold numAt; simp

theorem isi_tab {k t : Nat} (ht : t ≤ 3) {P : Nat → Bool → Prop} (h0 : P 0 (k == 0 || (k == 1 && true))) (h1 : P 1 (k == 1 || (k == 1 && false))) (h2 : P 2 (k == 2 || (k == 1 && false))) (h3 : P 3 (k == 3 || (k == 1 && false))) : P t (k == t || (k == 1 && t == 0)) := by
  match t, ht with
  | 0, _ => exact h0
  | 1, _ => exact h1
  | 2, _ => exact h2
  | 3, _ => exact h3

/-- isinstance against int, bool, tuple, list -/
theorem isi_sound {σ : H} {x : V} {t : Nat} {r : Bool} (h : isiV σ x t = some r) {ρ : List Addr} {s : Shared} {cx : Value} (hr : HR K ρ σ s.heap) (rx : RV K ρ s.heap x cx) (ty : TyOK K) :
    TR K A (call (.builtin "isinstance") [cx, K.tyv t]) ρ s σ fun ρ' cv s' => RV K ρ' s'.heap (.bool r) cv := by
  refine Classical.byContradiction fun hnX => ?_
  obtain ⟨k, hk, h'⟩ := Option.bind_eq_some_iff.mp h
  refine hnX ?_
  clear hnX
  clear h
  split at h'
  · rename_i ht
    cases h'
    have ok : ∀ r, (∃ ρ', Good K ρ s ρ' σ s ∧ RV K ρ' s.heap (.bool r) (.bool r)) := fun r => ⟨ρ, Good.refl hr, .bool r⟩
    have ok1 : ∀ r tk, (∃ ρ', Good K ρ s ρ' σ { s with toks := tk } ∧ RV K ρ' s.heap (.bool r) (.bool r)) := fun r tk => ⟨ρ, (Good.refl hr).tok _, .bool r⟩
    refine isi_tab (P := fun t r => TR K A (call (.builtin "isinstance") [cx, K.tyv t]) ρ s σ fun ρ' cv s' => RV K ρ' s'.heap (.bool r) cv) ht ?_ ?_ ?_ ?_
    all_goals first | rw [ty.int] | rw [ty.bool] | rw [ty.tuple] | rw [ty.list]
    all_goals cases rx with
      | ty t => cases hk
      | frz _ _ _ => cases hk
      | int i t => cases hk; first | exact IsiPair.int_int (ok _) | exact IsiPair.int_bool (ok1 _ _) | exact IsiPair.int_tuple (ok1 _ _) | exact IsiPair.int_list (ok1 _ _)
      | bool b => cases hk; first | exact IsiPair.bool_int (ok _) | exact IsiPair.bool_bool (ok _) | exact IsiPair.bool_tuple (ok1 _ _) | exact IsiPair.bool_list (ok1 _ _)
      | none => cases hk; first | exact IsiPair.NoneType_int (ok1 _ _) | exact IsiPair.NoneType_bool (ok1 _ _) | exact IsiPair.NoneType_tuple (ok1 _ _) | exact IsiPair.NoneType_list (ok1 _ _)
      | str _ _ => cases hk; first | exact IsiPair.str_int (ok1 _ _) | exact IsiPair.str_bool (ok1 _ _) | exact IsiPair.str_tuple (ok1 _ _) | exact IsiPair.str_list (ok1 _ _)
      | tup e0 _ _ => cases hk; first | exact IsiPair.tuple_int e0 rfl (ok1 _ _) | exact IsiPair.tuple_bool e0 rfl (ok1 _ _) | exact IsiPair.tuple_tuple e0 rfl (ok _) | exact IsiPair.tuple_list e0 rfl (ok1 _ _)
      | obj ha =>
        simp only [kindNo] at hk
        split at hk
        · rename_i l hl
          cases hk
          refine Classical.byContradiction fun hnX => ?_
          obtain ⟨vs, n', e0, _⟩ := hr.obj _ _ _ hl ha
          refine hnX ?_
          clear hnX
          first | exact IsiPair.list_int e0 rfl (ok1 _ _) | exact IsiPair.list_bool e0 rfl (ok1 _ _) | exact IsiPair.list_tuple e0 rfl (ok1 _ _) | exact IsiPair.list_list e0 rfl (ok _)
        · cases hk
  · cases h'

theorem max_num {ys : List (Int × Tok)} {x : Int} {r : List Int} (hy : ys.map (·.1) = x :: r) : numAt ys.toArray (argBest (fun i j => decide (numAt ys.toArray i > numAt ys.toArray j)) (ys.toArray.size - 1)) = maxI r x := by
  refine Classical.byContradiction fun hnX => ?_
  obtain ⟨h1, h2⟩ := argBest_gt (numAt ys.toArray) (ys.toArray.size - 1)
  refine hnX ?_
  clear hnX
  refine Classical.byContradiction fun hnX => ?_
  obtain ⟨m1, m2, m3⟩ := maxI_spec r x
  refine hnX ?_
  clear hnX
  have hlen2 : ys.toArray.size = r.length + 1 := by have := congrArg List.length hy; simpa using this
  apply Int.le_antisymm
  · rw [numAt_map, hy]
    have hb : argBest (fun i j => decide (numAt ys.toArray i > numAt ys.toArray j)) (ys.toArray.size - 1) < (x :: r).length := by rw [List.length_cons]; exact Lin.lin [(.le (.v 0) (.v 2)), (.eq (.v 3) (.a (.v 1) (.k 1))), (.or (.an (.le (.k 1) (.v 3)) (.eq (.a (.v 2) (.k 1)) (.v 3))) (.an (.le (.v 3) (.k 1)) (.eq (.v 2) (.k 0))))] (.lt (.v 0) (.a (.v 1) (.k 1))) (.s (.l [1, 1, 1, 0, 0, 1]) (.l [1, 1, 0, 0, 0, 1])) rfl [_, _, _, _] [] h1 hlen2 (Lin.sub_ax _ _)
    rw [List.getElem?_eq_getElem hb]
    have hm := List.getElem_mem hb
    rcases List.mem_cons.mp hm with h | h
    · exact Int.le_trans (Int.le_of_eq h) m2
    · exact m3 _ h
  · have : maxI r x ∈ x :: r := by
      rcases m1 with h | h
      · rw [h]; exact List.mem_cons_self
      · exact List.mem_cons_of_mem _ h
    refine Classical.byContradiction fun hnX => ?_
    obtain ⟨j, hj, hje⟩ := List.getElem_of_mem this
    refine hnX ?_
    clear hnX
    have hj' : j ≤ ys.toArray.size - 1 := by simp only [List.length_cons] at hj; exact Lin.lin [(.eq (.v 2) (.a (.v 3) (.k 1))), (.lt (.v 0) (.a (.v 3) (.k 1))), (.or (.an (.le (.k 1) (.v 2)) (.eq (.a (.v 1) (.k 1)) (.v 2))) (.an (.le (.v 2) (.k 1)) (.eq (.v 1) (.k 0))))] (.le (.v 0) (.v 1)) (.s (.l [1, 0, 1, 1, 0, 0, 1]) (.l [1, 0, 1, 1, 1, 0, 1])) rfl [_, _, _, _] [] hlen2 hj (Lin.sub_ax _ _)
    have := h2 j hj'
    rw [numAt_map (i := j), hy, List.getElem?_eq_getElem hj] at this
    exact hje ▸ this
theorem min_num {ys : List (Int × Tok)} {x : Int} {r : List Int} (hy : ys.map (·.1) = x :: r) : numAt ys.toArray (argBest (fun i j => decide (numAt ys.toArray i < numAt ys.toArray j)) (ys.toArray.size - 1)) = minI r x := by
  refine Classical.byContradiction fun hnX => ?_
  obtain ⟨h1, h2⟩ := argBest_lt (numAt ys.toArray) (ys.toArray.size - 1)
  refine hnX ?_
  clear hnX
  refine Classical.byContradiction fun hnX => ?_
  obtain ⟨m1, m2, m3⟩ := minI_spec r x
  refine hnX ?_
  clear hnX
  have hlen2 : ys.toArray.size = r.length + 1 := by have := congrArg List.length hy; simpa using this
  apply Int.le_antisymm
  · have : minI r x ∈ x :: r := by
      rcases m1 with h | h
      · rw [h]; exact List.mem_cons_self
      · exact List.mem_cons_of_mem _ h
    refine Classical.byContradiction fun hnX => ?_
    obtain ⟨j, hj, hje⟩ := List.getElem_of_mem this
    refine hnX ?_
    clear hnX
    have hj' : j ≤ ys.toArray.size - 1 := by simp only [List.length_cons] at hj; exact Lin.lin [(.eq (.v 2) (.a (.v 3) (.k 1))), (.lt (.v 0) (.a (.v 3) (.k 1))), (.or (.an (.le (.k 1) (.v 2)) (.eq (.a (.v 1) (.k 1)) (.v 2))) (.an (.le (.v 2) (.k 1)) (.eq (.v 1) (.k 0))))] (.le (.v 0) (.v 1)) (.s (.l [1, 0, 1, 1, 0, 0, 1]) (.l [1, 0, 1, 1, 1, 0, 1])) rfl [_, _, _, _] [] hlen2 hj (Lin.sub_ax _ _)
    have := h2 j hj'
    rw [numAt_map (i := j), hy, List.getElem?_eq_getElem hj] at this
    exact hje ▸ this
  · rw [numAt_map, hy]
    have hb : argBest (fun i j => decide (numAt ys.toArray i < numAt ys.toArray j)) (ys.toArray.size - 1) < (x :: r).length := by rw [List.length_cons]; exact Lin.lin [(.le (.v 0) (.v 2)), (.eq (.v 3) (.a (.v 1) (.k 1))), (.or (.an (.le (.k 1) (.v 3)) (.eq (.a (.v 2) (.k 1)) (.v 3))) (.an (.le (.v 3) (.k 1)) (.eq (.v 2) (.k 0))))] (.lt (.v 0) (.a (.v 1) (.k 1))) (.s (.l [1, 1, 1, 0, 0, 1]) (.l [1, 1, 0, 0, 0, 1])) rfl [_, _, _, _] [] h1 hlen2 (Lin.sub_ax _ _)
    rw [List.getElem?_eq_getElem hb]
    have hm := List.getElem_mem hb
    rcases List.mem_cons.mp hm with h | h
    · exact Int.le_trans m2 (Int.le_of_eq h.symm)
    · exact m3 _ h

theorem one_arg {as : List V} {x : V} (h : arg1 as = some x) {ρ : List Addr} {h' : Heap} {cas : List Value} (ra : RVs K ρ h' as cas) : ∃ c, cas = [c] ∧ RV K ρ h' x c := by
  rw [arg1_inv h] at ra
  cases ra with
  | cons r0 rn => cases rn; exact ⟨_, rfl, r0⟩
theorem two_args {as : List V} {p : V × V} (h : arg2 as = some p) {ρ : List Addr} {h' : Heap} {cas : List Value} (ra : RVs K ρ h' as cas) : ∃ c d, cas = [c, d] ∧ RV K ρ h' p.1 c ∧ RV K ρ h' p.2 d := by
  rw [arg2_inv h] at ra
  cases ra with
  | cons r0 rn => cases rn with
    | cons r1 rn => cases rn; exact ⟨_, _, rfl, r0, r1⟩

theorem best_sound {f : List Int → Int → Int} {as : List V} {v : V} {σ σ' : H} (h : bestV f σ as = some (v, σ')) {ρ : List Addr} {s : Shared} {cas : List Value} (hr : HR K ρ σ s.heap) (ra : RVs K ρ s.heap as cas) :
    ∃ (a : Addr) (ys : List (Int × Tok)) (n : Nat), cas = [.ref a] ∧ s.heap.IsList a (intItems ys.toArray) ∧ 0 < ys.toArray.size ∧ σ' = σ ∧ ∃ x r, ys.map (·.1) = x :: r ∧ v = .int (f r x) ∧ n = 0 := by
  refine Classical.byContradiction fun hnX => ?_
  obtain ⟨w, hw, h'⟩ := Option.bind_eq_some_iff.mp h
  refine hnX ?_
  clear hnX
  refine Classical.byContradiction fun hnX => ?_
  obtain ⟨ns, hns, h''⟩ := Option.bind_eq_some_iff.mp h'
  refine hnX ?_
  clear hnX
  refine Classical.byContradiction fun hnX => ?_
  obtain ⟨l, hl, hn⟩ := Option.bind_eq_some_iff.mp hns
  refine hnX ?_
  clear hnX
  refine Classical.byContradiction fun hnX => ?_
  obtain ⟨c, rfl, r0⟩ := one_arg hw ra
  refine hnX ?_
  clear hnX
  refine Classical.byContradiction fun hnX => ?_
  obtain ⟨a, vs, n', rfl, e0, rs, hlen⟩ := listOf_inv hr hl r0
  refine hnX ?_
  clear hnX
  refine Classical.byContradiction fun hnX => ?_
  obtain ⟨ys, rfl, hy⟩ := ints_items hn rs
  refine hnX ?_
  clear hnX
  cases ns with
  | nil => cases h''
  | cons x r =>
    cases h''
    refine ⟨a, ys, 0, rfl, ⟨_, e0, rfl, n', by simp [intItems]⟩, ?_, rfl, x, r, hy, rfl, rfl⟩
    have := congrArg List.length hy
    simp only [List.length_map, List.length_cons] at this
    simp only [List.size_toArray]; lia

theorem two_sound {f : Int → Int → Int} {as : List V} {v : V} {σ σ' : H} (h : twoV f σ as = some (v, σ')) {ρ : List Addr} {h0 : Heap} {cas : List Value} (ra : RVs K ρ h0 as cas) :
    ∃ x t y u, cas = [.int x t, .int y u] ∧ v = .int (f x y) ∧ σ' = σ := by
  refine Classical.byContradiction fun hnX => ?_
  obtain ⟨p, hp, h'⟩ := Option.bind_eq_some_iff.mp h
  refine hnX ?_
  clear hnX
  refine Classical.byContradiction fun hnX => ?_
  obtain ⟨x, hx, h''⟩ := Option.bind_eq_some_iff.mp h'
  refine hnX ?_
  clear hnX
  refine Classical.byContradiction fun hnX => ?_
  obtain ⟨y, hy, e⟩ := Option.map_eq_some_iff.mp h''
  refine hnX ?_
  clear hnX
  cases e
  refine Classical.byContradiction fun hnX => ?_
  obtain ⟨c, d, rfl, r0, r1⟩ := two_args hp ra
  refine hnX ?_
  clear hnX
  rw [asInt_inv hx] at r0
  rw [asInt_inv hy] at r1
  cases r0; cases r1
  exact ⟨_, _, _, _, rfl, rfl, rfl⟩

theorem blt_sound {b : Blt} {as : List V} {v : V} {σ σ' : H} (h : bltV b as σ = some (v, σ')) (hb : b ≠ .sorted) {ρ : List Addr} {s : Shared} {cas : List Value} (hr : HR K ρ σ s.heap) (ra : RVs K ρ s.heap as cas) (hh : A.handled = none) (ty : TyOK K) :
    TR K A (call (bltVal b) cas) ρ s σ' fun ρ' cv s' => RV K ρ' s'.heap v cv := by
  cases b with
  | sorted => exact absurd rfl hb
  | len =>
    refine Classical.byContradiction fun hnX => ?_
    obtain ⟨w, hw, h'⟩ := Option.bind_eq_some_iff.mp h
    refine hnX ?_
    clear hnX
    refine Classical.byContradiction fun hnX => ?_
    obtain ⟨l, hl, e⟩ := Option.map_eq_some_iff.mp h'
    refine hnX ?_
    clear hnX
    cases e
    refine Classical.byContradiction fun hnX => ?_
    obtain ⟨c, rfl, r0⟩ := one_arg hw ra
    refine hnX ?_
    clear hnX
    refine Classical.byContradiction fun hnX => ?_
    obtain ⟨a, vs, rfl, hobj, rs, hlen⟩ := items_inv hr hl r0
    refine hnX ?_
    clear hnX
    unfold lenMax at hlen
    have hlv := rs.length
    have hsz : vs.toArray.size = l.length := hlv.symm
    rcases hobj with ⟨n, e0⟩ | e0
    · refine Calls.call_len_list ⟨_, e0, rfl, n, rfl⟩ (by lia) ?_
      rw [hsz]; exact ⟨ρ, (Good.refl hr).tok _, .int _ _⟩
    · refine len_tuple ⟨_, e0, rfl, 0, rfl⟩ (by lia) ?_
      rw [hsz]; exact ⟨ρ, (Good.refl hr).tok _, .int _ _⟩
  | max =>
    simp only [bltV] at h
    split at h
    · refine Classical.byContradiction fun hnX => ?_
      obtain ⟨a, ys, _, rfl, hL, hne, rfl, x, r, hy, rfl, _⟩ := best_sound h hr ra
      refine hnX ?_
      clear hnX
      refine max_intList (xs := ys.toArray) hh hL hne fun v h' tk hv hk => ⟨ρ, Good.grow hr hk _, ?_⟩
      refine Classical.byContradiction fun hnX => ?_
      obtain ⟨t, rfl⟩ := intItems_at hv
      refine hnX ?_
      clear hnX
      rw [max_num hy]; exact .int _ _
    · refine Classical.byContradiction fun hnX => ?_
      obtain ⟨x, t, y, u, rfl, rfl, rfl⟩ := two_sound h ra
      refine hnX ?_
      clear hnX
      refine max_two_ints hh fun h' tk hk => ⟨ρ, Good.grow hr hk _, ?_⟩
      split <;> exact .int _ _
  | min =>
    simp only [bltV] at h
    split at h
    · refine Classical.byContradiction fun hnX => ?_
      obtain ⟨a, ys, _, rfl, hL, hne, rfl, x, r, hy, rfl, _⟩ := best_sound h hr ra
      refine hnX ?_
      clear hnX
      refine min_intList (xs := ys.toArray) hh hL hne fun v h' tk hv hk => ⟨ρ, Good.grow hr hk _, ?_⟩
      refine Classical.byContradiction fun hnX => ?_
      obtain ⟨t, rfl⟩ := intItems_at hv
      refine hnX ?_
      clear hnX
      rw [min_num hy]; exact .int _ _
    · refine Classical.byContradiction fun hnX => ?_
      obtain ⟨x, t, y, u, rfl, rfl, rfl⟩ := two_sound h ra
      refine hnX ?_
      clear hnX
      refine min_two_ints hh fun h' tk hk => ⟨ρ, Good.grow hr hk _, ?_⟩
      split <;> exact .int _ _
  | int =>
    refine Classical.byContradiction fun hnX => ?_
    obtain ⟨w, hw, h'⟩ := Option.bind_eq_some_iff.mp h
    refine hnX ?_
    clear hnX
    refine Classical.byContradiction fun hnX => ?_
    obtain ⟨c, rfl, r0⟩ := one_arg hw ra
    refine hnX ?_
    clear hnX
    cases r0 with
    | bool x => cases h'; exact call_int_bool ⟨ρ, (Good.refl hr).tok _, .int _ _⟩
    | int x t => cases h'; exact call_int_int ⟨ρ, Good.refl hr, .int _ _⟩
    | _ => cases h'
  | list =>
    refine Classical.byContradiction fun hnX => ?_
    obtain ⟨w, hw, h'⟩ := Option.bind_eq_some_iff.mp h
    refine hnX ?_
    clear hnX
    refine Classical.byContradiction fun hnX => ?_
    obtain ⟨l, hl, e⟩ := Option.bind_eq_some_iff.mp h'
    refine hnX ?_
    clear hnX
    refine Classical.byContradiction fun hnX => ?_
    obtain ⟨hlen, rfl, rfl⟩ := mkList_inv e
    refine hnX ?_
    clear hnX
    refine Classical.byContradiction fun hnX => ?_
    obtain ⟨c, rfl, r0⟩ := one_arg hw ra
    refine hnX ?_
    clear hnX
    refine Classical.byContradiction fun hnX => ?_
    obtain ⟨a, vs, n', rfl, e0, rs, _⟩ := listOf_inv hr hl r0
    refine hnX ?_
    clear hnX
    refine call_list_seq (hsz := list_len rs hlen) a (.inl rfl) e0 rfl rfl fun h' c' hk hD => ?_
    refine ⟨ρ ++ [s.heap.objs.size], Good.alloc (o := .list l) hr hk (get?_size _) ⟨vs, c', hD, rs.mono (List.prefix_append _ _) (fun a vs e => hk _ _ e), hlen⟩ _, .obj ?_⟩
    rw [List.getElem?_append_right (by rw [hr.len]; exact Nat.le_refl _), hr.len]; simp
  | sum => cases h
  | isinstance =>
    refine Classical.byContradiction fun hnX => ?_
    obtain ⟨p, hp, h'⟩ := Option.bind_eq_some_iff.mp h
    refine hnX ?_
    clear hnX
    refine Classical.byContradiction fun hnX => ?_
    obtain ⟨t, ht, h''⟩ := Option.bind_eq_some_iff.mp h'
    refine hnX ?_
    clear hnX
    refine Classical.byContradiction fun hnX => ?_
    obtain ⟨r, hi, e⟩ := Option.map_eq_some_iff.mp h''
    refine hnX ?_
    clear hnX
    cases e
    refine Classical.byContradiction fun hnX => ?_
    obtain ⟨c, d, rfl, r0, r1⟩ := two_args hp ra
    refine hnX ?_
    clear hnX
    generalize p.2 = y at ht r1
    cases r1 with
    | ty t' => cases ht; exact isi_sound hi hr r0 ty
    | _ => cases ht
end
end Mini

/-! Steps that spare private objects; stores of names; iterators. -/
set_option autoImplicit false
namespace Mini
open PySem PyProof.Rows PySem.SeqAt

/-- a step that may change the objects of X besides -/
structure StepX (X : List Addr) (ρ : List Addr) (s : Shared) (ρ' : List Addr) (s' : Shared) : Prop where
  pre : ρ <+: ρ'
  fr : ∀ b o, s.heap.get? b = some o → b ∉ ρ → b ∉ X → s'.heap.get? b = some o
  fresh : ∀ a, a ∈ ρ' → a ∈ ρ ∨ s.heap.get? a = none
  gens : s'.gens = s.gens
  os : s'.os = s.os

theorem Step.toX {ρ ρ' : List Addr} {s s' : Shared} (x : Step ρ s ρ' s') (X : List Addr) : StepX X ρ s ρ' s' := ⟨x.pre, fun b o e h _ => x.fr b o e h, x.fresh, x.gens, x.os⟩
theorem StepX.nil {ρ ρ' : List Addr} {s s' : Shared} (x : StepX [] ρ s ρ' s') : Step ρ s ρ' s' := ⟨x.pre, fun b o e h => x.fr b o e h (by simp), x.fresh, x.gens, x.os⟩
theorem StepX.refl (X ρ : List Addr) (s : Shared) : StepX X ρ s ρ s := (Step.refl ρ s).toX X
theorem StepX.trans {X ρ ρ1 ρ2 : List Addr} {s s1 s2 : Shared} (x : StepX X ρ s ρ1 s1) (y : StepX X ρ1 s1 ρ2 s2) (hs : ∀ a ∈ X, ∃ o, s1.heap.get? a = some o) : StepX X ρ s ρ2 s2 where
  pre := x.pre.trans y.pre
  fr := fun b o e hb hx => y.fr b o (x.fr b o e hb hx) (fun h1 => by
    rcases x.fresh b h1 with h | h
    · exact hb h
    · rw [e] at h; cases h) hx
  fresh := fun a ha => by
    rcases y.fresh a ha with h | h
    · exact x.fresh a h
    · by_cases hr : a ∈ ρ
      · exact .inl hr
      · right
        cases hg : s.heap.get? a with
        | none => rfl
        | some o =>
          by_cases hx : a ∈ X
          · refine Classical.byContradiction fun hnX => ?_
            obtain ⟨o', e'⟩ := hs a hx
            refine hnX ?_
            clear hnX
            rw [e'] at h; cases h
          · rw [x.fr a o hg hr hx] at h; cases h
  gens := y.gens.trans x.gens
  os := y.os.trans x.os
/-- what is private and was not there at the start need not be spared -/
theorem StepX.hide {X ρ ρ' : List Addr} {s s' : Shared} (x : StepX X ρ s ρ' s') (h : ∀ a ∈ X, s.heap.get? a = none) : Step ρ s ρ' s' :=
  ⟨x.pre, fun b o e hb => x.fr b o e hb (fun hx => by rw [h b hx] at e; cases e), x.fresh, x.gens, x.os⟩

section
variable {K : Kx} {A : Around}

/-- one private object changes -/
theorem HR.but {ρ : List Addr} {σ : H} {h h' : Heap} {I : Addr} (x : HR K ρ σ h) (hI : I ∉ ρ) (h0 : K.h0.get? I = none) (hc : ∀ vs, h.get? I ≠ some (tupObj vs)) (hk : ∀ b o, b ≠ I → h.get? b = some o → h'.get? b = some o) : HR K ρ σ h' := by
  refine ⟨fun b o e => hk b o (by rintro rfl; rw [h0] at e; cases e) (x.keep b o e), x.len, x.nd, x.new, fun n o a h1 h2 => ?_⟩
  have ho := x.obj n o a h1 h2
  have ha : a ≠ I := by rintro rfl; exact hI (List.mem_of_getElem? h2)
  cases o with
  | list l => obtain ⟨vs, m, e, r, hl⟩ := ho; exact ⟨vs, m, hk _ _ ha e, r.mono (List.prefix_refl _) (fun b ws eb => hk _ _ (by rintro rfl; exact hc _ eb) eb), hl⟩
  | _ => exact ho.elim
theorem RV.but {ρ : List Addr} {h h' : Heap} {I : Addr} {v : V} {x : Value} (r : RV K ρ h v x) (hc : ∀ vs, h.get? I ≠ some (tupObj vs)) (hk : ∀ b o, b ≠ I → h.get? b = some o → h'.get? b = some o) : RV K ρ h' v x :=
  r.mono (List.prefix_refl _) fun b ws eb => hk _ _ (by rintro rfl; exact hc _ eb) eb
theorem RVs.but {ρ : List Addr} {h h' : Heap} {I : Addr} {v : List V} {x : List Value} (r : RVs K ρ h v x) (hc : ∀ vs, h.get? I ≠ some (tupObj vs)) (hk : ∀ b o, b ≠ I → h.get? b = some o → h'.get? b = some o) : RVs K ρ h' v x :=
  r.mono (List.prefix_refl _) fun b ws eb => hk _ _ (by rintro rfl; exact hc _ eb) eb

theorem Ns.not_tup {h : Heap} {a : Addr} {m : Str → Option Value} (x : h.Ns a m) : ∀ vs, h.get? a ≠ some (tupObj vs) := by
  intro vs e
  refine Classical.byContradiction fun hnX => ?_
  obtain ⟨o, es, ep, e', hd, _⟩ := x
  refine hnX ?_
  clear hnX
  rw [e] at e'; cases e'; cases hd
theorem IsCell.not_tup {h : Heap} {a : Addr} {v : Option Value} (x : h.IsCell a v) : ∀ vs, h.get? a ≠ some (tupObj vs) := by
  intro vs e
  refine Classical.byContradiction fun hnX => ?_
  obtain ⟨o, e', hd⟩ := x
  refine hnX ?_
  clear hnX
  rw [e] at e'; cases e'; cases hd

/-- the frame's own objects -/
noncomputable def frameX (env : Env) : List Addr := env.locals :: env.cells.map (·.2)

theorem mem_frameX {env : Env} {a : Addr} (h : a ∈ frameX env) : a = env.locals ∨ ∃ x, (x, a) ∈ env.cells := by
  rcases List.mem_cons.mp h with h | h
  · exact .inl h
  · refine Classical.byContradiction fun hnX => ?_
    obtain ⟨⟨x, b⟩, h1, rfl⟩ := List.mem_map.mp h
    refine hnX ?_
    clear hnX
    exact .inr ⟨x, h1⟩

theorem lookup_set {ℓ ℓ' : L} {i : Nat} {v : V} (h : setL ℓ i v = some ℓ') : i < ℓ.length ∧ ∀ j : Nat, ℓ'[j]? = if j = i then some (some v) else ℓ[j]? := by
  unfold setL at h
  split at h
  · rename_i hi
    cases h
    refine ⟨hi, fun j => ?_⟩
    by_cases hj : j = i
    · subst hj; simp [hi]
    · rw [if_neg hj, List.getElem?_set_ne (fun e => hj e.symm)]
  · cases h


theorem FO.X_some {env : Env} {c : CEnv} {ℓ : L} {ρ : List Addr} {h : Heap} (x : FO K env c ℓ ρ h) : ∀ a ∈ frameX env, ∃ o, h.get? a = some o := by
  intro a ha
  rcases mem_frameX ha with rfl | ⟨y, hy⟩
  · refine Classical.byContradiction fun hnX => ?_
    obtain ⟨m, hn, _⟩ := x.ns
    refine hnX ?_
    clear hnX
    exact Ns.ex hn
  · refine Classical.byContradiction fun hnX => ?_
    obtain ⟨_, _, _, o, e, _⟩ := x.cnew y a hy
    refine hnX ?_
    clear hnX
    exact ⟨o, e⟩

theorem FO.X_nt {env : Env} {c : CEnv} {ℓ : L} {ρ : List Addr} {h : Heap} (x : FO K env c ℓ ρ h) : ∀ a ∈ frameX env, ∀ vs, h.get? a ≠ some (tupObj vs) := by
  intro a ha vs e
  rcases mem_frameX ha with rfl | ⟨y, hy⟩
  · refine Classical.byContradiction fun hnX => ?_
    obtain ⟨m, hn, _⟩ := x.ns
    refine hnX ?_
    clear hnX
    exact Ns.not_tup hn vs e
  · refine Classical.byContradiction fun hnX => ?_
    obtain ⟨_, _, _, o, eo, hne⟩ := x.cnew y a hy
    refine hnX ?_
    clear hnX
    rw [e] at eo; cases eo; exact hne vs rfl
theorem FO.X_new {env : Env} {c : CEnv} {ℓ : L} {ρ : List Addr} {h : Heap} (x : FO K env c ℓ ρ h) : ∀ a ∈ frameX env, a ∉ ρ ∧ K.h0.get? a = none := by
  intro a ha
  rcases mem_frameX ha with rfl | ⟨y, hy⟩
  · exact x.lnew
  · refine Classical.byContradiction fun hnX => ?_
    obtain ⟨h1, h2, _⟩ := x.cnew y a hy
    refine hnX ?_
    clear hnX
    exact ⟨h1, h2⟩
theorem StepX.tups {X ρ ρ' : List Addr} {σ : H} {s s' : Shared} (x : StepX X ρ s ρ' s') (hr : HR K ρ σ s.heap) (hX : ∀ a ∈ X, ∀ vs, s.heap.get? a ≠ some (tupObj vs)) : ∀ a vs, s.heap.get? a = some (tupObj vs) → s'.heap.get? a = some (tupObj vs) :=
  fun a vs e => x.fr a _ e (fun ha => by
    refine Classical.byContradiction fun hnX => ?_
    obtain ⟨ob, h1, h2⟩ := hr.at_ ha
    refine hnX ?_
    clear hnX
    rw [e] at h1; cases h1; exact h2 rfl) fun ha => hX a ha vs e

/-- storing a name of the frame -/
theorem store_sound {env : Env} {c : CEnv} {ℓ ℓ' : L} {ρ : List Addr} {σ : H} {s : Shared} (fo : FO K env c ℓ ρ s.heap) (hr : HR K ρ σ s.heap) {x : Str} {i : Nat} {v : V} {cv : Value} (hx : cVar c x = some i) (hs : setL ℓ i v = some ℓ')
    (rv : RV K ρ s.heap v cv) {Q : Unit → Shared → Prop} {E : Value → Shared → Prop} (hq : ∀ s' a, (a = env.locals ∨ (c.names.lookup x = some .cell ∧ (x, a) ∈ env.cells)) → HR K ρ σ s'.heap → StepX [a] ρ s ρ s' → FO K env c ℓ' ρ s'.heap → Q () s') : wpAny K.M A (storeName env x cv) Q E s := by
  refine Classical.byContradiction fun hnX => ?_
  obtain ⟨hk, _, hsl⟩ := cVar_inv hx
  refine hnX ?_
  clear hnX
  refine Classical.byContradiction fun hnX => ?_
  obtain ⟨hi, hset⟩ := lookup_set hs
  refine hnX ?_
  clear hnX
  have hlt := fo.lt x i hsl
  have hfree : ∀ (j : Nat) w, c.next ≤ j → ℓ'[j]? ≠ some (some w) := fun j w hj => by rw [hset, if_neg (by exact Lin.lin [(.lt (.v 1) (.v 2)), (.le (.v 2) (.v 0))] (.no (.eq (.v 0) (.v 1))) (.l [1, 0, 1, 1]) rfl [_, _, _] [] hlt hj)]; exact fo.free j w hj
  rcases hk with hk | hk
  · refine Classical.byContradiction fun hnX => ?_
    obtain ⟨m, hn, hm⟩ := fo.ns
    refine hnX ?_
    clear hnX
    refine wpAny_storeName_local (show env.scope.names.lookup x = _ by rw [fo.names]; exact hk) hn (fun h' hn' hs' => ?_) (by rw [fo.kind]; rfl)
    have hnt := Ns.not_tup hn
    have hbut : ∀ b o, b ≠ env.locals → s.heap.get? b = some o → h'.get? b = some o := fun b o hb e => (hs'.2 b hb).trans e
    refine hq _ _ (.inl rfl) (hr.but fo.lnew.1 fo.lnew.2 hnt hbut) ⟨List.prefix_refl _, fun b o e _ hX => hbut b o (fun e' => hX (by rw [e']; exact List.mem_cons_self)) e, fun _ h => .inl h, rfl, rfl⟩ ?_
    refine ⟨fo.kind, fo.names, fo.glob, fo.blts, ⟨_, hn', fun y j w h1 h2 h3 => ?_⟩, fun y hy => ?_, fo.inj, fo.capart, fo.lnew, hfree, fo.lt, fun y a hy => ?_⟩
    · rw [hset] at h3
      by_cases hji : j = i
      · subst hji
        rw [if_pos rfl] at h3; cases h3
        obtain rfl := fo.inj y x j h2 hsl
        exact ⟨cv, if_pos rfl, rv.but hnt hbut⟩
      · rw [if_neg hji] at h3
        have hyx : y ≠ x := by rintro rfl; rw [h2] at hsl; cases hsl; exact hji rfl
        refine Classical.byContradiction fun hnX => ?_
        obtain ⟨cw, g1, g2⟩ := hm y j w h1 h2 h3
        refine hnX ?_
        clear hnX
        exact ⟨cw, by rw [if_neg hyx]; exact g1, g2.but hnt hbut⟩
    · refine Classical.byContradiction fun hnX => ?_
      obtain ⟨a, o, g1, g2, g3⟩ := fo.cell y hy
      refine hnX ?_
      clear hnX
      have ha : a ≠ env.locals := (fo.cnew y a (mem_of_lookup g1)).2.2.1
      refine ⟨a, o, g1, IsCell.at g2 fun o e => hbut _ _ ha e, fun j w h2 h3 => ?_⟩
      rw [hset] at h3
      have hji : j ≠ i := by rintro rfl; obtain rfl := fo.inj y x j h2 hsl; rw [hk] at hy; cases hy
      rw [if_neg hji] at h3
      refine Classical.byContradiction fun hnX => ?_
      obtain ⟨cw, g4, g5⟩ := g3 j w h2 h3
      refine hnX ?_
      clear hnX
      exact ⟨cw, g4, g5.but hnt hbut⟩
    · refine Classical.byContradiction fun hnX => ?_
      obtain ⟨g1, g2, g3, o, g4, g5⟩ := fo.cnew y a hy
      refine hnX ?_
      clear hnX
      exact ⟨g1, g2, g3, o, hbut _ _ g3 g4, g5⟩
  · refine Classical.byContradiction fun hnX => ?_
    obtain ⟨ca, co, hca, hcell, hcv⟩ := fo.cell x hk
    refine hnX ?_
    clear hnX
    refine Classical.byContradiction fun hnX => ?_
    obtain ⟨c1, c2, c3, c4⟩ := fo.cnew x ca (mem_of_lookup hca)
    refine hnX ?_
    clear hnX
    refine wpAny_storeName_cell fo.kind (show env.scope.names.lookup x = _ by rw [fo.names]; exact hk) hca hcell (fun h' hc' hs' => ?_)
    have hnt := IsCell.not_tup hcell
    have hbut : ∀ b o, b ≠ ca → s.heap.get? b = some o → h'.get? b = some o := fun b o hb e => (hs'.2 b hb).trans e
    refine hq _ _ (.inr ⟨hk, mem_of_lookup hca⟩) (hr.but c1 c2 hnt hbut) ⟨List.prefix_refl _, fun b o e _ hX => hbut b o (fun e' => hX (by rw [e']; exact List.mem_cons_self)) e, fun _ h => .inl h, rfl, rfl⟩ ?_
    refine Classical.byContradiction fun hnX => ?_
    obtain ⟨m, hn, hm⟩ := fo.ns
    refine hnX ?_
    clear hnX
    refine ⟨fo.kind, fo.names, fo.glob, fo.blts, ⟨m, Ns.at hn fun o e => hbut _ _ (fun e' => c3 e'.symm) e, fun y j w h1 h2 h3 => ?_⟩, fun y hy => ?_, fo.inj, fo.capart, fo.lnew, hfree, fo.lt, fun y a hy => ?_⟩
    · rw [hset] at h3
      have hji : j ≠ i := by rintro rfl; obtain rfl := fo.inj y x j h2 hsl; rw [hk] at h1; cases h1
      rw [if_neg hji] at h3
      refine Classical.byContradiction fun hnX => ?_
      obtain ⟨cw, g4, g5⟩ := hm y j w h1 h2 h3
      refine hnX ?_
      clear hnX
      exact ⟨cw, g4, g5.but hnt hbut⟩
    · by_cases hyx : y = x
      · subst hyx
        refine ⟨ca, some cv, hca, hc', fun j w h2 h3 => ?_⟩
        rw [h2] at hsl; cases hsl
        rw [hset, if_pos rfl] at h3; cases h3
        exact ⟨cv, rfl, rv.but hnt hbut⟩
      · refine Classical.byContradiction fun hnX => ?_
        obtain ⟨a, o, g1, g2, g3⟩ := fo.cell y hy
        refine hnX ?_
        clear hnX
        have ha : a ≠ ca := by rintro rfl; exact hyx (fo.capart y x a (mem_of_lookup g1) (mem_of_lookup hca))
        refine ⟨a, o, g1, IsCell.at g2 fun o e => hbut _ _ ha e, fun j w h2 h3 => ?_⟩
        rw [hset] at h3
        have hji : j ≠ i := by rintro rfl; exact hyx (fo.inj y x j h2 hsl)
        rw [if_neg hji] at h3
        refine Classical.byContradiction fun hnX => ?_
        obtain ⟨cw, g4, g5⟩ := g3 j w h2 h3
        refine hnX ?_
        clear hnX
        exact ⟨cw, g4, g5.but hnt hbut⟩
    · refine Classical.byContradiction fun hnX => ?_
      obtain ⟨g1, g2, g3, o, g4, g5⟩ := fo.cnew y a hy
      refine hnX ?_
      clear hnX
      refine ⟨g1, g2, g3, ?_⟩
      by_cases hac : a = ca
      · subst hac; obtain ⟨o', e', hd'⟩ := hc'; exact ⟨o', e', fun vs hv => by rw [hv] at hd'; cases hd'⟩
      · exact ⟨o, hbut _ _ hac g4, g5⟩
end
end Mini

/-! Iterators. -/
set_option autoImplicit false
namespace Mini
open PySem PyProof.Rows PySem.SeqAt

inductive ItK where
  | list (n : Nat) (ax : Addr)
  | tup (ax : Addr) (cvs : List Value)
  | frz (ax : Addr) (cvs : List Value) (m : Nat)
  | rng (a : Int) (m : Nat)

noncomputable def ItSt (K : Kx) (ρ : List Addr) (I : Addr) (i : Nat) (h : Heap) : ItK → Prop
  | .list n ax => ρ[n]? = some ax ∧ h.IsListIter I ax i
  | .tup ax cvs => h.IsTupleIter I ax i ∧ h.get? ax = some (tupObj cvs)
  | .frz ax cvs m => h.IsListIter I ax i ∧ K.h0.get? ax = some (listObj cvs m)
  | .rng a m => IsRangeIter h I (a + (i : Nat) * 1) ((m : Int) - (i : Nat)) 1

/-- what is drawn, and what must stay -/
noncomputable def ItV (K : Kx) (ρ : List Addr) (h : Heap) (src : Src) : ItK → Prop
  | .list n _ => src.keep = fun σ' => σ'[n]? = some (.list src.vs)
  | .tup _ cvs => RVs K ρ h src.vs cvs ∧ src.keep = fun _ => True
  | .frz _ cvs _ => RVs K ρ h src.vs cvs ∧ src.keep = fun _ => True
  | .rng a m => src.vs = (List.range m).map (fun k => V.int (a + (k : Nat))) ∧ src.keep = fun _ => True

/-- an iterator stands -/
structure ItOK (K : Kx) (ρ : List Addr) (I : Addr) (i : Nat) (h : Heap) (src : Src) (k : ItK) : Prop where
  st : ItSt K ρ I i h k
  v : ItV K ρ h src k
  off : I ∉ ρ
  new : K.h0.get? I = none

section
variable {K : Kx} {A : Around}

theorem ItSt.obj {ρ : List Addr} {I : Addr} {i : Nat} {h : Heap} {k : ItK} (x : ItSt K ρ I i h k) : ∃ o, h.get? I = some o ∧ o.cls ≠ .type "tuple" := by
  cases k with
  | list n ax => obtain ⟨_, o, e, hc, _⟩ := x; exact ⟨o, e, by rw [hc]; decide⟩
  | tup ax cvs => obtain ⟨⟨o, e, hc, _⟩, _⟩ := x; exact ⟨o, e, by rw [hc]; decide⟩
  | frz ax cvs m => obtain ⟨⟨o, e, hc, _⟩, _⟩ := x; exact ⟨o, e, by rw [hc]; decide⟩
  | rng a m => exact ⟨_, x, by show Value.type "range_iterator" ≠ Value.type "tuple"; decide⟩

theorem ItOK.not_tup {ρ : List Addr} {I : Addr} {i : Nat} {h : Heap} {src : Src} {k : ItK} (x : ItOK K ρ I i h src k) : ∀ vs, h.get? I ≠ some (tupObj vs) := by
  intro vs e
  refine Classical.byContradiction fun hnX => ?_
  obtain ⟨o, e', hc⟩ := x.st.obj
  refine hnX ?_
  clear hnX
  rw [e] at e'; cases e'; exact hc rfl

/-- it stands behind a step that does not touch it -/
theorem ItOK.step {ρ ρ' : List Addr} {I : Addr} {i : Nat} {σ : H} {s s' : Shared} {src : Src} {k : ItK} (x : ItOK K ρ I i s.heap src k) (hr : HR K ρ σ s.heap) (st : Step ρ s ρ' s') : ItOK K ρ' I i s'.heap src k := by
  refine Classical.byContradiction fun hnX => ?_
  obtain ⟨o, eo, _⟩ := x.st.obj
  refine hnX ?_
  clear hnX
  have hI : ∀ o, s.heap.get? I = some o → s'.heap.get? I = some o := fun o e => st.fr I o e x.off
  refine ⟨?_, ?_, fun hm => ?_, x.new⟩
  · have h := x.st
    cases k with
    | list n ax => obtain ⟨h1, o, e, h2⟩ := h; exact ⟨pre_get st.pre h1, o, hI _ e, h2⟩
    | tup ax cvs => obtain ⟨⟨o, e, h2⟩, h3⟩ := h; exact ⟨⟨o, hI _ e, h2⟩, st.tups hr _ _ h3⟩
    | frz ax cvs m => obtain ⟨⟨o, e, h2⟩, h3⟩ := h; exact ⟨⟨o, hI _ e, h2⟩, h3⟩
    | rng a m => exact hI _ h
  · have h := x.v
    cases k with
    | list n ax => exact h
    | tup ax cvs => exact ⟨h.1.step hr st, h.2⟩
    | frz ax cvs m => exact ⟨h.1.step hr st, h.2⟩
    | rng a m => exact h
  · rcases st.fresh I hm with h | h
    · exact x.off h
    · rw [eo] at h; cases h

/-- it stands where another private object has changed -/
theorem ItOK.but {ρ : List Addr} {I D : Addr} {i : Nat} {h h' : Heap} {src : Src} {k : ItK} (x : ItOK K ρ I i h src k) (hD : ∀ vs, h.get? D ≠ some (tupObj vs)) (hne : I ≠ D) (hk : ∀ b o, b ≠ D → h.get? b = some o → h'.get? b = some o) : ItOK K ρ I i h' src k := by
  refine ⟨?_, ?_, x.off, x.new⟩
  · have h := x.st
    cases k with
    | list n ax => obtain ⟨h1, o, e, h2⟩ := h; exact ⟨h1, o, hk _ _ hne e, h2⟩
    | tup ax cvs => obtain ⟨⟨o, e, h2⟩, h3⟩ := h; exact ⟨⟨o, hk _ _ hne e, h2⟩, hk _ _ (by rintro rfl; exact hD _ h3) h3⟩
    | frz ax cvs m => obtain ⟨⟨o, e, h2⟩, h3⟩ := h; exact ⟨⟨o, hk _ _ hne e, h2⟩, h3⟩
    | rng a m => exact hk _ _ hne h
  · have h := x.v
    cases k with
    | list n ax => exact h
    | tup ax cvs => exact ⟨h.1.but hD hk, h.2⟩
    | frz ax cvs m => exact ⟨h.1.but hD hk, h.2⟩
    | rng a m => exact h

theorem it_next {ρ : List Addr} {I : Addr} {i : Nat} {σ : H} {s : Shared} {src : Src} {k : ItK} {v : V} (hh : A.handled = none) (x : ItOK K ρ I i s.heap src k) (hr : HR K ρ σ s.heap) (hkeep : src.keep σ) (hv : src.vs[i]? = some v)
    {Q : Option Value → Shared → Prop} {E : Value → Shared → Prop}
    (hq : ∀ cv h' tk, (∀ b o, b ≠ I → s.heap.get? b = some o → h'.get? b = some o) → HR K ρ σ h' → RV K ρ h' v cv → ItOK K ρ I (i + 1) h' src k → Q (some cv) { s with heap := h', toks := tk }) :
    wpAny K.M A (pyNext (.ref I)) Q E s := by
  have hnt := x.not_tup
  have key : ∀ cv h' tk, (∀ b o, b ≠ I → s.heap.get? b = some o → h'.get? b = some o) → RV K ρ s.heap v cv → ItSt K ρ I (i + 1) h' k → Q (some cv) { s with heap := h', toks := tk } := by
    intro cv h' tk hk rv st
    refine hq cv h' tk hk (hr.but x.off x.new hnt hk) (rv.but hnt hk) ⟨st, ?_, x.off, x.new⟩
    have h := x.v
    cases k with
    | list n ax => exact h
    | tup ax cvs => exact ⟨h.1.but hnt hk, h.2⟩
    | frz ax cvs m => exact ⟨h.1.but hnt hk, h.2⟩
    | rng a m => exact h
  have hst := x.st
  have hvv := x.v
  cases k with
  | list n ax =>
    refine Classical.byContradiction fun hnX => ?_
    obtain ⟨h1, hit⟩ := hst
    refine hnX ?_
    clear hnX
    have hv' : src.keep = fun σ' => σ'[n]? = some (.list src.vs) := hvv
    rw [hv'] at hkeep
    refine Classical.byContradiction fun hnX => ?_
    obtain ⟨cvs, m, e, rs, _⟩ := hr.obj n _ ax hkeep h1
    refine hnX ?_
    clear hnX
    refine Classical.byContradiction fun hnX => ?_
    obtain ⟨cv, hc, rv⟩ := rs.get hv
    refine hnX ?_
    clear hnX
    refine wpAny_pyNext_list_item hit ⟨_, e, rfl, m, rfl⟩ (x := cv) (by simpa using hc) fun h' hit' hs' => ?_
    exact key cv h' s.toks (fun b o hb e => (hs'.2 b hb).trans e) rv ⟨h1, hit'⟩
  | tup ax cvs =>
    refine Classical.byContradiction fun hnX => ?_
    obtain ⟨hit, e⟩ := hst
    refine hnX ?_
    clear hnX
    refine Classical.byContradiction fun hnX => ?_
    obtain ⟨cv, hc, rv⟩ := hvv.1.get hv
    refine hnX ?_
    clear hnX
    refine wpAny_pyNext_tuple_item hit ⟨_, e, rfl, 0, rfl⟩ (x := cv) (by simpa using hc) fun h' hit' hs' => ?_
    refine key cv h' s.toks (fun b o hb e => (hs'.2 b hb).trans e) rv ⟨hit', (hs'.2 ax ?_).trans e⟩
    rintro rfl
    refine Classical.byContradiction fun hnX => ?_
    obtain ⟨o, e', hc', _⟩ := hit
    refine hnX ?_
    clear hnX
    rw [e] at e'; cases e'; exact absurd hc' (show ¬ Value.type "tuple" = Value.type "tuple_iterator" by decide)
  | frz ax cvs m =>
    refine Classical.byContradiction fun hnX => ?_
    obtain ⟨hit, e⟩ := hst
    refine hnX ?_
    clear hnX
    refine Classical.byContradiction fun hnX => ?_
    obtain ⟨cv, hc, rv⟩ := hvv.1.get hv
    refine hnX ?_
    clear hnX
    refine wpAny_pyNext_list_item hit ⟨_, hr.keep _ _ e, rfl, m, rfl⟩ (x := cv) (by simpa using hc) fun h' hit' hs' => ?_
    exact key cv h' s.toks (fun b o hb e => (hs'.2 b hb).trans e) rv ⟨hit', e⟩
  | rng a m =>
    have hvs : src.vs = (List.range m).map (fun k => V.int (a + (k : Nat))) := hvv.1
    have hi : i < m := by have := (List.getElem?_eq_some_iff.mp hv).1; rw [hvs] at this; simpa using this
    have ev : v = .int (a + (i : Nat)) := by rw [hvs] at hv; simp [hi] at hv; exact hv.symm
    subst ev
    refine (Walks.range hh I a 1 m).item i s Q E hi hst fun cv h' tk hP st' hk => ?_
    refine Classical.byContradiction fun hnX => ?_
    obtain ⟨t, rfl⟩ := hP
    refine hnX ?_
    clear hnX
    rw [Int.mul_one]
    exact key _ h' tk (fun b o hb e => hk b o (by simpa using hb) e) (.int _ _) st'

theorem it_done {ρ : List Addr} {I : Addr} {i : Nat} {σ : H} {s : Shared} {src : Src} {k : ItK} (hh : A.handled = none) (x : ItOK K ρ I i s.heap src k) (hr : HR K ρ σ s.heap) (hkeep : src.keep σ) (hv : i = src.vs.length)
    {Q : Option Value → Shared → Prop} {E : Value → Shared → Prop}
    (hq : ∀ h' tk, (∀ b o, b ≠ I → s.heap.get? b = some o → h'.get? b = some o) → HR K ρ σ h' → Q none { s with heap := h', toks := tk }) : wpAny K.M A (pyNext (.ref I)) Q E s := by
  have hnt := x.not_tup
  have key : ∀ h' tk, (∀ b o, b ≠ I → s.heap.get? b = some o → h'.get? b = some o) → Q none { s with heap := h', toks := tk } := fun h' tk hk => hq h' tk hk (hr.but x.off x.new hnt hk)
  have hst := x.st
  have hvv := x.v
  cases k with
  | list n ax =>
    refine Classical.byContradiction fun hnX => ?_
    obtain ⟨h1, hit⟩ := hst
    refine hnX ?_
    clear hnX
    have hv' : src.keep = fun σ' => σ'[n]? = some (.list src.vs) := hvv
    rw [hv'] at hkeep
    refine Classical.byContradiction fun hnX => ?_
    obtain ⟨cvs, m, e, rs, _⟩ := hr.obj n _ ax hkeep h1
    refine hnX ?_
    clear hnX
    have := rs.length
    exact wpAny_pyNext_list_end hh hit ⟨_, e, rfl, m, rfl⟩ (by simp; exact Lin.lin [(.eq (.v 1) (.v 2)), (.eq (.v 2) (.v 0))] (.le (.v 0) (.v 1)) (.l [1, 0, 1, 0, 1]) rfl [_, _, _] [] hv this) fun h' hs' => key h' s.toks fun b o hb e => hs' b o hb e
  | tup ax cvs =>
    refine Classical.byContradiction fun hnX => ?_
    obtain ⟨hit, e⟩ := hst
    refine hnX ?_
    clear hnX
    have := hvv.1.length
    exact (Walks.tuple hh I ax (by rintro rfl; obtain ⟨o, e', hc', _⟩ := hit; rw [e] at e'; cases e'; exact absurd hc' (show ¬ Value.type "tuple" = Value.type "tuple_iterator" by decide)) cvs.toArray).done s Q E (by rw [List.size_toArray, ← this, ← hv]; exact ⟨hit, _, e, rfl, 0, rfl⟩) fun h' tk hk => key h' tk fun b o hb e => hk b o (by simpa using hb) e
  | frz ax cvs m =>
    refine Classical.byContradiction fun hnX => ?_
    obtain ⟨hit, e⟩ := hst
    refine hnX ?_
    clear hnX
    have := hvv.1.length
    exact wpAny_pyNext_list_end hh hit ⟨_, hr.keep _ _ e, rfl, m, rfl⟩ (by simp; exact Lin.lin [(.eq (.v 1) (.v 2)), (.eq (.v 2) (.v 0))] (.le (.v 0) (.v 1)) (.l [1, 0, 1, 0, 1]) rfl [_, _, _] [] hv this) fun h' hs' => key h' s.toks fun b o hb e => hs' b o hb e
  | rng a m =>
    have hvs : src.vs = (List.range m).map (fun k => V.int (a + (k : Nat))) := hvv.1
    have him : i = m := by rw [hv, hvs]; simp
    subst him
    exact (Walks.range hh I a 1 i).done s Q E hst fun h' tk hk => key h' tk fun b o hb e => hk b o (by simpa using hb) e

theorem it_self {ρ : List Addr} {I : Addr} {i : Nat} {s : Shared} {src : Src} {k : ItK} (hh : A.handled = none) (x : ItOK K ρ I i s.heap src k) {Q : Value → Shared → Prop} {E : Value → Shared → Prop} (hq : Q (.ref I) s) :
    wpAny K.M A (pyIter (.ref I)) Q E s := by
  have hst := x.st
  cases k with
  | list n ax => exact wpAny_pyIter_listiter hst.2 hq
  | tup ax cvs =>
    refine Classical.byContradiction fun hnX => ?_
    obtain ⟨hit, e⟩ := hst
    refine hnX ?_
    clear hnX
    exact (Walks.tuple hh I ax (by rintro rfl; obtain ⟨o, e', hc', _⟩ := hit; rw [e] at e'; cases e'; exact absurd hc' (show ¬ Value.type "tuple" = Value.type "tuple_iterator" by decide)) cvs.toArray).self i s Q E ⟨hit, _, e, rfl, 0, rfl⟩ hq
  | frz ax cvs m => exact wpAny_pyIter_listiter hst.1 hq
  | rng a m => exact (Walks.range hh I a 1 m).self i s Q E hst hq

/-- a fresh private object -/
theorem Good.tmp {ρ : List Addr} {σ : H} {s : Shared} (hr : HR K ρ σ s.heap) (o : Obj) (t : Nat) : Good K ρ s ρ σ { s with heap := s.heap.push o, toks := t } := Good.grow hr (fun b o' e => Heap.get?_push_of_some _ e) t

theorem fresh_off {ρ : List Addr} {σ : H} {s : Shared} (hr : HR K ρ σ s.heap) : s.heap.objs.size ∉ ρ ∧ K.h0.get? s.heap.objs.size = none := by
  refine ⟨fun hm => ?_, ?_⟩
  · refine Classical.byContradiction fun hnX => ?_
    obtain ⟨ob, e, _⟩ := hr.at_ hm
    refine hnX ?_
    clear hnX
    rw [get?_size] at e; cases e
  · cases e : K.h0.get? s.heap.objs.size with
    | none => rfl
    | some o => have := hr.keep _ _ e; rw [get?_size] at this; cases this

/-- an iterator over a value that has items -/
theorem it_make {σ : H} {x : V} {src : Src} {ρ : List Addr} {s : Shared} {cx : Value}
    (h : (match x with
      | .tup l => some (R.ok (⟨l, fun _ => True⟩ : Src), σ)
      | .frz l => some (.ok ⟨l.map .int, fun _ => True⟩, σ)
      | .obj n => match σ[n]? with
        | some (.list l) => some (.ok ⟨l, fun σ' => σ'[n]? = some (.list l)⟩, σ)
        | _ => .none
      | _ => .none) = some (.ok src, σ)) (hr : HR K ρ σ s.heap) (rx : RV K ρ s.heap x cx)
    {Q : Value → Shared → Prop} {E : Value → Shared → Prop}
    (hq : ∀ h' k, Good K ρ s ρ σ { s with heap := h' } → ItOK K ρ s.heap.objs.size 0 h' src k → src.keep σ → Q (.ref s.heap.objs.size) { s with heap := h' }) : wpAny K.M A (pyIter cx) Q E s := by
  refine Classical.byContradiction fun hnX => ?_
  obtain ⟨f1, f2⟩ := fresh_off hr
  refine hnX ?_
  clear hnX
  cases x with
  | tup l =>
    cases rx with
    | tup e r hl =>
      rename_i a vs
      cases h
      refine wpAny_pyIter_tuple ⟨_, e, rfl, 0, rfl⟩ (hq _ (.tup a vs) (Good.tmp hr _ _) ⟨⟨⟨_, Heap.get?_push_size _ rfl, rfl, rfl⟩, Heap.get?_push_of_some _ e⟩, ⟨r.mono (List.prefix_refl _) fun _ _ e => Heap.get?_push_of_some _ e, rfl⟩, f1, f2⟩ trivial)
  | frz l =>
    cases rx with
    | frz e r hl =>
      rename_i a vs n
      cases h
      refine wpAny_pyIter_list ⟨_, hr.keep _ _ e, rfl, n, rfl⟩ (hq _ (.frz a vs n) (Good.tmp hr _ _) ⟨⟨⟨_, Heap.get?_push_size _ rfl, rfl, rfl⟩, e⟩, ⟨r.mono (List.prefix_refl _) fun _ _ e => Heap.get?_push_of_some _ e, rfl⟩, f1, f2⟩ trivial)
  | obj n =>
    cases rx with
    | obj ha =>
      rename_i a
      simp only at h
      split at h
      · rename_i l hl
        cases h
        refine Classical.byContradiction fun hnX => ?_
        obtain ⟨vs, m, e, r, _⟩ := hr.obj _ _ _ hl ha
        refine hnX ?_
        clear hnX
        refine wpAny_pyIter_list ⟨_, e, rfl, m, rfl⟩ (hq _ (.list n a) (Good.tmp hr _ _) ⟨⟨ha, ⟨_, Heap.get?_push_size _ rfl, rfl, rfl⟩⟩, rfl, f1, f2⟩ hl)
      · cases h
  | _ => cases h
end
end Mini

/-! Expressions, case by case. -/
set_option autoImplicit false
namespace Mini
open PySem PyProof.Rows PySem.SeqAt

noncomputable def PT (K : Kx) (A : Around) (env : Env) (c : CEnv) (cl : Cl) (e : Expr) (a : Ex) : Prop :=
  ∀ ℓ σ v σ' b, evalE cl a ℓ σ = some (.ok v, σ') → truth v = some b → ∀ ρ s, HR K ρ σ s.heap → FO K env c ℓ ρ s.heap → TR K A (isTrue e env (eval e env)) ρ s σ' fun _ r _ => r = b

noncomputable def PEs (K : Kx) (A : Around) (env : Env) (c : CEnv) (cl : Cl) (es : List Expr) (a : Es) : Prop :=
  ∀ pos ℓ σ vs σ', evalEs cl a ℓ σ = some (.ok vs, σ') → ∀ ρ s, HR K ρ σ s.heap → FO K env c ℓ ρ s.heap → TR K A (spliced (backTo pos (starEach es env))) ρ s σ' fun ρ' cvs s' => RVs K ρ' s'.heap vs cvs

noncomputable def PO (K : Kx) (A : Around) (env : Env) (c : CEnv) (cl : Cl) (e : Option Expr) (a : Oe) : Prop :=
  ∀ ℓ σ v σ', evalOe cl a ℓ σ = some (.ok v, σ') → ∀ ρ s, HR K ρ σ s.heap → FO K env c ℓ ρ s.heap → TR K A (evalPart e env) ρ s σ' fun ρ' cv s' => RV K ρ' s'.heap v cv

section
variable {K : Kx} {A : Around} {env : Env} {c : CEnv} {cl : Cl} {T : Tabs}

theorem TR.stand {α : Type} {t : Sem α} {pos : Pos} {ρ : List Addr} {s : Shared} {σ' : H} {P : List Addr → α → Shared → Prop} (h : TR K A t ρ s σ' P) : TR K A (standAt pos >>= fun _ => t) ρ s σ' P := wpAny_bind (wpAny_standAt h)
theorem TR.hold {α : Type} {t : Sem α} {vs : List Value} {ρ : List Addr} {s : Shared} {σ' : H} {P : List Addr → α → Shared → Prop} (h : TR K A t ρ s σ' P) : TR K A (holding vs t) ρ s σ' P := wpAny_holding h
theorem TR.oper {t : Sem Value} {vs : List Value} {ρ : List Addr} {s : Shared} {σ' : H} {P : List Addr → Value → Shared → Prop} (h : TR K A t ρ s σ' P) : TR K A (operate vs t) ρ s σ' P := wpAny_operating h

theorem truthy_sound {v : V} {b : Bool} (e : truth v = some b) {ρ : List Addr} {s : Shared} {cv : Value} (r : RV K ρ s.heap v cv) {Q : Bool → Shared → Prop} {E : Value → Shared → Prop} (hq : Q b s) : wpAny K.M A (truthy cv) Q E s := by
  cases v with
  | bool b' => cases r; cases e; exact wpAny_truthy_bool hq
  | none => cases r; cases e; exact wpAny_pure hq
  | _ => cases e

/-- the plain way of a test -/
theorem pt_plain {e : Expr} {a : Ex} (h : PE K A env c cl e a) (hw : ∀ w, isTrue e env w = (do let v ← w; standAt e.pos; holding [v] (truthy v))) : PT K A env c cl e a := by
  intro ℓ σ v σ' b he hb ρ s hr fo
  rw [hw]
  exact TR.bind (h ℓ σ v σ' he ρ s hr fo) fun ρ1 cv s1 g1 rv => TR.stand (TR.hold (truthy_sound hb rv ⟨ρ1, Good.refl g1.hr, rfl⟩))

theorem pe_bin {l r : Expr} {op : Operator} {pos : Pos} {a b : Ex} {o : Bop} (ho : cOp op = some o) (hl : PE K A env c cl l a) (hrr : PE K A env c cl r b) : PE K A env c cl (.BinOp l op r pos) (.bin o a b) := by
  intro ℓ σ v σ' he ρ s hr fo
  simp only [evalE] at he
  refine Classical.byContradiction fun hnX => ?_
  obtain ⟨x, σ1, h1, he⟩ := bnd_ok_inv he
  refine hnX ?_
  clear hnX
  refine Classical.byContradiction fun hnX => ?_
  obtain ⟨y, σ2, h2, he⟩ := bnd_ok_inv he
  refine hnX ?_
  clear hnX
  have he := okH_inv he
  rw [eval_BinOp]
  refine TR.bind (hl ℓ σ x σ1 h1 ρ s hr fo) fun ρ1 cx s1 g1 rx => ?_
  refine TR.bind (TR.hold (hrr ℓ σ1 y σ2 h2 ρ1 s1 g1.hr (fo.step hr g1.st))) fun ρ2 cy s2 g2 ry => ?_
  exact TR.stand (TR.oper (binop_sound he g2.hr (rx.step g1.hr g2.st) ry ho))

theorem pe_neg {x : Expr} {pos : Pos} {a : Ex} (h : PE K A env c cl x a) : PE K A env c cl (.UnaryOp .USub x pos) (.neg a) := by
  intro ℓ σ v σ' he ρ s hr fo
  simp only [evalE] at he
  refine Classical.byContradiction fun hnX => ?_
  obtain ⟨y, σ1, h1, he⟩ := bnd_ok_inv he
  refine hnX ?_
  clear hnX
  show TR K A (do let v ← eval x env; standAt pos; holding [v] (unaryOp .USub v)) ρ s σ' _
  refine TR.bind (h ℓ σ y σ1 h1 ρ s hr fo) fun ρ1 cy s1 g1 ry => TR.stand (TR.hold ?_)
  cases y with
  | int i => cases ry; cases he; exact neg_int ⟨ρ1, (Good.refl g1.hr).tok _, .int _ _⟩
  | _ => cases he

theorem pe_not {x : Expr} {pos : Pos} {a : Ex} (h : PE K A env c cl x a) : PE K A env c cl (.UnaryOp .Not x pos) (.not a) := by
  intro ℓ σ v σ' he ρ s hr fo
  simp only [evalE] at he
  refine Classical.byContradiction fun hnX => ?_
  obtain ⟨y, σ1, h1, he⟩ := bnd_ok_inv he
  refine hnX ?_
  clear hnX
  refine Classical.byContradiction fun hnX => ?_
  obtain ⟨hx, rfl⟩ := okX_inv he
  refine hnX ?_
  clear hnX
  refine Classical.byContradiction fun hnX => ?_
  obtain ⟨b, hb, rfl⟩ := Option.map_eq_some_iff.mp hx
  refine hnX ?_
  clear hnX
  show TR K A (do let v ← eval x env; standAt pos; holding [v] (unaryOp .Not v)) ρ s σ' _
  refine TR.bind (h ℓ σ y σ' h1 ρ s hr fo) fun ρ1 cy s1 g1 ry => TR.stand (TR.hold ?_)
  exact not_value (truthy_sound hb ry ⟨ρ1, Good.refl g1.hr, .bool _⟩)
theorem pt_not {x : Expr} {pos : Pos} {a : Ex} (h : PT K A env c cl x a) : PT K A env c cl (.UnaryOp .Not x pos) (.not a) := by
  intro ℓ σ v σ' b he hb ρ s hr fo
  simp only [evalE] at he
  refine Classical.byContradiction fun hnX => ?_
  obtain ⟨y, σ1, h1, he⟩ := bnd_ok_inv he
  refine hnX ?_
  clear hnX
  refine Classical.byContradiction fun hnX => ?_
  obtain ⟨hx, rfl⟩ := okX_inv he
  refine hnX ?_
  clear hnX
  refine Classical.byContradiction fun hnX => ?_
  obtain ⟨b', hb', rfl⟩ := Option.map_eq_some_iff.mp hx
  refine hnX ?_
  clear hnX
  cases hb
  exact wpAny_isTrue_Not (wpAny_mono (h ℓ σ y σ' b' h1 hb' ρ s hr fo) (fun r s' hq => let ⟨ρ', g, e⟩ := hq; ⟨ρ', g, by rw [e]⟩) fun _ _ f => f)

theorem pe_ife {t b o : Expr} {pos : Pos} {x y z : Ex} (ht : PT K A env c cl t x) (hb : PE K A env c cl b y) (ho : PE K A env c cl o z) : PE K A env c cl (.IfExp t b o pos) (.ife x y z) := by
  intro ℓ σ v σ' he ρ s hr fo
  simp only [evalE] at he
  refine Classical.byContradiction fun hnX => ?_
  obtain ⟨w, σ1, h1, he⟩ := bnd_ok_inv he
  refine hnX ?_
  clear hnX
  show TR K A (do if ← isTrue t env (eval t env) then eval b env else eval o env) ρ s σ' _
  split at he
  · rename_i hw
    refine TR.bind (ht ℓ σ w σ1 true h1 hw ρ s hr fo) fun ρ1 r s1 g1 e => ?_
    subst e
    exact hb ℓ σ1 v σ' he ρ1 s1 g1.hr (fo.step hr g1.st)
  · rename_i hw
    refine TR.bind (ht ℓ σ w σ1 false h1 hw ρ s hr fo) fun ρ1 r s1 g1 e => ?_
    subst e
    exact ho ℓ σ1 v σ' he ρ1 s1 g1.hr (fo.step hr g1.st)
  · cases he
theorem pt_ife {t b o : Expr} {pos : Pos} {x y z : Ex} (ht : PT K A env c cl t x) (hb : PT K A env c cl b y) (ho : PT K A env c cl o z) : PT K A env c cl (.IfExp t b o pos) (.ife x y z) := by
  intro ℓ σ v σ' bb he hbb ρ s hr fo
  simp only [evalE] at he
  refine Classical.byContradiction fun hnX => ?_
  obtain ⟨w, σ1, h1, he⟩ := bnd_ok_inv he
  refine hnX ?_
  clear hnX
  show TR K A (do if ← isTrue t env (eval t env) then isTrue b env (eval b env) else isTrue o env (eval o env)) ρ s σ' _
  split at he
  · rename_i hw
    refine TR.bind (ht ℓ σ w σ1 true h1 hw ρ s hr fo) fun ρ1 r s1 g1 e => ?_
    subst e
    exact hb ℓ σ1 v σ' bb he hbb ρ1 s1 g1.hr (fo.step hr g1.st)
  · rename_i hw
    refine TR.bind (ht ℓ σ w σ1 false h1 hw ρ s hr fo) fun ρ1 r s1 g1 e => ?_
    subst e
    exact ho ℓ σ1 v σ' bb he hbb ρ1 s1 g1.hr (fo.step hr g1.st)
  · cases he

/-- and, or -/
noncomputable def PB (K : Kx) (A : Around) (env : Env) (c : CEnv) (cl : Cl) (op : BoolOp) (es : List Expr) (a : Ex) : Prop :=
  (∀ pos ℓ σ v σ', evalE cl a ℓ σ = some (.ok v, σ') → ∀ ρ s, HR K ρ σ s.heap → FO K env c ℓ ρ s.heap → TR K A (boolOp pos op (evalEach es env)) ρ s σ' fun ρ' cv s' => RV K ρ' s'.heap v cv) ∧
  (∀ ℓ σ v σ' b, evalE cl a ℓ σ = some (.ok v, σ') → truth v = some b → ∀ ρ s, HR K ρ σ s.heap → FO K env c ℓ ρ s.heap → TR K A (allTrue op es env) ρ s σ' fun _ r _ => r = b)

theorem allTrue_one (op : BoolOp) (e : Expr) {ρ : List Addr} {s : Shared} {σ' : H} {b : Bool} (h : TR K A (isTrue e env (eval e env)) ρ s σ' fun _ r _ => r = b) : TR K A (allTrue op [e] env) ρ s σ' fun _ r _ => r = b := by
  have e1 : allTrue op [e] env = (do match op, ← isTrue e env (eval e env) with | .And, false => pure false | .Or, true => pure true | _, _ => allTrue op [] env) := rfl
  rw [e1]
  refine TR.bind h fun ρ1 r s1 g1 er => ?_
  subst er
  cases op <;> cases r <;> exact TR.pure g1.hr rfl

theorem pb_one {op : BoolOp} {e : Expr} {a : Ex} (h : PE K A env c cl e a) (ht : PT K A env c cl e a) : PB K A env c cl op [e] a :=
  ⟨fun pos ℓ σ v σ' he ρ s hr fo => h ℓ σ v σ' he ρ s hr fo, fun ℓ σ v σ' b he hb ρ s hr fo => allTrue_one op e (ht ℓ σ v σ' b he hb ρ s hr fo)⟩

theorem pb_cons {op : BoolOp} {e e' : Expr} {r : List Expr} {a b : Ex} (h : PE K A env c cl e a) (ht : PT K A env c cl e a) (hb : PB K A env c cl op (e' :: r) b) :
    PB K A env c cl op (e :: e' :: r) (boolEx op a b) := by
  constructor
  · intro pos ℓ σ v σ' he ρ s hr fo
    have e1 : boolOp pos op (evalEach (e :: e' :: r) env) = (do
        let v ← eval e env
        standAt pos
        let t ← holding [v] (truthy v)
        match op, t with
        | .And, false | .Or, true => pure v
        | _, _ => boolOp pos op (evalEach (e' :: r) env)) := rfl
    rw [e1]
    cases op with
    | And =>
      simp only [boolEx, evalE] at he
      refine Classical.byContradiction fun hnX => ?_
      obtain ⟨x, σ1, h1, he⟩ := bnd_ok_inv he
      refine hnX ?_
      clear hnX
      refine TR.bind (h ℓ σ x σ1 h1 ρ s hr fo) fun ρ1 cx s1 g1 rx => TR.stand (wpAny_bind (wpAny_holding ?_))
      split at he
      · rename_i hx
        exact truthy_sound hx rx (hb.1 pos ℓ σ1 v σ' he ρ1 s1 g1.hr (fo.step hr g1.st))
      · rename_i hx
        cases he
        exact truthy_sound hx rx (TR.pure g1.hr rx)
      · cases he
    | Or =>
      simp only [boolEx, evalE] at he
      refine Classical.byContradiction fun hnX => ?_
      obtain ⟨x, σ1, h1, he⟩ := bnd_ok_inv he
      refine hnX ?_
      clear hnX
      refine TR.bind (h ℓ σ x σ1 h1 ρ s hr fo) fun ρ1 cx s1 g1 rx => TR.stand (wpAny_bind (wpAny_holding ?_))
      split at he
      · rename_i hx
        cases he
        exact truthy_sound hx rx (TR.pure g1.hr rx)
      · rename_i hx
        exact truthy_sound hx rx (hb.1 pos ℓ σ1 v σ' he ρ1 s1 g1.hr (fo.step hr g1.st))
      · cases he
  · intro ℓ σ v σ' bb he hbb ρ s hr fo
    have e1 : allTrue op (e :: e' :: r) env = (do match op, ← isTrue e env (eval e env) with | .And, false => pure false | .Or, true => pure true | _, _ => allTrue op (e' :: r) env) := rfl
    rw [e1]
    cases op with
    | And =>
      simp only [boolEx, evalE] at he
      refine Classical.byContradiction fun hnX => ?_
      obtain ⟨x, σ1, h1, he⟩ := bnd_ok_inv he
      refine hnX ?_
      clear hnX
      split at he
      · rename_i hx
        refine TR.bind (ht ℓ σ x σ1 true h1 hx ρ s hr fo) fun ρ1 q s1 g1 er => ?_
        subst er
        exact hb.2 ℓ σ1 v σ' bb he hbb ρ1 s1 g1.hr (fo.step hr g1.st)
      · rename_i hx
        cases he
        refine TR.bind (ht ℓ σ v σ' false h1 hx ρ s hr fo) fun ρ1 q s1 g1 er => ?_
        subst er
        rw [hx] at hbb; cases hbb
        exact TR.pure g1.hr rfl
      · cases he
    | Or =>
      simp only [boolEx, evalE] at he
      refine Classical.byContradiction fun hnX => ?_
      obtain ⟨x, σ1, h1, he⟩ := bnd_ok_inv he
      refine hnX ?_
      clear hnX
      split at he
      · rename_i hx
        cases he
        refine TR.bind (ht ℓ σ v σ' true h1 hx ρ s hr fo) fun ρ1 q s1 g1 er => ?_
        subst er
        rw [hx] at hbb; cases hbb
        exact TR.pure g1.hr rfl
      · rename_i hx
        refine TR.bind (ht ℓ σ x σ1 false h1 hx ρ s hr fo) fun ρ1 q s1 g1 er => ?_
        subst er
        exact hb.2 ℓ σ1 v σ' bb he hbb ρ1 s1 g1.hr (fo.step hr g1.st)
      · cases he

/-- chains of comparisons -/
noncomputable def PC (K : Kx) (A : Around) (env : Env) (c : CEnv) (cl : Cl) (ops : List CmpOp) (es : List Expr) (r : Ch) : Prop :=
  (∀ pos x ℓ σ v σ', evalCh cl x r ℓ σ = some (.ok v, σ') → ∀ ρ s cx, HR K ρ σ s.heap → FO K env c ℓ ρ s.heap → RV K ρ s.heap x cx → TR K A (compareChain pos cx ops (evalEach es env)) ρ s σ' fun ρ' cv s' => RV K ρ' s'.heap v cv) ∧
  (∀ pos x ℓ σ v σ' b, evalCh cl x r ℓ σ = some (.ok v, σ') → truth v = some b → ∀ ρ s cx, HR K ρ σ s.heap → FO K env c ℓ ρ s.heap → RV K ρ s.heap x cx → TR K A (testChain pos cx ops (evalEach es env)) ρ s σ' fun _ q _ => q = b)

theorem pc_one {op : CmpOp} {e : Expr} {a : Ex} (hu : A.units + 16 < cLine) (h : PE K A env c cl e a) : PC K A env c cl [op] [e] (.one (cCop op) a) := by
  constructor
  · intro pos x ℓ σ v σ' he ρ s cx hr fo rx
    simp only [evalCh] at he
    refine Classical.byContradiction fun hnX => ?_
    obtain ⟨y, σ1, h1, he⟩ := bnd_ok_inv he
    refine hnX ?_
    clear hnX
    refine Classical.byContradiction fun hnX => ?_
    obtain ⟨hx, rfl⟩ := okX_inv he
    refine hnX ?_
    clear hnX
    refine Classical.byContradiction fun hnX => ?_
    obtain ⟨b, hb, rfl⟩ := Option.map_eq_some_iff.mp hx
    refine hnX ?_
    clear hnX
    show TR K A (do let rv ← holding [cx] (eval e env); standAt pos; operate [cx, rv] (compareOp op cx rv)) ρ s σ' _
    refine TR.bind (TR.hold (h ℓ σ y σ' h1 ρ s hr fo)) fun ρ1 cy s1 g1 ry => TR.stand (TR.oper ?_)
    exact cmpop_sound hb g1.hr (rx.step hr g1.st) ry rfl hu ⟨ρ1, Good.refl g1.hr, .bool _⟩
  · intro pos x ℓ σ v σ' bb he hbb ρ s cx hr fo rx
    simp only [evalCh] at he
    refine Classical.byContradiction fun hnX => ?_
    obtain ⟨y, σ1, h1, he⟩ := bnd_ok_inv he
    refine hnX ?_
    clear hnX
    refine Classical.byContradiction fun hnX => ?_
    obtain ⟨hx, rfl⟩ := okX_inv he
    refine hnX ?_
    clear hnX
    refine Classical.byContradiction fun hnX => ?_
    obtain ⟨b, hb, rfl⟩ := Option.map_eq_some_iff.mp hx
    refine hnX ?_
    clear hnX
    cases hbb
    show TR K A (do let rv ← holding [cx] (eval e env); standAt pos; let c ← operate [cx, rv] (compareOp op cx rv); holding [c] (truthy c)) ρ s σ' _
    refine TR.bind (TR.hold (h ℓ σ y σ' h1 ρ s hr fo)) fun ρ1 cy s1 g1 ry => TR.stand (wpAny_bind (wpAny_operating ?_))
    exact cmpop_sound hb g1.hr (rx.step hr g1.st) ry rfl hu (wpAny_holding (wpAny_truthy_bool ⟨ρ1, Good.refl g1.hr, rfl⟩))

theorem wpAny_release {vs keep : List Value} {Q : Unit → Shared → Prop} {E : Value → Shared → Prop} {s : Shared} (h : Q () s) : wpAny K.M A (release vs keep) Q E s := fun Γ p _ => by rw [Sem.wp_release]; exact h

theorem pc_more {op op' : CmpOp} {ops : List CmpOp} {e e' : Expr} {es : List Expr} {a : Ex} {r : Ch} (hu : A.units + 16 < cLine) (h : PE K A env c cl e a) (hr' : PC K A env c cl (op' :: ops) (e' :: es) r) :
    PC K A env c cl (op :: op' :: ops) (e :: e' :: es) (.more (cCop op) a r) := by
  constructor
  · intro pos x ℓ σ v σ' he ρ s cx hr fo rx
    simp only [evalCh] at he
    refine Classical.byContradiction fun hnX => ?_
    obtain ⟨y, σ1, h1, he⟩ := bnd_ok_inv he
    refine hnX ?_
    clear hnX
    show TR K A (do
      let rv ← holding [cx] (eval e env)
      standAt pos
      let c ← holding [cx, rv] (compareOp op cx rv)
      release [cx, rv] [c]
      if ← holding [c, rv] (truthy c) then compareChain pos rv (op' :: ops) (evalEach (e' :: es) env) else pure c) ρ s σ' _
    refine TR.bind (TR.hold (h ℓ σ y σ1 h1 ρ s hr fo)) fun ρ1 cy s1 g1 ry => TR.stand (wpAny_bind (wpAny_holding ?_))
    split at he
    · rename_i hb
      exact cmpop_sound hb g1.hr (rx.step hr g1.st) ry rfl hu (wpAny_bind (wpAny_release (wpAny_bind (wpAny_holding (wpAny_truthy_bool (hr'.1 pos y ℓ σ1 v σ' he ρ1 s1 cy g1.hr (fo.step hr g1.st) ry))))))
    · rename_i hb
      cases he
      exact cmpop_sound hb g1.hr (rx.step hr g1.st) ry rfl hu (wpAny_bind (wpAny_release (wpAny_bind (wpAny_holding (wpAny_truthy_bool (TR.pure g1.hr (.bool _)))))))
    · cases he
  · intro pos x ℓ σ v σ' bb he hbb ρ s cx hr fo rx
    simp only [evalCh] at he
    refine Classical.byContradiction fun hnX => ?_
    obtain ⟨y, σ1, h1, he⟩ := bnd_ok_inv he
    refine hnX ?_
    clear hnX
    show TR K A (do
      let rv ← holding [cx] (eval e env)
      standAt pos
      let c ← holding [cx, rv] (compareOp op cx rv)
      release [cx, rv] [c]
      if ← holding [c, rv] (truthy c) then testChain pos rv (op' :: ops) (evalEach (e' :: es) env) else pure false) ρ s σ' _
    refine TR.bind (TR.hold (h ℓ σ y σ1 h1 ρ s hr fo)) fun ρ1 cy s1 g1 ry => TR.stand (wpAny_bind (wpAny_holding ?_))
    split at he
    · rename_i hb
      exact cmpop_sound hb g1.hr (rx.step hr g1.st) ry rfl hu (wpAny_bind (wpAny_release (wpAny_bind (wpAny_holding (wpAny_truthy_bool (hr'.2 pos y ℓ σ1 v σ' bb he hbb ρ1 s1 cy g1.hr (fo.step hr g1.st) ry))))))
    · rename_i hb
      cases he
      cases hbb
      exact cmpop_sound hb g1.hr (rx.step hr g1.st) ry rfl hu (wpAny_bind (wpAny_release (wpAny_bind (wpAny_holding (wpAny_truthy_bool (TR.pure g1.hr rfl))))))
    · cases he

theorem pe_cmp {l : Expr} {ops : List CmpOp} {cs : List Expr} {pos : Pos} {a : Ex} {r : Ch} (hm : markedEach ops cs (evalEach cs env) = evalEach cs env) (hl : PE K A env c cl l a) (hc : PC K A env c cl ops cs r) :
    PE K A env c cl (.Compare l ops cs pos) (.cmp a r) := by
  intro ℓ σ v σ' he ρ s hr fo
  simp only [evalE] at he
  refine Classical.byContradiction fun hnX => ?_
  obtain ⟨x, σ1, h1, he⟩ := bnd_ok_inv he
  refine hnX ?_
  clear hnX
  show TR K A (do compareChain pos (← eval l env) ops (markedEach ops cs (evalEach cs env))) ρ s σ' _
  rw [hm]
  exact TR.bind (hl ℓ σ x σ1 h1 ρ s hr fo) fun ρ1 cx s1 g1 rx => hc.1 pos x ℓ σ1 v σ' he ρ1 s1 cx g1.hr (fo.step hr g1.st) rx
theorem pt_cmp {l : Expr} {ops : List CmpOp} {cs : List Expr} {pos : Pos} {a : Ex} {r : Ch} (hm : markedEach ops cs (evalEach cs env) = evalEach cs env) (hl : PE K A env c cl l a) (hc : PC K A env c cl ops cs r) :
    PT K A env c cl (.Compare l ops cs pos) (.cmp a r) := by
  intro ℓ σ v σ' b he hb ρ s hr fo
  simp only [evalE] at he
  refine Classical.byContradiction fun hnX => ?_
  obtain ⟨x, σ1, h1, he⟩ := bnd_ok_inv he
  refine hnX ?_
  clear hnX
  show TR K A (do testChain pos (← eval l env) ops (markedEach ops cs (evalEach cs env))) ρ s σ' _
  rw [hm]
  exact TR.bind (hl ℓ σ x σ1 h1 ρ s hr fo) fun ρ1 cx s1 g1 rx => hc.2 pos x ℓ σ1 v σ' b he hb ρ1 s1 cx g1.hr (fo.step hr g1.st) rx

/-- lists of expressions -/
theorem pes_nil : PEs K A env c cl [] .nil := by
  intro pos ℓ σ vs σ' he ρ s hr fo
  cases he
  exact wpAny_items_nil ⟨ρ, Good.refl hr, .nil⟩
theorem pes_cons {e : Expr} {es : List Expr} {a : Ex} {as : Es} (hs : starEach (e :: es) env = (false, eval e env) :: starEach es env) (h : PE K A env c cl e a) (h' : PEs K A env c cl es as) : PEs K A env c cl (e :: es) (.cons a as) := by
  intro pos ℓ σ vs σ' he ρ s hr fo
  simp only [evalEs] at he
  refine Classical.byContradiction fun hnX => ?_
  obtain ⟨v, σ1, h1, he⟩ := bnd_ok_inv he
  refine hnX ?_
  clear hnX
  refine Classical.byContradiction fun hnX => ?_
  obtain ⟨vs', σ2, h2, he⟩ := bnd_ok_inv he
  refine hnX ?_
  clear hnX
  cases he
  refine wpAny_items_cons (wpAny_mono (h ℓ σ v σ1 h1 ρ s hr fo) (fun cv s1 hq => ?_) fun _ _ f => f) hs
  refine Classical.byContradiction fun hnX => ?_
  obtain ⟨ρ1, g1, rv⟩ := hq
  refine hnX ?_
  clear hnX
  refine wpAny_mono (h' pos ℓ σ1 vs' σ' h2 ρ1 s1 g1.hr (fo.step hr g1.st)) (fun cvs s2 hq => ?_) fun _ _ f => f
  refine Classical.byContradiction fun hnX => ?_
  obtain ⟨ρ2, g2, rvs⟩ := hq
  refine hnX ?_
  clear hnX
  exact ⟨ρ2, g1.trans g2, .cons (rv.step g1.hr g2.st) rvs⟩

theorem pe_tup {es : List Expr} {k : Nat} {pos : Pos} {as : Es} (h : PEs K A env c cl es as) : PE K A env c cl (.Tuple es k pos) (.tup as) := by
  intro ℓ σ v σ' he ρ s hr fo
  simp only [evalE] at he
  refine Classical.byContradiction fun hnX => ?_
  obtain ⟨vs, σ1, h1, he⟩ := bnd_ok_inv he
  refine hnX ?_
  clear hnX
  split at he
  · rename_i hl
    cases he
    refine wpAny_Tuple (wpAny_mono (h pos ℓ σ vs σ' h1 ρ s hr fo) (fun cvs s1 hq => ?_) fun _ _ f => f)
    refine Classical.byContradiction fun hnX => ?_
    obtain ⟨ρ1, g1, rvs⟩ := hq
    refine hnX ?_
    clear hnX
    refine ⟨list_len rvs hl, ?_⟩
    refine Classical.byContradiction fun hnX => ?_
    obtain ⟨g, rr⟩ := good_tup g1.hr rvs hl s1.toks
    refine hnX ?_
    clear hnX
    exact ⟨_, g1.trans g, rr⟩
  · cases he
theorem pe_lst {es : List Expr} {pos : Pos} {as : Es} (h : PEs K A env c cl es as) : PE K A env c cl (.List es pos) (.lst as) := by
  intro ℓ σ v σ' he ρ s hr fo
  simp only [evalE] at he
  refine Classical.byContradiction fun hnX => ?_
  obtain ⟨vs, σ1, h1, he⟩ := bnd_ok_inv he
  refine hnX ?_
  clear hnX
  refine Classical.byContradiction fun hnX => ?_
  obtain ⟨hl, rfl, rfl⟩ := mkList_inv (okH_inv he)
  refine hnX ?_
  clear hnX
  refine wpAny_List (wpAny_mono (h pos ℓ σ vs σ1 h1 ρ s hr fo) (fun cvs s1 hq => ?_) fun _ _ f => f)
  refine Classical.byContradiction fun hnX => ?_
  obtain ⟨ρ1, g1, rvs⟩ := hq
  refine hnX ?_
  clear hnX
  refine ⟨list_len rvs hl, ?_⟩
  refine Classical.byContradiction fun hnX => ?_
  obtain ⟨g, rr⟩ := good_list (n := 0) g1.hr rvs hl s1.toks
  refine hnX ?_
  clear hnX
  exact ⟨_, g1.trans g, rr⟩

theorem pe_idx {v i : Expr} {pos : Pos} {a b : Ex} (h : PE K A env c cl v a) (h' : PE K A env c cl i b) : PE K A env c cl (.Subscript v i pos) (.idx a b) := by
  intro ℓ σ w σ' he ρ s hr fo
  simp only [evalE] at he
  refine Classical.byContradiction fun hnX => ?_
  obtain ⟨x, σ1, h1, he⟩ := bnd_ok_inv he
  refine hnX ?_
  clear hnX
  refine Classical.byContradiction fun hnX => ?_
  obtain ⟨y, σ2, h2, he⟩ := bnd_ok_inv he
  refine hnX ?_
  clear hnX
  refine Classical.byContradiction fun hnX => ?_
  obtain ⟨hx, rfl⟩ := okX_inv he
  refine hnX ?_
  clear hnX
  refine Subscript_ (wpAny_mono (h ℓ σ x σ1 h1 ρ s hr fo) (fun cx s1 hq => ?_) fun _ _ f => f)
  refine Classical.byContradiction fun hnX => ?_
  obtain ⟨ρ1, g1, rx⟩ := hq
  refine hnX ?_
  clear hnX
  refine wpAny_mono (h' ℓ σ1 y σ' h2 ρ1 s1 g1.hr (fo.step hr g1.st)) (fun cy s2 hq => ?_) fun _ _ f => f
  refine Classical.byContradiction fun hnX => ?_
  obtain ⟨ρ2, g2, ry⟩ := hq
  refine hnX ?_
  clear hnX
  exact TR.after (g1.trans g2) (getIdx_sound hx g2.hr (rx.step g1.hr g2.st) ry)

theorem po_no : PO K A env c cl none .no := by
  intro ℓ σ v σ' he ρ s hr fo
  cases he
  exact TR.pure hr .none
theorem po_yes {e : Expr} {a : Ex} (h : PE K A env c cl e a) : PO K A env c cl (some e) (.yes a) := fun ℓ σ v σ' he ρ s hr fo => h ℓ σ v σ' he ρ s hr fo

theorem pe_slc {v : Expr} {lo hi st : Option Expr} {p pos : Pos} {a : Ex} {x y z : Oe} (h : PE K A env c cl v a) (hl : PO K A env c cl lo x) (hh : PO K A env c cl hi y) (hs : PO K A env c cl st z) :
    PE K A env c cl (.Subscript v (.Slice lo hi st p) pos) (.slc a x y z) := by
  intro ℓ σ w σ' he ρ s hr fo
  simp only [evalE] at he
  refine Classical.byContradiction fun hnX => ?_
  obtain ⟨o, σ1, h1, he⟩ := bnd_ok_inv he
  refine hnX ?_
  clear hnX
  refine Classical.byContradiction fun hnX => ?_
  obtain ⟨l, σ2, h2, he⟩ := bnd_ok_inv he
  refine hnX ?_
  clear hnX
  refine Classical.byContradiction fun hnX => ?_
  obtain ⟨u, σ3, h3, he⟩ := bnd_ok_inv he
  refine hnX ?_
  clear hnX
  refine Classical.byContradiction fun hnX => ?_
  obtain ⟨t, σ4, h4, he⟩ := bnd_ok_inv he
  refine hnX ?_
  clear hnX
  have he := okH_inv he
  refine Subscript_ (wpAny_mono (h ℓ σ o σ1 h1 ρ s hr fo) (fun cx s1 hq => ?_) fun _ _ f => f)
  refine Classical.byContradiction fun hnX => ?_
  obtain ⟨ρ1, g1, rx⟩ := hq
  refine hnX ?_
  clear hnX
  have fo1 := fo.step hr g1.st
  refine wpAny_Slice (wpAny_mono (hl ℓ σ1 l σ2 h2 ρ1 s1 g1.hr fo1) (fun cl' s2 hq => ?_) fun _ _ f => f)
  refine Classical.byContradiction fun hnX => ?_
  obtain ⟨ρ2, g2, rl⟩ := hq
  refine hnX ?_
  clear hnX
  have fo2 := fo1.step g1.hr g2.st
  refine wpAny_mono (hh ℓ σ2 u σ3 h3 ρ2 s2 g2.hr fo2) (fun cu s3 hq => ?_) fun _ _ f => f
  refine Classical.byContradiction fun hnX => ?_
  obtain ⟨ρ3, g3, ru⟩ := hq
  refine hnX ?_
  clear hnX
  have fo3 := fo2.step g2.hr g3.st
  refine wpAny_mono (hs ℓ σ3 t σ4 h4 ρ3 s3 g3.hr fo3) (fun ct s4 hq => ?_) fun _ _ f => f
  refine Classical.byContradiction fun hnX => ?_
  obtain ⟨ρ4, g4, rt⟩ := hq
  refine hnX ?_
  clear hnX
  have g5 := Good.tmp g4.hr { cls := .type "slice", data := .fields #[cl', cu, ct] } s4.toks
  have r1 := (((rx.step g1.hr g2.st).step g2.hr g3.st).step g3.hr g4.st).step g4.hr g5.st
  have r2 := ((rl.step g2.hr g3.st).step g3.hr g4.st).step g4.hr g5.st
  have r3 := (ru.step g3.hr g4.st).step g4.hr g5.st
  have r4 := rt.step g4.hr g5.st
  exact TR.after ((((g1.trans g2).trans g3).trans g4).trans g5) (slice_sound he g5.hr r1 r2 r3 r4 (Heap.IsSliceOf.new ..))
end
end Mini

/-! Comprehensions. -/
set_option autoImplicit false
namespace Mini
open PySem PyProof.Rows PySem.SeqAt

noncomputable def PI (K : Kx) (A : Around) (env : Env) (c : CEnv) (cl : Cl) (e : Expr) (it : It) : Prop :=
  ∀ ℓ σ src σ', evalIt cl it ℓ σ = some (.ok src, σ') → ∀ ρ s, HR K ρ σ s.heap → FO K env c ℓ ρ s.heap →
    wpAny K.M A (eval e env) (fun x s1 => wpAny K.M A (pyIter x) (fun itv s2 => ∃ ρ' I k, itv = .ref I ∧ Good K ρ s ρ' σ' s2 ∧ ItOK K ρ' I 0 s2.heap src k ∧ src.keep σ' ∧ s.heap.get? I = none) (fun _ _ => False) s1) (fun _ _ => False) s

noncomputable def PF (K : Kx) (A : Around) (env : Env) (c : CEnv) (cl : Cl) (es : List Expr) (a : Es) : Prop :=
  ∀ ℓ σ b σ', evalIfs cl a ℓ σ = some (.ok b, σ') → ∀ ρ s, HR K ρ σ s.heap → FO K env c ℓ ρ s.heap →
    TR K A (forIn es true fun c r => if r = true then do let ok ← isTrue c env (eval c env); pure (ForInStep.yield ok) else pure (ForInStep.yield r)) ρ s σ' fun _ r _ => r = b

section
variable {K : Kx} {A : Around} {env : Env} {c : CEnv} {cl : Cl} {T : Tabs}

theorem Good.back {ρ ρ' : List Addr} {σ' : H} {s s' : Shared} (g : Good K ρ s ρ' σ' s') {a : Addr} (h : s'.heap.get? a = none) : s.heap.get? a = none := by
  cases e : s.heap.get? a with
  | none => rfl
  | some o =>
    by_cases ha : a ∈ ρ
    · have : a ∈ ρ' := g.st.pre.subset ha
      refine Classical.byContradiction fun hnX => ?_
      obtain ⟨ob, e', _⟩ := g.hr.at_ this
      refine hnX ?_
      clear hnX
      rw [h] at e'; cases e'
    · have := g.st.fr a o e ha
      rw [h] at this; cases this

theorem pi_ex {e : Expr} {a : Ex} (h : PE K A env c cl e a) : PI K A env c cl e (.ex a) := by
  intro ℓ σ src σ' he ρ s hr fo
  simp only [evalIt] at he
  refine Classical.byContradiction fun hnX => ?_
  obtain ⟨x, σ1, h1, he⟩ := bnd_ok_inv he
  refine hnX ?_
  clear hnX
  refine wpAny_mono (h ℓ σ x σ1 h1 ρ s hr fo) (fun cx s1 hq => ?_) fun _ _ f => f
  refine Classical.byContradiction fun hnX => ?_
  obtain ⟨ρ1, g1, rx⟩ := hq
  refine hnX ?_
  clear hnX
  have e1 : σ' = σ1 := by
    cases x <;> simp at he
    · exact he.2.symm
    · split at he
      · cases he; rfl
      · cases he
    · exact he.2.symm
  subst e1
  refine it_make (x := x) (src := src) ?_ g1.hr rx fun h' k g ok hk => ⟨ρ1, _, k, rfl, g1.trans g, ok, hk, g1.back (get?_size _)⟩
  cases x <;> exact he

theorem pf_nil : PF K A env c cl [] .nil := by
  intro ℓ σ b σ' he ρ s hr fo
  cases he
  exact wpAny_tests_nil ⟨ρ, Good.refl hr, rfl⟩
theorem pf_false (es : List Expr) {ρ : List Addr} {σ : H} {s : Shared} (hr : HR K ρ σ s.heap) :
    TR K A (forIn es false fun c r => if r = true then do let ok ← isTrue c env (eval c env); pure (ForInStep.yield ok) else pure (ForInStep.yield r)) ρ s σ fun _ r _ => r = false := by
  induction es with
  | nil => exact TR.pure hr rfl
  | cons e es ih => rw [List.forIn_cons]; simp only [Bool.false_eq_true, if_false, pure_bind]; exact ih
theorem pf_cons {e : Expr} {es : List Expr} {a : Ex} {as : Es} (h : PT K A env c cl e a) (h' : PF K A env c cl es as) : PF K A env c cl (e :: es) (.cons a as) := by
  intro ℓ σ b σ' he ρ s hr fo
  simp only [evalIfs] at he
  refine Classical.byContradiction fun hnX => ?_
  obtain ⟨v, σ1, h1, he⟩ := bnd_ok_inv he
  refine hnX ?_
  clear hnX
  rw [List.forIn_cons]
  simp only [if_true, bind_assoc, pure_bind]
  split at he
  · rename_i hv
    refine TR.bind (h ℓ σ v σ1 true h1 hv ρ s hr fo) fun ρ1 q s1 g1 e => ?_
    subst e
    exact h' ℓ σ1 b σ' he ρ1 s1 g1.hr (fo.step hr g1.st)
  · rename_i hv
    cases he
    refine TR.bind (h ℓ σ v σ' false h1 hv ρ s hr fo) fun ρ1 q s1 g1 e => ?_
    subst e
    exact pf_false es g1.hr
  · cases he

/-- the closure of a comprehension -/
noncomputable def closOf (env : Env) : List (Str × NameKind) → List (Str × Addr) → List (Str × Addr)
  | [], acc => acc
  | (n, k) :: r, acc => closOf env r (if k == .free then (n, (env.cells.lookup n).getD 0) :: acc else acc)

theorem closureFor_eq (env : Env) (sc : Scope) (h : ∀ n, (n, NameKind.free) ∈ sc.names → (env.cells.lookup n).isSome = true) : closureFor sc env = pure (closOf env sc.names []) := by
  have key : ∀ (l : List (Str × NameKind)) (acc : List (Str × Addr)), (∀ n, (n, NameKind.free) ∈ l → (env.cells.lookup n).isSome = true) →
      (forIn l acc fun x cs => if x.2 == NameKind.free then do let a ← cellOf env x.1; pure (ForInStep.yield ((x.1, a) :: cs)) else pure (ForInStep.yield cs) : Sem (List (Str × Addr))) = pure (closOf env l acc) := by
    intro l
    induction l with
    | nil => intro acc _; rfl
    | cons p l ih =>
      intro acc hp
      refine Classical.byContradiction fun hnX => ?_
      obtain ⟨n, k⟩ := p
      refine hnX ?_
      clear hnX
      rw [List.forIn_cons]
      simp only [closOf]
      by_cases hk : k = .free
      · subst hk
        refine Classical.byContradiction fun hnX => ?_
        obtain ⟨a, ha⟩ := Option.isSome_iff_exists.mp (hp n List.mem_cons_self)
        refine hnX ?_
        clear hnX
        have hc : cellOf env n = pure a := by unfold cellOf; rw [ha]
        simp only [beq_self_eq_true, if_true, hc, pure_bind, ha, Option.getD_some]
        exact ih _ fun m hm => hp m (List.mem_cons_of_mem _ hm)
      · have hb : (k == NameKind.free) = false := by simpa using hk
        simp only [hb, Bool.false_eq_true, if_false, pure_bind]
        exact ih _ fun m hm => hp m (List.mem_cons_of_mem _ hm)
  have := key sc.names [] h
  unfold closureFor
  simp only [bind_pure]
  rw [← this]

theorem closOf_mem {x : Str} {a : Addr} : ∀ {l : List (Str × NameKind)} {acc : List (Str × Addr)}, (x, a) ∈ closOf env l acc → (x, a) ∈ acc ∨ ((x, NameKind.free) ∈ l ∧ a = (env.cells.lookup x).getD 0)
  | [], acc, h => .inl h
  | (n, k) :: r, acc, h => by
    rcases closOf_mem (l := r) h with h | h
    · split at h
      · rename_i hk
        rcases List.mem_cons.mp h with e | h
        · cases e; right; exact ⟨by rw [← beq_iff_eq.mp hk]; exact List.mem_cons_self, rfl⟩
        · exact .inl h
      · exact .inl h
    · exact .inr ⟨List.mem_cons_of_mem _ h.1, h.2⟩

theorem closOf_lookup {x : Str} : ∀ {l : List (Str × NameKind)} {acc : List (Str × Addr)}, ((x, NameKind.free) ∈ l ∨ acc.lookup x = some ((env.cells.lookup x).getD 0)) → (closOf env l acc).lookup x = some ((env.cells.lookup x).getD 0)
  | [], acc, h => by
    rcases h with h | h
    · cases h
    · exact h
  | (n, k) :: r, acc, h => by
    simp only [closOf]
    apply closOf_lookup (l := r)
    by_cases hr : (x, NameKind.free) ∈ r
    · exact .inl hr
    · right
      by_cases hk : k = .free
      · subst hk
        simp only [beq_self_eq_true, if_true, List.lookup_cons]
        cases hx : x == n with
        | true => simp only; rw [beq_iff_eq.mp hx]
        | false =>
          simp only
          rcases h with h | h
          · rcases List.mem_cons.mp h with e | h
            · cases e; simp at hx
            · exact absurd h hr
          · exact h
      · have hb : (k == NameKind.free) = false := by simpa using hk
        simp only [hb, Bool.false_eq_true, if_false]
        rcases h with h | h
        · rcases List.mem_cons.mp h with e | h
          · cases e; exact absurd rfl hk
          · exact absurd h hr
        · exact h

theorem nodup_lookup {α : Type} : ∀ {l : List (Str × α)} {x : Str} {a : α}, (l.map (·.1)).Nodup → (x, a) ∈ l → l.lookup x = some a
  | (n, b) :: r, x, a, hn, h => by
    rw [List.lookup_cons]
    rcases List.mem_cons.mp h with e | h'
    · cases e; simp
    · have hne : x ≠ n := by
        intro e
        rw [List.map_cons, List.nodup_cons] at hn
        exact hn.1 (List.mem_map.mpr ⟨_, h', e⟩)
      have : (x == n) = false := by simpa using hne
      rw [this]
      rw [List.map_cons, List.nodup_cons] at hn
      exact nodup_lookup hn.2 h'

structure CompOK (c : CEnv) (sc : Scope) : Prop where
  kind : sc.kind = .function
  nd : (sc.names.map (·.1)).Nodup
  nocell : ∀ p ∈ sc.names, p.2 ≠ .cell
  frees : ∀ n, (n, NameKind.free) ∈ sc.names → c.names.lookup n = some .cell
theorem compOK_of {sc : Scope} (h : compOK c sc = true) : CompOK c sc := by
  simp only [compOK, Bool.and_eq_true, decide_eq_true_eq, List.all_eq_true, beq_iff_eq] at h
  refine Classical.byContradiction fun hnX => ?_
  obtain ⟨⟨⟨⟨h1, _⟩, _⟩, h2⟩, h3⟩ := h
  refine hnX ?_
  clear hnX
  refine ⟨h1, h2, fun p hp e => ?_, fun n hn => ?_⟩
  · have := (h3 p hp).1; rw [e] at this; simp at this
  · have := (h3 _ hn).2; simpa using this

/-- a name that the block takes from outside is a cell there; its own are local -/
theorem compNames_mem {sc : Scope} (ok : CompOK c sc) {x : Str} {k : NameKind} (h : (x, k) ∈ compNames c sc) : (k = .cell ∧ (x, NameKind.free) ∈ sc.names) ∨ (k ≠ .cell ∧ (x, k) ∈ sc.names) := by
  unfold compNames at h
  refine Classical.byContradiction fun hnX => ?_
  obtain ⟨⟨n, k'⟩, h1, h2⟩ := List.mem_map.mp h
  refine hnX ?_
  clear hnX
  simp only at h2
  split at h2
  · rename_i hc
    simp only [Bool.and_eq_true, beq_iff_eq] at hc
    cases h2
    exact .inl ⟨rfl, hc.1 ▸ h1⟩
  · cases h2
    exact .inr ⟨ok.nocell _ h1, h1⟩
theorem compNames_keys (sc : Scope) : (compNames c sc).map (·.1) = sc.names.map (·.1) := by
  unfold compNames
  rw [List.map_map]
  apply List.map_congr_left
  intro hX0 _
  refine Classical.byContradiction fun hnX => ?_
  obtain ⟨n, k⟩ := hX0
  refine hnX ?_
  clear hnX
  simp only [Function.comp]
  split <;> rfl

theorem own_lookup {x : Str} {i : Nat} {n0 : Nat} {l : List (Str × NameKind)} (h : (x, i) ∈ l.zipIdx.map fun p => (p.1.1, n0 + p.2)) : ∃ j k, i = n0 + j ∧ j < l.length ∧ l[j]? = some (x, k) := by
  refine Classical.byContradiction fun hnX => ?_
  obtain ⟨⟨⟨n, k⟩, j⟩, h1, h2⟩ := List.mem_map.mp h
  refine hnX ?_
  clear hnX
  cases h2
  refine Classical.byContradiction fun hnX => ?_
  obtain ⟨h3, h4⟩ := List.mem_zipIdx' h1
  refine hnX ?_
  clear hnX
  exact ⟨j, k, rfl, h3, by rw [List.getElem?_eq_getElem h3, ← h4]⟩

theorem lookup_append {α : Type} {l l' : List (Str × α)} {x : Str} : (l ++ l').lookup x = match l.lookup x with | some a => some a | .none => l'.lookup x := by
  induction l with
  | nil => rfl
  | cons p l ih =>
    refine Classical.byContradiction fun hnX => ?_
    obtain ⟨n, a⟩ := p
    refine hnX ?_
    clear hnX
    rw [List.cons_append, List.lookup_cons, List.lookup_cons]
    cases x == n <;> simp [ih]

/-- where a name's slot comes from -/
theorem compSlots_inv {sc : Scope} {x : Str} {i : Nat} (h : (compSlots c sc).lookup x = some i) :
    (∃ j, i = c.next + j ∧ j < (sc.names.filter fun p => p.2 == .local).length ∧ (sc.names.filter fun p => p.2 == .local)[j]? = some (x, .local)) ∨ ((x, NameKind.free) ∈ sc.names ∧ c.slots.lookup x = some i) := by
  have hm := mem_of_lookup h
  unfold compSlots at hm
  rcases List.mem_append.mp hm with hm | hm
  · refine Classical.byContradiction fun hnX => ?_
    obtain ⟨j, k, rfl, h1, h2⟩ := own_lookup hm
    refine hnX ?_
    clear hnX
    left
    have hk : k = .local := by
      have := List.mem_filter.mp (List.mem_of_getElem? h2)
      simpa using this.2
    subst hk
    exact ⟨j, rfl, h1, h2⟩
  · right
    refine Classical.byContradiction fun hnX => ?_
    obtain ⟨⟨n, k⟩, h1, h2⟩ := List.mem_filterMap.mp hm
    refine hnX ?_
    clear hnX
    simp only at h2
    split at h2
    · rename_i hc
      simp only [Bool.and_eq_true, beq_iff_eq] at hc
      refine Classical.byContradiction fun hnX => ?_
      obtain ⟨j, hj, e⟩ := Option.map_eq_some_iff.mp h2
      refine hnX ?_
      clear hnX
      cases e
      exact ⟨hc.1 ▸ h1, hj⟩
    · cases h2

/-- the block's frame at its start -/
theorem comp_FO {ℓ : L} {ρ : List Addr} {sc : Scope} {C : Addr} {h : Heap} (fo : FO K env c ℓ ρ h) (ok : CompOK c sc) (hC : h.Ns C fun _ => none) (hCρ : C ∉ ρ) (hC0 : K.h0.get? C = none) (hCn : ∀ x a, (x, a) ∈ env.cells → a ≠ C) :
    FO K (compEnvC sc (closOf env sc.names []) C env) (compC c sc) ℓ ρ h := by
  have hnames : (relabel sc env).names = compNames c sc := by
    unfold relabel compNames
    apply List.map_congr_left
    intro hX0 _
    refine Classical.byContradiction fun hnX => ?_
    obtain ⟨n, k⟩ := hX0
    refine hnX ?_
    clear hnX
    simp only [fo.kind, show env.kindOf n = c.names.lookup n from by unfold Env.kindOf; rw [fo.names], beq_self_eq_true, Bool.and_true]
  have hmem : ∀ x a, (x, a) ∈ closOf env sc.names [] → (x, NameKind.free) ∈ sc.names ∧ env.cells.lookup x = some a := by
    intro x a hm
    rcases closOf_mem hm with h | ⟨h1, h2⟩
    · cases h
    · refine Classical.byContradiction fun hnX => ?_
      obtain ⟨a', _, h3, _⟩ := fo.cell x (ok.frees x h1)
      refine hnX ?_
      clear hnX
      rw [h3] at h2; simp at h2
      exact ⟨h1, by rw [h2]; exact h3⟩
  refine ⟨ok.kind, hnames, fo.glob, fo.blts, ⟨_, hC, fun x i v h1 h2 h3 => ?_⟩, fun x hx => ?_, fun x y i h1 h2 => ?_, fun x y a h1 h2 => ?_, ⟨hCρ, hC0⟩, fun i v hi => ?_, fun x i hx => ?_, fun x a hx => ?_⟩
  · exfalso
    rcases compSlots_inv h2 with ⟨j, rfl, _, _⟩ | ⟨hf, _⟩
    · exact fo.free _ v (by exact Lin.lin [] (.le (.v 0) (.a (.v 0) (.v 1))) (.l [1]) rfl [_, _] []) h3
    · have hc : (x, NameKind.cell) ∈ compNames c sc := by
        unfold compNames
        refine List.mem_map.mpr ⟨_, hf, ?_⟩
        simp [ok.frees x hf]
      have := nodup_lookup (by rw [compNames_keys]; exact ok.nd) hc
      have h1' : (compNames c sc).lookup x = some .local := h1
      rw [this] at h1'; cases h1'
  · have hx' : (compNames c sc).lookup x = some .cell := hx
    rcases compNames_mem ok (mem_of_lookup hx') with ⟨_, hf⟩ | ⟨hne, _⟩
    · refine Classical.byContradiction fun hnX => ?_
      obtain ⟨a, o, h1, h2, h3⟩ := fo.cell x (ok.frees x hf)
      refine hnX ?_
      clear hnX
      refine ⟨a, o, ?_, h2, fun i v g1 g2 => ?_⟩
      · have := closOf_lookup (env := env) (acc := []) (.inl hf)
        rw [h1] at this; exact this
      · rcases compSlots_inv g1 with ⟨j, rfl, _, g3⟩ | ⟨_, g3⟩
        · exact absurd g2 (fo.free _ v (by exact Lin.lin [] (.le (.v 0) (.a (.v 0) (.v 1))) (.l [1]) rfl [_, _] []))
        · exact h3 i v g3 g2
    · exact absurd rfl hne
  · rcases compSlots_inv h1 with ⟨j, rfl, b1, g1⟩ | ⟨f1, g1⟩ <;> rcases compSlots_inv h2 with ⟨j', e', b2, g2⟩ | ⟨f2, g2⟩
    · have : j = j' := by exact Lin.lin [(.eq (.a (.v 2) (.v 0)) (.a (.v 2) (.v 1)))] (.eq (.v 0) (.v 1)) (.s (.l [1, 0, 1]) (.l [1, 1])) rfl [_, _, _] [] e'
      subst this
      rw [g1] at g2; cases g2; rfl
    · have := fo.lt _ _ g2; lia
    · have := fo.lt _ _ g1; lia
    · exact fo.inj x y i g1 g2
  · exact fo.capart x y a (mem_of_lookup (hmem x a h1).2) (mem_of_lookup (hmem y a h2).2)
  · have : c.next ≤ i := by have hi' : c.next + (sc.names.filter fun p => p.2 == .local).length ≤ i := hi; lia
    exact fo.free i v this
  · show i < c.next + (sc.names.filter fun p => p.2 == .local).length
    rcases compSlots_inv hx with ⟨j, rfl, b1, _⟩ | ⟨_, g1⟩
    · exact Lin.lin [(.lt (.v 1) (.v 2))] (.lt (.a (.v 0) (.v 1)) (.a (.v 0) (.v 2))) (.l [1, 1]) rfl [_, _, _] [] b1
    · have := fo.lt _ _ g1; lia
  · have hl := (hmem x a hx).2
    refine Classical.byContradiction fun hnX => ?_
    obtain ⟨g1, g2, _, g4⟩ := fo.cnew x a (mem_of_lookup hl)
    refine hnX ?_
    clear hnX
    exact ⟨g1, g2, hCn x a (mem_of_lookup hl), g4⟩
end
end Mini

/-! The loop of a comprehension. -/
set_option autoImplicit false
namespace Mini
open PySem PyProof.Rows PySem.SeqAt

section
variable {K : Kx} {A : Around} {env : Env} {c : CEnv} {cl : Cl} {T : Tabs}

theorem list_ne_tup {cvs ws : List Value} {m : Nat} (h : some (listObj cvs m) = some (tupObj ws)) : False := by
  have h1 := congrArg (fun o => o.map Obj.cls) h
  exact absurd (Option.some.inj h1) (show ¬ Value.type "list" = Value.type "tuple" by decide)

theorem FO.but {ℓ : L} {ρ : List Addr} {h h' : Heap} {I : Addr} (fo : FO K env c ℓ ρ h) (hI : I ≠ env.locals) (hIc : ∀ x a, (x, a) ∈ env.cells → a ≠ I) (hnt : ∀ vs, h.get? I ≠ some (tupObj vs)) (hk : ∀ b o, b ≠ I → h.get? b = some o → h'.get? b = some o) : FO K env c ℓ ρ h' := by
  refine ⟨fo.kind, fo.names, fo.glob, fo.blts, ?_, fun x hx => ?_, fo.inj, fo.capart, fo.lnew, fo.free, fo.lt, fun x a hx => ?_⟩
  · refine Classical.byContradiction fun hnX => ?_
    obtain ⟨m, hn, hm⟩ := fo.ns
    refine hnX ?_
    clear hnX
    exact ⟨m, Ns.at hn fun o e => hk _ _ (fun e' => hI e'.symm) e, fun x i v h1 h2 h3 => let ⟨cv, g1, g2⟩ := hm x i v h1 h2 h3; ⟨cv, g1, g2.but hnt hk⟩⟩
  · refine Classical.byContradiction fun hnX => ?_
    obtain ⟨a, o, g1, g2, g3⟩ := fo.cell x hx
    refine hnX ?_
    clear hnX
    exact ⟨a, o, g1, IsCell.at g2 fun o e => hk _ _ (hIc x a (mem_of_lookup g1)) e, fun i v h1 h2 => let ⟨cv, e1, e2⟩ := g3 i v h1 h2; ⟨cv, e1, e2.but hnt hk⟩⟩
  · refine Classical.byContradiction fun hnX => ?_
    obtain ⟨g1, g2, g3, o, g4, g5⟩ := fo.cnew x a hx
    refine hnX ?_
    clear hnX
    exact ⟨g1, g2, g3, o, hk _ _ (hIc x a hx) g4, g5⟩

theorem StepX.weaken {X Y ρ ρ' : List Addr} {s s' : Shared} (x : StepX X ρ s ρ' s') (h : ∀ a ∈ X, a ∈ Y) : StepX Y ρ s ρ' s' := ⟨x.pre, fun b o e h1 h2 => x.fr b o e h1 fun h3 => h2 (h b h3), x.fresh, x.gens, x.os⟩
theorem StepX.one {I : Addr} {ρ : List Addr} {s : Shared} {h' : Heap} {t : Nat} (hk : ∀ b o, b ≠ I → s.heap.get? b = some o → h'.get? b = some o) : StepX [I] ρ s ρ { s with heap := h', toks := t } :=
  ⟨List.prefix_refl _, fun b o e _ hb => hk b o (fun e' => hb (by rw [e']; exact List.mem_cons_self)) e, fun _ h => .inl h, rfl, rfl⟩

/-- what stands between two turns -/
structure CInv (K : Kx) (cenv : Env) (c' : CEnv) (src : Src) (k : ItK) (body : L → H → X (Option V)) (tg : Nat) (vs : List V) (σ2 : H) (ρ2 : List Addr) (s4 : Shared) (I D C : Addr) (i : Nat) (s : Shared) (ρ' : List Addr) (σ' : H) (acc : List V) (ℓ' : L)
    (cacc : List Value) (m : Nat) : Prop where
  run : compL body tg src.keep (src.vs.drop i) acc ℓ' σ' = some (.ok vs, σ2)
  hr : HR K ρ' σ' s.heap
  st : StepX [I, D, C] ρ2 s4 ρ' s
  it : ItOK K ρ' I i s.heap src k
  keep : src.keep σ'
  d : s.heap.get? D = some (listObj cacc m)
  rv : RVs K ρ' s.heap acc cacc
  len : acc.length ≤ lenMax
  off : D ∉ ρ'
  fo : FO K cenv c' ℓ' ρ' s.heap
  le : i ≤ src.vs.length

theorem compL_nil {body : L → H → X (Option V)} {tg : Nat} {keep : H → Prop} {acc : List V} {ℓ : L} {σ : H} {vs : List V} {σ2 : H} (h : compL body tg keep [] acc ℓ σ = some (.ok vs, σ2)) : vs = acc ∧ σ2 = σ := by
  simp [compL] at h; exact ⟨h.1.symm, h.2.symm⟩
theorem compL_cons {body : L → H → X (Option V)} {tg : Nat} {keep : H → Prop} {v : V} {r acc : List V} {ℓ : L} {σ : H} {vs : List V} {σ2 : H} (h : compL body tg keep (v :: r) acc ℓ σ = some (.ok vs, σ2)) :
    ∃ ℓ1 y σ1, setL ℓ tg v = some ℓ1 ∧ body ℓ1 σ = some (.ok y, σ1) ∧ keep σ1 ∧ acc.length < lenMax ∧ compL body tg keep r (match y with | some w => acc ++ [w] | .none => acc) ℓ1 σ1 = some (.ok vs, σ2) := by
  simp only [compL] at h
  split at h
  · cases h
  · rename_i ℓ1 h1
    split at h
    · rename_i y σ1 h2
      split at h
      · rename_i hc; exact ⟨ℓ1, y, σ1, h1, h2, hc.1, hc.2, h⟩
      · cases h
    · cases h

theorem comp_loop {elt iter : Expr} {x : Str} {px pos : Pos} {ifs : List Expr} {sc : Scope} {cenv : Env} {c' : CEnv} {a : Ex} {fs : Es} {tg : Nat} {src : Src} {k : ItK} {vs : List V} {σ2 : H} {ρ2 : List Addr} {s4 : Shared} {I D C : Addr}
    (hh : A.handled = none) (hx : cVar c' x = some tg) (hxl : c'.names.lookup x = some .local) (hcC : cenv.locals = C) (hID : I ≠ D) (hIC : I ≠ C) (hDC : D ≠ C) (hcells : ∀ y b, (y, b) ∈ cenv.cells → b ≠ I ∧ b ≠ D)
    (hD0 : K.h0.get? D = none) (hs4 : ∀ b ∈ [I, D, C], ∃ o, s4.heap.get? b = some o)
    (he : PE K A cenv c' cl elt a) (hf : PF K A cenv c' cl ifs fs) {RR : Shared → Prop}
    (hend : ∀ s ρ' cacc m, HR K ρ' σ2 s.heap → StepX [I, D, C] ρ2 s4 ρ' s → s.heap.get? D = some (listObj cacc m) → RVs K ρ' s.heap vs cacc → vs.length ≤ lenMax → D ∉ ρ' → (∃ m', s.heap.Ns C m') → RR s)
    {E' : Value → Shared → Prop} :
    ∀ (i : Nat) (s : Shared) (ρ' : List Addr) (σ' : H) (acc : List V) (ℓ' : L) (cacc : List Value) (m : Nat),
      CInv K cenv c' src k (fun ℓ' σ' => bnd (evalIfs cl fs ℓ' σ') fun b σ2 => if b then bnd (evalE cl a ℓ' σ2) fun v σ3 => some (.ok (some v), σ3) else some (.ok .none, σ2)) tg vs σ2 ρ2 s4 I D C i s ρ' σ' acc ℓ' cacc m →
      codeAny K.M A (.compLoop (.ListComp elt [⟨.Name x px, iter, ifs, 0⟩] sc pos) 0 (.ref I) (.ref D) cenv) (fun r s' => match r with | .ok f => f = .next ∧ RR s' | .error e => E' e s') s := by
  intro i s ρ' σ' acc ℓ' cacc m inv
  refine codeAny_compLoop_tests (fun n s => ∃ i ρ' σ' acc ℓ' cacc m, n = src.vs.length - i ∧ CInv K cenv c' src k _ tg vs σ2 ρ2 s4 I D C i s ρ' σ' acc ℓ' cacc m) (fun n s hI => ?_) _ ⟨i, ρ', σ', acc, ℓ', cacc, m, rfl, inv⟩
  clear inv i ρ' σ' acc ℓ' cacc m
  refine Classical.byContradiction fun hnX => ?_
  obtain ⟨i, ρ', σ', acc, ℓ', cacc, m, hn, inv⟩ := hI
  refine hnX ?_
  clear hnX
  have hDnt : ∀ ws, s.heap.get? D ≠ some (tupObj ws) := by intro ws e; rw [inv.d] at e; exact list_ne_tup e
  rcases Nat.lt_or_ge i src.vs.length with hi | hi
  · -- one more
    have hdrop : src.vs.drop i = src.vs[i] :: src.vs.drop (i + 1) := List.drop_eq_getElem_cons hi
    have hrun := inv.run
    rw [hdrop] at hrun
    refine Classical.byContradiction fun hnX => ?_
    obtain ⟨ℓ1, y, σb, hset, hbody, hkb, hlen, hrun⟩ := compL_cons hrun
    refine hnX ?_
    clear hnX
    refine it_next hh inv.it inv.hr inv.keep (v := src.vs[i]) (List.getElem?_eq_getElem hi) fun cv h1 tk1 hk1 hr1 rv1 it1 => ?_
    have hInt := inv.it.not_tup
    have foA : FO K cenv c' ℓ' ρ' h1 := inv.fo.but (by rw [hcC]; exact hIC) (fun y b hy => (hcells y b hy).1) hInt hk1
    have dA : h1.get? D = some (listObj cacc m) := hk1 _ _ (fun e => hID e.symm) inv.d
    have rvA : RVs K ρ' h1 acc cacc := inv.rv.but hInt hk1
    have hex : ∀ b ∈ [I, D, C], ∃ o, s.heap.get? b = some o := by
      intro b hb
      simp only [List.mem_cons, List.not_mem_nil, or_false] at hb
      rcases hb with rfl | rfl | rfl
      · refine Classical.byContradiction fun hnX => ?_
        obtain ⟨o, e, _⟩ := inv.it.st.obj
        refine hnX ?_
        clear hnX
        exact ⟨o, e⟩
      · exact ⟨_, inv.d⟩
      · refine Classical.byContradiction fun hnX => ?_
        obtain ⟨m', hn', _⟩ := inv.fo.ns
        refine hnX ?_
        clear hnX
        rw [hcC] at hn'; exact Ns.ex hn'
    have stA : StepX [I, D, C] ρ2 s4 ρ' { s with heap := h1, toks := tk1 } := inv.st.trans ((StepX.one hk1).weaken (by simp)) hex
    refine wpAny_assign_Name (store_sound (s := { s with heap := h1, toks := tk1 }) foA hr1 hx hset rv1 fun sB b hb hrB stB foB => ?_)
    have hbC : b = C := by
      rcases hb with h | ⟨h, _⟩
      · rw [h, hcC]
      · rw [hxl] at h; cases h
    subst hbC
    refine Classical.byContradiction fun hnX => ?_
    obtain ⟨mC, hnC, _⟩ := foA.ns
    refine hnX ?_
    clear hnX
    rw [hcC] at hnC
    have hCnt := Ns.not_tup hnC
    have hkB : ∀ z o, z ≠ b → h1.get? z = some o → z ∉ ρ' → sB.heap.get? z = some o := fun z o hz e hzr => stB.fr z o e hzr (by simpa using hz)
    have tupB : ∀ z ws, h1.get? z = some (tupObj ws) → sB.heap.get? z = some (tupObj ws) := fun z ws e => hkB z _ (by rintro rfl; exact hCnt _ e) e fun hz => by
      refine Classical.byContradiction fun hnX => ?_
      obtain ⟨ob, e', hc⟩ := hr1.at_ hz
      refine hnX ?_
      clear hnX
      rw [e] at e'; cases e'; exact hc rfl
    have dB : sB.heap.get? D = some (listObj cacc m) := hkB D _ hDC dA inv.off
    have rvB : RVs K ρ' sB.heap acc cacc := rvA.mono (List.prefix_refl _) tupB
    have itB : ItOK K ρ' I (i + 1) sB.heap src k := by
      refine Classical.byContradiction fun hnX => ?_
      obtain ⟨o, eo, _⟩ := it1.st.obj
      refine hnX ?_
      clear hnX
      have hIB : ∀ o, h1.get? I = some o → sB.heap.get? I = some o := fun o e => hkB I o hIC e it1.off
      refine ⟨?_, ?_, it1.off, it1.new⟩
      · have h := it1.st
        cases k with
        | list n ax => obtain ⟨g1, o, e, g2⟩ := h; exact ⟨g1, o, hIB _ e, g2⟩
        | tup ax cvs => obtain ⟨⟨o, e, g2⟩, g3⟩ := h; exact ⟨⟨o, hIB _ e, g2⟩, tupB _ _ g3⟩
        | frz ax cvs m => obtain ⟨⟨o, e, g2⟩, g3⟩ := h; exact ⟨⟨o, hIB _ e, g2⟩, g3⟩
        | rng a m => exact hIB _ h
      · have h := it1.v
        cases k with
        | list n ax => exact h
        | tup ax cvs => exact ⟨h.1.mono (List.prefix_refl _) tupB, h.2⟩
        | frz ax cvs m => exact ⟨h.1.mono (List.prefix_refl _) tupB, h.2⟩
        | rng a m => exact h
    have hexA : ∀ z ∈ [I, D, b], ∃ o, h1.get? z = some o := by
      intro z hz
      simp only [List.mem_cons, List.not_mem_nil, or_false] at hz
      rcases hz with rfl | rfl | rfl
      · refine Classical.byContradiction fun hnX => ?_
        obtain ⟨o, e, _⟩ := it1.st.obj
        refine hnX ?_
        clear hnX
        exact ⟨o, e⟩
      · exact ⟨_, dA⟩
      · exact Ns.ex hnC
    have stB' : StepX [I, D, b] ρ2 s4 ρ' sB := stA.trans (stB.weaken (by simp)) hexA
    have hexB : ∀ z ∈ [I, D, b], ∃ o, sB.heap.get? z = some o := by
      intro z hz
      simp only [List.mem_cons, List.not_mem_nil, or_false] at hz
      rcases hz with rfl | rfl | rfl
      · refine Classical.byContradiction fun hnX => ?_
        obtain ⟨o, e, _⟩ := itB.st.obj
        refine hnX ?_
        clear hnX
        exact ⟨o, e⟩
      · exact ⟨_, dB⟩
      · refine Classical.byContradiction fun hnX => ?_
        obtain ⟨m', hn', _⟩ := foB.ns
        refine hnX ?_
        clear hnX
        rw [hcC] at hn'; exact Ns.ex hn'
    refine Classical.byContradiction fun hnX => ?_
    obtain ⟨bb, σt, ht, hbody⟩ := bnd_ok_inv hbody
    refine hnX ?_
    clear hnX
    refine wpAny_mono (hf ℓ1 σ' bb σt ht ρ' sB hrB foB) (fun q sC hq => ?_) fun _ _ f => f.elim
    refine Classical.byContradiction fun hnX => ?_
    obtain ⟨ρ1, gC, rfl⟩ := hq
    refine hnX ?_
    clear hnX
    have foC := foB.step hrB gC.st
    have dC : sC.heap.get? D = some (listObj cacc m) := gC.st.fr _ _ dB inv.off
    have offC : D ∉ ρ1 := fun hm => by
      rcases gC.st.fresh D hm with h | h
      · exact inv.off h
      · rw [dB] at h; cases h
    have stC : StepX [I, D, b] ρ2 s4 ρ1 sC := stB'.trans (gC.st.toX _) hexB
    cases q with
    | false =>
      simp only [Bool.false_eq_true, if_false] at hbody ⊢
      cases hbody
      refine ⟨src.vs.length - (i + 1), by exact Lin.lin [(.eq (.v 1) (.v 2)), (.lt (.v 3) (.v 4)), (.or (.an (.le (.v 3) (.v 4)) (.eq (.a (.v 2) (.v 3)) (.v 4))) (.an (.le (.v 4) (.v 3)) (.eq (.v 2) (.k 0)))), (.or (.an (.le (.a (.v 3) (.k 1)) (.v 4)) (.eq (.a (.v 0) (.a (.v 3) (.k 1))) (.v 4))) (.an (.le (.v 4) (.a (.v 3) (.k 1))) (.eq (.v 0) (.k 0))))] (.lt (.v 0) (.v 1)) (.s (.s (.l [1, 0, 1, 0, 0, 0, 1, 0, 1]) (.l [1, 0, 1, 1, 0, 0, 1, 0, 1])) (.s (.l [0, 0, 0, 1, 1]) (.l [0, 0, 0, 1, 1]))) rfl [_, _, _, _, _] [] hn hi (Lin.sub_ax _ _) (Lin.sub_ax _ _), i + 1, ρ1, _, acc, ℓ1, cacc, m, rfl, ⟨hrun, gC.hr, stC, itB.step hrB gC.st, hkb, dC, rvB.step hrB gC.st, inv.len, offC, foC, hi⟩⟩
    | true =>
      simp only [if_true] at hbody ⊢
      refine Classical.byContradiction fun hnX => ?_
      obtain ⟨w, σe, hw, hbody⟩ := bnd_ok_inv hbody
      refine hnX ?_
      clear hnX
      cases hbody
      refine wpAny_mono (he ℓ1 σt w _ hw ρ1 sC gC.hr foC) (fun cw sD hq => ?_) fun _ _ f => f.elim
      refine Classical.byContradiction fun hnX => ?_
      obtain ⟨ρd, gD, rw'⟩ := hq
      refine hnX ?_
      clear hnX
      have foD := foC.step gC.hr gD.st
      have dD : sD.heap.get? D = some (listObj cacc m) := gD.st.fr _ _ dC offC
      have offD : D ∉ ρd := fun hm => by
        rcases gD.st.fresh D hm with h | h
        · exact offC h
        · rw [dC] at h; cases h
      have hexC : ∀ z ∈ [I, D, b], ∃ o, sC.heap.get? z = some o := by
        intro z hz
        simp only [List.mem_cons, List.not_mem_nil, or_false] at hz
        rcases hz with rfl | rfl | rfl
        · refine Classical.byContradiction fun hnX => ?_
          obtain ⟨o, e, _⟩ := (itB.step hrB gC.st).st.obj
          refine hnX ?_
          clear hnX
          exact ⟨o, e⟩
        · exact ⟨_, dC⟩
        · refine Classical.byContradiction fun hnX => ?_
          obtain ⟨m', hn', _⟩ := foC.ns
          refine hnX ?_
          clear hnX
          rw [hcC] at hn'; exact Ns.ex hn'
      have stD : StepX [I, D, b] ρ2 s4 ρd sD := stC.trans (gD.st.toX _) hexC
      have itD := (itB.step hrB gC.st).step gC.hr gD.st
      have rvD := (rvB.step hrB gC.st).step gC.hr gD.st
      refine wpAny_list_append_plain (items := cacc.toArray) ⟨m, dD⟩ (fun h' hp hs' => ?_) (by have := list_len inv.rv inv.len; simpa using this)
      refine Classical.byContradiction fun hnX => ?_
      obtain ⟨m2, hp⟩ := hp
      refine hnX ?_
      clear hnX
      have hkE : ∀ z o, z ≠ D → sD.heap.get? z = some o → h'.get? z = some o := fun z o hz e => (hs'.2 z hz).trans e
      have hDnt' : ∀ ws, sD.heap.get? D ≠ some (tupObj ws) := by intro ws e; rw [dD] at e; exact list_ne_tup e
      have hexD : ∀ z ∈ [I, D, b], ∃ o, sD.heap.get? z = some o := by
        intro z hz
        simp only [List.mem_cons, List.not_mem_nil, or_false] at hz
        rcases hz with rfl | rfl | rfl
        · refine Classical.byContradiction fun hnX => ?_
          obtain ⟨o, e, _⟩ := itD.st.obj
          refine hnX ?_
          clear hnX
          exact ⟨o, e⟩
        · exact ⟨_, dD⟩
        · refine Classical.byContradiction fun hnX => ?_
          obtain ⟨m', hn', _⟩ := foD.ns
          refine hnX ?_
          clear hnX
          rw [hcC] at hn'; exact Ns.ex hn'
      refine ⟨src.vs.length - (i + 1), by exact Lin.lin [(.eq (.v 1) (.v 2)), (.lt (.v 3) (.v 4)), (.or (.an (.le (.v 3) (.v 4)) (.eq (.a (.v 2) (.v 3)) (.v 4))) (.an (.le (.v 4) (.v 3)) (.eq (.v 2) (.k 0)))), (.or (.an (.le (.a (.v 3) (.k 1)) (.v 4)) (.eq (.a (.v 0) (.a (.v 3) (.k 1))) (.v 4))) (.an (.le (.v 4) (.a (.v 3) (.k 1))) (.eq (.v 0) (.k 0))))] (.lt (.v 0) (.v 1)) (.s (.s (.l [1, 0, 1, 0, 0, 0, 1, 0, 1]) (.l [1, 0, 1, 1, 0, 0, 1, 0, 1])) (.s (.l [0, 0, 0, 1, 1]) (.l [0, 0, 0, 1, 1]))) rfl [_, _, _, _, _] [] hn hi (Lin.sub_ax _ _) (Lin.sub_ax _ _), i + 1, ρd, _, acc ++ [w], ℓ1, cacc ++ [cw], m2, rfl, ⟨hrun, gD.hr.but offD hD0 hDnt' hkE, stD.trans ((StepX.one hkE).weaken (by simp)) hexD, itD.but hDnt' hID hkE, hkb, ?_, ?_, ?_, offD, ?_, hi⟩⟩
      · rw [hp]; simp
      · exact (rvD.but hDnt' hkE).append (.cons (rw'.but hDnt' hkE) .nil)
      · simp; exact Lin.lin [(.lt (.v 0) (.v 1))] (.le (.a (.v 0) (.k 1)) (.v 1)) (.l [1, 1]) rfl [_, _] [] hlen
      · exact foD.but (by rw [hcC]; exact hDC) (fun y z hy => (hcells y z hy).2) hDnt' hkE
  · -- the end
    have hii : i = src.vs.length := by have := inv.le; lia
    subst hii
    have hrun := inv.run
    rw [List.drop_length] at hrun
    refine Classical.byContradiction fun hnX => ?_
    obtain ⟨rfl, rfl⟩ := compL_nil hrun
    refine hnX ?_
    clear hnX
    refine it_done hh inv.it inv.hr inv.keep rfl fun h1 tk1 hk1 hr1 => ?_
    have hInt := inv.it.not_tup
    have hex : ∀ b ∈ [I, D, C], ∃ o, s.heap.get? b = some o := by
      intro b hb
      simp only [List.mem_cons, List.not_mem_nil, or_false] at hb
      rcases hb with rfl | rfl | rfl
      · refine Classical.byContradiction fun hnX => ?_
        obtain ⟨o, e, _⟩ := inv.it.st.obj
        refine hnX ?_
        clear hnX
        exact ⟨o, e⟩
      · exact ⟨_, inv.d⟩
      · refine Classical.byContradiction fun hnX => ?_
        obtain ⟨m', hn', _⟩ := inv.fo.ns
        refine hnX ?_
        clear hnX
        rw [hcC] at hn'; exact Ns.ex hn'
    refine ⟨rfl, hend { s with heap := h1, toks := tk1 } ρ' cacc m hr1 (inv.st.trans ((StepX.one hk1).weaken (by simp)) hex) (hk1 _ _ (fun e => hID e.symm) inv.d) (inv.rv.but hInt hk1) inv.len inv.off ?_⟩
    refine Classical.byContradiction fun hnX => ?_
    obtain ⟨m', hn', _⟩ := (inv.fo.but (by rw [hcC]; exact hIC) (fun y b hy => (hcells y b hy).1) hInt hk1).ns
    refine hnX ?_
    clear hnX
    rw [hcC] at hn'
    exact ⟨m', hn'⟩
end
end Mini

/-! Comprehensions, as a whole. -/
set_option autoImplicit false
namespace Mini
open PySem PyProof.Rows PySem.SeqAt

section
variable {K : Kx} {A : Around} {env : Env} {c : CEnv} {cl : Cl} {T : Tabs}

/-- what stands when the block is through -/
structure CEnd (K : Kx) (ρ : List Addr) (s : Shared) (σ2 : H) (vs : List V) (D C : Addr) (ρ' : List Addr) (s' : Shared) (cacc : List Value) (m : Nat) : Prop where
  hr : HR K ρ' σ2 s'.heap
  st : Step ρ s ρ' s'
  d : s'.heap.get? D = some (listObj cacc m)
  rv : RVs K ρ' s'.heap vs cacc
  len : vs.length ≤ lenMax
  off : D ∉ ρ'
  offC : C ∉ ρ'
  newD : s.heap.get? D = none
  newC : s.heap.get? C = none
  ne : D ≠ C
  d0 : K.h0.get? D = none
  c0 : K.h0.get? C = none
  ns : ∃ m', s'.heap.Ns C m'

theorem comp_main {elt iter : Expr} {x : Str} {px pos pos' : Pos} {ifs : List Expr} {sc : Scope} {a : Ex} {it : It} {fs : Es} {tg : Nat} (hh : A.handled = none) (ok : CompOK c sc) (hs : ∀ v, foldedSetIterable iter env v = pure v)
    (hx : cVar (compC c sc) x = some tg) (hxl : (compC c sc).names.lookup x = some .local) (hI : PI K A env c cl iter it) (he : ∀ cenv, PE K A cenv (compC c sc) cl elt a) (hf : ∀ cenv, PF K A cenv (compC c sc) cl ifs fs)
    {ℓ : L} {σ σ1 σ2 : H} {src : Src} {vs : List V} (h1 : evalIt cl it ℓ σ = some (.ok src, σ1))
    (h2 : compL (fun ℓ' σ' => bnd (evalIfs cl fs ℓ' σ') fun b σ2 => if b then bnd (evalE cl a ℓ' σ2) fun v σ3 => some (.ok (some v), σ3) else some (.ok .none, σ2)) tg src.keep src.vs [] ℓ σ1 = some (.ok vs, σ2))
    {ρ : List Addr} {s : Shared} (hr : HR K ρ σ s.heap) (fo : FO K env c ℓ ρ s.heap) {use : Option (Value → Sem Unit)} {Q : Value → Shared → Prop} {E : Value → Shared → Prop}
    (hend : ∀ s' D C ρ' cacc m, CEnd K ρ s σ2 vs D C ρ' s' cacc m → compPost K.M A E use Q (.ref D) C (.ok .next) s') :
    wpAny K.M A (comprehension (.ListComp elt [⟨.Name x px, iter, ifs, 0⟩] sc pos) sc env pos' (newList []) false (eval iter env) use) Q E s := by
  have hclos : closureFor sc env = pure (closOf env sc.names []) := closureFor_eq env sc fun n hn => by
    refine Classical.byContradiction fun hnX => ?_
    obtain ⟨b, _, e, _⟩ := fo.cell n (ok.frees n hn)
    refine hnX ?_
    clear hnX
    rw [e]; rfl
  refine wpAny_comprehension_free (g := ⟨.Name x px, iter, ifs, 0⟩) (gs := []) rfl hs hclos ok.kind (fun y hy hl => nodup_lookup ok.nd (by rw [← hl]; exact hy)) ?_
  refine wpAny_mono (hI ℓ σ src σ1 h1 ρ s hr fo) (fun xv s1 hq => wpAny_mono hq (fun itv s2 hq => ?_) fun _ _ f => f.elim) fun _ _ f => f.elim
  refine Classical.byContradiction fun hnX => ?_
  obtain ⟨ρ2, I, k, rfl, g2, itok, hkeep, hInone⟩ := hq
  refine hnX ?_
  clear hnX
  refine Classical.byContradiction fun hnX => ?_
  obtain ⟨oI, eI, _⟩ := itok.st.obj
  refine hnX ?_
  clear hnX
  -- the list that is filled
  refine wpAny_newList ?_
  have fr2 := fresh_off g2.hr
  refine wpAny_newFunctionEnv ok.nocell (by intro y hy; cases hy) (fun h4 hns4 hsb4 => ?_) ok.kind
  have hpD' : ({ s2 with heap := s2.heap.push { cls := .type "list", data := .seq ([] : List Value).toArray } } : Shared).heap.objs.size = s2.heap.objs.size + 1 := Heap.size_push ..
  rw [hpD'] at hns4 hsb4 ⊢
  obtain ⟨D, hD⟩ : ∃ D : Nat, s2.heap.objs.size = D := ⟨_, rfl⟩
  obtain ⟨C, hC⟩ : ∃ C : Nat, s2.heap.objs.size + 1 = C := ⟨_, rfl⟩
  rw [hC] at hns4 hsb4 ⊢
  rw [hD] at fr2 ⊢
  have hDC : D ≠ C := by exact Lin.lin [(.eq (.v 2) (.v 0)), (.eq (.a (.v 2) (.k 1)) (.v 1))] (.no (.eq (.v 0) (.v 1))) (.l [0, 1, 0, 1, 1]) rfl [_, _, _] [] hD hC
  have hlt : ∀ {b : Addr} {o : Obj}, s2.heap.get? b = some o → @LT.lt Nat _ b D ∧ @LT.lt Nat _ b C := fun {b o} e => by
    have h9 : @LT.lt Nat _ b s2.heap.objs.size := Heap.lt_size e
    lia
  have hID : I ≠ D := Nat.ne_of_lt (hlt eI).1
  have hIC : I ≠ C := Nat.ne_of_lt (hlt eI).2
  have old : ∀ b o, s2.heap.get? b = some o → h4.get? b = some o := by
    intro b o e
    exact (hsb4.2 b (Nat.ne_of_lt (hlt e).2)).trans (Heap.get?_push_of_some _ (Heap.get?_push_of_some _ e))
  have dD : h4.get? D = some (listObj [] 0) := by
    refine (hsb4.2 D hDC).trans (Heap.get?_push_of_some _ ?_)
    have := Heap.get?_push_size s2.heap (o := listObj [] 0) rfl
    rw [hD] at this; exact this
  have hnoneD : s2.heap.get? D = none := by rw [← hD]; exact get?_size _
  have hnoneC : s2.heap.get? C = none := by
    cases e : s2.heap.get? C with
    | none => rfl
    | some o => exact absurd (hlt e).2 (Nat.lt_irrefl _)
  have hC0 : K.h0.get? C = none := by
    cases e : K.h0.get? C with
    | none => rfl
    | some o => rw [g2.hr.keep _ _ e] at hnoneC; cases hnoneC
  have hCρ : C ∉ ρ2 := fun hm => by obtain ⟨ob, e, _⟩ := g2.hr.at_ hm; rw [hnoneC] at e; cases e
  have g4 : Good K ρ2 s2 ρ2 σ1 { s2 with heap := h4, toks := s2.toks + ([] : List (Str × Value)).length } := Good.grow g2.hr old _
  have fo2 := fo.step hr g2.st
  have fo4 := fo2.step g2.hr g4.st
  have hcn : ∀ y b, (y, b) ∈ env.cells → b ≠ I ∧ b ≠ D ∧ b ≠ C := by
    intro y b hy
    refine Classical.byContradiction fun hnX => ?_
    obtain ⟨_, _, _, o, e, _⟩ := fo.cnew y b hy
    refine hnX ?_
    clear hnX
    have hb2 := g2.st.fr b o e (fo.cnew y b hy).1
    refine ⟨?_, ?_, ?_⟩
    · rintro rfl; rw [hInone] at e; cases e
    · rintro rfl; rw [hnoneD] at hb2; cases hb2
    · rintro rfl; rw [hnoneC] at hb2; cases hb2
  have hnsC : h4.Ns C fun _ => none := hns4
  have foC : FO K (compEnvC sc (closOf env sc.names []) C env) (compC c sc) ℓ ρ2 h4 := comp_FO fo4 ok hnsC hCρ hC0 fun y b hy => (hcn y b hy).2.2
  have hcc : ∀ y b, (y, b) ∈ closOf env sc.names [] → b ≠ I ∧ b ≠ D := by
    intro y b hy
    rcases closOf_mem hy with h | ⟨hf', hb⟩
    · cases h
    · refine Classical.byContradiction fun hnX => ?_
      obtain ⟨b', _, e, _⟩ := fo.cell y (ok.frees y hf')
      refine hnX ?_
      clear hnX
      rw [e] at hb; simp at hb; subst hb
      have := hcn y b (mem_of_lookup e)
      exact ⟨this.1, this.2.1⟩
  have loop : codeAny K.M A (.compLoop (.ListComp elt [⟨.Name x px, iter, ifs, 0⟩] sc pos) 0 (.ref I) (.ref D) (compEnvC sc (closOf env sc.names []) C env)) (compPost K.M A E use Q (.ref D) C)
      { s2 with heap := h4, toks := s2.toks + ([] : List (Str × Value)).length } := by
    refine codeAny_mono (comp_loop (E' := fun e s' => compPost K.M A E use Q (.ref D) C (.error e) s') (RR := fun s' => compPost K.M A E use Q (.ref D) C (.ok .next) s') (ρ2 := ρ2) (s4 := { s2 with heap := h4, toks := s2.toks + ([] : List (Str × Value)).length }) (C := C) (σ2 := σ2) (vs := vs)
      hh hx hxl rfl hID hIC hDC hcc fr2.2 ?_ (he _) (hf _) (fun s' ρ' cacc m e1 e2 e3 e4 e5 e6 e7 => ?_) 0 _ ρ2 σ1 [] ℓ [] 0
      ⟨h2, g4.hr, StepX.refl _ _ _, itok.step g2.hr g4.st, hkeep, dD, .nil, Nat.zero_le _, fr2.1, foC, Nat.zero_le _⟩) fun r s' hq => ?_
    · intro b hb
      simp only [List.mem_cons, List.not_mem_nil, or_false] at hb
      rcases hb with rfl | rfl | rfl
      · exact ⟨oI, old _ _ eI⟩
      · exact ⟨_, dD⟩
      · exact Ns.ex hnsC
    · refine hend s' D C ρ' cacc m ⟨e1, ?_, e3, e4, e5, e6, fun hm => ?_, g2.back hnoneD, g2.back hnoneC, hDC, fr2.2, hC0, e7⟩
      · have hid : ∀ z ∈ [I, D, C], s.heap.get? z = none := by
          intro z hz
          simp only [List.mem_cons, List.not_mem_nil, or_false] at hz
          rcases hz with rfl | rfl | rfl
          · exact hInone
          · exact g2.back hnoneD
          · exact g2.back hnoneC
        have t1 := g2.st.trans g4.st
        refine ⟨t1.pre.trans e2.pre, fun z o e hz => ?_, fun z hz => ?_, e2.gens.trans t1.gens, e2.os.trans t1.os⟩
        · have hz4 := t1.fr z o e hz
          refine e2.fr z o hz4 (fun h => ?_) fun h => ?_
          · rcases t1.fresh z h with h | h
            · exact hz h
            · rw [e] at h; cases h
          · rw [hid z h] at e; cases e
        · rcases e2.fresh z hz with h | h
          · exact t1.fresh z h
          · by_cases hr' : z ∈ ρ
            · exact .inl hr'
            · right
              cases hg : s.heap.get? z with
              | none => rfl
              | some o => rw [t1.fr z o hg hr'] at h; cases h
      · rcases e2.fresh C hm with h | h
        · exact hCρ h
        · refine Classical.byContradiction fun hnX => ?_
          obtain ⟨o, e⟩ := Ns.ex hnsC
          refine hnX ?_
          clear hnX
          rw [e] at h; cases h
    · cases r with
      | ok f => obtain ⟨rfl, hq⟩ := hq; exact hq
      | error e => exact hq
  show codeAny K.M A (.compStart (.ListComp elt [⟨.Name x px, iter, ifs, 0⟩] sc pos) 0 (.ref I) (.ref D) (compEnvC sc (closOf env sc.names []) C env)) (compPost K.M A E use Q (.ref D) C) { s2 with heap := h4, toks := s2.toks + ([] : List (Str × Value)).length }
  exact codeAny_compStart_list loop (it_self hh (itok.step g2.hr g4.st) loop)

/-- the list gets its number -/
theorem CEnd.done {ρ : List Addr} {s : Shared} {σ2 : H} {vs : List V} {D C : Addr} {ρ' : List Addr} {s' : Shared} {cacc : List Value} {m : Nat} (x : CEnd K ρ s σ2 vs D C ρ' s' cacc m) {h' : Heap} (hs : Heap.SameBut C s'.heap h') :
    ∃ ρ'', Good K ρ s ρ'' (σ2 ++ [.list vs]) { s' with heap := h' } ∧ RV K ρ'' h' (.obj σ2.length) (.ref D) ∧ C ∉ ρ'' := by
  refine Classical.byContradiction fun hnX => ?_
  obtain ⟨m', hn⟩ := x.ns
  refine hnX ?_
  clear hnX
  have hbut : ∀ b o, b ≠ C → s'.heap.get? b = some o → h'.get? b = some o := fun b o hb e => (hs.2 b hb).trans e
  have hr1 : HR K ρ' σ2 h' := x.hr.but x.offC x.c0 (Ns.not_tup hn) hbut
  have hd : h'.get? D = some (listObj cacc m) := hbut _ _ x.ne x.d
  refine ⟨ρ' ++ [D], ⟨⟨hr1.keep, by simp [hr1.len], ?_, fun b hb => ?_, fun n o b g1 g2 => ?_⟩, ⟨x.st.pre.trans (List.prefix_append _ _), fun b o e hb => ?_, fun b hb => ?_, x.st.gens, x.st.os⟩⟩, .obj ?_, fun hm => ?_⟩
  · rw [List.nodup_append]; exact ⟨hr1.nd, by simp, fun b hb z hz e => by simp at hz; exact x.off (hz ▸ e ▸ hb)⟩
  · rcases List.mem_append.mp hb with h | h
    · exact hr1.new b h
    · rw [List.mem_singleton.mp h]; exact x.d0
  · by_cases hlt : n < σ2.length
    · rw [List.getElem?_append_left hlt] at g1
      rw [List.getElem?_append_left (by rw [hr1.len]; exact hlt)] at g2
      exact (hr1.obj n o b g1 g2).mono (List.prefix_append _ _) fun _ _ e => e
    · have hn' : n = σ2.length := by have := (List.getElem?_eq_some_iff.mp g1).1; simp at this; lia
      subst hn'
      rw [List.getElem?_append_right (Nat.le_refl _)] at g1
      rw [List.getElem?_append_right (by rw [hr1.len]; exact Nat.le_refl _)] at g2
      simp [hr1.len] at g1 g2
      rw [← g1, ← g2]
      exact ⟨cacc, m, hd, (x.rv.but (Ns.not_tup hn) hbut).mono (List.prefix_append _ _) (fun _ _ e => e), x.len⟩
  · have := x.st.fr b o e hb
    exact hbut b o (by rintro rfl; rw [x.newC] at e; cases e) this
  · rcases List.mem_append.mp hb with h | h
    · exact x.st.fresh b h
    · rw [List.mem_singleton.mp h]; exact .inr x.newD
  · rw [List.getElem?_append_right (by rw [hr1.len]; exact Nat.le_refl _), hr1.len]; simp
  · rcases List.mem_append.mp hm with h | h
    · exact x.offC h
    · exact x.ne (List.mem_singleton.mp h).symm

theorem pe_comp {elt iter : Expr} {x : Str} {px pos : Pos} {ifs : List Expr} {sc : Scope} {a : Ex} {it : It} {fs : Es} {tg : Nat} (hh : A.handled = none) (ok : CompOK c sc) (hs : ∀ v, foldedSetIterable iter env v = pure v)
    (hx : cVar (compC c sc) x = some tg) (hxl : (compC c sc).names.lookup x = some .local) (hI : PI K A env c cl iter it) (he : ∀ cenv, PE K A cenv (compC c sc) cl elt a) (hf : ∀ cenv, PF K A cenv (compC c sc) cl ifs fs) :
    PE K A env c cl (.ListComp elt [⟨.Name x px, iter, ifs, 0⟩] sc pos) (.comp a tg it fs) := by
  intro ℓ σ v σ' hev ρ s hr fo
  simp only [evalE] at hev
  refine Classical.byContradiction fun hnX => ?_
  obtain ⟨src, σ1, h1, hev⟩ := bnd_ok_inv hev
  refine hnX ?_
  clear hnX
  refine Classical.byContradiction fun hnX => ?_
  obtain ⟨vs, σ2, h2, hev⟩ := bnd_ok_inv hev
  refine hnX ?_
  clear hnX
  cases hev
  rw [eval_ListComp]
  refine comp_main hh ok hs hx hxl hI he hf h1 h2 hr fo fun s' D C ρ' cacc m e => ?_
  refine ⟨_, e.ns.choose_spec, fun h' hs' => ?_⟩
  refine Classical.byContradiction fun hnX => ?_
  obtain ⟨ρ'', g, r, _⟩ := e.done hs'
  refine hnX ?_
  clear hnX
  exact ⟨ρ'', g, r⟩
end
end Mini

/-! Calls of names and of methods of lists. -/
set_option autoImplicit false
namespace Mini
open PySem PyProof.Rows PySem.SeqAt

/-- calls of the text's own defs are answered as the evaluator says -/
noncomputable def CallOK (K : Kx) (A : Around) (cl : Cl) : Prop :=
  ∀ f vs σ v σ', cl.call f vs σ = some (.ok v, σ') → ∀ ρ s cvs, HR K ρ σ s.heap → RVs K ρ s.heap vs cvs → TR K A (call (.ref (K.fna f)) cvs) ρ s σ' fun ρ' cv s' => RV K ρ' s'.heap v cv

section
variable {K : Kx} {A : Around} {env : Env} {c : CEnv} {cl : Cl} {T : Tabs}

theorem star_plain {e : Expr} {a : Ex} (h : cE T c e = some a) (es : List Expr) : starEach (e :: es) env = (false, eval e env) :: starEach es env := by
  cases e with
  | Starred _ _ => cases h
  | _ => rfl
theorem cEs_cons {e : Expr} {es : List Expr} {as : Es} (h : cEs T c (e :: es) = some as) : ∃ a b, cE T c e = some a ∧ cEs T c es = some b ∧ as = .cons a b := by
  refine Classical.byContradiction fun hnX => ?_
  obtain ⟨a, h1, h2⟩ := Option.bind_eq_some_iff.mp (show (cE T c e).bind _ = some as from h)
  refine hnX ?_
  clear hnX
  refine Classical.byContradiction fun hnX => ?_
  obtain ⟨b, h3, h4⟩ := Option.map_eq_some_iff.mp h2
  refine hnX ?_
  clear hnX
  exact ⟨a, b, h1, h3, h4.symm⟩
theorem star_all : ∀ {es : List Expr} {as : Es}, cEs T c es = some as → starEach es env = es.map fun e => (false, eval e env)
  | [], _, _ => rfl
  | e :: es, as, h => by
    refine Classical.byContradiction fun hnX => ?_
    obtain ⟨a, b, h1, h2, _⟩ := cEs_cons h
    refine hnX ?_
    clear hnX
    rw [star_plain h1, star_all h2]; rfl
theorem back_all {es : List Expr} {as : Es} (h : cEs T c es = some as) (pos : Pos) : backTo pos (starEach es env) = es.map fun e => (false, eval e env) := by
  rw [star_all h, backTo, List.map_map]; rfl

theorem evalArgs_list {f : Value} {xs : List Expr} {Q : Args → Shared → Prop} {E : Value → Shared → Prop} {s : Shared} (h : wpAny K.M A (spliced (xs.map fun e => (false, eval e env))) (fun vs s' => Q ⟨vs, []⟩ s') E s) :
    wpAny K.M A (evalArgs f true (xs.map fun e => (false, eval e env)) []) Q E s := by
  cases xs with
  | nil =>
    unfold evalArgs
    show wpAny K.M A (spliced [] >>= _) Q E s
    refine wpAny_bind (wpAny_mono h (fun vs s' h' => ?_) fun _ _ x => x)
    refine wpAny_holding ?_
    exact wpAny_bind (wpAny_pure (wpAny_bind (wpAny_pure (wpAny_pure h'))))
  | cons x r => exact Calls.evalArgs_plain h

theorem any_plain (xs : List Expr) : (xs.map fun e => ((false, eval e env) : Bool × Sem Value)).any (·.1) = false := by
  induction xs with
  | nil => rfl
  | cons x r ih => simp

/-- a call of what is no object -/
theorem callWith_machine {pos : Pos} {f : Value} (hf : keeperOf f = pure .machine) {first : List Value} {xs : List Expr} {Q : Value → Shared → Prop} {E : Value → Shared → Prop} {s : Shared}
    (h : wpAny K.M A (spliced (xs.map fun e => (false, eval e env))) (fun vs s₁ => wpAny K.M A (call f (first ++ vs) []) Q E s₁) E s) : wpAny K.M A (callWith pos f first (xs.map fun e => (false, eval e env)) []) Q E s := by
  unfold callWith
  refine wpAny_bind (wpAny_holding (evalArgs_list (wpAny_mono h (fun a s₁ h₁ => wpAny_bind (wpAny_standAt ?_)) fun _ _ x => x)))
  simp only [any_plain, List.any_nil, Bool.or_false, hf, pure_bind]
  exact wpAny_bind (wpAny_mono h₁ (fun r s₂ hr => wpAny_bind (wpAny_holding (wpAny_point (wpAny_pure hr)))) fun _ _ x => x)

theorem pe_blt (G : GK K T) (ty : TyOK K) (hh : A.handled = none) {f : Str} {p pos : Pos} {es : List Expr} {as : Es} {b : Blt} (hsort : b = .sorted → ∀ (σ σ' : H) (vs : List V) (v : V), bltV b vs σ = some (v, σ') → ∀ (ρ : List Addr) (s : Shared) (cas : List Value), HR K ρ σ s.heap → RVs K ρ s.heap vs cas →
      TR K A (call (bltVal b) cas) ρ s σ' fun ρ' cv s' => RV K ρ' s'.heap v cv)
    (hg : isGlob c f = true) (hb : T.blts.lookup f = some b) (hc : cEs T c es = some as) (h : PEs K A env c cl es as) : PE K A env c cl (.Call (.Name f p) es [] pos) (.blt b as) := by
  intro ℓ σ v σ' he ρ s hr fo
  simp only [evalE] at he
  refine Classical.byContradiction fun hnX => ?_
  obtain ⟨vs, σ1, h1, he⟩ := bnd_ok_inv he
  refine hnX ?_
  clear hnX
  have he := okH_inv he
  refine Classical.byContradiction fun hnX => ?_
  obtain ⟨mg, mb, hmg, hmb, _, _, hblt, _⟩ := G.g
  refine hnX ?_
  clear hnX
  simp only [isGlob, Bool.and_eq_true, beq_iff_eq, Bool.not_eq_true'] at hg
  show TR K A (eval (.Name f p) env >>= fun fv => callWith pos fv [] (backTo pos (starEach es env)) []) ρ s σ' _
  refine wpAny_bind (glob_load hr fo hg.1 hg.2 hmg hmb (.inr (hblt f b hb)) ?_)
  rw [back_all hc]
  refine callWith_machine (by cases b <;> rfl) ?_
  have hp := h pos ℓ σ vs σ1 h1 ρ s hr fo
  rw [back_all hc] at hp
  refine wpAny_mono hp (fun cvs s1 hq => ?_) fun _ _ f => f
  refine Classical.byContradiction fun hnX => ?_
  obtain ⟨ρ1, g1, rvs⟩ := hq
  refine hnX ?_
  clear hnX
  rw [List.nil_append]
  by_cases hbs : b = .sorted
  · exact TR.after g1 (hsort hbs σ1 σ' vs v he ρ1 s1 cvs g1.hr rvs)
  · exact TR.after g1 (blt_sound he hbs g1.hr rvs hh ty)

theorem pe_call (G : GK K T) (hcall : CallOK K A cl) {f : Str} {p pos : Pos} {es : List Expr} {as : Es} {n : Nat} (hg : isGlob c f = true) (hn : T.fns.lookup f = some n) (hc : cEs T c es = some as) (h : PEs K A env c cl es as) :
    PE K A env c cl (.Call (.Name f p) es [] pos) (.call n as) := by
  intro ℓ σ v σ' he ρ s hr fo
  simp only [evalE] at he
  refine Classical.byContradiction fun hnX => ?_
  obtain ⟨vs, σ1, h1, he⟩ := bnd_ok_inv he
  refine hnX ?_
  clear hnX
  refine Classical.byContradiction fun hnX => ?_
  obtain ⟨mg, mb, hmg, hmb, _, hfn, _⟩ := G.g
  refine hnX ?_
  clear hnX
  refine Classical.byContradiction fun hnX => ?_
  obtain ⟨hm, o, fd, ho, hd⟩ := hfn f n hn
  refine hnX ?_
  clear hnX
  simp only [isGlob, Bool.and_eq_true, beq_iff_eq, Bool.not_eq_true'] at hg
  show TR K A (eval (.Name f p) env >>= fun fv => callWith pos fv [] (backTo pos (starEach es env)) []) ρ s σ' _
  refine wpAny_bind (glob_load hr fo hg.1 hg.2 hmg hmb (.inl hm) ?_)
  rw [back_all hc]
  have hp := h pos ℓ σ vs σ1 h1 ρ s hr fo
  rw [back_all hc] at hp
  refine Calls.callWith_function (o := o) (fd := fd) (evalArgs_list (wpAny_mono hp (fun cvs s1 hq => ?_) fun _ _ f => f))
  refine Classical.byContradiction fun hnX => ?_
  obtain ⟨ρ1, g1, rvs⟩ := hq
  refine hnX ?_
  clear hnX
  refine ⟨⟨g1.hr.keep _ _ ho, hd⟩, ?_⟩
  exact TR.after g1 (hcall n vs σ1 v σ' he ρ1 s1 cvs g1.hr rvs)

/-- ranges -/
theorem rng_it {ρ : List Addr} {σ : H} {s : Shared} (hr : HR K ρ σ s.heap) {a b : Int} {t u v : Tok} {r : Addr} (hR : IsRange s.heap r a b 1 t u v) (ha : -lenMax ≤ a ∧ a ≤ lenMax) (hb : -lenMax ≤ b ∧ b ≤ lenMax) {Q : Value → Shared → Prop} {E : Value → Shared → Prop}
    (hq : ∀ h', Good K ρ s ρ σ { s with heap := h' } → ItOK K ρ s.heap.objs.size 0 h' ⟨rngL a b, fun _ => True⟩ (.rng a (b - a).toNat) → Q (.ref s.heap.objs.size) { s with heap := h' }) : wpAny K.M A (pyIter (.ref r)) Q E s := by
  refine Classical.byContradiction fun hnX => ?_
  obtain ⟨f1, f2⟩ := fresh_off hr
  refine hnX ?_
  clear hnX
  unfold lenMax at ha hb
  refine wpAny_pyIter_range hR ?_ (hq _ (Good.tmp hr _ _) ⟨?_, ⟨rfl, rfl⟩, f1, f2⟩)
  · have fit : ∀ z : Int, -2000000 ≤ z → z ≤ 2000000 → Builtin.Range.rangeFitsLong z = true := by
      intro z h1 h2; unfold Builtin.Range.rangeFitsLong; simp; exact Lin.lin [(.zle (.g (.k 2000000)) (.v 0)), (.zle (.v 0) (.k 2000000))] (.an (.zle (.g (.k 9223372036854775808)) (.v 0)) (.zlt (.v 0) (.k 9223372036854775808))) (.s (.l [1, 1]) (.l [1, 0, 1])) rfl [] [_] h1 h2
    unfold Builtin.Range.small Builtin.Range.rangeSize
    simp only [Bool.and_eq_true, Bool.or_eq_true]
    have hz : Builtin.Range.rangeFitsLong (if (1 : Int) > 0 then (if a < b then (b - a - 1) / 1 + 1 else 0) else (if a > b then (a - b - 1) / (-1) + 1 else 0)) = true := by
      rw [if_pos (by decide)]; split <;> exact fit _ (by lia) (by lia)
    refine ⟨⟨⟨⟨fit a (by exact Lin.lin [(.an (.zle (.g (.n (.k 1000000))) (.v 0)) (.zle (.v 0) (.n (.k 1000000))))] (.zle (.g (.k 2000000)) (.v 0)) (.l [1, 1]) rfl [] [_] ha) (by exact Lin.lin [(.an (.zle (.g (.n (.k 1000000))) (.v 0)) (.zle (.v 0) (.n (.k 1000000))))] (.zle (.v 0) (.k 2000000)) (.l [1, 0, 1]) rfl [] [_] ha), fit b (by exact Lin.lin [(.an (.zle (.g (.n (.k 1000000))) (.v 0)) (.zle (.v 0) (.n (.k 1000000))))] (.zle (.g (.k 2000000)) (.v 0)) (.l [1, 1]) rfl [] [_] hb) (by exact Lin.lin [(.an (.zle (.g (.n (.k 1000000))) (.v 0)) (.zle (.v 0) (.n (.k 1000000))))] (.zle (.v 0) (.k 2000000)) (.l [1, 0, 1]) rfl [] [_] hb)⟩, fit 1 (by exact Lin.lin [] (.zle (.g (.k 2000000)) (.k 1)) (.l [1]) rfl [] []) (by exact Lin.lin [] (.zle (.k 1) (.k 2000000)) (.l [1]) rfl [] [])⟩, hz⟩, ?_⟩
    right
    simp
    exact fit b (by exact Lin.lin [(.an (.zle (.g (.n (.k 1000000))) (.v 0)) (.zle (.v 0) (.n (.k 1000000))))] (.zle (.g (.k 2000000)) (.v 0)) (.l [1, 1]) rfl [] [_] hb) (by exact Lin.lin [(.an (.zle (.g (.n (.k 1000000))) (.v 0)) (.zle (.v 0) (.n (.k 1000000))))] (.zle (.v 0) (.k 2000000)) (.l [1, 0, 1]) rfl [] [_] hb)
  · show IsRangeIter _ _ _ _ _
    have e : Builtin.Range.rangeSize a b 1 = (((b - a).toNat : Nat) : Int) := by
      unfold Builtin.Range.rangeSize; simp; lia
    have := Heap.get?_push_size s.heap (o := { cls := .type "range_iterator", data := .fields #[rawInt a, rawInt (Builtin.Range.rangeSize a b 1), rawInt 1] }) rfl
    rw [e] at this ⊢
    simpa [IsRangeIter] using this

theorem pi_rng1 (G : GK K T) {f : Str} {p pos : Pos} {es : List Expr} {a : Ex} (hg : isGlob c f = true) (hf : (f == sRange) = true) (hc : cEs T c es = some (.cons a .nil)) (h : PEs K A env c cl es (.cons a .nil)) : PI K A env c cl (.Call (.Name f p) es [] pos) (.rng1 a) := by
  intro ℓ σ src σ' he ρ s hr fo
  simp only [evalIt] at he
  refine Classical.byContradiction fun hnX => ?_
  obtain ⟨x, σ1, h1, he⟩ := bnd_ok_inv he
  refine hnX ?_
  clear hnX
  refine Classical.byContradiction fun hnX => ?_
  obtain ⟨mg, mb, hmg, hmb, _, _, _, hr1, hr2⟩ := G.g
  refine hnX ?_
  clear hnX
  obtain rfl := beq_iff_eq.mp hf
  simp only [isGlob, Bool.and_eq_true, beq_iff_eq, Bool.not_eq_true'] at hg
  show wpAny K.M A (eval (.Name sRange p) env >>= fun fv => callWith pos fv [] (backTo pos (starEach es env)) []) _ _ s
  refine wpAny_bind (glob_load hr fo hg.1 hg.2 hmg hmb (.inr ⟨hr1, hr2⟩) ?_)
  rw [back_all hc]
  refine callWith_machine rfl ?_
  have hp := h pos ℓ σ [x] σ1 (by simp [evalEs, h1]) ρ s hr fo
  rw [back_all hc] at hp
  refine wpAny_mono hp (fun cvs s1 hq => ?_) fun _ _ f => f
  refine Classical.byContradiction fun hnX => ?_
  obtain ⟨ρ1, g1, rvs⟩ := hq
  refine hnX ?_
  clear hnX
  cases x with
  | int b =>
    simp only at he
    split at he
    · rename_i hb
      cases he
      cases rvs with
      | cons r0 rn =>
        cases rn; cases r0
        rename_i t
        refine call_range_1 ?_
        have g2 := Good.tmp g1.hr { cls := .type "range", data := .fields #[.int 0 s1.toks, .int b t, .int 1 (s1.toks + 1)] } (s1.toks + 1 + 1)
        refine rng_it g2.hr (Heap.get?_push_size _ rfl) (by unfold lenMax; exact Lin.lin [] (.an (.zle (.g (.n (.k 1000000))) (.k 0)) (.zle (.k 0) (.n (.k 1000000)))) (.s (.l [1]) (.l [1])) rfl [] []) hb fun h' g ok => ⟨ρ1, _, _, rfl, (g1.trans g2).trans g, ok, trivial, (g1.trans g2).back (get?_size _)⟩
    · cases he
  | _ => cases he

/-- a list changes -/
theorem HR.setList {ρ : List Addr} {σ : H} {h h' : Heap} (x : HR K ρ σ h) {n : Nat} {a : Addr} {l' : List V} {vs' : List Value} {m' : Nat} {o0 : O} (hn : σ[n]? = some o0) (ha : ρ[n]? = some a) (hd : h'.get? a = some (listObj vs' m')) (hk : ∀ b o, b ≠ a → h.get? b = some o → h'.get? b = some o)
    (r : RVs K ρ h l' vs') (hl : l'.length ≤ lenMax) : HR K ρ (σ.set n (.list l')) h' := by
  have hnt : ∀ ws, h.get? a ≠ some (tupObj ws) := by
    intro ws e
    refine Classical.byContradiction fun hnX => ?_
    obtain ⟨ob, e', hc⟩ := x.at_ (List.mem_of_getElem? ha)
    refine hnX ?_
    clear hnX
    rw [e] at e'; cases e'; exact hc rfl
  have a0 := x.new a (List.mem_of_getElem? ha)
  refine ⟨fun b o e => hk b o (by rintro rfl; rw [a0] at e; cases e) (x.keep b o e), by simp [x.len], x.nd, x.new, fun k o b h1 h2 => ?_⟩
  by_cases hkn : k = n
  · subst hkn
    rw [ha] at h2; cases h2
    have hlt := (List.getElem?_eq_some_iff.mp hn).1
    rw [List.getElem?_set_self hlt] at h1; cases h1
    exact ⟨vs', m', hd, r.but hnt hk, hl⟩
  · rw [List.getElem?_set_ne (fun e => hkn e.symm)] at h1
    have hba : b ≠ a := by
      rintro rfl
      exact hkn ((List.getElem?_inj (List.getElem?_eq_some_iff.mp h2).1 x.nd).mp (h2.trans ha.symm))
    have ho := x.obj k o b h1 h2
    cases o with
    | list l => obtain ⟨vs, m, e, r, hl⟩ := ho; exact ⟨vs, m, hk _ _ hba e, r.but hnt hk, hl⟩
    | _ => exact ho.elim

theorem Step.set {ρ : List Addr} {s : Shared} {a : Addr} {h' : Heap} {t : Nat} (ha : a ∈ ρ) (hk : ∀ b o, b ≠ a → s.heap.get? b = some o → h'.get? b = some o) : Step ρ s ρ { s with heap := h', toks := t } :=
  ⟨List.prefix_refl _, fun b o e hb => hk b o (by rintro rfl; exact hb ha) e, fun _ h => .inl h, rfl, rfl⟩
end
end Mini

/-! Methods of lists; the theorem for expressions. -/
set_option autoImplicit false
namespace Mini
open PySem PyProof.Rows PySem.SeqAt

section
variable {K : Kx} {A : Around} {env : Env} {c : CEnv} {cl : Cl} {T : Tabs}

theorem base_of {o : Expr} (h : isCall o = false) (name : Str) (w : Sem Value) : attributeBase o name env w = w := by
  cases o <;> first | rfl | (cases h)

theorem few_of {es : List Expr} {as : Es} (h : cEs T c es = some as) (hl : es.length < 20) (pos : Pos) :
    ((backTo pos (starEach es env)).all (fun x => !x.1) && (backToKw pos (keywordEach [] env)).all (fun x => x.1.isSome) && decide (es.length + ([] : List Keyword).length + (if ([] : List Keyword).isEmpty then 0 else 1) < 30)) = true := by
  rw [back_all h]
  simp [backToKw, keywordEach]
  exact Lin.lin [(.lt (.v 0) (.k 20))] (.lt (.v 0) (.k 30)) (.l [1, 1]) rfl [_] [] hl

theorem objNo_inv {v : V} {n : Nat} (h : objNo v = some n) : v = .obj n := by
  cases v with
  | obj m => cases h; rfl
  | _ => cases h
theorem listOf_obj {σ : H} {n : Nat} {l : List V} (h : listOf σ (.obj n) = some l) : σ[n]? = some (.list l) := by
  simp only [listOf] at h
  split at h
  · rename_i hl; cases h; exact hl
  · cases h
theorem append_inv {x v : V} {vs : List V} {σ σ' : H} (h : mthV .append x vs σ = some (v, σ')) : ∃ n x0 l, x = .obj n ∧ vs = [x0] ∧ σ[n]? = some (.list l) ∧ l.length < lenMax ∧ v = .none ∧ σ' = σ.set n (.list (l ++ [x0])) := by
  refine Classical.byContradiction fun hnX => ?_
  obtain ⟨n, hn, h1⟩ := Option.bind_eq_some_iff.mp h
  refine hnX ?_
  clear hnX
  refine Classical.byContradiction fun hnX => ?_
  obtain ⟨l, hl, h2⟩ := Option.bind_eq_some_iff.mp h1
  refine hnX ?_
  clear hnX
  refine Classical.byContradiction fun hnX => ?_
  obtain ⟨x0, hx, h3⟩ := Option.bind_eq_some_iff.mp (show (arg1 vs).bind _ = _ from h2)
  refine hnX ?_
  clear hnX
  rw [objNo_inv hn] at hl
  split at h3
  · rename_i hlt; cases h3; exact ⟨n, x0, l, objNo_inv hn, arg1_inv hx, listOf_obj hl, hlt, rfl, rfl⟩
  · cases h3
theorem pop_inv {x v : V} {vs : List V} {σ σ' : H} (h : mthV .pop x vs σ = some (v, σ')) : ∃ n l, x = .obj n ∧ vs = [] ∧ σ[n]? = some (.list l) ∧ l.getLast? = some v ∧ σ' = σ.set n (.list l.dropLast) := by
  refine Classical.byContradiction fun hnX => ?_
  obtain ⟨n, hn, h1⟩ := Option.bind_eq_some_iff.mp h
  refine hnX ?_
  clear hnX
  refine Classical.byContradiction fun hnX => ?_
  obtain ⟨l, hl, h2⟩ := Option.bind_eq_some_iff.mp h1
  refine hnX ?_
  clear hnX
  have h2 : popV σ n l vs = some (v, σ') := h2
  rw [objNo_inv hn] at hl
  unfold popV at h2
  split at h2
  · rename_i hv
    refine Classical.byContradiction fun hnX => ?_
    obtain ⟨y, hy, e⟩ := Option.map_eq_some_iff.mp h2
    refine hnX ?_
    clear hnX
    cases e
    exact ⟨n, l, objNo_inv hn, hv, listOf_obj hl, hy, rfl⟩
  · cases h2
theorem index_none {x : V} {vs : List V} {σ : H} {r : V × H} (h : mthV .index x vs σ = some r) : False := by
  refine Classical.byContradiction fun hnX => ?_
  obtain ⟨n, hn, h1⟩ := Option.bind_eq_some_iff.mp h
  refine hnX ?_
  clear hnX
  refine Classical.byContradiction fun hnX => ?_
  obtain ⟨l, hl, h2⟩ := Option.bind_eq_some_iff.mp h1
  refine hnX ?_
  clear hnX
  cases h2

theorem append_sound {x v : V} {vs : List V} {σ σ' : H} (h : mthV .append x vs σ = some (v, σ')) {ρ : List Addr} {s : Shared} {cx : Value} {cvs : List Value} (hr : HR K ρ σ s.heap) (rx : RV K ρ s.heap x cx) (rvs : RVs K ρ s.heap vs cvs) :
    TR K A (call (.builtin "list.append") (cx :: cvs)) ρ s σ' fun ρ' cv s' => RV K ρ' s'.heap v cv := by
  refine Classical.byContradiction fun hnX => ?_
  obtain ⟨n, x0, l, rfl, rfl, hn, hlen, rfl, rfl⟩ := append_inv h
  refine hnX ?_
  clear hnX
  cases rx with
  | obj ha =>
    rename_i a
    cases rvs with
    | cons r0 rn =>
      cases rn
      refine Classical.byContradiction fun hnX => ?_
      obtain ⟨ws, m, e, r, _⟩ := hr.obj _ _ _ hn ha
      refine hnX ?_
      clear hnX
      refine wpAny_list_append_plain (items := ws.toArray) ⟨m, e⟩ (fun h' hp hs' => ?_) (by have := list_len r (Nat.le_of_lt hlen); simpa using this)
      refine Classical.byContradiction fun hnX => ?_
      obtain ⟨m2, hp⟩ := hp
      refine hnX ?_
      clear hnX
      have hk : ∀ b o, b ≠ a → s.heap.get? b = some o → h'.get? b = some o := fun b o hb e => (hs'.2 b hb).trans e
      refine ⟨ρ, ⟨hr.setList hn ha (vs' := ws ++ [_]) (m' := m2) ?_ hk (r.append (.cons r0 .nil)) (by simp; exact Lin.lin [(.lt (.v 0) (.v 1))] (.le (.a (.v 0) (.k 1)) (.v 1)) (.l [1, 1]) rfl [_, _] [] hlen), Step.set (List.mem_of_getElem? ha) hk⟩, .none⟩
      rw [hp]; simp

theorem pop_sound {x v : V} {vs : List V} {σ σ' : H} (h : mthV .pop x vs σ = some (v, σ')) {ρ : List Addr} {s : Shared} {cx : Value} {cvs : List Value} (hr : HR K ρ σ s.heap) (rx : RV K ρ s.heap x cx) (rvs : RVs K ρ s.heap vs cvs) :
    TR K A (call (.builtin "list.pop") (cx :: cvs)) ρ s σ' fun ρ' cv s' => RV K ρ' s'.heap v cv := by
  refine Classical.byContradiction fun hnX => ?_
  obtain ⟨n, l, rfl, rfl, hn, hlast, rfl⟩ := pop_inv h
  refine hnX ?_
  clear hnX
  cases rx with
  | obj ha =>
    rename_i a
    cases rvs
    refine Classical.byContradiction fun hnX => ?_
    obtain ⟨ws, m, e, r, hll⟩ := hr.obj _ _ _ hn ha
    refine hnX ?_
    clear hnX
    have hlen := r.length
    have hne : l ≠ [] := by rintro rfl; cases hlast
    have hpos : 0 < l.length := List.length_pos_iff.mpr hne
    have hget : l[l.length - 1]? = some v := by rw [← List.getLast?_eq_getElem?]; exact hlast
    refine Classical.byContradiction fun hnX => ?_
    obtain ⟨cv, hc, rv⟩ := r.get hget
    refine hnX ?_
    clear hnX
    refine call_meets F.slot_list_pop ⟨_, e, rfl⟩ F.entry_list_pop (F.args_list_pop_1 _) (MeetsSeq.list_pop_last a ws.toArray m cv (by simpa [← hlen] using hc) (by have := list_len r hll; simpa using this)) ⟨e, ?_⟩
    have hk : ∀ b o, b ≠ a → s.heap.get? b = some o → (s.heap.update a (Obj.mapSeq fun xs => xs.eraseIdxIfInBounds (ws.toArray.size - 1))).get? b = some o := fun b o hb e => by
      rw [Heap.get?_update_other _ _ (fun e' => hb e'.symm)]; exact e
    have hd : ∃ m2, (s.heap.update a (Obj.mapSeq fun xs => xs.eraseIdxIfInBounds (ws.toArray.size - 1))).get? a = some (listObj ws.dropLast m2) := by
      have hge : (Obj.mapSeq (fun xs => xs.eraseIdxIfInBounds (ws.toArray.size - 1)) (listObj ws m)) = listObj ws.dropLast (m + 1) := by
        have e1 : ws.toArray.eraseIdxIfInBounds (ws.toArray.size - 1) = ws.dropLast.toArray := by
          have hlt : ws.length - 1 < ws.length := by exact Lin.lin [(.eq (.v 2) (.v 1)), (.lt (.k 0) (.v 2)), (.or (.an (.le (.k 1) (.v 1)) (.eq (.a (.v 0) (.k 1)) (.v 1))) (.an (.le (.v 1) (.k 1)) (.eq (.v 0) (.k 0))))] (.lt (.v 0) (.v 1)) (.s (.l [1, 0, 0, 0, 0, 1]) (.l [1, 1, 0, 1, 0, 1])) rfl [_, _, _] [] hlen hpos (Lin.sub_ax _ _)
          simp [Array.eraseIdxIfInBounds, hlt, List.eraseIdx_length_sub_one]
        have hsz : (ws.dropLast.toArray.size == ws.toArray.size) = false := by simp; exact Lin.lin [(.eq (.v 2) (.v 1)), (.lt (.k 0) (.v 2)), (.or (.an (.le (.k 1) (.v 1)) (.eq (.a (.v 0) (.k 1)) (.v 1))) (.an (.le (.v 1) (.k 1)) (.eq (.v 0) (.k 0))))] (.no (.eq (.v 0) (.v 1))) (.s (.l [0, 1, 0, 0, 0, 0, 1]) (.l [0, 1, 1, 0, 1, 0, 1])) rfl [_, _, _] [] hlen hpos (Lin.sub_ax _ _)
        show ({ cls := .type "list", data := .seq (ws.toArray.eraseIdxIfInBounds (ws.toArray.size - 1)) (if ((ws.toArray.eraseIdxIfInBounds (ws.toArray.size - 1)).size == ws.toArray.size) = true then m else m + 1) } : Obj) = _
        simp only [e1, hsz]; rfl
      refine ⟨m + 1, ?_⟩
      rw [Heap.get?_update_self _ e (by rw [hge]; rfl), hge]
    refine Classical.byContradiction fun hnX => ?_
    obtain ⟨m2, hd⟩ := hd
    refine hnX ?_
    clear hnX
    have hnt : ∀ us, s.heap.get? a ≠ some (tupObj us) := by intro us e'; rw [e] at e'; exact list_ne_tup e'
    have rd : RVs K ρ s.heap l.dropLast ws.dropLast := by
      rw [List.dropLast_eq_take, List.dropLast_eq_take, hlen]; exact r.take _
    exact ⟨ρ, ⟨hr.setList hn ha hd hk rd (by simp; exact Lin.lin [(.le (.v 0) (.v 1))] (.le (.v 0) (.a (.v 1) (.k 1))) (.l [1, 1]) rfl [_, _] [] hll), Step.set (List.mem_of_getElem? ha) hk⟩, rv.but hnt hk⟩

noncomputable def mthName : Mth → Str
  | .append => sAppend
  | .pop => sPop
  | .index => sIndex

theorem pe_mth {mm : Mth} {o : Expr} {p pos : Pos} {es : List Expr} {a : Ex} {as : Es} (hline : (p.endLine == pos.line) = true) (hcall : isCall o = false) (hlen : es.length < 20)
    (hc : cEs T c es = some as) (ho : PE K A env c cl o a) (h : PEs K A env c cl es as) : PE K A env c cl (.Call (.Attribute o (mthName mm) p) es [] pos) (.mth mm a as) := by
  intro ℓ σ v σ' he ρ s hr fo
  simp only [evalE] at he
  refine Classical.byContradiction fun hnX => ?_
  obtain ⟨x, σ1, h1, he⟩ := bnd_ok_inv he
  refine hnX ?_
  clear hnX
  refine Classical.byContradiction fun hnX => ?_
  obtain ⟨vs, σ2, h2, he⟩ := bnd_ok_inv he
  refine hnX ?_
  clear hnX
  have he := okH_inv he
  refine wpAny_Call_method_lateS (base_of hcall _ _) (few_of hc hlen pos) hline (wpAny_mono (ho ℓ σ x σ1 h1 ρ s hr fo) (fun cx s1 hq => ?_) fun _ _ f => f)
  refine Classical.byContradiction fun hnX => ?_
  obtain ⟨ρ1, g1, rx⟩ := hq
  refine hnX ?_
  clear hnX
  have hn : ∃ n, x = .obj n := by
    cases mm with
    | append => obtain ⟨n, _, _, rfl, _⟩ := append_inv he; exact ⟨n, rfl⟩
    | pop => obtain ⟨n, _, rfl, _⟩ := pop_inv he; exact ⟨n, rfl⟩
    | index => exact (index_none he).elim
  refine Classical.byContradiction fun hnX => ?_
  obtain ⟨n, rfl⟩ := hn
  refine hnX ?_
  clear hnX
  have hp := h pos ℓ σ1 vs σ2 h2 ρ1 s1 g1.hr (fo.step hr g1.st)
  cases rx with
  | obj ha =>
    rename_i ax
    have hobj : ∃ ob, s1.heap.get? ax = some ob ∧ ob.cls = .type "list" ∧ ob.dict = none := by
      have hlt : n < σ1.length := by rw [← g1.hr.len]; exact (List.getElem?_eq_some_iff.mp ha).1
      have hor := g1.hr.obj n σ1[n] ax (List.getElem?_eq_getElem hlt) ha
      cases ho1 : σ1[n] with
      | list l0 => rw [ho1] at hor; obtain ⟨ws, m, e, _⟩ := hor; exact ⟨_, e, rfl, rfl⟩
      | inst c d => rw [ho1] at hor; exact False.elim hor
      | ns l => rw [ho1] at hor; exact False.elim hor
      | exc c => rw [ho1] at hor; exact False.elim hor
    refine Classical.byContradiction fun hnX => ?_
    obtain ⟨ob, eob, hcls, hdict⟩ := hobj
    refine hnX ?_
    clear hnX
    rw [back_all hc] at hp
    have fin : ∀ id : String, (∀ (s2 : Shared) (ρ2 : List Addr) (cvs : List Value), HR K ρ2 σ2 s2.heap → RV K ρ2 s2.heap (.obj n) (.ref ax) → RVs K ρ2 s2.heap vs cvs → TR K A (call (.builtin id) (.ref ax :: cvs)) ρ2 s2 σ' fun ρ' cv s' => RV K ρ' s'.heap v cv) →
        Slot "list" (mthName mm) id → typeOf (.builtin id) = pure (.type "method_descriptor") → MethodOnS K.prog K.w A (fun _ _ => False) (mthName mm) (.ref ax) pos (backTo pos (starEach es env)) (fun a s' => ∃ ρ', Good K ρ s ρ' σ' s' ∧ RV K ρ' s'.heap v a) s1 := by
      intro id hid hslot htype
      refine ⟨"list", id, F.plainAttrs_list, hslot, htype, ⟨ob, eob, hcls⟩, fun a' e => by cases e; exact ⟨ob, eob, hdict⟩, ?_⟩
      rw [back_all hc]
      refine callWith_machine rfl (wpAny_mono hp (fun cvs s2 hq => ?_) fun _ _ f => f)
      refine Classical.byContradiction fun hnX => ?_
      obtain ⟨ρ2, g2, rvs⟩ := hq
      refine hnX ?_
      clear hnX
      exact TR.after (g1.trans g2) (hid s2 ρ2 cvs g2.hr (.obj (pre_get g2.st.pre ha)) rvs)
    cases mm with
    | append => exact fin "list.append" (fun s2 ρ2 cvs q1 q2 q3 => append_sound he q1 q2 q3) F.slot_list_append F.type_list_append
    | pop => exact fin "list.pop" (fun s2 ρ2 cvs q1 q2 q3 => pop_sound he q1 q2 q3) F.slot_list_pop F.type_list_pop
    | index => exact (index_none he).elim
end
end Mini

/-! The theorem for expressions. -/
set_option autoImplicit false
namespace Mini
open PySem PyProof.Rows PySem.SeqAt

noncomputable def SortOK (K : Kx) (A : Around) : Prop :=
  ∀ (σ σ' : H) (vs : List V) (v : V), bltV .sorted vs σ = some (v, σ') → ∀ (ρ : List Addr) (s : Shared) (cas : List Value), HR K ρ σ s.heap → RVs K ρ s.heap vs cas → TR K A (call (bltVal .sorted) cas) ρ s σ' fun ρ' cv s' => RV K ρ' s'.heap v cv

structure Hy (K : Kx) (A : Around) (cl : Cl) (T : Tabs) : Prop where
  G : GK K T
  ty : TyOK K
  hh : A.handled = none
  hu : A.units + 16 < cLine
  call : CallOK K A cl
  sort : (∃ x, T.blts.lookup x = some .sorted) → SortOK K A
  plain : T.cls = [] ∧ T.meths = [] ∧ T.attrs = []

theorem folded_of {T : Tabs} {c : CEnv} {e : Expr} {a : Ex} (h : cE T c e = some a) (env : Env) (v : Value) : foldedSetIterable e env v = pure v := by
  cases e with
  | Set _ _ => cases h
  | _ => rfl
theorem folded_R {T : Tabs} {c : CEnv} {e : Expr} {it : It} (h : cR T c e = some it) (env : Env) (v : Value) : foldedSetIterable e env v = pure v := by
  cases e with
  | Call _ _ _ _ => rfl
  | _ => cases h

theorem marks_of {T : Tabs} {c : CEnv} {e : Expr} {a : Ex} (h : cE T c e = some a) (op : CmpOp) : behindInMarks op e = false := by
  cases e with
  | Set _ _ => cases h
  | _ => rfl

theorem ite_some {P : Prop} [Decidable P] {α : Type} {x : Option α} {a : α} (h : (if P then x else .none) = some a) : P ∧ x = some a := by
  by_cases hp : P
  · rw [if_pos hp] at h; exact ⟨hp, h⟩
  · rw [if_neg hp] at h; cases h
theorem ite_none {P : Prop} [Decidable P] {α : Type} {x : Option α} {a : α} (h : (if P then .none else x) = some a) : ¬ P ∧ x = some a := by
  by_cases hp : P
  · rw [if_pos hp] at h; cases h
  · rw [if_neg hp] at h; exact ⟨hp, h⟩

theorem cCh_inv {T : Tabs} {c : CEnv} {ops : List CmpOp} {e : Expr} {es : List Expr} {r : Ch} (h : cCh T c ops (e :: es) = some r) :
    ∃ op a, cE T c e = some a ∧ ((es = [] ∧ ops = [op] ∧ r = .one (cCop op) a) ∨ ∃ op' ops' e' es' r', es = e' :: es' ∧ ops = op :: op' :: ops' ∧ cCh T c (op' :: ops') (e' :: es') = some r' ∧ r = .more (cCop op) a r') := by
  cases ops with
  | nil => cases h
  | cons op ops =>
    refine Classical.byContradiction fun hnX => ?_
    obtain ⟨a, ha, h1⟩ := Option.bind_eq_some_iff.mp (show (cE T c e).bind _ = some r from h)
    refine hnX ?_
    clear hnX
    refine ⟨op, a, ha, ?_⟩
    cases es with
    | nil =>
      left
      refine Classical.byContradiction fun hnX => ?_
      obtain ⟨h2, h3⟩ := ite_some (show (if ops.isEmpty then some (Ch.one (cCop op) a) else .none) = some r from h1)
      refine hnX ?_
      clear hnX
      cases h3
      exact ⟨rfl, by rw [List.isEmpty_iff.mp h2], rfl⟩
    | cons e' es' =>
      right
      refine Classical.byContradiction fun hnX => ?_
      obtain ⟨r', h2, h3⟩ := Option.map_eq_some_iff.mp (show (cCh T c ops (e' :: es')).map _ = some r from h1)
      refine hnX ?_
      clear hnX
      cases ops with
      | nil => cases h2
      | cons op' ops' => exact ⟨op', ops', e', es', r', rfl, rfl, h2, h3.symm⟩

theorem marked_of {T : Tabs} {c : CEnv} {env : Env} : ∀ {es : List Expr} {ops : List CmpOp} {r : Ch}, cCh T c ops es = some r → markedEach ops es (evalEach es env) = evalEach es env
  | [], ops, r, h => by cases ops <;> cases h
  | e :: es, ops, r, h => by
    have again := @marked_of T c env es
    refine Classical.byContradiction fun hnX => ?_
    obtain ⟨op, a, ha, h1⟩ := cCh_inv h
    refine hnX ?_
    clear hnX
    rcases h1 with ⟨rfl, rfl, rfl⟩ | ⟨op', ops', e', es', r', rfl, rfl, h2, rfl⟩
    · show [markedBehindIn op e (eval e env)] = [eval e env]
      rw [markedBehindIn_of_false (marks_of ha op)]
    · have := again h2
      show eval e env :: markedEach (op' :: ops') (e' :: es') (evalEach (e' :: es') env) = _
      rw [this]; rfl

theorem nameIs_inv {e : Expr} {x : Str} (h : nameIs e = some x) : ∃ p, e = .Name x p := by
  cases e with
  | Name y p => cases h; exact ⟨p, rfl⟩
  | _ => cases h
theorem iter_inv {T : Tabs} {c : CEnv} {e : Expr} {it : It} (h : (cR T c e).elim ((cE T c e).map .ex) some = some it) : cR T c e = some it ∨ ∃ a, cE T c e = some a ∧ it = .ex a := by
  cases hR : cR T c e with
  | some it' => rw [hR] at h; exact .inl h
  | none =>
    rw [hR] at h
    refine Classical.byContradiction fun hnX => ?_
    obtain ⟨a, ha, e⟩ := Option.map_eq_some_iff.mp (show (cE T c e).map It.ex = some it from h)
    refine hnX ?_
    clear hnX
    exact .inr ⟨a, ha, e.symm⟩

theorem cGen_inv {T : Tabs} {sc : Scope} {c : CEnv} {tg iter : Expr} {fs : List Expr} {async : Int} {gs : List Comprehension} {g : Nat × It × Es} (h : cGen T sc c (⟨tg, iter, fs, async⟩ :: gs) = some g) :
    ∃ y px, tg = .Name y px ∧ gs = [] ∧ async = 0 ∧ (compC c sc).names.lookup y = some .local ∧ cVar (compC c sc) y = some g.1 ∧ cEs T (compC c sc) fs = some g.2.2 ∧ (cR T c iter = some g.2.1 ∨ ∃ a, cE T c iter = some a ∧ g.2.1 = .ex a) := by
  refine Classical.byContradiction fun hnX => ?_
  obtain ⟨h1, h2⟩ := ite_some (show (if gs.isEmpty ∧ async = 0 then _ else Option.none) = some g from h)
  refine hnX ?_
  clear hnX
  refine Classical.byContradiction fun hnX => ?_
  obtain ⟨x, hx, h3⟩ := Option.bind_eq_some_iff.mp h2
  refine hnX ?_
  clear hnX
  refine Classical.byContradiction fun hnX => ?_
  obtain ⟨i, hi, h4⟩ := Option.bind_eq_some_iff.mp h3
  refine hnX ?_
  clear hnX
  refine Classical.byContradiction fun hnX => ?_
  obtain ⟨h5, h6⟩ := ite_some h4
  refine hnX ?_
  clear hnX
  refine Classical.byContradiction fun hnX => ?_
  obtain ⟨it, hit, h7⟩ := Option.bind_eq_some_iff.mp h6
  refine hnX ?_
  clear hnX
  refine Classical.byContradiction fun hnX => ?_
  obtain ⟨fs', hfs, rfl⟩ := Option.map_eq_some_iff.mp h7
  refine hnX ?_
  clear hnX
  refine Classical.byContradiction fun hnX => ?_
  obtain ⟨p, e⟩ := nameIs_inv hx
  refine hnX ?_
  clear hnX
  exact ⟨x, p, e, List.isEmpty_iff.mp h1.1, h1.2, h5, hi, hfs, iter_inv hit⟩

section
variable {K : Kx} {A : Around} {cl : Cl} {T : Tabs}

theorem both {e : Expr} {c : CEnv} {env : Env} {a : Ex} (h : PE K A env c cl e a) (hw : ∀ w, isTrue e env w = (do let v ← w; standAt e.pos; holding [v] (truthy v))) : PE K A env c cl e a ∧ PT K A env c cl e a := ⟨h, pt_plain h hw⟩

theorem s_name_call (hy : Hy K A cl T) {f : Str} {q p : Pos} {es : List Expr} {as : Es} {c : CEnv} {env : Env} {a : Ex} (h : cCall T c f as = some a) (hc : cEs T c es = some as) (ih : PEs K A env c cl es as) : PE K A env c cl (.Call (.Name f q) es [] p) a := by
  refine Classical.byContradiction fun hnX => ?_
  obtain ⟨hg, h1⟩ := ite_some (show (if isGlob c f then _ else Option.none) = some a from h)
  refine hnX ?_
  clear hnX
  cases hn : T.fns.lookup f with
  | some n => rw [hn] at h1; cases h1; exact pe_call hy.G hy.call hg hn hc ih
  | none =>
    rw [hn] at h1
    cases hb : T.blts.lookup f with
    | some b => rw [hb] at h1; cases h1; exact pe_blt hy.G hy.ty hy.hh (fun e => by subst e; exact hy.sort ⟨_, hb⟩) hg hb hc ih
    | none => rw [hb, hy.plain.1] at h1; cases h1

theorem s_meth (hy : Hy K A cl T) {o : Expr} {m : Str} {q p : Pos} {es : List Expr} {as : Es} {c : CEnv} {env : Env} {a x : Ex} (h : cMeth T m x as = some a) (hl : (q.endLine == p.line) = true) (hcall : isCall o = false) (hlen : es.length < 20) (hc : cEs T c es = some as) (io : PE K A env c cl o x)
    (ih : PEs K A env c cl es as) : PE K A env c cl (.Call (.Attribute o m q) es [] p) a := by
  unfold cMeth at h
  by_cases h1 : (m == sAppend) = true
  · rw [if_pos h1] at h; cases h; obtain rfl := beq_iff_eq.mp h1; exact pe_mth (mm := .append) hl hcall hlen hc io ih
  · rw [if_neg h1] at h
    by_cases h2 : (m == sPop) = true
    · rw [if_pos h2] at h; cases h; obtain rfl := beq_iff_eq.mp h2; exact pe_mth (mm := .pop) hl hcall hlen hc io ih
    · rw [if_neg h2] at h
      by_cases h3 : (m == sIndex) = true
      · rw [if_pos h3] at h; cases h; obtain rfl := beq_iff_eq.mp h3; exact pe_mth (mm := .index) hl hcall hlen hc io ih
      · rw [if_neg h3, hy.plain.2.1] at h; cases h

theorem s_rng (hy : Hy K A cl T) {f : Str} {q p : Pos} {es : List Expr} {as : Es} {c : CEnv} {env : Env} {it : It} (h : cRng f as = some it) (hg : isGlob c f = true) (hc : cEs T c es = some as) (ih : PEs K A env c cl es as) : PI K A env c cl (.Call (.Name f q) es [] p) it := by
  cases as with
  | nil => cases h
  | cons a r =>
    cases r with
    | nil =>
      have h : (if f == sRange then some (It.rng1 a) else if f == sEnum then some (It.enum a) else .none) = some it := h
      by_cases h1 : (f == sRange) = true
      · rw [if_pos h1] at h; cases h; exact pi_rng1 hy.G hg h1 hc ih
      · rw [if_neg h1] at h
        refine Classical.byContradiction fun hnX => ?_
        obtain ⟨_, h2⟩ := ite_some h
        refine hnX ?_
        clear hnX
        cases h2
        intro ℓ σ src σ' he
        cases he
    | cons b r' =>
      cases r' with
      | nil =>
        refine Classical.byContradiction fun hnX => ?_
        obtain ⟨h1, h2⟩ := ite_some (show (if f == sRange then some (It.rng2 a b) else .none) = some it from h)
        refine hnX ?_
        clear hnX
        cases h2
        intro ℓ σ src σ' he
        cases he
      | cons _ _ => cases h

mutual
theorem sE (hy : Hy K A cl T) : ∀ (e : Expr) (c : CEnv) (env : Env) (a : Ex), cE T c e = some a → PE K A env c cl e a ∧ PT K A env c cl e a
  | .Constant k n p, c, env, a, h => by
    refine Classical.byContradiction fun hnX => ?_
    obtain ⟨v, hv, rfl⟩ := Option.map_eq_some_iff.mp (show (cConst k).map _ = some a from h)
    refine hnX ?_
    clear hnX
    exact both (pe_const hv) fun _ => rfl
  | .Name x p, c, env, a, h => both (pe_name hy.G (show cName T c x = some a from h)) fun _ => rfl
  | .BinOp l op r p, c, env, a, h => by
    refine Classical.byContradiction fun hnX => ?_
    obtain ⟨x, h1, h2⟩ := Option.bind_eq_some_iff.mp (show (cE T c l).bind _ = some a from h)
    refine hnX ?_
    clear hnX
    refine Classical.byContradiction fun hnX => ?_
    obtain ⟨o, h3, h4⟩ := Option.bind_eq_some_iff.mp h2
    refine hnX ?_
    clear hnX
    refine Classical.byContradiction fun hnX => ?_
    obtain ⟨y, h5, rfl⟩ := Option.map_eq_some_iff.mp h4
    refine hnX ?_
    clear hnX
    exact both (pe_bin h3 (sE hy l c env x h1).1 (sE hy r c env y h5).1) fun _ => rfl
  | .UnaryOp op x p, c, env, a, h => by
    refine Classical.byContradiction fun hnX => ?_
    obtain ⟨y, h1, h2⟩ := Option.bind_eq_some_iff.mp (show (cE T c x).bind _ = some a from h)
    refine hnX ?_
    clear hnX
    have ih := sE hy x c env y h1
    cases op with
    | USub => cases h2; exact both (pe_neg ih.1) fun _ => rfl
    | Not => cases h2; exact ⟨pe_not ih.1, pt_not ih.2⟩
    | _ => cases h2
  | .BoolOp op vs p, c, env, a, h => by
    have ih := sB hy op vs c env a h
    exact ⟨fun ℓ σ v σ' he ρ s hr fo => ih.1 p ℓ σ v σ' he ρ s hr fo, fun ℓ σ v σ' b he hb ρ s hr fo => ih.2 ℓ σ v σ' b he hb ρ s hr fo⟩
  | .Compare l ops cs p, c, env, a, h => by
    refine Classical.byContradiction fun hnX => ?_
    obtain ⟨x, h1, h2⟩ := Option.bind_eq_some_iff.mp (show (cE T c l).bind _ = some a from h)
    refine hnX ?_
    clear hnX
    refine Classical.byContradiction fun hnX => ?_
    obtain ⟨r, h3, rfl⟩ := Option.map_eq_some_iff.mp h2
    refine hnX ?_
    clear hnX
    have ih := (sE hy l c env x h1).1
    have ihc := sCh hy cs ops c env r h3
    exact ⟨pe_cmp (marked_of h3) ih ihc, pt_cmp (marked_of h3) ih ihc⟩
  | .IfExp t b o p, c, env, a, h => by
    refine Classical.byContradiction fun hnX => ?_
    obtain ⟨x, h1, h2⟩ := Option.bind_eq_some_iff.mp (show (cE T c t).bind _ = some a from h)
    refine hnX ?_
    clear hnX
    refine Classical.byContradiction fun hnX => ?_
    obtain ⟨y, h3, h4⟩ := Option.bind_eq_some_iff.mp h2
    refine hnX ?_
    clear hnX
    refine Classical.byContradiction fun hnX => ?_
    obtain ⟨z, h5, rfl⟩ := Option.map_eq_some_iff.mp h4
    refine hnX ?_
    clear hnX
    have i1 := sE hy t c env x h1
    have i2 := sE hy b c env y h3
    have i3 := sE hy o c env z h5
    exact ⟨pe_ife i1.2 i2.1 i3.1, pt_ife i1.2 i2.2 i3.2⟩
  | .Tuple es k p, c, env, a, h => by
    refine Classical.byContradiction fun hnX => ?_
    obtain ⟨as, h1, rfl⟩ := Option.map_eq_some_iff.mp (show (cEs T c es).map _ = some a from h)
    refine hnX ?_
    clear hnX
    exact both (pe_tup (sEs hy es c env as h1)) fun _ => rfl
  | .List es p, c, env, a, h => by
    refine Classical.byContradiction fun hnX => ?_
    obtain ⟨as, h1, rfl⟩ := Option.map_eq_some_iff.mp (show (cEs T c es).map _ = some a from h)
    refine hnX ?_
    clear hnX
    exact both (pe_lst (sEs hy es c env as h1)) fun _ => rfl
  | .Subscript v i p, c, env, a, h => by
    refine Classical.byContradiction fun hnX => ?_
    obtain ⟨x, h1, h2⟩ := Option.bind_eq_some_iff.mp (show (cE T c v).bind _ = some a from h)
    refine hnX ?_
    clear hnX
    have iv := (sE hy v c env x h1).1
    cases hS : cS T c i with
    | none =>
      rw [hS] at h2
      refine Classical.byContradiction fun hnX => ?_
      obtain ⟨y, h3, rfl⟩ := Option.map_eq_some_iff.mp (show (cE T c i).map _ = some a from h2)
      refine hnX ?_
      clear hnX
      exact both (pe_idx iv (sE hy i c env y h3).1) fun _ => rfl
    | some q =>
      rw [hS] at h2
      cases h2
      exact both (sSl hy i c env q hS v p x iv) fun _ => rfl
  | .ListComp elt gens sc p, c, env, a, h => by
    refine Classical.byContradiction fun hnX => ?_
    obtain ⟨g, h1, h2⟩ := Option.bind_eq_some_iff.mp (show (cGen T sc c gens).bind _ = some a from h)
    refine hnX ?_
    clear hnX
    refine Classical.byContradiction fun hnX => ?_
    obtain ⟨e, h3, h4⟩ := Option.bind_eq_some_iff.mp h2
    refine hnX ?_
    clear hnX
    refine Classical.byContradiction fun hnX => ?_
    obtain ⟨hok, h5⟩ := ite_some h4
    refine hnX ?_
    clear hnX
    cases h5
    refine Classical.byContradiction fun hnX => ?_
    obtain ⟨y, px, iter, fs, rfl, hloc, hv, hI, hfold, hF⟩ := sG hy sc gens c env g h1
    refine hnX ?_
    clear hnX
    exact both (pe_comp hy.hh (compOK_of hok) hfold hv hloc hI (fun cenv => (sE hy elt _ cenv e h3).1) hF) fun _ => rfl
  | .Call f as ks p, c, env, a, h => by
    refine Classical.byContradiction fun hnX => ?_
    obtain ⟨h0, h1⟩ := ite_some (show (if ks.isEmpty ∧ as.length < 20 then _ else Option.none) = some a from h)
    refine hnX ?_
    clear hnX
    refine Classical.byContradiction fun hnX => ?_
    obtain ⟨xs, h2, h3⟩ := Option.bind_eq_some_iff.mp h1
    refine hnX ?_
    clear hnX
    obtain rfl := List.isEmpty_iff.mp h0.1
    have ihs := sEs hy as c env xs h2
    cases f with
    | Name g q => exact both (s_name_call hy h3 h2 ihs) fun _ => rfl
    | Attribute o m q =>
      refine Classical.byContradiction fun hnX => ?_
      obtain ⟨x, h4, h5⟩ := Option.bind_eq_some_iff.mp (show (cE T c o).bind _ = some a from h3)
      refine hnX ?_
      clear hnX
      refine Classical.byContradiction fun hnX => ?_
      obtain ⟨h6, h7⟩ := ite_some h5
      refine hnX ?_
      clear hnX
      rw [Bool.and_eq_true, Bool.not_eq_true'] at h6
      exact both (s_meth hy h7 h6.1 h6.2 h0.2 h2 (sE hy o c env x h4).1 ihs) fun _ => rfl
    | _ => cases h3
  | .Attribute o m p, c, env, a, h => by
    refine Classical.byContradiction fun hnX => ?_
    obtain ⟨x, h1, h2⟩ := Option.bind_eq_some_iff.mp (show (cE T c o).bind _ = some a from h)
    refine hnX ?_
    clear hnX
    rw [hy.plain.2.2] at h2
    cases h2
  | .NamedExpr _ _ _, c, env, a, h => by cases h
  | .Lambda _ _ _ _, c, env, a, h => by cases h
  | .Dict _ _ _, c, env, a, h => by cases h
  | .Set _ _ _, c, env, a, h => by cases h
  | .SetComp _ _ _ _, c, env, a, h => by cases h
  | .DictComp _ _ _ _ _, c, env, a, h => by cases h
  | .GeneratorExp _ _ _ _, c, env, a, h => by cases h
  | .Await _ _, c, env, a, h => by cases h
  | .Yield _ _, c, env, a, h => by cases h
  | .YieldFrom _ _, c, env, a, h => by cases h
  | .FormattedValue _ _ _ _, c, env, a, h => by cases h
  | .JoinedStr _ _, c, env, a, h => by cases h
  | .Starred _ _, c, env, a, h => by cases h
  | .Slice _ _ _ _, c, env, a, h => by cases h
theorem sG (hy : Hy K A cl T) (sc : Scope) : ∀ (gens : List Comprehension) (c : CEnv) (env : Env) (g : Nat × It × Es), cGen T sc c gens = some g → ∃ y px iter fs, gens = [⟨.Name y px, iter, fs, 0⟩] ∧ (compC c sc).names.lookup y = some .local ∧ cVar (compC c sc) y = some g.1 ∧
      PI K A env c cl iter g.2.1 ∧ (∀ v, foldedSetIterable iter env v = pure v) ∧ ∀ cenv, PF K A cenv (compC c sc) cl fs g.2.2
  | [], c, env, g, h => by cases h
  | ⟨tg, iter, fs, async⟩ :: gs, c, env, g, h => by
    refine Classical.byContradiction fun hnX => ?_
    obtain ⟨y, px, e1, e2, e3, hloc, hv, hfs, hor⟩ := cGen_inv h
    refine hnX ?_
    clear hnX
    have hF := fun cenv => sFs hy fs _ cenv _ hfs
    have hI : PI K A env c cl iter g.2.1 ∧ ∀ v, foldedSetIterable iter env v = pure v := by
      rcases hor with hR | ⟨a', hE, e'⟩
      · exact ⟨sR hy iter c env _ hR, folded_R hR env⟩
      · rw [e']; exact ⟨pi_ex (sE hy iter c env _ hE).1, folded_of hE env⟩
    exact ⟨y, px, iter, fs, by rw [e1, e2, e3], hloc, hv, hI.1, hI.2, hF⟩
theorem sSl (hy : Hy K A cl T) : ∀ (i : Expr) (c : CEnv) (env : Env) (q : Oe × Oe × Oe), cS T c i = some q → ∀ (v : Expr) (p : Pos) (x : Ex), PE K A env c cl v x → PE K A env c cl (.Subscript v i p) (.slc x q.1 q.2.1 q.2.2)
  | .Slice lo hi st r, c, env, q, h, v, p, x, iv => by
    refine Classical.byContradiction fun hnX => ?_
    obtain ⟨y, h1, h2⟩ := Option.bind_eq_some_iff.mp (show (cO T c lo).bind _ = some q from h)
    refine hnX ?_
    clear hnX
    refine Classical.byContradiction fun hnX => ?_
    obtain ⟨z, h3, h4⟩ := Option.bind_eq_some_iff.mp h2
    refine hnX ?_
    clear hnX
    refine Classical.byContradiction fun hnX => ?_
    obtain ⟨w, h5, rfl⟩ := Option.map_eq_some_iff.mp h4
    refine hnX ?_
    clear hnX
    exact pe_slc iv (sO hy lo c env _ h1) (sO hy hi c env _ h3) (sO hy st c env _ h5)
  | .Constant .., c, env, q, h, v, p, x, iv => by cases h
  | .Name .., c, env, q, h, v, p, x, iv => by cases h
  | .BinOp .., c, env, q, h, v, p, x, iv => by cases h
  | .UnaryOp .., c, env, q, h, v, p, x, iv => by cases h
  | .BoolOp .., c, env, q, h, v, p, x, iv => by cases h
  | .Compare .., c, env, q, h, v, p, x, iv => by cases h
  | .IfExp .., c, env, q, h, v, p, x, iv => by cases h
  | .Tuple .., c, env, q, h, v, p, x, iv => by cases h
  | .List .., c, env, q, h, v, p, x, iv => by cases h
  | .Subscript .., c, env, q, h, v, p, x, iv => by cases h
  | .ListComp .., c, env, q, h, v, p, x, iv => by cases h
  | .Call .., c, env, q, h, v, p, x, iv => by cases h
  | .Attribute .., c, env, q, h, v, p, x, iv => by cases h
  | .NamedExpr .., c, env, q, h, v, p, x, iv => by cases h
  | .Lambda .., c, env, q, h, v, p, x, iv => by cases h
  | .Dict .., c, env, q, h, v, p, x, iv => by cases h
  | .Set .., c, env, q, h, v, p, x, iv => by cases h
  | .SetComp .., c, env, q, h, v, p, x, iv => by cases h
  | .DictComp .., c, env, q, h, v, p, x, iv => by cases h
  | .GeneratorExp .., c, env, q, h, v, p, x, iv => by cases h
  | .Await .., c, env, q, h, v, p, x, iv => by cases h
  | .Yield .., c, env, q, h, v, p, x, iv => by cases h
  | .YieldFrom .., c, env, q, h, v, p, x, iv => by cases h
  | .FormattedValue .., c, env, q, h, v, p, x, iv => by cases h
  | .JoinedStr .., c, env, q, h, v, p, x, iv => by cases h
  | .Starred .., c, env, q, h, v, p, x, iv => by cases h
theorem sR (hy : Hy K A cl T) : ∀ (e : Expr) (c : CEnv) (env : Env) (it : It), cR T c e = some it → PI K A env c cl e it
  | .Call f as ks p, c, env, it, h => by
    refine Classical.byContradiction fun hnX => ?_
    obtain ⟨h0, h1⟩ := ite_some (show (if ks.isEmpty then _ else Option.none) = some it from h)
    refine hnX ?_
    clear hnX
    refine Classical.byContradiction fun hnX => ?_
    obtain ⟨g, h2, h3⟩ := Option.bind_eq_some_iff.mp h1
    refine hnX ?_
    clear hnX
    refine Classical.byContradiction fun hnX => ?_
    obtain ⟨hg, h4⟩ := ite_some h3
    refine hnX ?_
    clear hnX
    refine Classical.byContradiction fun hnX => ?_
    obtain ⟨xs, h5, h6⟩ := Option.bind_eq_some_iff.mp h4
    refine hnX ?_
    clear hnX
    obtain rfl := List.isEmpty_iff.mp h0
    refine Classical.byContradiction fun hnX => ?_
    obtain ⟨q, rfl⟩ := nameIs_inv h2
    refine hnX ?_
    clear hnX
    exact s_rng hy h6 hg h5 (sEs hy as c env xs h5)
  | .Constant .., c, env, it, h => by cases h
  | .Name .., c, env, it, h => by cases h
  | .BinOp .., c, env, it, h => by cases h
  | .UnaryOp .., c, env, it, h => by cases h
  | .BoolOp .., c, env, it, h => by cases h
  | .Compare .., c, env, it, h => by cases h
  | .IfExp .., c, env, it, h => by cases h
  | .Tuple .., c, env, it, h => by cases h
  | .List .., c, env, it, h => by cases h
  | .Subscript .., c, env, it, h => by cases h
  | .ListComp .., c, env, it, h => by cases h
  | .Attribute .., c, env, it, h => by cases h
  | .NamedExpr .., c, env, it, h => by cases h
  | .Lambda .., c, env, it, h => by cases h
  | .Dict .., c, env, it, h => by cases h
  | .Set .., c, env, it, h => by cases h
  | .SetComp .., c, env, it, h => by cases h
  | .DictComp .., c, env, it, h => by cases h
  | .GeneratorExp .., c, env, it, h => by cases h
  | .Await .., c, env, it, h => by cases h
  | .Yield .., c, env, it, h => by cases h
  | .YieldFrom .., c, env, it, h => by cases h
  | .FormattedValue .., c, env, it, h => by cases h
  | .JoinedStr .., c, env, it, h => by cases h
  | .Starred .., c, env, it, h => by cases h
  | .Slice .., c, env, it, h => by cases h
theorem sFs (hy : Hy K A cl T) : ∀ (es : List Expr) (c : CEnv) (env : Env) (as : Es), cEs T c es = some as → PF K A env c cl es as
  | [], c, env, as, h => by cases h; exact pf_nil
  | e :: es, c, env, as, h => by
    refine Classical.byContradiction fun hnX => ?_
    obtain ⟨a, b, h1, h2, rfl⟩ := cEs_cons h
    refine hnX ?_
    clear hnX
    exact pf_cons (sE hy e c env a h1).2 (sFs hy es c env b h2)
theorem sEs (hy : Hy K A cl T) : ∀ (es : List Expr) (c : CEnv) (env : Env) (as : Es), cEs T c es = some as → PEs K A env c cl es as
  | [], c, env, as, h => by cases h; exact pes_nil
  | e :: es, c, env, as, h => by
    refine Classical.byContradiction fun hnX => ?_
    obtain ⟨a, b, h1, h2, rfl⟩ := cEs_cons h
    refine hnX ?_
    clear hnX
    exact pes_cons (star_plain h1 es) (sE hy e c env a h1).1 (sEs hy es c env b h2)
theorem sB (hy : Hy K A cl T) (op : BoolOp) : ∀ (es : List Expr) (c : CEnv) (env : Env) (a : Ex), cB T op c es = some a → PB K A env c cl op es a
  | [], c, env, a, h => by cases h
  | e :: es, c, env, a, h => by
    have again := sB hy op es
    cases es with
    | nil => have ih := sE hy e c env a h; exact pb_one ih.1 ih.2
    | cons e' es =>
      refine Classical.byContradiction fun hnX => ?_
      obtain ⟨x, h1, h2⟩ := Option.bind_eq_some_iff.mp (show (cE T c e).bind _ = some a from h)
      refine hnX ?_
      clear hnX
      refine Classical.byContradiction fun hnX => ?_
      obtain ⟨y, h3, rfl⟩ := Option.map_eq_some_iff.mp h2
      refine hnX ?_
      clear hnX
      have ih := sE hy e c env x h1
      exact pb_cons ih.1 ih.2 (again c env y h3)
theorem sCh (hy : Hy K A cl T) : ∀ (es : List Expr) (ops : List CmpOp) (c : CEnv) (env : Env) (r : Ch), cCh T c ops es = some r → PC K A env c cl ops es r
  | [], ops, c, env, r, h => by cases ops <;> cases h
  | e :: es, ops, c, env, r, h => by
    have again := sCh hy es
    refine Classical.byContradiction fun hnX => ?_
    obtain ⟨op, a, ha, h1⟩ := cCh_inv h
    refine hnX ?_
    clear hnX
    have ih := (sE hy e c env a ha).1
    cases es with
    | nil =>
      rcases h1 with ⟨_, rfl, rfl⟩ | ⟨op', ops', e', es', r', h0, _⟩
      · exact pc_one hy.hu ih
      · cases h0
    | cons e1 es1 =>
      rcases h1 with ⟨h0, _⟩ | ⟨op', ops', e', es', r', h0, rfl, h2, rfl⟩
      · cases h0
      · cases h0
        exact pc_more hy.hu ih (again (op' :: ops') c env r' h2)
theorem sO (hy : Hy K A cl T) : ∀ (eo : Option Expr) (c : CEnv) (env : Env) (a : Oe), cO T c eo = some a → PO K A env c cl eo a
  | .none, c, env, a, h => by cases h; exact po_no
  | some e, c, env, a, h => by
    refine Classical.byContradiction fun hnX => ?_
    obtain ⟨x, h1, rfl⟩ := Option.map_eq_some_iff.mp (show (cE T c e).map _ = some a from h)
    refine hnX ?_
    clear hnX
    exact po_yes (sE hy e c env x h1).1
end
end
end Mini

/-! Statements. -/
set_option autoImplicit false
namespace Mini
open PySem PyProof.Rows PySem.SeqAt

noncomputable def FR (K : Kx) (ρ : List Addr) (h : Heap) : Fl → Flow → Prop
  | .next, .next => True
  | .brk, .brk => True
  | .ret v, .ret cv => RV K ρ h v cv
  | _, _ => False

/-- a statement does as the evaluator says -/
noncomputable def TS (K : Kx) (A : Around) (env : Env) (c : CEnv) (t : Sem Flow) (ρ : List Addr) (s : Shared) (f : Fl) (ℓ' : L) (σ' : H) : Prop :=
  wpAny K.M A t (fun cf s' => ∃ ρ', HR K ρ' σ' s'.heap ∧ StepX (frameX env) ρ s ρ' s' ∧ FO K env c ℓ' ρ' s'.heap ∧ FR K ρ' s'.heap f cf) (fun _ _ => False) s

noncomputable def NX (f : Fl) : Prop := ∀ k, f ≠ .exc k

noncomputable def PS (K : Kx) (A : Around) (env : Env) (c : CEnv) (cl : Cl) (st : Stmt) (a : St) : Prop :=
  ∀ ℓ σ f ℓ' σ', exec cl a ℓ σ = some (f, ℓ', σ') → NX f → ∀ ρ s, HR K ρ σ s.heap → FO K env c ℓ ρ s.heap → TS K A env c (PySem.exec st env) ρ s f ℓ' σ'
noncomputable def PSs (K : Kx) (A : Around) (env : Env) (c : CEnv) (cl : Cl) (ss : List Stmt) (a : Ss) : Prop :=
  ∀ ℓ σ f ℓ' σ', execs cl a ℓ σ = some (f, ℓ', σ') → NX f → ∀ ρ s, HR K ρ σ s.heap → FO K env c ℓ ρ s.heap → TS K A env c (PySem.execs ss env) ρ s f ℓ' σ'

theorem bndY_inv {α : Type} {x : X α} {ℓ : L} {k : α → H → Y} {f : Fl} {ℓ' : L} {σ' : H} (h : bndY x ℓ k = some (f, ℓ', σ')) (hf : NX f) : ∃ a σ1, x = some (.ok a, σ1) ∧ k a σ1 = some (f, ℓ', σ') := by
  unfold bndY at h
  split at h
  · cases h
  · exact ⟨_, _, rfl, h⟩
  · cases h; exact absurd rfl (hf _)

section
variable {K : Kx} {A : Around} {env : Env} {c : CEnv} {cl : Cl} {T : Tabs}

theorem StepX.then {ℓ : L} {ρ ρ1 ρ2 : List Addr} {s s1 s2 : Shared} (x : StepX (frameX env) ρ s ρ1 s1) (fo : FO K env c ℓ ρ1 s1.heap) (y : StepX (frameX env) ρ1 s1 ρ2 s2) : StepX (frameX env) ρ s ρ2 s2 := x.trans y fo.X_some

theorem pss_nil : PSs K A env c cl [] .nil := by
  intro ℓ σ f ℓ' σ' he hf ρ s hr fo
  cases he
  exact wpAny_execs_nil ⟨ρ, hr, StepX.refl _ _ _, fo, trivial⟩
theorem pss_cons {st : Stmt} {ss : List Stmt} {a : St} {b : Ss} (h : PS K A env c cl st a) (h' : PSs K A env c cl ss b) : PSs K A env c cl (st :: ss) (.cons a b) := by
  intro ℓ σ f ℓ' σ' he hf ρ s hr fo
  simp only [execs] at he
  cases h1 : exec cl a ℓ σ with
  | none => rw [h1] at he; cases he
  | some y =>
    refine Classical.byContradiction fun hnX => ?_
    obtain ⟨f1, ℓ1, σ1⟩ := y
    refine hnX ?_
    clear hnX
    rw [h1] at he
    cases f1 with
    | next =>
      simp only [seqY_next] at he
      refine wpAny_execs_cons (wpAny_mono (h ℓ σ .next ℓ1 σ1 h1 (by intro k e; cases e) ρ s hr fo) (fun cf s1 hq => ?_) fun _ _ f => f)
      refine Classical.byContradiction fun hnX => ?_
      obtain ⟨ρ1, hr1, st1, fo1, hfr⟩ := hq
      refine hnX ?_
      clear hnX
      cases cf with
      | next =>
        refine wpAny_mono (h' ℓ1 σ1 f ℓ' σ' he hf ρ1 s1 hr1 fo1) (fun cf s2 hq => ?_) fun _ _ f => f
        refine Classical.byContradiction fun hnX => ?_
        obtain ⟨ρ2, hr2, st2, fo2, hfr2⟩ := hq
        refine hnX ?_
        clear hnX
        exact ⟨ρ2, hr2, st1.then fo1 st2, fo2, hfr2⟩
      | brk => exact False.elim hfr
      | cont => exact False.elim hfr
      | ret v => exact False.elim hfr
    | brk =>
      simp only [seqY_brk] at he
      cases he
      refine wpAny_execs_cons (wpAny_mono (h ℓ σ .brk ℓ' σ' h1 (by intro k e; cases e) ρ s hr fo) (fun cf s1 hq => ?_) fun _ _ f => f)
      refine Classical.byContradiction fun hnX => ?_
      obtain ⟨ρ1, hr1, st1, fo1, hfr⟩ := hq
      refine hnX ?_
      clear hnX
      cases cf with
      | brk => exact ⟨ρ1, hr1, st1, fo1, hfr⟩
      | next => exact False.elim hfr
      | cont => exact False.elim hfr
      | ret v => exact False.elim hfr
    | ret v =>
      simp only [seqY_ret] at he
      cases he
      refine wpAny_execs_cons (wpAny_mono (h ℓ σ (.ret v) ℓ' σ' h1 (by intro k e; cases e) ρ s hr fo) (fun cf s1 hq => ?_) fun _ _ f => f)
      refine Classical.byContradiction fun hnX => ?_
      obtain ⟨ρ1, hr1, st1, fo1, hfr⟩ := hq
      refine hnX ?_
      clear hnX
      cases cf with
      | ret cv => exact ⟨ρ1, hr1, st1, fo1, hfr⟩
      | next => exact False.elim hfr
      | cont => exact False.elim hfr
      | brk => exact False.elim hfr
    | exc k => simp only [seqY_exc] at he; cases he; exact absurd rfl (hf k)

theorem ps_expr {e : Expr} {pos : Pos} {a : Ex} (hc : isComp e = false) (h : PE K A env c cl e a) : PS K A env c cl (.Expr e pos) (.expr a) := by
  intro ℓ σ f ℓ' σ' he hf ρ s hr fo
  simp only [exec] at he
  refine Classical.byContradiction fun hnX => ?_
  obtain ⟨v, σ1, h1, he⟩ := bndY_inv he hf
  refine hnX ?_
  clear hnX
  cases he
  refine wpAny_Expr_any (wpAny_mono (h ℓ σ v σ' h1 ρ s hr fo) (fun cv s1 hq => ?_) fun _ _ f => f) (by unfold interactive; rw [fo.kind]; rfl) (by cases e <;> first | rfl | (cases hc))
  refine Classical.byContradiction fun hnX => ?_
  obtain ⟨ρ1, g1, _⟩ := hq
  refine hnX ?_
  clear hnX
  exact ⟨ρ1, g1.hr, g1.st.toX _, fo.step hr g1.st, trivial⟩

theorem ps_ret {e : Expr} {pos : Pos} {a : Ex} (h : PE K A env c cl e a) : PS K A env c cl (.Return (some e) pos) (.ret a) := by
  intro ℓ σ f ℓ' σ' he hf ρ s hr fo
  simp only [exec] at he
  refine Classical.byContradiction fun hnX => ?_
  obtain ⟨v, σ1, h1, he⟩ := bndY_inv he hf
  refine hnX ?_
  clear hnX
  cases he
  refine wpAny_Return_some (wpAny_mono (h ℓ σ v σ' h1 ρ s hr fo) (fun cv s1 hq => ?_) fun _ _ f => f)
  refine Classical.byContradiction fun hnX => ?_
  obtain ⟨ρ1, g1, rv⟩ := hq
  refine hnX ?_
  clear hnX
  exact ⟨ρ1, g1.hr, g1.st.toX _, fo.step hr g1.st, rv⟩
theorem ps_ret0 {pos : Pos} : PS K A env c cl (.Return none pos) (.ret (.lit .none)) := by
  intro ℓ σ f ℓ' σ' he hf ρ s hr fo
  simp only [exec, evalE, bndY_ok] at he
  cases he
  exact wpAny_Return_none ⟨ρ, hr, StepX.refl _ _ _, fo, .none⟩

theorem ps_if {t : Expr} {x y : List Stmt} {pos : Pos} {a : Ex} {b d : Ss} (ht : PT K A env c cl t a) (hx : PSs K A env c cl x b) (hy : PSs K A env c cl y d) : PS K A env c cl (.If t x y pos) (.ife a b d) := by
  intro ℓ σ f ℓ' σ' he hf ρ s hr fo
  simp only [exec] at he
  refine Classical.byContradiction fun hnX => ?_
  obtain ⟨v, σ1, h1, he⟩ := bndY_inv he hf
  refine hnX ?_
  clear hnX
  show wpAny K.M A (do standAt pos; if ← isTrue t env (eval t env) then PySem.execs x env else PySem.execs y env) _ _ s
  refine wpAny_bind (wpAny_standAt (wpAny_bind ?_))
  split at he
  · rename_i hv
    refine wpAny_mono (ht ℓ σ v σ1 true h1 hv ρ s hr fo) (fun q s1 hq => ?_) fun _ _ f => f.elim
    refine Classical.byContradiction fun hnX => ?_
    obtain ⟨ρ1, g1, rfl⟩ := hq
    refine hnX ?_
    clear hnX
    refine wpAny_mono (hx ℓ σ1 f ℓ' σ' he hf ρ1 s1 g1.hr (fo.step hr g1.st)) (fun cf s2 hq => ?_) fun _ _ f => f
    refine Classical.byContradiction fun hnX => ?_
    obtain ⟨ρ2, hr2, st2, fo2, hfr⟩ := hq
    refine hnX ?_
    clear hnX
    exact ⟨ρ2, hr2, (g1.st.toX _).then (fo.step hr g1.st) st2, fo2, hfr⟩
  · rename_i hv
    refine wpAny_mono (ht ℓ σ v σ1 false h1 hv ρ s hr fo) (fun q s1 hq => ?_) fun _ _ f => f.elim
    refine Classical.byContradiction fun hnX => ?_
    obtain ⟨ρ1, g1, rfl⟩ := hq
    refine hnX ?_
    clear hnX
    refine wpAny_mono (hy ℓ σ1 f ℓ' σ' he hf ρ1 s1 g1.hr (fo.step hr g1.st)) (fun cf s2 hq => ?_) fun _ _ f => f
    refine Classical.byContradiction fun hnX => ?_
    obtain ⟨ρ2, hr2, st2, fo2, hfr⟩ := hq
    refine hnX ?_
    clear hnX
    exact ⟨ρ2, hr2, (g1.st.toX _).then (fo.step hr g1.st) st2, fo2, hfr⟩
  · cases he

theorem ps_brk {pos : Pos} : PS K A env c cl (.Break pos) .brk := by
  intro ℓ σ f ℓ' σ' he hf ρ s hr fo
  simp only [exec] at he
  cases he
  exact wpAny_Break ⟨ρ, hr, StepX.refl _ _ _, fo, trivial⟩
theorem ps_pass {pos : Pos} : PS K A env c cl (.Pass pos) .pass := by
  intro ℓ σ f ℓ' σ' he hf ρ s hr fo
  simp only [exec] at he
  cases he
  exact wpAny_Pass ⟨ρ, hr, StepX.refl _ _ _, fo, trivial⟩

/-- the stored object is the frame's own -/
theorem own_X {x : Str} {a : Addr} (h : a = env.locals ∨ (c.names.lookup x = some .cell ∧ (x, a) ∈ env.cells)) : ∀ b ∈ [a], b ∈ frameX env := by
  intro b hb
  rw [List.mem_singleton.mp hb]
  rcases h with rfl | ⟨_, h⟩
  · exact List.mem_cons_self
  · exact List.mem_cons_of_mem _ (List.mem_map.mpr ⟨_, h, rfl⟩)

theorem ps_asg {x : Str} {px pos : Pos} {e : Expr} {i : Nat} {a : Ex} (hs : swapsWith e (some (.Name x px)) pos.line env = pure false) (hx : cVar c x = some i) (h : PE K A env c cl e a) : PS K A env c cl (.Assign [.Name x px] e pos) (.asg (.one i) a) := by
  intro ℓ σ f ℓ' σ' he hf ρ s hr fo
  simp only [exec, setTg] at he
  refine Classical.byContradiction fun hnX => ?_
  obtain ⟨v, σ1, h1, he⟩ := bndY_inv he hf
  refine hnX ?_
  clear hnX
  refine Classical.byContradiction fun hnX => ?_
  obtain ⟨ℓ1, hset, e⟩ := Option.map_eq_some_iff.mp he
  refine hnX ?_
  clear hnX
  cases e
  show wpAny K.M A (PySem.exec (.Assign [.Name x px] e pos) env) _ _ s
  rw [exec_Assign_Name _ _ _ _ _ hs]
  refine wpAny_bind (wpAny_standAt (wpAny_bind (wpAny_mono (h ℓ σ v σ' h1 ρ s hr fo) (fun cv s1 hq => ?_) fun _ _ f => f)))
  refine Classical.byContradiction fun hnX => ?_
  obtain ⟨ρ1, g1, rv⟩ := hq
  refine hnX ?_
  clear hnX
  refine wpAny_bind (wpAny_standAt (wpAny_bind (wpAny_bindName (store_sound (fo.step hr g1.st) g1.hr hx hset rv fun s2 b hb hr2 st2 fo2 => wpAny_pure ?_))))
  exact ⟨ρ1, hr2, (g1.st.toX _).then (fo.step hr g1.st) (st2.weaken (own_X hb)), fo2, trivial⟩

/-- a comprehension's list goes into its name while the block's names are still there -/
theorem ps_asg_comp {x : Str} {px pos : Pos} {elt iter : Expr} {y : Str} {py p : Pos} {ifs : List Expr} {sc : Scope} {a : Ex} {it : It} {fs : Es} {tg i : Nat} (hh : A.handled = none) (ok : CompOK c sc) (hfs : ∀ v, foldedSetIterable iter env v = pure v)
    (hy : cVar (compC c sc) y = some tg) (hyl : (compC c sc).names.lookup y = some .local) (hI : PI K A env c cl iter it) (he : ∀ cenv, PE K A cenv (compC c sc) cl elt a) (hf : ∀ cenv, PF K A cenv (compC c sc) cl ifs fs)
    (hs : swapsWith (.ListComp elt [⟨.Name y py, iter, ifs, 0⟩] sc p) (some (.Name x px)) pos.line env = pure true) (hx : cVar c x = some i) :
    PS K A env c cl (.Assign [.Name x px] (.ListComp elt [⟨.Name y py, iter, ifs, 0⟩] sc p) pos) (.asg (.one i) (.comp a tg it fs)) := by
  intro ℓ σ f ℓ' σ' hev hnx ρ s hr fo
  simp only [exec, setTg] at hev
  refine Classical.byContradiction fun hnX => ?_
  obtain ⟨v, σ1, h1, hev⟩ := bndY_inv hev hnx
  refine hnX ?_
  clear hnX
  refine Classical.byContradiction fun hnX => ?_
  obtain ⟨ℓ1, hset, e⟩ := Option.map_eq_some_iff.mp hev
  refine hnX ?_
  clear hnX
  cases e
  simp only [evalE] at h1
  refine Classical.byContradiction fun hnX => ?_
  obtain ⟨src, σa, k1, h1⟩ := bnd_ok_inv h1
  refine hnX ?_
  clear hnX
  refine Classical.byContradiction fun hnX => ?_
  obtain ⟨vs, σ2, k2, h1⟩ := bnd_ok_inv h1
  refine hnX ?_
  clear hnX
  cases h1
  show wpAny K.M A (PySem.exec (.Assign [.Name x px] (.ListComp elt [⟨.Name y py, iter, ifs, 0⟩] sc p) pos) env) _ _ s
  rw [exec_Assign_Name_used (env := env) x px _ pos hs]
  refine wpAny_bind (wpAny_standAt (wpAny_bind ?_))
  unfold evalThenUse
  refine wpAny_bind (comp_main hh ok hfs hy hyl hI he hf k1 k2 hr fo fun s' D C ρ' cacc m e => ?_)
  refine Classical.byContradiction fun hnX => ?_
  obtain ⟨ρ'', g, r, hCρ⟩ := e.done (Heap.SameBut.refl C s'.heap)
  refine hnX ?_
  clear hnX
  have fo1 := fo.step hr g.st
  refine Classical.byContradiction fun hnX => ?_
  obtain ⟨m', hnC⟩ := e.ns
  refine hnX ?_
  clear hnX
  have hcn : ∀ b ∈ frameX env, b ≠ C := fun b hb => by
    refine Classical.byContradiction fun hnX => ?_
    obtain ⟨o, eo⟩ := fo.X_some b hb
    refine hnX ?_
    clear hnX
    rintro rfl
    rw [e.newC] at eo; cases eo
  refine wpAny_assign_Name (store_sound fo1 g.hr hx hset r fun s2 b hb hr2 st2 fo2 => ?_)
  have hbX := own_X hb b List.mem_cons_self
  have hn2 : s2.heap.Ns C m' := Ns.at hnC fun o eo => st2.fr C o eo hCρ fun hm => hcn b hbX (List.mem_singleton.mp hm).symm
  refine ⟨m', hn2, fun h' hs' => wpAny_pure (wpAny_pure ?_)⟩
  have hbut : ∀ b o, b ≠ C → s2.heap.get? b = some o → h'.get? b = some o := fun b o hb e => (hs'.2 b hb).trans e
  refine ⟨ρ'', hr2.but hCρ e.c0 (Ns.not_tup hn2) hbut, ?_, fo2.but (fun e => hcn env.locals List.mem_cons_self e.symm) (fun y a hy => hcn a (List.mem_cons_of_mem _ (List.mem_map.mpr ⟨_, hy, rfl⟩))) (Ns.not_tup hn2) hbut, trivial⟩
  have st3 := (g.st.toX (frameX env)).then fo1 (st2.weaken (own_X hb))
  exact ⟨st3.pre, fun z o ez hz hX => hbut z o (by rintro rfl; rw [e.newC] at ez; cases ez) (st3.fr z o ez hz hX), st3.fresh, st3.gens, st3.os⟩
end
end Mini

/-! Loops. -/
set_option autoImplicit false
namespace Mini
open PySem PyProof.Rows PySem.SeqAt

section
variable {K : Kx} {A : Around} {env : Env} {c : CEnv} {cl : Cl} {T : Tabs}

theorem ItOK.move {ρ ρ' : List Addr} {I : Addr} {i : Nat} {h h' : Heap} {src : Src} {k : ItK} (x : ItOK K ρ I i h src k) (hp : ρ <+: ρ') (hI : ∀ o, h.get? I = some o → h'.get? I = some o) (ht : ∀ a vs, h.get? a = some (tupObj vs) → h'.get? a = some (tupObj vs)) (hoff : I ∉ ρ') : ItOK K ρ' I i h' src k := by
  refine ⟨?_, ?_, hoff, x.new⟩
  · have h := x.st
    cases k with
    | list n ax => obtain ⟨h1, o, e, h2⟩ := h; exact ⟨pre_get hp h1, o, hI _ e, h2⟩
    | tup ax cvs => obtain ⟨⟨o, e, h2⟩, h3⟩ := h; exact ⟨⟨o, hI _ e, h2⟩, ht _ _ h3⟩
    | frz ax cvs m => obtain ⟨⟨o, e, h2⟩, h3⟩ := h; exact ⟨⟨o, hI _ e, h2⟩, h3⟩
    | rng a m => exact hI _ h
  · have h := x.v
    cases k with
    | list n ax => exact h
    | tup ax cvs => exact ⟨h.1.mono hp ht, h.2⟩
    | frz ax cvs m => exact ⟨h.1.mono hp ht, h.2⟩
    | rng a m => exact h

/-- behind a step of the frame -/
theorem ItOK.stepX {ρ ρ' : List Addr} {I : Addr} {i : Nat} {σ : H} {ℓ : L} {s s' : Shared} {src : Src} {k : ItK} (x : ItOK K ρ I i s.heap src k) (hr : HR K ρ σ s.heap) (fo : FO K env c ℓ ρ s.heap) (hI : I ∉ frameX env) (st : StepX (frameX env) ρ s ρ' s') : ItOK K ρ' I i s'.heap src k := by
  refine Classical.byContradiction fun hnX => ?_
  obtain ⟨o, eo, _⟩ := x.st.obj
  refine hnX ?_
  clear hnX
  refine x.move st.pre (fun o e => st.fr I o e x.off hI) (st.tups hr fo.X_nt) fun hm => ?_
  rcases st.fresh I hm with h | h
  · exact x.off h
  · rw [eo] at h; cases h

structure FInv (K : Kx) (env : Env) (c : CEnv) (src : Src) (k : ItK) (body : L → H → Y) (tg : Nat) (f : Fl) (ℓf : L) (σf : H) (ρ2 : List Addr) (s2 : Shared) (I : Addr) (i : Nat) (s : Shared) (ρ' : List Addr) (σ' : H) (ℓ' : L) : Prop where
  run : forL body (.one tg) src.keep (src.vs.drop i) ℓ' σ' = some (f, ℓf, σf)
  hr : HR K ρ' σ' s.heap
  st : StepX (I :: frameX env) ρ2 s2 ρ' s
  it : ItOK K ρ' I i s.heap src k
  keep : src.keep σ'
  fo : FO K env c ℓ' ρ' s.heap
  le : i ≤ src.vs.length

theorem ps_for {x : Str} {px pos : Pos} {iter : Expr} {it : It} {body : List Stmt} {b : Ss} {tg : Nat} (hh : A.handled = none) (hfs : ∀ v, foldedSetIterable iter env v = pure v) (hx : cVar c x = some tg) (hI : PI K A env c cl iter it) (hb : PSs K A env c cl body b) :
    PS K A env c cl (.For (.Name x px) iter body [] pos) (.for_ (.one tg) it b) := by
  intro ℓ σ f ℓf σf hev hnx ρ s hr fo
  simp only [exec] at hev
  refine Classical.byContradiction fun hnX => ?_
  obtain ⟨src, σ1, h1, hev⟩ := bndY_inv hev hnx
  refine hnX ?_
  clear hnX
  refine wpAny_For (wpAny_mono (hI ℓ σ src σ1 h1 ρ s hr fo) (fun xv s1 hq => wpAny_mono hq (fun itv s2 hq => ?_) fun _ _ f => f.elim) fun _ _ f => f.elim) hfs
  refine Classical.byContradiction fun hnX => ?_
  obtain ⟨ρ2, I, k, rfl, g2, itok, hkeep, hInone⟩ := hq
  refine hnX ?_
  clear hnX
  have hIX : I ∉ frameX env := fun hm => by obtain ⟨o, e⟩ := fo.X_some I hm; rw [hInone] at e; cases e
  have fo2 := fo.step hr g2.st
  have fin : ∀ (ρ' : List Addr) (s' : Shared), StepX (I :: frameX env) ρ2 s2 ρ' s' → StepX (frameX env) ρ s ρ' s' := by
    intro ρ' s' st
    refine ⟨g2.st.pre.trans st.pre, fun z o e hz hX => ?_, fun z hz => ?_, st.gens.trans g2.st.gens, st.os.trans g2.st.os⟩
    · refine st.fr z o (g2.st.fr z o e hz) (fun h => ?_) fun h => ?_
      · rcases g2.st.fresh z h with h | h
        · exact hz h
        · rw [e] at h; cases h
      · rcases List.mem_cons.mp h with rfl | h
        · rw [hInone] at e; cases e
        · exact hX h
    · rcases st.fresh z hz with h | h
      · exact g2.st.fresh z h
      · by_cases hr' : z ∈ ρ
        · exact .inl hr'
        · right
          cases hg : s.heap.get? z with
          | none => rfl
          | some o => rw [g2.st.fr z o hg hr'] at h; cases h
  refine codeAny_forLoop (fun n s => ∃ i ρ' σ' ℓ', n = src.vs.length - i ∧ FInv K env c src k (execs cl b) tg f ℓf σf ρ2 s2 I i s ρ' σ' ℓ') (fun n s hJ => ?_) (src.vs.length - 0) ⟨0, ρ2, σ1, ℓ, rfl, ⟨hev, g2.hr, StepX.refl _ _ _, itok, hkeep, fo2, Nat.zero_le _⟩⟩
  refine Classical.byContradiction fun hnX => ?_
  obtain ⟨i, ρ', σ', ℓ', hn, inv⟩ := hJ
  refine hnX ?_
  clear hnX
  have hIc : ∀ y a, (y, a) ∈ env.cells → a ≠ I := fun y a hy => by rintro rfl; exact hIX (List.mem_cons_of_mem _ (List.mem_map.mpr ⟨_, hy, rfl⟩))
  have hIL : I ≠ env.locals := by rintro rfl; exact hIX List.mem_cons_self
  have hex : ∀ z ∈ I :: frameX env, ∃ o, s.heap.get? z = some o := by
    intro z hz
    rcases List.mem_cons.mp hz with rfl | h
    · refine Classical.byContradiction fun hnX => ?_
      obtain ⟨o, e, _⟩ := inv.it.st.obj
      refine hnX ?_
      clear hnX
      exact ⟨o, e⟩
    · exact inv.fo.X_some z h
  rcases Nat.lt_or_ge i src.vs.length with hi | hi
  · have hdrop : src.vs.drop i = src.vs[i] :: src.vs.drop (i + 1) := List.drop_eq_getElem_cons hi
    have hrun := inv.run
    rw [hdrop] at hrun
    simp only [forL, setTg] at hrun
    split at hrun
    · cases hrun
    rename_i ℓ1 hset
    refine it_next hh inv.it inv.hr inv.keep (v := src.vs[i]) (List.getElem?_eq_getElem hi) fun cv h1 tk1 hk1 hr1 rv1 it1 => ?_
    have hInt := inv.it.not_tup
    have foA : FO K env c ℓ' ρ' h1 := inv.fo.but hIL hIc hInt hk1
    have stA : StepX (I :: frameX env) ρ2 s2 ρ' { s with heap := h1, toks := tk1 } := inv.st.trans ((StepX.one hk1).weaken (by simp)) hex
    refine wpAny_assign_Name (store_sound (s := { s with heap := h1, toks := tk1 }) foA hr1 hx hset rv1 fun sB b' hb' hrB stB foB => ?_)
    have stB' := stB.weaken (own_X hb')
    have itB : ItOK K ρ' I (i + 1) sB.heap src k := ItOK.stepX (s := { s with heap := h1, toks := tk1 }) it1 hr1 foA hIX stB'
    have hexA : ∀ z ∈ I :: frameX env, ∃ o, h1.get? z = some o := by
      intro z hz
      rcases List.mem_cons.mp hz with rfl | h
      · refine Classical.byContradiction fun hnX => ?_
        obtain ⟨o, e, _⟩ := it1.st.obj
        refine hnX ?_
        clear hnX
        exact ⟨o, e⟩
      · exact foA.X_some z h
    have hexB : ∀ z ∈ I :: frameX env, ∃ o, sB.heap.get? z = some o := by
      intro z hz
      rcases List.mem_cons.mp hz with rfl | h
      · refine Classical.byContradiction fun hnX => ?_
        obtain ⟨o, e, _⟩ := itB.st.obj
        refine hnX ?_
        clear hnX
        exact ⟨o, e⟩
      · exact foB.X_some z h
    have stB2 : StepX (I :: frameX env) ρ2 s2 ρ' sB := stA.trans (stB'.weaken fun a h => List.mem_cons_of_mem _ h) hexA
    have stEnd : ∀ ρC sC, StepX (frameX env) ρ' sB ρC sC → StepX (I :: frameX env) ρ2 s2 ρC sC := fun ρC sC st => stB2.trans (st.weaken fun a h => List.mem_cons_of_mem _ h) hexB
    cases hbody : execs cl b ℓ1 σ' with
    | none => rw [hbody] at hrun; cases hrun
    | some y =>
      refine Classical.byContradiction fun hnX => ?_
      obtain ⟨f1, ℓ2, σ2⟩ := y
      refine hnX ?_
      clear hnX
      rw [hbody] at hrun
      have hnx1 : NX f1 := by rintro kk rfl; cases hrun
      refine wpAny_mono (hb ℓ1 σ' f1 ℓ2 σ2 hbody hnx1 ρ' sB hrB foB) (fun cf sC hq => ?_) fun _ _ f => f.elim
      refine Classical.byContradiction fun hnX => ?_
      obtain ⟨ρC, hrC, stC, foC, frC⟩ := hq
      refine hnX ?_
      clear hnX
      cases f1 with
      | next =>
        cases cf with
        | next =>
          simp only at hrun
          split at hrun
          · rename_i hkC
            exact ⟨src.vs.length - (i + 1), by exact Lin.lin [(.eq (.v 1) (.v 2)), (.lt (.v 3) (.v 4)), (.or (.an (.le (.v 3) (.v 4)) (.eq (.a (.v 2) (.v 3)) (.v 4))) (.an (.le (.v 4) (.v 3)) (.eq (.v 2) (.k 0)))), (.or (.an (.le (.a (.v 3) (.k 1)) (.v 4)) (.eq (.a (.v 0) (.a (.v 3) (.k 1))) (.v 4))) (.an (.le (.v 4) (.a (.v 3) (.k 1))) (.eq (.v 0) (.k 0))))] (.lt (.v 0) (.v 1)) (.s (.s (.l [1, 0, 1, 0, 0, 0, 1, 0, 1]) (.l [1, 0, 1, 1, 0, 0, 1, 0, 1])) (.s (.l [0, 0, 0, 1, 1]) (.l [0, 0, 0, 1, 1]))) rfl [_, _, _, _, _] [] hn hi (Lin.sub_ax _ _) (Lin.sub_ax _ _), i + 1, ρC, σ2, ℓ2, rfl, ⟨hrun, hrC, stEnd _ _ stC, ItOK.stepX itB hrB foB hIX stC, hkC, foC, hi⟩⟩
          · cases hrun
        | _ => exact frC.elim
      | brk =>
        cases cf with
        | brk => cases hrun; exact ⟨ρC, hrC, fin _ _ (stEnd _ _ stC), foC, trivial⟩
        | _ => exact frC.elim
      | ret v =>
        cases cf with
        | ret cv => cases hrun; exact ⟨ρC, hrC, fin _ _ (stEnd _ _ stC), foC, frC⟩
        | _ => exact frC.elim
      | exc kk => exact absurd rfl (hnx1 kk)
  · have hie : i = src.vs.length := Nat.le_antisymm inv.le hi
    have hrun := inv.run
    rw [List.drop_eq_nil_of_le hi] at hrun
    simp only [forL] at hrun
    cases hrun
    refine it_done hh inv.it inv.hr inv.keep hie fun h1 tk1 hk1 hr1 => wpAny_execs_nil ?_
    exact ⟨ρ', hr1, fin _ { s with heap := h1, toks := tk1 } (inv.st.trans ((StepX.one hk1).weaken (by simp)) hex), inv.fo.but hIL hIc inv.it.not_tup hk1, trivial⟩

end
end Mini

/-! The theorem for statements. -/
set_option autoImplicit false
namespace Mini
open PySem PyProof.Rows PySem.SeqAt

section
variable {K : Kx} {A : Around} {cl : Cl} {T : Tabs}

theorem swaps_plain {e : Expr} (h : isComp e = false) (t : Option Expr) (l : Nat) (env : Env) : swapsWith e t l env = pure false := by
  cases e with
  | ListComp _ _ _ _ => cases h
  | SetComp _ _ _ _ => cases h
  | DictComp _ _ _ _ _ => cases h
  | _ => rfl

theorem swaps_comp (elt : Expr) (gens : List Comprehension) (sc : Scope) (p : Pos) (x : Str) (px : Pos) (l : Nat) (env : Env) : ∃ b, swapsWith (.ListComp elt gens sc p) (some (.Name x px)) l env = pure b := ⟨_, rfl⟩

theorem s_asg (hy : Hy K A cl T) {x : Str} {px pos : Pos} {v : Expr} {c : CEnv} {env : Env} {i : Nat} {a : Ex} (hx : cVar c x = some i) (h : cE T c v = some a) : PS K A env c cl (.Assign [.Name x px] v pos) (.asg (.one i) a) := by
  have hp := (sE hy v c env a h).1
  cases hc : isComp v with
  | false => exact ps_asg (swaps_plain hc _ _ _) hx hp
  | true =>
    cases v with
    | ListComp elt gens sc p =>
      refine Classical.byContradiction fun hnX => ?_
      obtain ⟨b, hb⟩ := swaps_comp elt gens sc p x px pos.line env
      refine hnX ?_
      clear hnX
      cases b with
      | false => exact ps_asg hb hx hp
      | true =>
        refine Classical.byContradiction fun hnX => ?_
        obtain ⟨g, h1, h2⟩ := Option.bind_eq_some_iff.mp (show (cGen T sc c gens).bind _ = some a from h)
        refine hnX ?_
        clear hnX
        refine Classical.byContradiction fun hnX => ?_
        obtain ⟨e, h3, h4⟩ := Option.bind_eq_some_iff.mp h2
        refine hnX ?_
        clear hnX
        refine Classical.byContradiction fun hnX => ?_
        obtain ⟨hok, h5⟩ := ite_some h4
        refine hnX ?_
        clear hnX
        cases h5
        refine Classical.byContradiction fun hnX => ?_
        obtain ⟨y, py, iter, fs, rfl, hloc, hv, hI, hfold, hF⟩ := sG hy sc gens c env g h1
        refine hnX ?_
        clear hnX
        exact ps_asg_comp hy.hh (compOK_of hok) hfold hv hloc hI (fun cenv => (sE hy elt _ cenv e h3).1) hF hb hx
    | SetComp _ _ _ _ => cases h
    | DictComp _ _ _ _ _ => cases h
    | _ => cases hc

/-- what the evaluator does not answer -/
theorem ps_mute {env : Env} {c : CEnv} {st : Stmt} {a : St} (h : ∀ ℓ σ f ℓ' σ', exec cl a ℓ σ = some (f, ℓ', σ') → NX f → False) : PS K A env c cl st a := fun ℓ σ f ℓ' σ' he hf => (h ℓ σ f ℓ' σ' he hf).elim

theorem s_iter (hy : Hy K A cl T) {e : Expr} {c : CEnv} {env : Env} {it : It} (h : cIter T c e = some it) : PI K A env c cl e it ∧ ∀ v, foldedSetIterable e env v = pure v := by
  rcases iter_inv h with hR | ⟨a, ha, rfl⟩
  · exact ⟨sR hy e c env _ hR, folded_R hR env⟩
  · exact ⟨pi_ex (sE hy e c env a ha).1, folded_of ha env⟩

theorem s_to (hy : Hy K A cl T) {ts : List Expr} {v : Expr} {c : CEnv} {env : Env} {p : Pos} {x : Ex} {a : St} (hx : cE T c v = some x) (h : cAsg T c x ts = some a) : PS K A env c cl (.Assign ts v p) a := by
  cases ts with
  | nil => cases h
  | cons t ts =>
    refine Classical.byContradiction fun hnX => ?_
    obtain ⟨h1, h2⟩ := ite_some (show (if ts.isEmpty then cTo T c x t else .none) = some a from h)
    refine hnX ?_
    clear hnX
    obtain rfl := List.isEmpty_iff.mp h1
    cases t with
    | Name n px =>
      refine Classical.byContradiction fun hnX => ?_
      obtain ⟨i, hi, rfl⟩ := Option.map_eq_some_iff.mp (show (cVar c n).map _ = some a from h2)
      refine hnX ?_
      clear hnX
      exact s_asg hy hi hx
    | Tuple es k px =>
      refine Classical.byContradiction fun hnX => ?_
      obtain ⟨is, hi, rfl⟩ := Option.map_eq_some_iff.mp (show (cVars c es).map _ = some a from h2)
      refine hnX ?_
      clear hnX
      refine ps_mute fun ℓ σ f ℓ' σ' he hf => ?_
      refine Classical.byContradiction fun hnX => ?_
      obtain ⟨w, σ1, _, he⟩ := bndY_inv (show bndY _ ℓ _ = some _ from he) hf
      refine hnX ?_
      clear hnX
      cases he
    | Attribute o m px =>
      refine Classical.byContradiction fun hnX => ?_
      obtain ⟨y, _, h3⟩ := Option.bind_eq_some_iff.mp (show (cE T c o).bind _ = some a from h2)
      refine hnX ?_
      clear hnX
      refine Classical.byContradiction fun hnX => ?_
      obtain ⟨k, _, rfl⟩ := Option.map_eq_some_iff.mp h3
      refine hnX ?_
      clear hnX
      exact ps_mute fun ℓ σ f ℓ' σ' he hf => by cases he
    | Subscript o m px =>
      refine Classical.byContradiction fun hnX => ?_
      obtain ⟨y, _, h3⟩ := Option.bind_eq_some_iff.mp (show (cE T c o).bind _ = some a from h2)
      refine hnX ?_
      clear hnX
      refine Classical.byContradiction fun hnX => ?_
      obtain ⟨k, _, rfl⟩ := Option.map_eq_some_iff.mp h3
      refine hnX ?_
      clear hnX
      exact ps_mute fun ℓ σ f ℓ' σ' he hf => by cases he
    | _ => cases h2

theorem s_raise {e k : Option Expr} {c : CEnv} {env : Env} {p : Pos} {a : St} (h : cRaise T c e k = some a) : PS K A env c cl (.Raise e k p) a := by
  refine Classical.byContradiction fun hnX => ?_
  obtain ⟨_, h1⟩ := ite_some (show (if k.isNone then e.bind (cRaiseE T c) else .none) = some a from h)
  refine hnX ?_
  clear hnX
  refine Classical.byContradiction fun hnX => ?_
  obtain ⟨x, rfl, h2⟩ := Option.bind_eq_some_iff.mp h1
  refine hnX ?_
  clear hnX
  cases x with
  | Call f as ks q =>
    refine Classical.byContradiction fun hnX => ?_
    obtain ⟨n, _, h3⟩ := Option.bind_eq_some_iff.mp (show (nameIs f).bind _ = some a from h2)
    refine hnX ?_
    clear hnX
    refine Classical.byContradiction fun hnX => ?_
    obtain ⟨_, h4⟩ := ite_some h3
    refine hnX ?_
    clear hnX
    refine Classical.byContradiction fun hnX => ?_
    obtain ⟨t, _, rfl⟩ := Option.map_eq_some_iff.mp h4
    refine hnX ?_
    clear hnX
    exact ps_mute fun ℓ σ f ℓ' σ' he hf => by cases he; exact hf _ rfl
  | _ => cases h2

mutual
theorem sSt (hy : Hy K A cl T) : ∀ (st : Stmt) (c : CEnv) (env : Env) (a : St), cSt T c st = some a → PS K A env c cl st a
  | .Expr e p, c, env, a, h => by
    refine Classical.byContradiction fun hnX => ?_
    obtain ⟨h1, h2⟩ := ite_none (show (if isComp e then .none else (cE T c e).map St.expr) = some a from h)
    refine hnX ?_
    clear hnX
    refine Classical.byContradiction fun hnX => ?_
    obtain ⟨x, hx, rfl⟩ := Option.map_eq_some_iff.mp h2
    refine hnX ?_
    clear hnX
    exact ps_expr (Bool.not_eq_true _ ▸ h1) (sE hy e c env x hx).1
  | .Assign ts v p, c, env, a, h => by
    refine Classical.byContradiction fun hnX => ?_
    obtain ⟨x, hx, h1⟩ := Option.bind_eq_some_iff.mp (show (cE T c v).bind _ = some a from h)
    refine hnX ?_
    clear hnX
    exact s_to hy hx h1
  | .Return v p, c, env, a, h => by
    cases v with
    | none => cases h; exact ps_ret0
    | some e =>
      refine Classical.byContradiction fun hnX => ?_
      obtain ⟨x, hx, rfl⟩ := Option.map_eq_some_iff.mp (show (cE T c e).map _ = some a from h)
      refine hnX ?_
      clear hnX
      exact ps_ret (sE hy e c env x hx).1
  | .If t x y p, c, env, a, h => by
    refine Classical.byContradiction fun hnX => ?_
    obtain ⟨a', h1, h2⟩ := Option.bind_eq_some_iff.mp (show (cE T c t).bind _ = some a from h)
    refine hnX ?_
    clear hnX
    refine Classical.byContradiction fun hnX => ?_
    obtain ⟨b', h3, h4⟩ := Option.bind_eq_some_iff.mp h2
    refine hnX ?_
    clear hnX
    refine Classical.byContradiction fun hnX => ?_
    obtain ⟨d', h5, rfl⟩ := Option.map_eq_some_iff.mp h4
    refine hnX ?_
    clear hnX
    exact ps_if (sE hy t c env _ h1).2 (sSs hy x c env _ h3) (sSs hy y c env _ h5)
  | .For t i b o p, c, env, a, h => by
    refine Classical.byContradiction fun hnX => ?_
    obtain ⟨h0, h1⟩ := ite_some (show (if o.isEmpty then _ else Option.none) = some a from h)
    refine hnX ?_
    clear hnX
    refine Classical.byContradiction fun hnX => ?_
    obtain ⟨x, h2, h3⟩ := Option.bind_eq_some_iff.mp h1
    refine hnX ?_
    clear hnX
    refine Classical.byContradiction fun hnX => ?_
    obtain ⟨y, h4, h5⟩ := Option.bind_eq_some_iff.mp h3
    refine hnX ?_
    clear hnX
    refine Classical.byContradiction fun hnX => ?_
    obtain ⟨z, h6, rfl⟩ := Option.map_eq_some_iff.mp h5
    refine hnX ?_
    clear hnX
    obtain rfl := List.isEmpty_iff.mp h0
    have hb := sSs hy b c env _ h6
    refine Classical.byContradiction fun hnX => ?_
    obtain ⟨hI, hfs⟩ := s_iter (env := env) hy h4
    refine hnX ?_
    clear hnX
    cases t with
    | Name n px =>
      refine Classical.byContradiction fun hnX => ?_
      obtain ⟨k, hk, rfl⟩ := Option.map_eq_some_iff.mp (show (cVar c n).map _ = some x from h2)
      refine hnX ?_
      clear hnX
      exact ps_for hy.hh hfs hk hI hb
    | Tuple es k px =>
      refine Classical.byContradiction fun hnX => ?_
      obtain ⟨k, hk, rfl⟩ := Option.map_eq_some_iff.mp (show (cVars c es).map _ = some x from h2)
      refine hnX ?_
      clear hnX
      exact ps_mute fun ℓ σ f ℓ' σ' he hf => by cases he
    | _ => cases h2
  | .While t b o p, c, env, a, h => by
    refine Classical.byContradiction fun hnX => ?_
    obtain ⟨h0, h1⟩ := ite_some (show (if o.isEmpty then _ else Option.none) = some a from h)
    refine hnX ?_
    clear hnX
    refine Classical.byContradiction fun hnX => ?_
    obtain ⟨x, h2, h3⟩ := Option.bind_eq_some_iff.mp h1
    refine hnX ?_
    clear hnX
    refine Classical.byContradiction fun hnX => ?_
    obtain ⟨y, h4, rfl⟩ := Option.map_eq_some_iff.mp h3
    refine hnX ?_
    clear hnX
    obtain rfl := List.isEmpty_iff.mp h0
    exact ps_mute fun ℓ σ f ℓ' σ' he hf => by cases he
  | .Break p, c, env, a, h => by cases h; exact ps_brk
  | .Pass p, c, env, a, h => by cases h; exact ps_pass
  | .Raise e k p, c, env, a, h => s_raise h
  | .Try b hs o f p, c, env, a, h => by
    refine Classical.byContradiction fun hnX => ?_
    obtain ⟨h0, h1⟩ := ite_some (show (if o.isEmpty ∧ f.isEmpty then _ else Option.none) = some a from h)
    refine hnX ?_
    clear hnX
    refine Classical.byContradiction fun hnX => ?_
    obtain ⟨x, h2, h3⟩ := Option.bind_eq_some_iff.mp h1
    refine hnX ?_
    clear hnX
    refine Classical.byContradiction fun hnX => ?_
    obtain ⟨y, h4, rfl⟩ := Option.map_eq_some_iff.mp h3
    refine hnX ?_
    clear hnX
    exact ps_mute fun ℓ σ f ℓ' σ' he hf => by cases he
  | .FunctionDef .., c, env, a, h => by cases h
  | .AsyncFunctionDef .., c, env, a, h => by cases h
  | .ClassDef .., c, env, a, h => by cases h
  | .Delete .., c, env, a, h => by cases h
  | .TypeAlias .., c, env, a, h => by cases h
  | .AugAssign .., c, env, a, h => by cases h
  | .AnnAssign .., c, env, a, h => by cases h
  | .AsyncFor .., c, env, a, h => by cases h
  | .With .., c, env, a, h => by cases h
  | .AsyncWith .., c, env, a, h => by cases h
  | .Match .., c, env, a, h => by cases h
  | .TryStar .., c, env, a, h => by cases h
  | .Assert .., c, env, a, h => by cases h
  | .Import .., c, env, a, h => by cases h
  | .ImportFrom .., c, env, a, h => by cases h
  | .Global .., c, env, a, h => by cases h
  | .Nonlocal .., c, env, a, h => by cases h
  | .Continue .., c, env, a, h => by cases h
theorem sSs (hy : Hy K A cl T) : ∀ (ss : List Stmt) (c : CEnv) (env : Env) (a : Ss), cSs T c ss = some a → PSs K A env c cl ss a
  | [], c, env, a, h => by cases h; exact pss_nil
  | s :: r, c, env, a, h => by
    refine Classical.byContradiction fun hnX => ?_
    obtain ⟨x, h1, h2⟩ := Option.bind_eq_some_iff.mp (show (cSt T c s).bind _ = some a from h)
    refine hnX ?_
    clear hnX
    refine Classical.byContradiction fun hnX => ?_
    obtain ⟨y, h3, rfl⟩ := Option.map_eq_some_iff.mp h2
    refine hnX ?_
    clear hnX
    exact pss_cons (sSt hy s c env _ h1) (sSs hy r c env _ h3)
end
end
end Mini

/-! Calls of the text's own functions. -/
set_option autoImplicit false
namespace Mini
open PySem PyProof.Rows PySem.SeqAt

mutual
theorem RV.under {K : Kx} {ρ : List Addr} {h : Heap} : ∀ {v : V} {x : Value}, RV K ρ h v x → below ρ.length v = true
  | _, _, .none => rfl
  | _, _, .bool _ => rfl
  | _, _, .int _ _ => rfl
  | _, _, .str _ _ => rfl
  | _, _, .tup _ r _ => by simpa [Mini.below] using RVs.under r
  | _, _, .obj e => by simpa [Mini.below] using (List.getElem?_eq_some_iff.mp e).1
  | _, _, .ty _ => rfl
  | _, _, .frz _ _ _ => rfl
theorem RVs.under {K : Kx} {ρ : List Addr} {h : Heap} : ∀ {l : List V} {vs : List Value}, RVs K ρ h l vs → belows ρ.length l = true
  | _, _, .nil => rfl
  | _, _, .cons a r => by simp [Mini.belows, RV.under a, RVs.under r]
end

theorem belows_ints (n : Nat) : ∀ l : List Int, belows n (l.map V.int) = true
  | [] => rfl
  | _ :: r => by simp [Mini.belows, Mini.below, belows_ints n r]

theorem pre_get_lt {α : Type} {l l' : List α} (hp : l <+: l') {n : Nat} {a : α} (hn : n < l.length) (e : l'[n]? = some a) : l[n]? = some a := by
  refine Classical.byContradiction fun hnX => ?_
  obtain ⟨t, rfl⟩ := hp
  refine hnX ?_
  clear hnX
  rwa [List.getElem?_append_left hn] at e

mutual
theorem RV.cut {K : Kx} {ρ ρ1 : List Addr} {h : Heap} (hp : ρ <+: ρ1) : ∀ {v : V} {x : Value}, RV K ρ1 h v x → below ρ.length v = true → RV K ρ h v x
  | _, _, .none, _ => .none
  | _, _, .bool b, _ => .bool b
  | _, _, .int i t, _ => .int i t
  | _, _, .str s t, _ => .str s t
  | _, _, .tup e r n, hb => .tup e (RVs.cut hp r (by simpa [Mini.below] using hb)) n
  | _, _, .obj e, hb => .obj (pre_get_lt hp (by simpa [Mini.below] using hb) e)
  | _, _, .ty t, _ => .ty t
  | _, _, .frz e r n, _ => .frz e (RVs.cut hp r (belows_ints _ _)) n
theorem RVs.cut {K : Kx} {ρ ρ1 : List Addr} {h : Heap} (hp : ρ <+: ρ1) : ∀ {l : List V} {vs : List Value}, RVs K ρ1 h l vs → belows ρ.length l = true → RVs K ρ h l vs
  | _, _, .nil, _ => .nil
  | _, _, .cons a r, hb => by
    simp only [Mini.belows, Bool.and_eq_true] at hb
    exact .cons (RV.cut hp a hb.1) (RVs.cut hp r hb.2)
end

/-- the objects behind a mark are forgotten -/
theorem HR.cut {K : Kx} {ρ ρ1 : List Addr} {σ σ1 : H} {h h1 : Heap} (hr : HR K ρ σ h) (hr1 : HR K ρ1 σ1 h1) (hp : ρ <+: ρ1) (ht : σ1.take σ.length = σ) : HR K ρ σ h1 := by
  refine ⟨hr1.keep, hr.len, hr.nd, hr.new, fun n o a h1 h2 => ?_⟩
  have hn := (List.getElem?_eq_some_iff.mp h1).1
  have h1' : σ1[n]? = some o := by
    rw [← ht, List.getElem?_take_of_lt hn] at h1; exact h1
  have ho := hr1.obj n o a h1' (pre_get hp h2)
  have ho0 := hr.obj n o a h1 h2
  cases o with
  | list l =>
    refine Classical.byContradiction fun hnX => ?_
    obtain ⟨vs0, n0, e0, r0, _⟩ := ho0
    refine hnX ?_
    clear hnX
    refine Classical.byContradiction fun hnX => ?_
    obtain ⟨vs, n1, e1, r1, hl⟩ := ho
    refine hnX ?_
    clear hnX
    exact ⟨vs, n1, e1, r1.cut hp r0.under, hl⟩
  | _ => exact ho.elim

structure FnAt (K : Kx) (T : Tabs) (f : Nat) (F : Fn) (o : Obj) (fd : FuncData) (body : List Stmt) (xs : List Str) : Prop where
  ho : K.h0.get? (K.fna f) = some o
  data : o.data = .func fd
  bodyE : fd.body = .stmts body
  clo : fd.closure = []
  kind : fd.scope.kind = .function
  co : fd.scope.isCoroutine = false
  gen : fd.scope.isGenerator = false
  nd : (fd.scope.names.map (·.1)).Nodup
  glob : fd.globals = mainGlobals
  blts : fd.builtins = builtinsNs
  code : K.h0.CodeRec fd.code fd.qualname
  bind : ∀ vals : List Value, vals.length = xs.length → bindArgs fd ⟨vals, []⟩ = pure (xs.zip vals)
  ps : xs.mapM (fun x => (slotsOf fd.scope.names).lookup x) = some F.ps
  comp : cSs T (fnC fd.scope) body = some F.body
  size : (ownOf fd.scope.names).length ≤ F.size

noncomputable def FnOK (K : Kx) (T : Tabs) (f : Nat) (F : Fn) : Prop := ∃ o fd body xs, FnAt K T f F o fd body xs

theorem slots_inv {names : List (Str × NameKind)} {x : Str} {i : Nat} (h : (slotsOf names).lookup x = some i) : i < (ownOf names).length ∧ ∃ k, (ownOf names)[i]? = some (x, k) := by
  have hm := mem_of_lookup h
  unfold slotsOf at hm
  refine Classical.byContradiction fun hnX => ?_
  obtain ⟨⟨⟨n, k⟩, j⟩, h1, h2⟩ := List.mem_map.mp hm
  refine hnX ?_
  clear hnX
  cases h2
  refine Classical.byContradiction fun hnX => ?_
  obtain ⟨h3, h4⟩ := List.mem_zipIdx' h1
  refine hnX ?_
  clear hnX
  exact ⟨h3, k, by rw [List.getElem?_eq_getElem h3, ← h4]⟩
theorem slots_inj {names : List (Str × NameKind)} {x y : Str} {i : Nat} (h : (slotsOf names).lookup x = some i) (h' : (slotsOf names).lookup y = some i) : x = y := by
  refine Classical.byContradiction fun hnX => ?_
  obtain ⟨_, k, e⟩ := slots_inv h
  refine hnX ?_
  clear hnX
  refine Classical.byContradiction fun hnX => ?_
  obtain ⟨_, k', e'⟩ := slots_inv h'
  refine hnX ?_
  clear hnX
  rw [e] at e'; cases e'; rfl
theorem slots_kind {names : List (Str × NameKind)} {x : Str} {i : Nat} (hn : (names.map (·.1)).Nodup) (h : (slotsOf names).lookup x = some i) : names.lookup x = some .local ∨ names.lookup x = some .cell := by
  refine Classical.byContradiction fun hnX => ?_
  obtain ⟨_, k, e⟩ := slots_inv h
  refine hnX ?_
  clear hnX
  have hm := List.mem_of_getElem? e
  unfold ownOf at hm
  refine Classical.byContradiction fun hnX => ?_
  obtain ⟨h1, h2⟩ := List.mem_filter.mp hm
  refine hnX ?_
  clear hnX
  simp only [Bool.or_eq_true, beq_iff_eq] at h2
  have := nodup_lookup hn h1
  rcases h2 with h2 | h2 <;> rw [h2] at this
  · exact .inl this
  · exact .inr this

theorem cells_mem {x : Str} {a : Addr} : ∀ {names : List (Str × NameKind)} {n : Nat} {acc : List (Str × Addr)}, (x, a) ∈ cellsFrom n names acc → (x, a) ∈ acc ∨ (x, NameKind.cell) ∈ names
  | [], _, _, h => .inl h
  | (y, k) :: r, n, acc, h => by
    unfold cellsFrom at h
    split at h
    · rename_i hk
      rcases cells_mem h with h | h
      · rcases List.mem_cons.mp h with e | h
        · cases e; right; rw [← beq_iff_eq.mp hk]; exact List.mem_cons_self
        · exact .inl h
      · exact .inr (List.mem_cons_of_mem _ h)
    · rcases cells_mem h with h | h
      · exact .inl h
      · exact .inr (List.mem_cons_of_mem _ h)
theorem cells_keys : ∀ {names : List (Str × NameKind)} {n : Nat} {acc : List (Str × Addr)}, (names.map (·.1)).Nodup → (acc.map (·.1)).Nodup → (∀ x ∈ acc.map (·.1), x ∉ names.map (·.1)) → ((cellsFrom n names acc).map (·.1)).Nodup
  | [], _, _, _, h, _ => h
  | (y, k) :: r, n, acc, hn, ha, hd => by
    rw [List.map_cons, List.nodup_cons] at hn
    unfold cellsFrom
    split
    · refine cells_keys hn.2 ?_ fun x hx => ?_
      · rw [List.map_cons, List.nodup_cons]
        exact ⟨fun hm => hd y hm (by simp), ha⟩
      · rw [List.map_cons] at hx
        rcases List.mem_cons.mp hx with rfl | hx
        · exact hn.1
        · exact fun hm => hd x hx (List.mem_cons_of_mem _ hm)
    · exact cells_keys hn.2 ha fun x hx hm => hd x hx (List.mem_cons_of_mem _ hm)
theorem cells_has : ∀ {names : List (Str × NameKind)} {n : Nat} {acc : List (Str × Addr)} {x : Str}, ((x, NameKind.cell) ∈ names ∨ x ∈ acc.map (·.1)) → x ∈ (cellsFrom n names acc).map (·.1)
  | [], _, _, x, h => by
    rcases h with h | h
    · cases h
    · exact h
  | (y, k) :: r, n, acc, x, h => by
    unfold cellsFrom
    split
    · rename_i hk
      refine cells_has ?_
      rcases h with h | h
      · rcases List.mem_cons.mp h with e | h
        · cases e; right; simp
        · exact .inl h
      · right; exact List.mem_cons_of_mem _ h
    · rename_i hk
      refine cells_has ?_
      rcases h with h | h
      · rcases List.mem_cons.mp h with e | h
        · cases e; simp at hk
        · exact .inl h
      · exact .inr h

section
variable {K : Kx} {A : Around} {T : Tabs}

/-- parameters -/
theorem start_inv {names : List (Str × NameKind)} {ρ : List Addr} {h : Heap} (kindOf : Str → Option NameKind) (hk : ∀ x, kindOf x = names.lookup x) (hnd : (names.map (·.1)).Nodup) :
    ∀ (xs : List Str) (is : List Nat) (vs : List V) (cvs : List Value) (ℓ0 ℓ : L) (m cm : Str → Option Value), xs.mapM (fun x => (slotsOf names).lookup x) = some is → setMany is vs ℓ0 = some ℓ → RVs K ρ h vs cvs →
      (∀ x (i : Nat) v, (slotsOf names).lookup x = some i → ℓ0[i]? = some (some v) → ∃ cv, (if names.lookup x = some .local then m x else cm x) = some cv ∧ RV K ρ h v cv) →
      xs.length = cvs.length ∧ ∀ x (i : Nat) v, (slotsOf names).lookup x = some i → ℓ[i]? = some (some v) → ∃ cv, (if names.lookup x = some .local then bindL kindOf (xs.zip cvs) m x else bindC kindOf (xs.zip cvs) cm x) = some cv ∧ RV K ρ h v cv
  | [], is, vs, cvs, ℓ0, ℓ, m, cm, h1, h2, h3, h4 => by
    simp only [List.mapM_nil] at h1
    cases h1
    cases vs with
    | nil => cases h3; cases h2; exact ⟨rfl, h4⟩
    | cons _ _ => cases h2
  | x :: xs, is, vs, cvs, ℓ0, ℓ, m, cm, h1, h2, h3, h4 => by
    rw [List.mapM_cons] at h1
    cases hs : (slotsOf names).lookup x with
    | none => rw [hs] at h1; cases h1
    | some i =>
      rw [hs] at h1
      cases hr : xs.mapM (fun x => (slotsOf names).lookup x) with
      | none => rw [hr] at h1; cases h1
      | some is' =>
        rw [hr] at h1; cases h1
        cases h3 with
        | nil => cases h2
        | cons r rs =>
          rename_i v l cx cvs'
          simp only [setMany] at h2
          refine Classical.byContradiction fun hnX => ?_
          obtain ⟨ℓ1, h5, h6⟩ := Option.bind_eq_some_iff.mp h2
          refine hnX ?_
          clear hnX
          refine Classical.byContradiction fun hnX => ?_
          obtain ⟨hi, hset⟩ := lookup_set h5
          refine hnX ?_
          clear hnX
          have hkx := slots_kind hnd hs
          have ih := start_inv kindOf hk hnd xs is' l cvs' ℓ1 ℓ (if kindOf x = some .local then fun y => if y = x then some cx else m y else m) (if kindOf x = some .local then cm else fun y => if y = x then some cx else cm y) hr h6 rs ?_
          · refine ⟨by simp [ih.1], fun y j w g1 g2 => ?_⟩
            have := ih.2 y j w g1 g2
            simpa only [List.zip_cons_cons, bindL, bindC] using this
          · intro y j w g1 g2
            rw [hset] at g2
            by_cases hj : j = i
            · subst hj
              rw [if_pos rfl] at g2; cases g2
              obtain rfl := slots_inj g1 hs
              refine ⟨cx, ?_, r⟩
              rcases hkx with hkx | hkx
              · rw [if_pos hkx, if_pos (by rw [hk]; exact hkx)]; simp
              · have hne : ¬ names.lookup y = some .local := by rw [hkx]; decide
                rw [if_neg hne, if_neg (by rw [hk]; exact hne)]; simp
            · rw [if_neg hj] at g2
              have hyx : y ≠ x := by rintro rfl; rw [g1] at hs; cases hs; exact hj rfl
              refine Classical.byContradiction fun hnX => ?_
              obtain ⟨cw, e1, e2⟩ := h4 y j w g1 g2
              refine hnX ?_
              clear hnX
              refine ⟨cw, ?_, e2⟩
              rw [← e1]
              split
              · split
                · simp [hyx]
                · rfl
              · split
                · rfl
                · simp [hyx]

/-- slots beyond those of the names are empty -/
theorem start_free {n : Nat} : ∀ (is : List Nat) (vs : List V) (ℓ0 ℓ : L), setMany is vs ℓ0 = some ℓ → (∀ i ∈ is, i < n) → (∀ (i : Nat) v, n ≤ i → ℓ0[i]? ≠ some (some v)) → ∀ (i : Nat) v, n ≤ i → ℓ[i]? ≠ some (some v)
  | [], [], ℓ0, ℓ, h, _, h0 => by cases h; exact h0
  | [], _ :: _, ℓ0, ℓ, h, _, _ => by cases h
  | _ :: _, [], ℓ0, ℓ, h, _, _ => by cases h
  | i :: is, v :: vs, ℓ0, ℓ, h, hlt, h0 => by
    simp only [setMany] at h
    refine Classical.byContradiction fun hnX => ?_
    obtain ⟨ℓ1, h5, h6⟩ := Option.bind_eq_some_iff.mp h
    refine hnX ?_
    clear hnX
    refine Classical.byContradiction fun hnX => ?_
    obtain ⟨_, hset⟩ := lookup_set h5
    refine hnX ?_
    clear hnX
    refine start_free is vs ℓ1 ℓ h6 (fun j hj => hlt j (List.mem_cons_of_mem _ hj)) fun j w hj => ?_
    have := hlt i List.mem_cons_self
    rw [hset, if_neg (by exact Lin.lin [(.le (.v 2) (.v 0)), (.lt (.v 1) (.v 2))] (.no (.eq (.v 0) (.v 1))) (.l [1, 0, 1, 1]) rfl [_, _, _] [] hj this)]
    exact h0 j w hj

theorem mapM_mem {xs : List Str} {names : List (Str × NameKind)} : ∀ {is : List Nat}, xs.mapM (fun x => (slotsOf names).lookup x) = some is → ∀ i ∈ is, ∃ x ∈ xs, (slotsOf names).lookup x = some i := by
  induction xs with
  | nil => intro is h; simp only [List.mapM_nil] at h; cases h; intro i hi; cases hi
  | cons x xs ih =>
    intro is h
    rw [List.mapM_cons] at h
    cases hs : (slotsOf names).lookup x with
    | none => rw [hs] at h; cases h
    | some i =>
      rw [hs] at h
      cases hr : xs.mapM (fun x => (slotsOf names).lookup x) with
      | none => rw [hr] at h; cases h
      | some is' =>
        rw [hr] at h; cases h
        intro j hj
        rcases List.mem_cons.mp hj with rfl | hj
        · exact ⟨x, List.mem_cons_self, hs⟩
        · refine Classical.byContradiction fun hnX => ?_
          obtain ⟨y, hy, e⟩ := ih hr j hj
          refine hnX ?_
          clear hnX
          exact ⟨y, List.mem_cons_of_mem _ hy, e⟩
theorem mapM_all {names : List (Str × NameKind)} : ∀ {xs : List Str} {is : List Nat}, xs.mapM (fun x => (slotsOf names).lookup x) = some is → ∀ x ∈ xs, ∃ i, (slotsOf names).lookup x = some i
  | [], _, _, x, hx => by cases hx
  | y :: xs, is, h, x, hx => by
    rw [List.mapM_cons] at h
    cases hs : (slotsOf names).lookup y with
    | none => rw [hs] at h; cases h
    | some i =>
      rw [hs] at h
      cases hr : xs.mapM (fun x => (slotsOf names).lookup x) with
      | none => rw [hr] at h; cases h
      | some is' =>
        rcases List.mem_cons.mp hx with rfl | hx
        · exact ⟨i, hs⟩
        · exact mapM_all hr x hx
end
end Mini

/-! Calls: the frame at its start, the way back. -/
set_option autoImplicit false
namespace Mini
open PySem PyProof.Rows PySem.SeqAt

section
variable {K : Kx} {A : Around} {T : Tabs}

theorem entry_FO {f : Nat} {F : Fn} {o : Obj} {fd : FuncData} {body : List Stmt} {xs : List Str} (x : FnAt K T f F o fd body xs) {as : List V} {ℓ : L} (hst : startL F as = some ℓ) {ρ : List Addr} {σ : H} {s s1 : Shared} (hr : HR K ρ σ s.heap) {cvs : List Value} (rvs : RVs K ρ s.heap as cvs) {a : Addr}
    (hin : InCallC s (callEnvC fd s.heap.objs.size a).locals (bindL (callEnvC fd s.heap.objs.size a).kindOf (xs.zip cvs) fun _ => none) (callEnvC fd s.heap.objs.size a).cells
        (bindC (callEnvC fd s.heap.objs.size a).kindOf (xs.zip cvs) fun _ => none) s1) : FO K (callEnvC fd s.heap.objs.size a) (fnC fd.scope) ℓ ρ s1.heap := by
  refine Classical.byContradiction fun hnX => ?_
  obtain ⟨f1, f2⟩ := fresh_off hr
  refine hnX ?_
  clear hnX
  have hk : ∀ b o, s.heap.get? b = some o → s1.heap.get? b = some o := hin.toInCall.keep
  have hnone : ∀ b : Addr, @LE.le Nat _ s.heap.objs.size b → b ∉ ρ ∧ K.h0.get? b = none := by
    intro b hb
    have h0 : s.heap.get? b = none := by
      cases e : s.heap.get? b with
      | none => rfl
      | some o => have := Heap.lt_size e; exact absurd hb (Nat.not_le.mpr this)
    refine ⟨fun hm => ?_, ?_⟩
    · refine Classical.byContradiction fun hnX => ?_
      obtain ⟨ob, e, _⟩ := hr.at_ hm
      refine hnX ?_
      clear hnX
      rw [h0] at e; cases e
    · cases e : K.h0.get? b with
      | none => rfl
      | some o => rw [hr.keep _ _ e] at h0; cases h0
  have rv1 : RVs K ρ s1.heap as cvs := rvs.mono (List.prefix_refl _) fun b vs e => hk _ _ e
  obtain ⟨hlen, hval⟩ := start_inv (K := K) (names := fd.scope.names) (ρ := ρ) (h := s1.heap) (callEnvC fd s.heap.objs.size a).kindOf (fun _ => rfl) x.nd xs F.ps as cvs (List.replicate F.size .none) ℓ (fun _ => none) (fun _ => none) x.ps hst rv1 (fun y i v _ h => by
    rw [List.getElem?_replicate] at h; split at h <;> cases h)
  have hcells : (callEnvC fd s.heap.objs.size a).cells = cellsFrom (s.heap.objs.size + 1) fd.scope.names [] := rfl
  have hnd : (((callEnvC fd s.heap.objs.size a).cells).map (·.1)).Nodup := by rw [hcells]; exact cells_keys x.nd (by simp) (by simp)
  have hlook : ∀ y b, (y, b) ∈ (callEnvC fd s.heap.objs.size a).cells → (callEnvC fd s.heap.objs.size a).cells.lookup y = some b := fun y b h => nodup_lookup hnd h
  refine ⟨x.kind, rfl, x.glob, x.blts, ⟨_, hin.toInCall.ns, fun y i v h1 h2 h3 => ?_⟩, fun y hy => ?_, fun y z i => slots_inj, fun y z b h1 h2 => name_of_addr hin.apart h1 h2, ?_, ?_, fun y i h => (slots_inv h).1, fun y b hb => ?_⟩
  · have := hval y i v h2 h3
    have h1' : fd.scope.names.lookup y = some .local := h1
    rw [if_pos h1'] at this
    exact this
  · have hy' : fd.scope.names.lookup y = some .cell := hy
    have hm := cells_has (n := s.heap.objs.size + 1) (acc := []) (.inl (mem_of_lookup hy'))
    refine Classical.byContradiction fun hnX => ?_
    obtain ⟨⟨y', b⟩, hb, rfl⟩ := List.mem_map.mp hm
    refine hnX ?_
    clear hnX
    refine ⟨b, _, hlook _ b hb, hin.cell _ b (hlook _ b hb), fun i v h2 h3 => ?_⟩
    have := hval _ i v h2 h3
    rw [if_neg (by rw [hy']; decide)] at this
    exact this
  · exact hnone _ (Nat.le_refl _)
  · refine start_free F.ps as _ ℓ hst (fun i hi => ?_) fun i v _ h => by
      rw [List.getElem?_replicate] at h; split at h <;> cases h
    refine Classical.byContradiction fun hnX => ?_
    obtain ⟨y, _, e⟩ := mapM_mem x.ps i hi
    refine hnX ?_
    clear hnX
    exact (slots_inv e).1
  · have habove : @LT.lt Nat _ s.heap.objs.size b := hin.above y b hb
    refine Classical.byContradiction fun hnX => ?_
    obtain ⟨h1, h2⟩ := hnone b (Nat.le_of_lt habove)
    refine hnX ?_
    clear hnX
    refine Classical.byContradiction fun hnX => ?_
    obtain ⟨o', e', hd'⟩ := hin.cell y b (hlook y b hb)
    refine hnX ?_
    clear hnX
    exact ⟨h1, h2, Nat.ne_of_gt habove, o', e', fun vs hv => by rw [hv] at hd'; cases hd'⟩

theorem gc_inv {m : Mode} {σ : H} {x : X V} {v : V} {σ' : H} (h : gc m σ x = some (.ok v, σ')) : ∃ v1 σ1, x = some (.ok v1, σ1) ∧
    ((v = v1 ∧ σ' = σ1) ∨ (σ1.take σ.length = σ ∧ below σ.length v1 = true ∧ v = v1 ∧ σ' = σ) ∨ (σ1.take σ.length = σ ∧ ∃ n l, v1 = .obj n ∧ σ.length ≤ n ∧ σ1[n]? = some (.list l) ∧ belows σ.length l = true ∧ v = .obj σ.length ∧ σ' = σ ++ [.list l])) := by
  cases m with
  | raw => exact ⟨v, σ', h, .inl ⟨rfl, rfl⟩⟩
  | pure =>
    simp only [gc] at h
    split at h
    · rename_i v1 σ1
      split at h
      · rename_i hc; cases h; exact ⟨_, _, rfl, .inr (.inl ⟨hc.1, hc.2, rfl, rfl⟩)⟩
      · cases h
    · split at h <;> cases h
    · cases h
  | fresh =>
    simp only [gc] at h
    split at h
    · rename_i n σ1
      split at h
      · rename_i ht
        split at h
        · rename_i hn; cases h; exact ⟨_, _, rfl, .inr (.inl ⟨ht, by simpa [below] using hn, rfl, rfl⟩)⟩
        · rename_i hn
          split at h
          · rename_i l hl
            split at h
            · rename_i hb; cases h; exact ⟨_, _, rfl, .inr (.inr ⟨ht, n, l, rfl, Nat.le_of_not_lt hn, hl, hb, rfl, rfl⟩)⟩
            · cases h
          · cases h
      · cases h
    · cases h

/-- the way back to the caller -/
theorem gc_back {ρ ρ1 : List Addr} {σ σ1 : H} {s s1 : Shared} {v1 : V} {cv : Value} (hr : HR K ρ σ s.heap) (hr1 : HR K ρ1 σ1 s1.heap) (st : Step ρ s ρ1 s1) (rv : RV K ρ1 s1.heap v1 cv) {m : Mode} {x : X V} {v : V} {σ' : H} (hx : x = some (.ok v1, σ1)) (h : gc m σ x = some (.ok v, σ')) :
    ∃ ρ', Good K ρ s ρ' σ' s1 ∧ RV K ρ' s1.heap v cv := by
  refine Classical.byContradiction fun hnX => ?_
  obtain ⟨v2, σ2, e, h⟩ := gc_inv h
  refine hnX ?_
  clear hnX
  rw [hx] at e; cases e
  rcases h with ⟨rfl, rfl⟩ | ⟨ht, hb, rfl, rfl⟩ | ⟨ht, n, l, rfl, hn, hl, hb, rfl, rfl⟩
  · exact ⟨ρ1, ⟨hr1, st⟩, rv⟩
  · refine ⟨ρ, ⟨hr.cut hr1 st.pre ht, ⟨List.prefix_refl _, st.fr, fun _ h => .inl h, st.gens, st.os⟩⟩, rv.cut st.pre (by rw [hr.len]; exact hb)⟩
  · cases rv with
    | obj ha =>
      rename_i a
      refine Classical.byContradiction fun hnX => ?_
      obtain ⟨vs, k, e, r, hle⟩ := hr1.obj n _ a hl ha
      refine hnX ?_
      clear hnX
      have hcut := hr.cut hr1 st.pre ht
      have haρ : a ∉ ρ := fun hm => by
        refine Classical.byContradiction fun hnX => ?_
        obtain ⟨j, hj, e'⟩ := List.getElem_of_mem hm
        refine hnX ?_
        clear hnX
        have h2 : ρ1[j]? = some a := pre_get st.pre (by rw [List.getElem?_eq_getElem hj, e'])
        have := (List.getElem?_inj (List.getElem?_eq_some_iff.mp h2).1 hr1.nd).mp (h2.trans ha.symm)
        rw [hr.len] at hj; lia
      refine ⟨ρ ++ [a], ⟨⟨hr1.keep, by simp [hr.len], ?_, fun b hb' => ?_, fun j o b h1 h2 => ?_⟩, ⟨List.prefix_append _ _, st.fr, fun b hb' => ?_, st.gens, st.os⟩⟩, .obj ?_⟩
      · rw [List.nodup_append]; exact ⟨hr.nd, by simp, fun b hb' z hz e => by simp at hz; exact haρ (hz ▸ e ▸ hb')⟩
      · rcases List.mem_append.mp hb' with h | h
        · exact hr.new b h
        · rw [List.mem_singleton.mp h]; exact hr1.new a (List.mem_of_getElem? ha)
      · by_cases hlt : j < σ.length
        · rw [List.getElem?_append_left hlt] at h1
          rw [List.getElem?_append_left (by rw [hr.len]; exact hlt)] at h2
          exact (hcut.obj j o b h1 h2).mono (List.prefix_append _ _) fun _ _ e => e
        · have hj' : j = σ.length := by have := (List.getElem?_eq_some_iff.mp h1).1; simp at this; lia
          subst hj'
          rw [List.getElem?_append_right (Nat.le_refl _)] at h1
          rw [List.getElem?_append_right (by rw [hr.len]; exact Nat.le_refl _)] at h2
          simp [hr.len] at h1 h2
          rw [← h1, ← h2]
          exact ⟨vs, k, e, (r.cut st.pre (by rw [hr.len]; exact hb)).mono (List.prefix_append _ _) (fun _ _ e => e), hle⟩
      · rcases List.mem_append.mp hb' with h | h
        · exact .inl h
        · rw [List.mem_singleton.mp h]
          rcases st.fresh a (List.mem_of_getElem? ha) with h | h
          · exact .inl h
          · exact .inr h
      · rw [List.getElem?_append_right (by rw [hr.len]; exact Nat.le_refl _), hr.len]; simp

theorem call_sound {pg : Pg} (G : GK K T) (ty : TyOK K) (plain : T.cls = [] ∧ T.meths = [] ∧ T.attrs = []) (hfn : ∀ f F, pg.fn f = some F → FnOK K T f F) (nl : K.h0.NoLimit) (hs : (∃ x, T.blts.lookup x = some .sorted) → ∀ A, Rm 0 A → SortOK K A) :
    ∀ (d : Nat) (A : Around), Rm d A → CallOK K A ⟨pg, callF pg d⟩
  | 0, A, _ => fun f vs σ v σ' h => by cases h
  | d + 1, A, rm => by
    intro f vs σ v σ' he ρ s cvs hr rvs
    simp only [callF] at he
    split at he
    · cases he
    rename_i F hF
    split at he
    · cases he
    rename_i ℓ hst
    refine Classical.byContradiction fun hnX => ?_
    obtain ⟨o, fd, body, xs, x⟩ := hfn f F hF
    refine hnX ?_
    clear hnX
    refine Classical.byContradiction fun hnX => ?_
    obtain ⟨v1, σ1, hret, _⟩ := gc_inv he
    refine hnX ?_
    clear hnX
    have hlen : cvs.length = xs.length := by
      have := (start_inv (K := K) (ρ := ρ) (h := s.heap) (fun y => fd.scope.names.lookup y) (fun _ => rfl) x.nd xs F.ps vs cvs (List.replicate F.size .none) ℓ (fun _ => none) (fun _ => none) x.ps hst rvs (fun y i v _ h => by
        rw [List.getElem?_replicate] at h; split at h <;> cases h)).1
      exact this.symm
    have hcode : K.h0.CodeRec fd.code fd.qualname := x.code
    refine wpAny_call (codeAny_call_cells (by have := rm.depth; lia) (hr.keep _ _ x.ho) x.data (nl.keeps hr.keep) (hcode.keeps hr.keep) x.bodyE (x.bind cvs hlen) x.clo (fun y hy => ?_) (fun s1 hin => ?_) x.co x.gen x.kind)
    · have hyx : y.1 ∈ xs := (List.of_mem_zip (a := y.1) (b := y.2) hy).1
      refine Classical.byContradiction fun hnX => ?_
      obtain ⟨i, hi⟩ := mapM_all x.ps _ hyx
      refine hnX ?_
      clear hnX
      rcases slots_kind x.nd hi with h | h
      · exact .inl h
      · right
        refine ⟨h, ?_⟩
        have hm := cells_has (n := s.heap.objs.size + 1) (acc := []) (.inl (mem_of_lookup h))
        refine Classical.byContradiction fun hnX => ?_
        obtain ⟨⟨y', b⟩, hb, e⟩ := List.mem_map.mp hm
        refine hnX ?_
        clear hnX
        have hnd : ((cellsFrom (s.heap.objs.size + 1) fd.scope.names []).map (·.1)).Nodup := cells_keys x.nd (by simp) (by simp)
        have hl := nodup_lookup hnd hb
        have e' : y' = y.1 := e
        rw [← e', hl]; rfl
    · have fo := entry_FO x hst hr rvs hin
      have rm' := rm.deeper (callEnvC fd s.heap.objs.size (K.fna f))
      have hyy : Hy K (A.deeper (callEnvC fd s.heap.objs.size (K.fna f))) ⟨pg, callF pg d⟩ T := ⟨G, ty, rm'.handled, by have := rm'.units; lia, call_sound G ty plain hfn nl hs d _ rm', fun hx => hs hx _ ⟨rm'.handled, by have := rm'.depth; lia, by have := rm'.units; lia⟩, plain⟩
      refine Classical.byContradiction fun hnX => ?_
      obtain ⟨h1, tk1, es1⟩ := hin.toInCall.same
      refine hnX ?_
      clear hnX
      have hr1 : HR K ρ σ s1.heap := hr.grow hin.toInCall.keep
      have st0 : Step ρ s ρ s1 := ⟨List.prefix_refl _, fun b o e _ => hin.toInCall.keep b o e, fun _ h => .inl h, by rw [es1], by rw [es1]⟩
      cases hbody : execs ⟨pg, callF pg d⟩ F.body ℓ σ with
      | none => rw [hbody] at hret; cases hret
      | some y =>
        refine Classical.byContradiction fun hnX => ?_
        obtain ⟨fl, ℓ2, σ2⟩ := y
        refine hnX ?_
        clear hnX
        rw [hbody] at hret
        have hnx : NX fl := by rintro k rfl; cases hret
        have hnew : ∀ b ∈ frameX (callEnvC fd s.heap.objs.size (K.fna f)), s.heap.get? b = none := by
          intro b hb
          have hge : @LE.le Nat _ s.heap.objs.size b := by
            rcases mem_frameX hb with rfl | ⟨y, hy⟩
            · exact Nat.le_refl _
            · exact Nat.le_of_lt (hin.above y b hy)
          cases e : s.heap.get? b with
          | none => rfl
          | some o => have := Heap.lt_size e; exact absurd hge (Nat.not_le.mpr this)
        refine wpAny_mono (sSs hyy body (fnC fd.scope) _ F.body x.comp ℓ σ fl ℓ2 σ2 hbody hnx ρ s1 hr1 fo) (fun cf s2 hq => ?_) fun _ _ f => f.elim
        refine Classical.byContradiction fun hnX => ?_
        obtain ⟨ρ2, hr2, st2, fo2, frr⟩ := hq
        refine hnX ?_
        clear hnX
        have st : Step ρ s ρ2 s2 := by
          refine ⟨st2.pre, fun b o e hb => st2.fr b o (hin.toInCall.keep b o e) hb fun hX => ?_, fun b hb => ?_, st2.gens.trans st0.gens, st2.os.trans st0.os⟩
          · rw [hnew b hX] at e; cases e
          · rcases st2.fresh b hb with h | h
            · exact .inl h
            · right
              cases e : s.heap.get? b with
              | none => rfl
              | some o => rw [hin.toInCall.keep b o e] at h; cases h
        rw [hbody] at he
        cases fl with
        | next =>
          cases cf with
          | next => exact gc_back hr hr2 st .none rfl he
          | _ => exact frr.elim
        | brk => cases hret
        | ret w =>
          cases cf with
          | ret cw => exact gc_back hr hr2 st frr rfl he
          | _ => exact frr.elim
        | exc k => exact absurd rfl (hnx k)
end
end Mini

/-! From the top to the small language. -/
set_option autoImplicit false
namespace Mini
open PySem PyProof.Rows PySem.SeqAt PySem.Calls

theorem fm_congr {α β : Type} {f g : α → Option β} : ∀ {l : List α}, (∀ x ∈ l, f x = g x) → l.filterMap f = l.filterMap g
  | [], _ => rfl
  | x :: l, h => by rw [List.filterMap_cons, List.filterMap_cons, h x List.mem_cons_self, fm_congr fun y hy => h y (List.mem_cons_of_mem _ hy)]

theorem zip_lookup : ∀ {xs : List Str} {vals : List Value}, xs.Nodup → vals.length = xs.length → xs.filterMap (fun n => ((xs.zip vals).lookup n).map (n, ·)) = xs.zip vals
  | [], [], _, _ => rfl
  | [], _ :: _, _, h => by cases h
  | _ :: _, [], _, h => by cases h
  | x :: xs, v :: vs, hn, h => by
    rw [List.nodup_cons] at hn
    have ih := zip_lookup hn.2 (by simpa using h)
    rw [List.zip_cons_cons, List.filterMap_cons]
    have e1 : ((x, v) :: xs.zip vs).lookup x = some v := by simp [List.lookup_cons]
    rw [e1]
    simp only [Option.map_some]
    congr 1
    rw [← ih]
    refine fm_congr fun y hy => ?_
    have hne : (y == x) = false := by simp; rintro rfl; exact hn.1 hy
    rw [List.lookup_cons, hne]
    simp only
    rw [ih]

theorem zip_all : ∀ {xs : List Str} {vals : List Value}, vals.length = xs.length → ∀ x ∈ xs, ((xs.zip vals).lookup x).isNone = false
  | [], _, _, x, hx => by cases hx
  | _ :: _, [], h, _, _ => by cases h
  | y :: xs, v :: vs, h, x, hx => by
    rw [List.zip_cons_cons, List.lookup_cons]
    cases hb : x == y with
    | true => rfl
    | false =>
      rcases List.mem_cons.mp hx with rfl | hx
      · simp at hb
      · exact zip_all (by simpa using h) x hx

noncomputable def plainParams (p : Arguments) : Bool := p.posonlyargs.isEmpty && p.kwonlyargs.isEmpty && p.vararg.isNone && p.kwarg.isNone && decide (p.args.map (·.arg)).Nodup

theorem bind_plain {name : Str} {p : Arguments} {body : List Stmt} {scope : Scope} {pm code doc : Value} (h : plainParams p = true) (vals : List Value) (hl : vals.length = (p.args.map (·.arg)).length) :
    bindArgs (docDef name p body scope pm code doc) ⟨vals, []⟩ = pure ((p.args.map (·.arg)).zip vals) := by
  refine Classical.byContradiction fun hnX => ?_
  obtain ⟨po, as, va, kwo, kd, kw, df⟩ := p
  refine hnX ?_
  clear hnX
  simp only [plainParams, Bool.and_eq_true, List.isEmpty_iff, Option.isNone_iff_eq_none, decide_eq_true_eq] at h
  refine Classical.byContradiction fun hnX => ?_
  obtain ⟨⟨⟨⟨rfl, rfl⟩, rfl⟩, rfl⟩, hn⟩ := h
  refine hnX ?_
  clear hnX
  simp only at hl hn
  have hm : ((as.map (·.arg)).take ((as.map (·.arg)).length)).filter (fun n => (((as.map (·.arg)).zip vals).lookup n).isNone) = [] := by
    rw [List.filter_eq_nil_iff]
    intro x hx
    rw [List.take_length] at hx
    simp [zip_all hl x hx]
  have hz := zip_lookup hn hl
  have hlen : ¬ (decide (vals.length > (as.map (·.arg)).length) && true) = true := by rw [hl]; simp
  have hzip : ∀ (l : List Str) (k : Nat), l.zip (List.drop k ([] : List Value)) = [] := fun l k => by rw [List.drop_nil, List.zip_nil_right]
  refine Eq.trans (b := ite ((decide (vals.length > (as.map fun x : Arg => x.arg).length) && true) = true) _ _) rfl ?_
  refine (if_neg hlen).trans ?_
  refine (if_neg ?hc).trans ?_
  case hc =>
    show ¬ (!(((as.map fun x : Arg => x.arg).take ((as.map fun x : Arg => x.arg).length - (List.drop (0 - (as.map fun x : Arg => x.arg).length) ([] : List Value)).length)).filter (fun n => (((as.map fun x : Arg => x.arg).zip vals).lookup n).isNone)).isEmpty) = true
    rw [List.drop_nil, List.length_nil, Nat.sub_zero, hm]; simp
  refine Eq.trans (b := forIn (((as.map fun x : Arg => x.arg).drop ((as.map fun x : Arg => x.arg).length - (List.drop (0 - (as.map fun x : Arg => x.arg).length) ([] : List Value)).length)).zip (List.drop (0 - (as.map fun x : Arg => x.arg).length) ([] : List Value))) _ _ >>= _) rfl ?_
  rw [hzip]
  refine Eq.trans (b := pure (((as.map fun x : Arg => x.arg) ++ []).filterMap fun n => (((as.map fun x : Arg => x.arg).zip vals).lookup n).map (n, ·))) rfl ?_
  rw [List.append_nil, hz]
end Mini

/-! The top's facts. -/
set_option autoImplicit false
namespace Mini
open PySem PyProof.Rows PySem.SeqAt PySem.Calls

noncomputable def fnNo (x : Str) : Option Nat := fnNames.lookup x
noncomputable def fnName (n : Nat) : Option Str := (fnNames.find? (fun p => p.2 == n)).map (·.1)

noncomputable def tabs1 (bl : List (Str × Blt)) (ds : List DefRec) : Tabs := ⟨ds.filterMap (fun d => (fnNo d.name).map (d.name, ·)), tyNames, bl, [], [], [], excNames⟩
noncomputable def fnAt (bl : List (Str × Blt)) (md : Nat → Mode) (ds : List DefRec) (n : Nat) : Option Fn := match ds.find? (fun d => fnNo d.name == some n) with
  | some d => cFn (tabs1 bl ds) (md n) 8 d.params d.scope d.body
  | none => none
noncomputable def pgOf (bl : List (Str × Blt)) (md : Nat → Mode) (ds : List DefRec) : Pg := ⟨fnAt bl md ds, fun _ _ => none, fun _ => none⟩

noncomputable def goodDef (d : DefRec) : Bool := plainParams d.params && d.scope.kind == .function && !d.scope.isCoroutine && !d.scope.isGenerator && decide (d.scope.names.map (·.1)).Nodup && (match fnNo d.name with
  | some n => fnName n == some d.name
  | none => false)

noncomputable def fnaOf (mg : Str → Option Value) (n : Nat) : Addr := match fnName n with
  | some x => (match mg x with
    | some (.ref a) => a
    | _ => 0)
  | none => 0
noncomputable def tyOf : Nat → Value
  | 0 => .type "int"
  | 1 => .type "bool"
  | 2 => .type "tuple"
  | 3 => .type "list"
  | 4 => .type "ValueError"
  | _ => .none

noncomputable def freeChk (p : Program) (loose : List Str) : Bool := (tyNames.map (·.1) ++ bltNames.map (·.1) ++ [sRange]).all fun x =>
  !startupNames.contains x && !loose.contains x && !((recsOf p).map (·.name)).contains x && !((litsOf p).map (·.1)).contains x && !((clssOf p loose).map (·.name)).contains x && !(x == ("__name__" : Str))

theorem boot_ty {x : Str} {t : Nat} (h : tyNames.lookup x = some t) : bootBuiltins x = some (tyOf t) := by
  have hm := mem_of_lookup h
  simp only [tyNames, List.mem_cons, List.not_mem_nil, or_false, Prod.mk.injEq] at hm
  rcases hm with ⟨rfl, rfl⟩ | ⟨rfl, rfl⟩ | ⟨rfl, rfl⟩ | ⟨rfl, rfl⟩ | ⟨rfl, rfl⟩ <;> rfl
theorem boot_blt {x : Str} {b : Blt} (h : bltNames.lookup x = some b) : bootBuiltins x = some (bltVal b) := by
  have hm := mem_of_lookup h
  simp only [bltNames, List.mem_cons, List.not_mem_nil, or_false, Prod.mk.injEq] at hm
  rcases hm with ⟨rfl, rfl⟩ | ⟨rfl, rfl⟩ | ⟨rfl, rfl⟩ | ⟨rfl, rfl⟩ | ⟨rfl, rfl⟩ | ⟨rfl, rfl⟩ | ⟨rfl, rfl⟩ | ⟨rfl, rfl⟩ <;> rfl
theorem boot_range : bootBuiltins sRange = some (.type "range") := rfl

section
variable {p : Program} {loose : List Str} {mean : ExcName → Option Value} {mg mb : Str → Option Value} {h : Heap}

theorem top_free (T0 : Top p loose mean mg mb h) (hf : freeChk p loose = true) {x : Str} (hx : x ∈ tyNames.map (·.1) ++ bltNames.map (·.1) ++ [sRange]) : mg x = none ∧ mb x = bootBuiltins x := by
  have := List.all_eq_true.mp hf x hx
  simp only [Bool.and_eq_true, Bool.not_eq_true', List.contains_eq_mem, decide_eq_false_iff_not, beq_eq_false_iff_ne] at this
  refine Classical.byContradiction fun hnX => ?_
  obtain ⟨⟨⟨⟨⟨h1, h2⟩, h3⟩, h4⟩, h5⟩, h6⟩ := this
  refine hnX ?_
  clear hnX
  exact ⟨T0.free x h1 h2 h3 h4 h5, T0.builtins x h6⟩

theorem lookup_mem {α : Type} {l : List (Str × α)} {x : Str} {a : α} (h : l.lookup x = some a) : x ∈ l.map (·.1) := List.mem_map.mpr ⟨_, mem_of_lookup h, rfl⟩

theorem fna_of {x : Str} {n : Nat} {a : Addr} (h1 : fnName n = some x) (h2 : mg x = some (.ref a)) : fnaOf mg n = a := by unfold fnaOf; rw [h1]; simp only [h2]

theorem top_GK {bl : List (Str × Blt)} (hbl : ∀ x b, bl.lookup x = some b → bltNames.lookup x = some b) (T0 : Top p loose mean mg mb h) (prog : Program) (w : World) (hf : freeChk p loose = true) (hg : (recsOf p).all goodDef = true) : GK ⟨prog, w, h, tyOf, fnaOf mg⟩ (tabs1 bl (recsOf p)) := by
  refine ⟨mg, mb, T0.g, T0.b, fun x t hx => ?_, fun x n hx => ?_, fun x b hx => ?_, ?_⟩
  · right
    have := top_free T0 hf (x := x) (List.mem_append_left _ (List.mem_append_left _ (lookup_mem hx)))
    exact ⟨this.1, by rw [this.2, boot_ty hx]⟩
  · have hm := mem_of_lookup hx
    refine Classical.byContradiction fun hnX => ?_
    obtain ⟨d, hd, e⟩ := List.mem_filterMap.mp hm
    refine hnX ?_
    clear hnX
    refine Classical.byContradiction fun hnX => ?_
    obtain ⟨n', hn, e⟩ := Option.map_eq_some_iff.mp e
    refine hnX ?_
    clear hnX
    cases e
    have hgd := List.all_eq_true.mp hg d hd
    simp only [goodDef, hn, Bool.and_eq_true, beq_iff_eq] at hgd
    refine Classical.byContradiction fun hnX => ?_
    obtain ⟨a, o, pm, code, doc, h1, h2, h3, h4⟩ := T0.fn d hd
    refine hnX ?_
    clear hnX
    show mg d.name = some (.ref (fnaOf mg n)) ∧ ∃ o fd, h.get? (fnaOf mg n) = some o ∧ o.data = .func fd
    rw [fna_of hgd.2 h1]
    exact ⟨h1, o, _, h2, h3⟩
  · have := top_free T0 hf (x := x) (List.mem_append_left _ (List.mem_append_right _ (lookup_mem (hbl x b hx))))
    exact ⟨this.1, by rw [this.2, boot_blt (hbl x b hx)]⟩
  · have := top_free T0 hf (x := sRange) (List.mem_append_right _ List.mem_cons_self)
    exact ⟨this.1, by rw [this.2, boot_range]⟩

theorem cFn_inv {T : Tabs} {m : Mode} {e : Nat} {as : Arguments} {sc : Scope} {body : List Stmt} {F : Fn} (h : cFn T m e as sc body = some F) :
    (as.args.map (·.arg)).mapM (fun x => (slotsOf sc.names).lookup x) = some F.ps ∧ cSs T (fnC sc) body = some F.body ∧ F.size = (ownOf sc.names).length + e := by
  refine Classical.byContradiction fun hnX => ?_
  obtain ⟨ps, h1, h2⟩ := Option.bind_eq_some_iff.mp h
  refine hnX ?_
  clear hnX
  refine Classical.byContradiction fun hnX => ?_
  obtain ⟨b, h3, rfl⟩ := Option.map_eq_some_iff.mp h2
  refine hnX ?_
  clear hnX
  exact ⟨h1, h3, rfl⟩

theorem top_fn {bl : List (Str × Blt)} (T0 : Top p loose mean mg mb h) (prog : Program) (w : World) (hg : (recsOf p).all goodDef = true) {md : Nat → Mode} {n : Nat} {F : Fn} (hF : fnAt bl md (recsOf p) n = some F) : FnOK ⟨prog, w, h, tyOf, fnaOf mg⟩ (tabs1 bl (recsOf p)) n F := by
  unfold fnAt at hF
  split at hF
  · rename_i d hd
    have hmem := List.mem_of_find?_eq_some hd
    have hnm : fnNo d.name = some n := by have := List.find?_some hd; simpa using this
    have hgd := List.all_eq_true.mp hg d hmem
    simp only [goodDef, hnm, Bool.and_eq_true, beq_iff_eq, Bool.not_eq_true', decide_eq_true_eq] at hgd
    refine Classical.byContradiction fun hnX => ?_
    obtain ⟨⟨⟨⟨⟨g1, g2⟩, g3⟩, g4⟩, g5⟩, g6⟩ := hgd
    refine hnX ?_
    clear hnX
    refine Classical.byContradiction fun hnX => ?_
    obtain ⟨a, o, pm, code, doc, h1, h2, h3, h4⟩ := T0.fn d hmem
    refine hnX ?_
    clear hnX
    refine Classical.byContradiction fun hnX => ?_
    obtain ⟨c1, c2, c3⟩ := cFn_inv hF
    refine hnX ?_
    clear hnX
    have hat : FnAt ⟨prog, w, h, tyOf, fnaOf mg⟩ (tabs1 bl (recsOf p)) n F o (docDef d.name d.params d.body d.scope pm code doc) d.body (d.params.args.map (·.arg)) := ⟨?_, h3, rfl, rfl, g2, g3, g4, g5, rfl, rfl, h4, fun vals hl => bind_plain g1 vals hl, c1, c2, Nat.le_trans (Nat.le_add_right _ 8) (Nat.le_of_eq c3.symm)⟩
    · exact ⟨o, _, _, _, hat⟩
    show h.get? (fnaOf mg n) = some o
    rw [fna_of g6 h1]; exact h2
  · cases hF

theorem ty_ok (prog : Program) (w : World) (h : Heap) (f : Nat → Addr) : TyOK ⟨prog, w, h, tyOf, f⟩ := ⟨rfl, rfl, rfl, rfl⟩

/-- the whole: the evaluator's word for a law's call is the model's -/
theorem law_end {bl : List (Str × Blt)} (hbl : ∀ x b, bl.lookup x = some b → bltNames.lookup x = some b) (T0 : Top p loose mean mg mb h) (prog : Program) (w : World) (hf : freeChk p loose = true) (hg : (recsOf p).all goodDef = true) {md : Nat → Mode} {d n : Nat} {A : Around} (rm : Rm d A) (hs : (∃ x, bl.lookup x = some .sorted) → ∀ A, Rm 0 A → SortOK ⟨prog, w, h, tyOf, fnaOf mg⟩ A)
    {s : Shared} (es : s.heap = h) {l : List Int} {vs : List Value} {ax : Addr} (hx : h.get? ax = some (listObj vs 0)) (hv : RVs ⟨prog, w, h, tyOf, fnaOf mg⟩ [] h (l.map V.int) vs) (hl : l.length ≤ lenMax) {σ' : H} {x : Str} {fa : Addr} (hn : fnName n = some x) (hm : mg x = some (.ref fa))
    (hc : callF (pgOf bl md (recsOf p)) d n [.frz l] [] = some (.ok (.bool true), σ')) {Q : Value → Shared → Prop} {E : Value → Shared → Prop}
    (hq : ∀ s' : Shared, (∀ b o, s.heap.get? b = some o → s'.heap.get? b = some o) → s'.os = s.os → s'.gens = s.gens → Q (.bool true) s') : wpAny (model prog w) A (call (.ref fa) [.ref ax]) Q E s := by
  subst es
  have hr : HR ⟨prog, w, s.heap, tyOf, fnaOf mg⟩ [] [] s.heap := ⟨fun _ _ e => e, rfl, List.nodup_nil, (fun a h => nomatch h), fun n o a h1 _ => by simp at h1⟩
  have := call_sound (K := ⟨prog, w, s.heap, tyOf, fnaOf mg⟩) (pg := pgOf bl md (recsOf p)) (top_GK hbl T0 prog w hf hg) (ty_ok prog w s.heap _) ⟨rfl, rfl, rfl⟩ (fun f F hF => top_fn T0 prog w hg hF) T0.nolimit hs d A rm n [.frz l] [] (.bool true) σ' hc [] s [.ref ax] hr (.cons (.frz hx hv hl) .nil)
  have e : fnaOf mg n = fa := fna_of hn hm
  unfold TR at this
  simp only [e] at this
  refine wpAny_mono this (fun v s' hq' => ?_) fun _ _ f => f.elim
  refine Classical.byContradiction fun hnX => ?_
  obtain ⟨ρ', g, rv⟩ := hq'
  refine hnX ?_
  clear hnX
  cases rv
  exact hq s' g.hr.keep g.st.os g.st.gens
end
end Mini

/-! The script. -/
set_option autoImplicit false
namespace Mini
open PySem PySem.W PyProof.Rows

theorem wellall_head {P : Params} {h : Heap} {d : WData} {ds : List WData} {vs : List Value} (r : WellAll P h vs (d :: ds)) : ∃ w wr, vs = w :: wr ∧ Well P h w d ∧ WellAll P h wr ds := by
  cases r with
  | cons a b => exact ⟨_, _, rfl, a, b⟩
theorem wellall_nil {P : Params} {h : Heap} {vs : List Value} (r : WellAll P h vs []) : vs = [] := by
  cases r with
  | nil => rfl
theorem well_int {P : Params} {h : Heap} {i : Int} {w : Value} (r : Well P h w (.int i)) : ∃ t, w = .int i t := by
  cases r with
  | int _ t => exact ⟨t, rfl⟩
theorem wellall_ints {K : Kx} {P : Params} {h h' : Heap} : ∀ {l : List Int} {vs : List Value}, WellAll P h vs (ofPys (l.map .int)) → RVs K [] h' (l.map V.int) vs
  | [], vs, r => by rw [wellall_nil r]; exact .nil
  | i :: l, vs, r => by
    refine Classical.byContradiction fun hnX => ?_
    obtain ⟨w, wr, rfl, r0, rs⟩ := wellall_head r
    refine hnX ?_
    clear hnX
    refine Classical.byContradiction fun hnX => ?_
    obtain ⟨t, rfl⟩ := well_int r0
    refine hnX ?_
    clear hnX
    exact .cons (.int i t) (wellall_ints (l := l) rs)
theorem well_ints {K : Kx} {P : Params} {h h' : Heap} {l : List Int} {ax : Addr} (w : Well P h (.ref ax) (ofPy (.list (l.map .int)))) : ∃ vs, h.get? ax = some (listObj vs 0) ∧ RVs K [] h' (l.map V.int) vs := by
  have e : ofPy (.list (l.map .int)) = .list (ofPys (l.map .int)) := rfl
  rw [e] at w
  cases w with
  | list h1 h2 => exact ⟨_, h1, wellall_ints h2⟩
theorem script_small {l : List Int} (h : PyData.layable0 (.list (l.map .int)) = true) : ∀ x ∈ l, x.natAbs < 2 ^ (2 ^ 20) := fun x hx => by
  have := PyData.bits_item_of_ints h hx
  exact intBits_le_iff.mp this
theorem rm_caller : Rm 60 callerA := ⟨rfl, by decide, by decide⟩
end Mini

/-! The sort of the model, for any length: keys, the order, runs. -/
set_option autoImplicit false
namespace Mini
open PySem PyProof.Rows

theorem le3_iff (x y : T3) : T3.le x y = true ↔ (x.a < y.a ∨ (x.a = y.a ∧ (x.b < y.b ∨ (x.b = y.b ∧ x.c ≤ y.c)))) := by
  simp [T3.le]
theorem le3_refl (x : T3) : T3.le x x = true := by rw [le3_iff]; exact Lin.lin [] (.or (.zlt (.v 0) (.v 0)) (.an (.zeq (.v 0) (.v 0)) (.or (.zlt (.v 1) (.v 1)) (.an (.zeq (.v 1) (.v 1)) (.zle (.v 2) (.v 2)))))) (.s (.s (.l [0, 1]) (.l [0, 1])) (.s (.s (.l [0, 0, 1]) (.l [0, 0, 1])) (.l [0, 0, 1]))) rfl [] [_, _, _]
theorem le3_trans {x y z : T3} (h : T3.le x y = true) (h' : T3.le y z = true) : T3.le x z = true := by rw [le3_iff] at *; exact Lin.lin [(.or (.zlt (.v 0) (.v 6)) (.an (.zeq (.v 0) (.v 6)) (.or (.zlt (.v 2) (.v 7)) (.an (.zeq (.v 2) (.v 7)) (.zle (.v 4) (.v 8)))))), (.or (.zlt (.v 6) (.v 1)) (.an (.zeq (.v 6) (.v 1)) (.or (.zlt (.v 7) (.v 3)) (.an (.zeq (.v 7) (.v 3)) (.zle (.v 8) (.v 5))))))] (.or (.zlt (.v 0) (.v 1)) (.an (.zeq (.v 0) (.v 1)) (.or (.zlt (.v 2) (.v 3)) (.an (.zeq (.v 2) (.v 3)) (.zle (.v 4) (.v 5)))))) (.s (.s (.s (.s (.l [1, 1]) (.s (.l [1, 1]) (.l [1, 1]))) (.s (.s (.l [1, 1]) (.s (.l [1, 1]) (.l [1, 1]))) (.s (.l [1, 1]) (.s (.l [1, 1]) (.l [1, 1]))))) (.s (.s (.l [0, 1, 1, 1]) (.s (.l [0, 1, 1, 1]) (.l [0, 1, 1, 1]))) (.s (.s (.l [0, 1, 1, 0, 0, 1]) (.s (.l [0, 1, 1, 0, 0, 1]) (.l [0, 1, 1, 0, 0, 1]))) (.s (.l [0, 1, 1, 0, 0, 0, 0, 1]) (.s (.l [0, 1, 1, 0, 0, 0, 0, 1]) (.l [0, 1, 1, 0, 0, 0, 0, 1])))))) (.s (.s (.s (.s (.l [0, 1, 1]) (.s (.l [0, 1, 1]) (.l [0, 1, 1]))) (.s (.s (.l [0, 1, 1]) (.s (.l [0, 1, 1]) (.l [0, 1, 1]))) (.s (.l [0, 1, 1]) (.s (.l [0, 1, 1]) (.l [0, 1, 1]))))) (.s (.s (.l [1, 0, 0, 1, 1]) (.s (.l [1, 0, 0, 1, 1]) (.l [1, 0, 0, 1, 1]))) (.s (.s (.l [1, 0, 0, 1, 0, 0, 1]) (.s (.l [0, 0, 1, 0, 0, 1, 0, 0, 1]) (.l [0, 0, 1, 0, 0, 1, 0, 0, 1]))) (.s (.l [1, 0, 0, 1, 0, 0, 0, 0, 1]) (.s (.l [0, 0, 1, 0, 0, 1, 0, 0, 0, 0, 1]) (.l [0, 0, 1, 0, 0, 1, 0, 0, 0, 0, 1])))))) (.s (.s (.l [1, 0, 0, 1, 1]) (.s (.l [1, 0, 0, 1, 1]) (.l [1, 0, 0, 1, 1]))) (.s (.s (.l [1, 0, 0, 1, 0, 0, 1]) (.s (.l [0, 1, 0, 0, 0, 1, 0, 0, 1]) (.l [0, 1, 0, 0, 0, 1, 0, 0, 1]))) (.s (.l [1, 0, 0, 1, 0, 0, 0, 0, 1]) (.s (.l [0, 1, 0, 0, 0, 1, 0, 0, 0, 0, 1]) (.l [0, 0, 1, 0, 0, 0, 0, 1, 0, 0, 0, 0, 1]))))))) rfl [] [_, _, _, _, _, _, _, _, _] h h'
theorem le3_total {x y : T3} (h : T3.le x y = false) : T3.le y x = true := by
  rw [← Bool.not_eq_true, le3_iff] at h; rw [le3_iff]; exact Lin.lin [(.no (.or (.zlt (.v 1) (.v 0)) (.an (.zeq (.v 1) (.v 0)) (.or (.zlt (.v 3) (.v 2)) (.an (.zeq (.v 3) (.v 2)) (.zle (.v 5) (.v 4)))))))] (.or (.zlt (.v 0) (.v 1)) (.an (.zeq (.v 0) (.v 1)) (.or (.zlt (.v 2) (.v 3)) (.an (.zeq (.v 2) (.v 3)) (.zle (.v 4) (.v 5)))))) (.s (.s (.s (.s (.l [1, 1]) (.l [1, 1])) (.s (.s (.l [1, 1]) (.l [1, 1])) (.l [1, 1]))) (.s (.s (.l [0, 1, 1]) (.l [0, 1, 1])) (.s (.s (.l [0, 1, 1]) (.l [0, 1, 1])) (.l [0, 1, 1])))) (.s (.s (.s (.s (.l [0, 1, 1]) (.l [0, 1, 1])) (.s (.s (.l [0, 1, 1]) (.l [0, 1, 1])) (.l [0, 1, 1]))) (.s (.s (.l [0, 0, 0, 1, 1]) (.l [1, 0, 0, 0, 1])) (.s (.s (.l [0, 0, 1, 0, 1]) (.l [0, 0, 1, 0, 1])) (.l [0, 0, 1, 0, 1])))) (.s (.s (.l [0, 0, 0, 1, 1]) (.l [1, 0, 0, 0, 1])) (.s (.s (.l [0, 0, 0, 0, 1, 1]) (.l [0, 1, 0, 0, 0, 1])) (.l [0, 0, 1, 0, 0, 1]))))) rfl [] [_, _, _, _, _, _] h
theorem le3_antisymm {x y : T3} (h : T3.le x y = true) (h' : T3.le y x = true) : x = y := by
  rw [le3_iff] at h h'
  have : x.a = y.a ∧ x.b = y.b ∧ x.c = y.c := by exact Lin.lin [(.or (.zlt (.v 0) (.v 1)) (.an (.zeq (.v 0) (.v 1)) (.or (.zlt (.v 2) (.v 3)) (.an (.zeq (.v 2) (.v 3)) (.zle (.v 4) (.v 5)))))), (.or (.zlt (.v 1) (.v 0)) (.an (.zeq (.v 1) (.v 0)) (.or (.zlt (.v 3) (.v 2)) (.an (.zeq (.v 3) (.v 2)) (.zle (.v 5) (.v 4))))))] (.an (.zeq (.v 0) (.v 1)) (.an (.zeq (.v 2) (.v 3)) (.zeq (.v 4) (.v 5)))) (.s (.s (.s (.s (.l [1, 0, 1]) (.s (.l [1, 0, 1]) (.l [1, 0, 1]))) (.s (.s (.l [1, 0, 1]) (.s (.l [1, 0, 1]) (.l [1, 0, 1]))) (.s (.l [1, 0, 1]) (.s (.l [1, 0, 1]) (.l [1, 0, 1]))))) (.s (.s (.l [1, 1]) (.s (.l [1, 1]) (.l [1, 1]))) (.s (.s (.l [1, 1]) (.s (.l [1, 1]) (.l [1, 1]))) (.s (.l [1, 1]) (.s (.l [1, 1]) (.l [1, 1])))))) (.s (.s (.s (.s (.l [0, 1, 1]) (.s (.l [0, 1, 1]) (.l [0, 1, 1]))) (.s (.s (.l [0, 1, 0, 0, 1]) (.s (.l [1, 0, 0, 0, 0, 0, 1]) (.l [1, 0, 0, 0, 0, 0, 1]))) (.s (.l [1, 0, 0, 0, 1]) (.s (.l [1, 0, 0, 0, 1]) (.l [1, 0, 0, 0, 1]))))) (.s (.s (.l [0, 1, 1]) (.s (.l [0, 1, 1]) (.l [0, 1, 1]))) (.s (.s (.l [1, 0, 0, 1]) (.s (.l [1, 0, 0, 1]) (.l [1, 0, 0, 1]))) (.s (.l [1, 0, 0, 1]) (.s (.l [1, 0, 0, 1]) (.l [1, 0, 0, 1])))))) (.s (.s (.s (.l [0, 1, 1]) (.s (.l [0, 1, 1]) (.l [0, 1, 1]))) (.s (.s (.l [0, 1, 0, 0, 1]) (.s (.l [0, 0, 0, 1, 0, 0, 1]) (.l [0, 0, 0, 1, 0, 0, 1]))) (.s (.l [0, 1, 0, 0, 0, 0, 1]) (.s (.l [0, 0, 0, 1, 0, 0, 0, 0, 1]) (.l [1, 0, 0, 0, 0, 0, 0, 0, 0, 0, 1]))))) (.s (.s (.l [0, 1, 1]) (.s (.l [0, 1, 1]) (.l [0, 1, 1]))) (.s (.s (.l [0, 1, 0, 0, 1]) (.s (.l [0, 0, 0, 1, 0, 0, 1]) (.l [0, 0, 0, 1, 0, 0, 1]))) (.s (.l [1, 0, 0, 0, 0, 1]) (.s (.l [1, 0, 0, 0, 0, 1]) (.l [1, 0, 0, 0, 0, 1])))))))) rfl [] [_, _, _, _, _, _] h h'
  cases x; cases y; simp_all

/-- the key at a place -/
noncomputable def KS (key : Keyed → T3) (xs : Array Keyed) (i : Nat) : T3 := key (xs[i]?.getD default)
theorem KS_congr {key : Keyed → T3} {xs ys : Array Keyed} {i j : Nat} (h : xs[i]? = ys[j]?) : KS key xs i = KS key ys j := by unfold KS; rw [h]
noncomputable def SegS (key : Keyed → T3) (xs : Array Keyed) (i j : Nat) : Prop := ∀ p q, i ≤ p → p ≤ q → q < j → T3.le (KS key xs p) (KS key xs q) = true
noncomputable def SegD (key : Keyed → T3) (xs : Array Keyed) (i j : Nat) : Prop := ∀ p q, i ≤ p → p ≤ q → q < j → T3.le (KS key xs q) (KS key xs p) = true

theorem KS_mirror {key : Keyed → T3} {xs : Array Keyed} {i j : Nat} (hj : j ≤ xs.size) (k : Nat) :
    KS key (mirror xs i j ((j - i) / 2)) k = if i ≤ k ∧ k < j then KS key xs (i + j - 1 - k) else KS key xs k := by
  have e := getElem?_mirror_all (i := i) hj k
  by_cases h1 : i ≤ k ∧ k < j
  · rw [if_pos h1] at e ⊢; exact KS_congr e
  · rw [if_neg h1] at e ⊢; exact KS_congr e
theorem KS_mirror_equal {key : Keyed → T3} {xs : Array Keyed} {i j : Nat} (hj : j ≤ xs.size) (heq : ∀ k, i ≤ k → k < j → KS key xs k = KS key xs (j - 1)) (k : Nat) : KS key (mirror xs i j ((j - i) / 2)) k = KS key xs k := by
  rw [KS_mirror hj]
  split
  · rw [heq _ (by exact Lin.lin [(.or (.an (.le (.v 2) (.v 3)) (.eq (.a (.v 1) (.v 2)) (.v 3))) (.an (.le (.v 3) (.v 2)) (.eq (.v 1) (.k 0)))), (.or (.an (.le (.k 1) (.a (.v 0) (.v 4))) (.eq (.a (.v 3) (.k 1)) (.a (.v 0) (.v 4)))) (.an (.le (.a (.v 0) (.v 4)) (.k 1)) (.eq (.v 3) (.k 0)))), (.an (.le (.v 0) (.v 2)) (.lt (.v 2) (.v 4)))] (.le (.v 0) (.v 1)) (.s (.s (.l [1, 0, 0, 1, 0, 0, 1, 0, 1]) (.l [1, 2, 0, 1, 0, 1, 0, 1])) (.s (.l [1, 1, 0, 1, 0, 0, 1, 0, 1]) (.l [1, 1, 0, 1, 1, 0, 1, 0, 1]))) rfl [_, _, _, _, _] [] (Lin.sub_ax _ _) (Lin.sub_ax _ _) ‹_›) (by exact Lin.lin [(.or (.an (.le (.v 2) (.v 3)) (.eq (.a (.v 0) (.v 2)) (.v 3))) (.an (.le (.v 3) (.v 2)) (.eq (.v 0) (.k 0)))), (.or (.an (.le (.k 1) (.a (.v 4) (.v 1))) (.eq (.a (.v 3) (.k 1)) (.a (.v 4) (.v 1)))) (.an (.le (.a (.v 4) (.v 1)) (.k 1)) (.eq (.v 3) (.k 0)))), (.an (.le (.v 4) (.v 2)) (.lt (.v 2) (.v 1)))] (.lt (.v 0) (.v 1)) (.s (.s (.l [1, 0, 1, 0, 0, 1, 0, 1]) (.l [1, 0, 1, 0, 0, 1, 0, 2, 1])) (.s (.l [1, 1, 1, 0, 1, 0, 1, 0, 1]) (.l [1, 1, 1, 0, 0, 0, 1, 0, 1]))) rfl [_, _, _, _, _] [] (Lin.sub_ax _ _) (Lin.sub_ax _ _) ‹_›), heq k (by exact Lin.lin [(.an (.le (.v 0) (.v 1)) (.lt (.v 1) (.v 2)))] (.le (.v 0) (.v 1)) (.l [1, 1]) rfl [_, _, _] [] ‹_›) (by exact Lin.lin [(.an (.le (.v 2) (.v 0)) (.lt (.v 0) (.v 1)))] (.lt (.v 0) (.v 1)) (.l [1, 0, 1]) rfl [_, _, _] [] ‹_›)]
  · rfl
theorem KS_bubble {key : Keyed → T3} {xs : Array Keyed} {src d : Nat} (hs : src < xs.size) (hd : d ≤ src) (k : Nat) :
    KS key (bubble xs src d) k = if k = src - d then KS key xs src else if src - d < k ∧ k ≤ src then KS key xs (k - 1) else KS key xs k := by
  have e := getElem?_bubble hs d hd k
  by_cases h1 : k = src - d
  · rw [if_pos h1] at e ⊢; exact KS_congr e
  · rw [if_neg h1] at e ⊢
    by_cases h2 : src - d < k ∧ k ≤ src
    · rw [if_pos h2] at e ⊢; exact KS_congr e
    · rw [if_neg h2] at e ⊢; exact KS_congr e

/-- what is the same all through: the items, the kind, no failure; beyond lo and hi nothing moves -/
structure SB (a₀ : Array Keyed) (κ : SortKind) (lo hi : Nat) (st0 st : SortSt) : Prop where
  perm : (arrOf st).Perm a₀
  kind : kindOf st = κ
  ok : failedOf st = none
  pend : pendingOf st = pendingOf st0
  out : ∀ k : Nat, k < lo ∨ hi ≤ k → (arrOf st)[k]? = (arrOf st0)[k]?
theorem SB.size {a₀ : Array Keyed} {κ : SortKind} {lo hi : Nat} {st0 st : SortSt} (h : SB a₀ κ lo hi st0 st) : (arrOf st).size = a₀.size := h.perm.size_eq
theorem SB.mirror {a₀ : Array Keyed} {κ : SortKind} {lo hi i j : Nat} {st0 st : SortSt} (h : SB a₀ κ lo hi st0 st) (h1 : lo ≤ i) (h2 : j ≤ hi) (h3 : hi ≤ a₀.size) : SB a₀ κ lo hi st0 (setArr st (mirror (arrOf st) i j ((j - i) / 2))) :=
  ⟨(mirror_perm _ _ _ _).trans h.perm, h.kind, h.ok, h.pend, fun k hk => by
    show (PyProof.Rows.mirror (arrOf st) i j ((j - i) / 2))[k]? = _
    rw [getElem?_mirror_all (by rw [h.size]; exact Lin.lin [(.le (.v 0) (.v 2)), (.le (.v 2) (.v 1))] (.le (.v 0) (.v 1)) (.l [1, 1, 1]) rfl [_, _, _] [] h2 h3), if_neg (by exact Lin.lin [(.le (.v 3) (.v 0)), (.le (.v 2) (.v 4)), (.or (.lt (.v 1) (.v 3)) (.le (.v 4) (.v 1)))] (.no (.an (.le (.v 0) (.v 1)) (.lt (.v 1) (.v 2)))) (.s (.l [1, 0, 1, 0, 1]) (.l [0, 1, 0, 1, 1])) rfl [_, _, _, _, _] [] h1 h2 hk)]; exact h.out k hk⟩
theorem SB.bubble {a₀ : Array Keyed} {κ : SortKind} {lo hi src d : Nat} {st0 st : SortSt} (h : SB a₀ κ lo hi st0 st) (h1 : lo ≤ src - d) (h0 : d ≤ src) (h2 : src < hi) (h3 : hi ≤ a₀.size) : SB a₀ κ lo hi st0 (setArr st (bubble (arrOf st) src d)) :=
  ⟨(bubble_perm _ _ _).trans h.perm, h.kind, h.ok, h.pend, fun k hk => by
    show (PyProof.Rows.bubble (arrOf st) src d)[k]? = _
    rw [getElem?_bubble (by rw [h.size]; exact Lin.lin [(.lt (.v 0) (.v 2)), (.le (.v 2) (.v 1))] (.lt (.v 0) (.v 1)) (.l [1, 1, 1]) rfl [_, _, _] [] h2 h3) d h0, if_neg (by exact Lin.lin [(.le (.v 2) (.v 1)), (.lt (.v 3) (.v 4)), (.or (.lt (.v 0) (.v 2)) (.le (.v 4) (.v 0))), (.or (.an (.le (.v 5) (.v 3)) (.eq (.a (.v 1) (.v 5)) (.v 3))) (.an (.le (.v 3) (.v 5)) (.eq (.v 1) (.k 0))))] (.no (.eq (.v 0) (.v 1))) (.s (.s (.l [0, 1, 1, 0, 1]) (.l [0, 1, 1, 0, 1])) (.s (.l [1, 0, 0, 1, 1, 0, 1]) (.l [1, 0, 0, 1, 1, 0, 1]))) rfl [_, _, _, _, _, _] [] h1 h2 hk (Lin.sub_ax _ _)), if_neg (by exact Lin.lin [(.le (.v 3) (.v 0)), (.lt (.v 2) (.v 4)), (.or (.lt (.v 1) (.v 3)) (.le (.v 4) (.v 1)))] (.no (.an (.lt (.v 0) (.v 1)) (.le (.v 1) (.v 2)))) (.s (.l [1, 0, 1, 0, 1]) (.l [0, 1, 0, 1, 1])) rfl [_, _, _, _, _] [] h1 h2 hk)]; exact h.out k hk⟩

/-- comparisons of the items answer by their keys -/
noncomputable def LtOK (prog : Program) (w : World) (A : Around) (E : Value → Shared → Prop) (s : Shared) (κ : SortKind) (a₀ : Array Keyed) (key : Keyed → T3) : Prop :=
  ∀ x y, x ∈ a₀.toList → y ∈ a₀.toList → ∀ (st : SortSt) (Q : Option Bool → SortSt → Prop), kindOf st = κ → Q (some (!T3.le (key y) (key x))) st → wpS (model prog w) A E s (lt' x y) Q st

section
variable {prog : Program} {w : World} {A : Around} {E : Value → Shared → Prop} {s : Shared} {a₀ : Array Keyed} {κ : SortKind} {key : Keyed → T3}

theorem mem_of_perm {xs : Array Keyed} (h : xs.Perm a₀) {i : Nat} (hi : i < xs.size) : xs[i] ∈ a₀.toList := (Array.perm_iff_toList_perm.mp h).mem_iff.mp (by simp)
theorem KS_get {xs : Array Keyed} {i : Nat} (hi : i < xs.size) : KS key xs i = key xs[i] := by unfold KS; rw [getElem?_pos xs i hi]; rfl

theorem wpS_ifp {α : Type} {c : Prop} [Decidable c] {x y : StateT SortSt Sem α} {Q : α → SortSt → Prop} {st : SortSt} (h : c) (k : wpS (model prog w) A E s x Q st) : wpS (model prog w) A E s (if c then x else y) Q st := by rw [if_pos h]; exact k
theorem wpS_ifn {α : Type} {c : Prop} [Decidable c] {x y : StateT SortSt Sem α} {Q : α → SortSt → Prop} {st : SortSt} (h : ¬ c) (k : wpS (model prog w) A E s y Q st) : wpS (model prog w) A E s (if c then x else y) Q st := by rw [if_neg h]; exact k
theorem wpS_ifb {α : Type} {c : Prop} [Decidable c] {x y : StateT SortSt Sem α} {Q : α → SortSt → Prop} {st : SortSt} (h : c → wpS (model prog w) A E s x Q st) (k : ¬ c → wpS (model prog w) A E s y Q st) : wpS (model prog w) A E s (if c then x else y) Q st := by
  by_cases hc : c
  · exact wpS_ifp hc (h hc)
  · exact wpS_ifn hc (k hc)
theorem wpS_elem {xs : Array Keyed} {i : Nat} {Q : Keyed → SortSt → Prop} {st : SortSt} (hi : i < xs.size) (h : Q xs[i] st) : wpS (model prog w) A E s (elem' xs i) Q st := by
  rw [elem'_eq, getElem?_pos xs i hi]; exact wpS_pure h

theorem wpS_lt {lo hi : Nat} {st0 st : SortSt} {i j : Nat} {Q : Option Bool → SortSt → Prop} (H : LtOK prog w A E s κ a₀ key) (hB : SB a₀ κ lo hi st0 st) (hi' : i < a₀.size) (hj : j < a₀.size)
    (h : Q (some (!T3.le (KS key (arrOf st) j) (KS key (arrOf st) i))) st) : wpS (model prog w) A E s (ltAt' i j) Q st := by
  have h1 : i < (arrOf st).size := by rw [hB.size]; exact hi'
  have h2 : j < (arrOf st).size := by rw [hB.size]; exact hj
  rw [ltAt'_eq]
  refine wpS_bind (wpS_get ?_)
  show wpS _ _ _ _ (do let x ← elem' (arrOf st) i; let y ← elem' (arrOf st) j; lt' x y) Q st
  refine wpS_bind (wpS_elem h1 (wpS_bind (wpS_elem h2 ?_)))
  rw [KS_get h1, KS_get h2] at h
  exact H _ _ (mem_of_perm hB.perm h1) (mem_of_perm hB.perm h2) st Q hB.kind h

theorem wpS_insert {lo n ok : Nat} {st0 st : SortSt} {Q : Bool → SortSt → Prop} (H : LtOK prog w A E s κ a₀ key) (hn : lo + n ≤ a₀.size) (hok : ok ≤ n) (hB : SB a₀ κ lo (lo + n) st0 st) (hs : SegS key (arrOf st) lo (lo + ok))
    (h : ∀ st', SB a₀ κ lo (lo + n) st0 st' → SegS key (arrOf st') lo (lo + n) → gallopOf st' = gallopOf st → Q true st') : wpS (model prog w) A E s (binarySort' lo n ok) Q st := by
  rw [binarySort'_eq]
  refine wpS_bind (wpS_mono (wpS_forRange (I := fun k c st' => c = (none, ()) ∧ SB a₀ κ lo (lo + n) st0 st' ∧ gallopOf st' = gallopOf st ∧ SegS key (arrOf st') lo (lo + min k n))
    (Q := fun c st' => c = (none, ()) ∧ SB a₀ κ lo (lo + n) st0 st' ∧ gallopOf st' = gallopOf st ∧ SegS key (arrOf st') lo (lo + n)) ?step ?fin ?init) ?post)
  case post =>
    intro c st' hX2
    refine Classical.byContradiction fun hnX => ?_
    obtain ⟨rfl, hB', hg, hs'⟩ := hX2
    refine hnX ?_
    clear hnX
    exact wpS_pure (h st' hB' hs' hg)
  case init =>
    refine ⟨rfl, hB, rfl, fun i j hi hij hj => ?_⟩
    by_cases h1 : ok = 0
    · have : i = j := by exact Lin.lin [(.le (.v 2) (.v 0)), (.le (.v 0) (.v 1)), (.lt (.v 1) (.a (.v 2) (.v 3))), (.eq (.v 4) (.k 0)), (.or (.an (.le (.v 5) (.v 6)) (.eq (.v 3) (.v 5))) (.an (.le (.v 6) (.v 5)) (.eq (.v 3) (.v 6)))), (.or (.an (.le (.v 4) (.k 1)) (.eq (.v 5) (.k 1))) (.an (.le (.k 1) (.v 4)) (.eq (.v 5) (.v 4))))] (.eq (.v 0) (.v 1)) (.s (.s (.s (.l [1, 1, 0, 1, 0, 0, 0, 1, 0, 0, 1]) (.l [0, 0, 0, 0, 1, 0, 0, 0, 0, 1])) (.s (.l [1, 1, 0, 1, 0, 0, 1, 1, 0, 0, 1]) (.l [0, 0, 0, 0, 1, 0, 0, 0, 0, 1]))) (.s (.s (.l [1, 0, 1]) (.l [1, 0, 1])) (.s (.l [1, 0, 1]) (.l [1, 0, 1])))) rfl [_, _, _, _, _, _, _] [] hi hij hj h1 (Lin.min_ax _ _) (Lin.max_ax _ _)
      subst this; exact le3_refl _
    · exact hs i j hi hij (by exact Lin.lin [(.lt (.v 0) (.a (.v 1) (.v 3))), (.no (.eq (.v 2) (.k 0))), (.or (.an (.le (.v 4) (.v 5)) (.eq (.v 3) (.v 4))) (.an (.le (.v 5) (.v 4)) (.eq (.v 3) (.v 5)))), (.or (.an (.le (.v 2) (.k 1)) (.eq (.v 4) (.k 1))) (.an (.le (.k 1) (.v 2)) (.eq (.v 4) (.v 2))))] (.lt (.v 0) (.a (.v 1) (.v 2))) (.s (.s (.s (.l [0, 0, 1]) (.l [0, 0, 1, 0, 0, 0, 1])) (.s (.l [0, 0, 1]) (.l [0, 0, 1, 0, 0, 0, 1]))) (.s (.s (.l [1, 1, 1, 0, 1, 0, 0, 1]) (.l [1, 1, 0, 0, 1, 0, 0, 1])) (.s (.l [1, 1, 1, 1, 1, 0, 0, 1]) (.l [1, 1, 0, 1, 1, 0, 0, 1])))) rfl [_, _, _, _, _, _] [] hj h1 (Lin.min_ax _ _) (Lin.max_ax _ _))
  case fin =>
    intro c st' hX2
    refine Classical.byContradiction fun hnX => ?_
    obtain ⟨hc, hB', hg, hs'⟩ := hX2
    refine hnX ?_
    clear hnX
    refine ⟨hc, hB', hg, ?_⟩
    rwa [show min (max (max ok 1) n) n = n by exact Lin.lin [(.or (.an (.le (.v 2) (.v 1)) (.eq (.v 0) (.v 2))) (.an (.le (.v 1) (.v 2)) (.eq (.v 0) (.v 1)))), (.or (.an (.le (.v 3) (.v 1)) (.eq (.v 2) (.v 1))) (.an (.le (.v 1) (.v 3)) (.eq (.v 2) (.v 3))))] (.eq (.v 0) (.v 1)) (.s (.s (.s (.l [1, 0, 0, 1, 0, 0, 1]) (.l [1, 0, 0, 1, 1, 0, 1])) (.s (.l [1, 0, 0, 1]) (.l [1, 0, 0, 1]))) (.s (.s (.l [1, 1, 1]) (.l [1, 1, 1])) (.s (.l [1, 0, 1]) (.l [1, 0, 1])))) rfl [_, _, _, _] [] (Lin.min_ax _ _) (Lin.max_ax _ _)] at hs'
  case step =>
    intro k c st' hak hkn hX5
    refine Classical.byContradiction fun hnX => ?_
    obtain ⟨rfl, hB', hg, hs'⟩ := hX5
    refine hnX ?_
    clear hnX
    rw [show min k n = k by exact Lin.lin [(.lt (.v 1) (.v 2)), (.or (.an (.le (.v 1) (.v 2)) (.eq (.v 0) (.v 1))) (.an (.le (.v 2) (.v 1)) (.eq (.v 0) (.v 2))))] (.eq (.v 0) (.v 1)) (.s (.s (.l [1, 0, 0, 0, 1]) (.l [0, 1, 1])) (.s (.l [1, 0, 0, 1]) (.l [0, 1, 1]))) rfl [_, _, _] [] hkn (Lin.min_ax _ _)] at hs'
    have hk : lo + k < a₀.size := by exact Lin.lin [(.le (.a (.v 0) (.v 3)) (.v 2)), (.lt (.v 1) (.v 3))] (.lt (.a (.v 0) (.v 1)) (.v 2)) (.l [1, 1, 1]) rfl [_, _, _, _] [] hn hkn
    refine wpS_bind (wpS_mono (wpS_forRange (I := fun x c st'' => st'' = st' ∧ ∃ l r, c = (none, l, r) ∧ l ≤ r ∧ r ≤ k ∧ r - l ≤ k - x ∧
        (∀ i, i < l → T3.le (KS key (arrOf st') (lo + i)) (KS key (arrOf st') (lo + k)) = true) ∧ (∀ i, r ≤ i → i < k → T3.le (KS key (arrOf st') (lo + k)) (KS key (arrOf st') (lo + i)) = true))
      (Q := fun c st'' => st'' = st' ∧ ∃ l r, c = (none, l, r) ∧ l ≤ k ∧
        (∀ i, i < l → T3.le (KS key (arrOf st') (lo + i)) (KS key (arrOf st') (lo + k)) = true) ∧ (∀ i, l ≤ i → i < k → T3.le (KS key (arrOf st') (lo + k)) (KS key (arrOf st') (lo + i)) = true)) ?istep ?ifin ?iinit) ?ipost)
    case iinit => exact ⟨rfl, 0, k, rfl, by exact Lin.lin [] (.le (.k 0) (.v 0)) (.l [1]) rfl [_] [], by exact Lin.lin [] (.le (.v 0) (.v 0)) (.l [1]) rfl [_] [], by exact Lin.lin [] (.le (.v 0) (.v 0)) (.l [1]) rfl [_] [], fun i hi => by lia, fun i h1 h2 => by lia⟩
    case ifin =>
      intro c st'' hX2
      refine Classical.byContradiction fun hnX => ?_
      obtain ⟨rfl, l, r, rfl, hlr, hrk, hm, hlo, hhi⟩ := hX2
      refine hnX ?_
      clear hnX
      have : l = r := by exact Lin.lin [(.le (.v 0) (.v 1)), (.le (.v 2) (.v 3)), (.or (.an (.le (.v 4) (.v 4)) (.eq (.a (.v 3) (.v 4)) (.v 4))) (.an (.le (.v 4) (.v 4)) (.eq (.v 3) (.k 0)))), (.or (.an (.le (.v 0) (.v 1)) (.eq (.a (.v 2) (.v 0)) (.v 1))) (.an (.le (.v 1) (.v 0)) (.eq (.v 2) (.k 0))))] (.eq (.v 0) (.v 1)) (.s (.s (.s (.l [1, 0, 1, 0, 1, 0, 0, 0, 1]) (.l [1, 0, 0, 0, 0, 0, 1])) (.s (.l [1, 0, 1, 0, 1, 0, 0, 0, 1]) (.l [1, 0, 0, 0, 0, 0, 1]))) (.s (.s (.l [1, 1]) (.l [1, 1])) (.s (.l [1, 1]) (.l [1, 1])))) rfl [_, _, _, _, _] [] hlr hm (Lin.sub_ax _ _) (Lin.sub_ax _ _)
      subst this
      exact ⟨rfl, l, l, rfl, hrk, hlo, hhi⟩
    case istep =>
      intro x c st'' _ hxk hX5
      refine Classical.byContradiction fun hnX => ?_
      obtain ⟨rfl, l, r, rfl, hlr, hrk, hm, hlo, hhi⟩ := hX5
      refine hnX ?_
      clear hnX
      dsimp only
      by_cases hge : l ≥ r
      · rw [if_pos hge]
        have : l = r := by exact Lin.lin [(.le (.v 0) (.v 1)), (.le (.v 1) (.v 0))] (.eq (.v 0) (.v 1)) (.s (.l [1, 0, 1]) (.l [1, 1])) rfl [_, _] [] hlr hge
        subst this
        exact wpS_pure ⟨rfl, l, l, rfl, hrk, hlo, hhi⟩
      · rw [if_neg hge]
        refine wpS_bind (wpS_lt H hB' hk (by exact Lin.lin [(.le (.a (.v 0) (.v 3)) (.v 2)), (.lt (.v 4) (.v 3)), (.le (.v 5) (.v 4)), (.no (.le (.v 5) (.v 6))), (.an (.le (.m 2 (.v 1)) (.a (.v 6) (.v 5))) (.lt (.a (.v 6) (.v 5)) (.a (.m 2 (.v 1)) (.k 2))))] (.lt (.a (.v 0) (.v 1)) (.v 2)) (.l [2, 2, 2, 2, 1, 1]) rfl [_, _, _, _, _, _, _] [] hn hkn hrk hge (Lin.div_ax _ 2 (by decide))) ?_)
        cases hless : T3.le (KS key (arrOf st'') (lo + (l + r) / 2)) (KS key (arrOf st'') (lo + k))
        case false =>
          simp only [Bool.not_false, if_true]
          refine wpS_pure ⟨rfl, l, (l + r) / 2, rfl, by exact Lin.lin [(.no (.le (.v 2) (.v 0))), (.an (.le (.m 2 (.v 1)) (.a (.v 0) (.v 2))) (.lt (.a (.v 0) (.v 2)) (.a (.m 2 (.v 1)) (.k 2))))] (.le (.v 0) (.v 1)) (.l [2, 1, 0, 1]) rfl [_, _, _] [] hge (Lin.div_ax _ 2 (by decide)), by exact Lin.lin [(.le (.v 2) (.v 1)), (.no (.le (.v 2) (.v 3))), (.an (.le (.m 2 (.v 0)) (.a (.v 3) (.v 2))) (.lt (.a (.v 3) (.v 2)) (.a (.m 2 (.v 0)) (.k 2))))] (.le (.v 0) (.v 1)) (.l [2, 2, 1, 1]) rfl [_, _, _, _] [] hrk hge (Lin.div_ax _ 2 (by decide)), by lia, hlo, fun i h1 h2 => ?_⟩
          exact le3_trans (le3_total hless) (hs' _ _ (by exact Lin.lin [] (.le (.v 0) (.a (.v 0) (.v 1))) (.l [1]) rfl [_, _] []) (by exact Lin.lin [(.le (.v 1) (.v 2))] (.le (.a (.v 0) (.v 1)) (.a (.v 0) (.v 2))) (.l [1, 1]) rfl [_, _, _] [] h1) (by exact Lin.lin [(.lt (.v 1) (.v 2))] (.lt (.a (.v 0) (.v 1)) (.a (.v 0) (.v 2))) (.l [1, 1]) rfl [_, _, _] [] h2))
        case true =>
          simp only [Bool.not_true, Bool.false_eq_true, if_false]
          refine wpS_pure ⟨rfl, (l + r) / 2 + 1, r, rfl, by exact Lin.lin [(.no (.le (.v 1) (.v 2))), (.an (.le (.m 2 (.v 0)) (.a (.v 2) (.v 1))) (.lt (.a (.v 2) (.v 1)) (.a (.m 2 (.v 0)) (.k 2))))] (.le (.a (.v 0) (.k 1)) (.v 1)) (.l [2, 1, 1]) rfl [_, _, _] [] hge (Lin.div_ax _ 2 (by decide)), by exact Lin.lin [(.le (.v 0) (.v 1))] (.le (.v 0) (.v 1)) (.l [1, 1]) rfl [_, _] [] hrk, by lia, fun i h1 => ?_, hhi⟩
          exact le3_trans (hs' (lo + i) (lo + (l + r) / 2) (by exact Lin.lin [] (.le (.v 0) (.a (.v 0) (.v 1))) (.l [1]) rfl [_, _] []) (by exact Lin.lin [(.lt (.v 1) (.a (.v 2) (.k 1)))] (.le (.a (.v 0) (.v 1)) (.a (.v 0) (.v 2))) (.l [1, 1]) rfl [_, _, _] [] h1) (by exact Lin.lin [(.le (.v 3) (.v 2)), (.no (.le (.v 3) (.v 4))), (.an (.le (.m 2 (.v 1)) (.a (.v 4) (.v 3))) (.lt (.a (.v 4) (.v 3)) (.a (.m 2 (.v 1)) (.k 2))))] (.lt (.a (.v 0) (.v 1)) (.a (.v 0) (.v 2))) (.l [2, 2, 1, 1]) rfl [_, _, _, _, _] [] hrk hge (Lin.div_ax _ 2 (by decide)))) hless
    case ipost =>
      intro c st'' hX2
      refine Classical.byContradiction fun hnX => ?_
      obtain ⟨rfl, l, r, rfl, hlk, hlo, hhi⟩ := hX2
      refine hnX ?_
      clear hnX
      show wpS _ _ _ _ (do moveDown' (lo + k) (lo + l); pure (ForInStep.yield (none, ()))) _ _
      rw [moveDown'_eq]
      refine wpS_bind (wpS_modify (wpS_pure ⟨rfl, hB'.bubble (by exact Lin.lin [(.or (.an (.le (.v 2) (.a (.v 0) (.v 3))) (.eq (.a (.v 1) (.v 2)) (.a (.v 0) (.v 3)))) (.an (.le (.a (.v 0) (.v 3)) (.v 2)) (.eq (.v 1) (.k 0)))), (.or (.an (.le (.a (.v 0) (.v 4)) (.a (.v 0) (.v 3))) (.eq (.a (.v 2) (.a (.v 0) (.v 4))) (.a (.v 0) (.v 3)))) (.an (.le (.a (.v 0) (.v 3)) (.a (.v 0) (.v 4))) (.eq (.v 2) (.k 0))))] (.le (.v 0) (.v 1)) (.s (.s (.l [1, 0, 0, 1, 0, 1]) (.l [1, 0, 0, 1, 0, 1])) (.s (.l [1, 1, 0, 1, 0, 1]) (.l [1, 1, 0, 1, 0, 1]))) rfl [_, _, _, _, _] [] (Lin.sub_ax _ _) (Lin.sub_ax _ _)) (by exact Lin.lin [(.or (.an (.le (.a (.v 1) (.v 3)) (.a (.v 1) (.v 2))) (.eq (.a (.v 0) (.a (.v 1) (.v 3))) (.a (.v 1) (.v 2)))) (.an (.le (.a (.v 1) (.v 2)) (.a (.v 1) (.v 3))) (.eq (.v 0) (.k 0))))] (.le (.v 0) (.a (.v 1) (.v 2))) (.s (.l [1, 0, 1]) (.l [1, 0, 1])) rfl [_, _, _, _] [] (Lin.sub_ax _ _)) (by exact Lin.lin [(.lt (.v 1) (.v 2))] (.lt (.a (.v 0) (.v 1)) (.a (.v 0) (.v 2))) (.l [1, 1]) rfl [_, _, _] [] hkn) hn, hg, ?_⟩))
      rw [show min (k + 1) n = k + 1 by exact Lin.lin [(.lt (.v 1) (.v 2)), (.or (.an (.le (.a (.v 1) (.k 1)) (.v 2)) (.eq (.v 0) (.a (.v 1) (.k 1)))) (.an (.le (.v 2) (.a (.v 1) (.k 1))) (.eq (.v 0) (.v 2))))] (.eq (.v 0) (.a (.v 1) (.k 1))) (.s (.s (.l [1, 0, 0, 0, 1]) (.l [1, 1, 0, 0, 1])) (.s (.l [1, 0, 0, 1]) (.l [1, 0, 1, 1]))) rfl [_, _, _] [] hkn (Lin.min_ax _ _)]
      have hks : lo + k < (arrOf st'').size := by rw [hB'.size]; exact hk
      have hlo' : ∀ i, lo ≤ i → i < lo + l → T3.le (KS key (arrOf st'') i) (KS key (arrOf st'') (lo + k)) = true := fun i h1 h2 => by
        have := hlo (i - lo) (by exact Lin.lin [(.le (.v 2) (.v 3)), (.lt (.v 3) (.a (.v 2) (.v 1))), (.or (.an (.le (.v 2) (.v 3)) (.eq (.a (.v 0) (.v 2)) (.v 3))) (.an (.le (.v 3) (.v 2)) (.eq (.v 0) (.k 0))))] (.lt (.v 0) (.v 1)) (.s (.l [1, 0, 1, 0, 1]) (.l [1, 1, 1, 0, 1])) rfl [_, _, _, _] [] h1 h2 (Lin.sub_ax _ _)); rwa [show lo + (i - lo) = i by exact Lin.lin [(.le (.v 0) (.v 2)), (.or (.an (.le (.v 0) (.v 2)) (.eq (.a (.v 1) (.v 0)) (.v 2))) (.an (.le (.v 2) (.v 0)) (.eq (.v 1) (.k 0))))] (.eq (.a (.v 0) (.v 1)) (.v 2)) (.s (.s (.l [1, 0, 0, 0, 1]) (.l [1, 0, 1, 0, 1])) (.s (.l [1, 0, 0, 1]) (.l [1, 1, 0, 1]))) rfl [_, _, _] [] h1 (Lin.sub_ax _ _)] at this
      have hhi' : ∀ i, lo + l ≤ i → i < lo + k → T3.le (KS key (arrOf st'') (lo + k)) (KS key (arrOf st'') i) = true := fun i h1 h2 => by
        have := hhi (i - lo) (by exact Lin.lin [(.le (.a (.v 2) (.v 0)) (.v 3)), (.or (.an (.le (.v 2) (.v 3)) (.eq (.a (.v 1) (.v 2)) (.v 3))) (.an (.le (.v 3) (.v 2)) (.eq (.v 1) (.k 0))))] (.le (.v 0) (.v 1)) (.s (.l [1, 1, 0, 0, 1]) (.l [1, 1, 1, 0, 1])) rfl [_, _, _, _] [] h1 (Lin.sub_ax _ _)) (by exact Lin.lin [(.le (.a (.v 2) (.v 3)) (.v 4)), (.lt (.v 4) (.a (.v 2) (.v 1))), (.or (.an (.le (.v 2) (.v 4)) (.eq (.a (.v 0) (.v 2)) (.v 4))) (.an (.le (.v 4) (.v 2)) (.eq (.v 0) (.k 0))))] (.lt (.v 0) (.v 1)) (.s (.l [1, 0, 1, 0, 1]) (.l [1, 1, 1, 0, 1])) rfl [_, _, _, _, _] [] h1 h2 (Lin.sub_ax _ _)); rwa [show lo + (i - lo) = i by exact Lin.lin [(.le (.a (.v 0) (.v 3)) (.v 2)), (.or (.an (.le (.v 0) (.v 2)) (.eq (.a (.v 1) (.v 0)) (.v 2))) (.an (.le (.v 2) (.v 0)) (.eq (.v 1) (.k 0))))] (.eq (.a (.v 0) (.v 1)) (.v 2)) (.s (.s (.l [1, 0, 0, 0, 1]) (.l [1, 0, 1, 0, 1])) (.s (.l [1, 0, 0, 1]) (.l [1, 1, 0, 1]))) rfl [_, _, _, _] [] h1 (Lin.sub_ax _ _)] at this
      intro i j hi hij hj
      show T3.le (KS key (bubble (arrOf st'') (lo + k) (lo + k - (lo + l))) i) (KS key (bubble (arrOf st'') (lo + k) (lo + k - (lo + l))) j) = true
      rw [KS_bubble hks (by exact Lin.lin [(.or (.an (.le (.a (.v 1) (.v 3)) (.a (.v 1) (.v 2))) (.eq (.a (.v 0) (.a (.v 1) (.v 3))) (.a (.v 1) (.v 2)))) (.an (.le (.a (.v 1) (.v 2)) (.a (.v 1) (.v 3))) (.eq (.v 0) (.k 0))))] (.le (.v 0) (.a (.v 1) (.v 2))) (.s (.l [1, 0, 1]) (.l [1, 0, 1])) rfl [_, _, _, _] [] (Lin.sub_ax _ _)), KS_bubble hks (by exact Lin.lin [(.or (.an (.le (.a (.v 1) (.v 3)) (.a (.v 1) (.v 2))) (.eq (.a (.v 0) (.a (.v 1) (.v 3))) (.a (.v 1) (.v 2)))) (.an (.le (.a (.v 1) (.v 2)) (.a (.v 1) (.v 3))) (.eq (.v 0) (.k 0))))] (.le (.v 0) (.a (.v 1) (.v 2))) (.s (.l [1, 0, 1]) (.l [1, 0, 1])) rfl [_, _, _, _] [] (Lin.sub_ax _ _)), show lo + k - (lo + k - (lo + l)) = lo + l by exact Lin.lin [(.le (.v 2) (.v 3)), (.or (.an (.le (.v 4) (.a (.v 1) (.v 3))) (.eq (.a (.v 0) (.v 4)) (.a (.v 1) (.v 3)))) (.an (.le (.a (.v 1) (.v 3)) (.v 4)) (.eq (.v 0) (.k 0)))), (.or (.an (.le (.a (.v 1) (.v 2)) (.a (.v 1) (.v 3))) (.eq (.a (.v 4) (.a (.v 1) (.v 2))) (.a (.v 1) (.v 3)))) (.an (.le (.a (.v 1) (.v 3)) (.a (.v 1) (.v 2))) (.eq (.v 4) (.k 0))))] (.eq (.v 0) (.a (.v 1) (.v 2))) (.s (.s (.s (.l [1, 0, 0, 0, 1, 0, 1]) (.l [1, 1, 0, 0, 1, 0, 1])) (.s (.l [1, 0, 1, 0, 1, 0, 1]) (.l [1, 1, 1, 0, 1, 0, 1]))) (.s (.s (.l [1, 0, 0, 1, 0, 0, 0, 1]) (.l [1, 0, 0, 1, 0, 1, 0, 1])) (.s (.l [1, 0, 0, 1]) (.l [1, 0, 0, 1, 0, 1])))) rfl [_, _, _, _, _] [] hlk (Lin.sub_ax _ _) (Lin.sub_ax _ _)]
      repeat' split
      all_goals first
        | (exfalso; lia)
        | exact le3_refl _
        | exact hlo' _ (by lia) (by lia)
        | exact hhi' _ (by lia) (by exact Lin.lin [(.le (.v 3) (.v 2)), (.lt (.v 4) (.a (.v 1) (.a (.v 2) (.k 1)))), (.or (.an (.le (.v 5) (.k 1)) (.eq (.v 3) (.k 1))) (.an (.le (.k 1) (.v 5)) (.eq (.v 3) (.v 5)))), (.or (.an (.le (.k 1) (.v 4)) (.eq (.a (.v 0) (.k 1)) (.v 4))) (.an (.le (.v 4) (.k 1)) (.eq (.v 0) (.k 0))))] (.lt (.v 0) (.a (.v 1) (.v 2))) (.s (.s (.l [1, 0, 1, 0, 0, 0, 0, 1]) (.l [1, 1, 0, 0, 0, 1, 0, 1])) (.s (.l [1, 0, 1, 0, 0, 0, 0, 1]) (.l [1, 1, 0, 1, 0, 1, 0, 1]))) rfl [_, _, _, _, _, _] [] hak hj (Lin.max_ax _ _) (Lin.sub_ax _ _))
        | exact hs' _ _ (by lia) (by lia) (by lia)
end
end Mini

/-! Runs are counted from any place. -/
set_option autoImplicit false
namespace Mini
open PySem PyProof.Rows

noncomputable def ascL (lo a nrem : Nat) : StateT SortSt Sem AscSt :=
  forIn [a:nrem] ((none, a) : AscSt) fun _ r => do
    let x ← ltAt' (lo + r.snd) (lo + r.snd - 1)
    match x with
    | some smaller => if smaller = true then pure (ForInStep.done (none, r.snd)) else pure (ForInStep.yield (none, r.snd + 1))
    | _ => pure (ForInStep.done (some none, r.snd))
noncomputable def tailL (lo n nrem : Nat) : StateT SortSt Sem (Option Nat) := do
  reverseSlice' lo (lo + n)
  let r ← ascL lo n nrem
  match r.fst with
  | some r => pure r
  | none => pure (some r.snd)
noncomputable def descL (lo n nrem : Nat) : StateT SortSt Sem DescSt :=
  forIn [n:nrem] ((none, n, 0) : DescSt) fun _ r => do
    let x ← ltAt' (lo + r.snd.fst) (lo + r.snd.fst - 1)
    match x with
    | some smaller =>
      if smaller = true then
        if r.snd.snd > 0 then do
          reverseSlice' (lo + r.snd.fst - (r.snd.snd + 1)) (lo + r.snd.fst)
          pure (ForInStep.yield (none, r.snd.fst + 1, 0))
        else pure (ForInStep.yield (none, r.snd.fst + 1, 0))
      else do
        let x ← ltAt' (lo + r.snd.fst - 1) (lo + r.snd.fst)
        match x with
        | some larger =>
          if larger = true then pure (ForInStep.done (none, r.snd.fst, r.snd.snd))
          else pure (ForInStep.yield (none, r.snd.fst + 1, r.snd.snd + 1))
        | _ => pure (ForInStep.done (some none, r.snd.fst, r.snd.snd))
    | _ => pure (ForInStep.done (some none, r.snd.fst, r.snd.snd))
noncomputable def descP (lo n nrem : Nat) : StateT SortSt Sem (Option Nat) := do
  liftM (rule "list.sort.descending-run")
  let r ← descL lo (n + 1) nrem
  match r.fst with
  | some r => pure r
  | none =>
    if r.snd.snd > 0 then do
      reverseSlice' (lo + r.snd.fst - (r.snd.snd + 1)) (lo + r.snd.fst)
      tailL lo r.snd.fst nrem
    else tailL lo r.snd.fst nrem

theorem countL_eq (lo nrem : Nat) : countRun' lo nrem = (do
    let r ← ascL lo 1 nrem
    match r.fst with
    | some r => pure r
    | none =>
      if (r.snd == nrem) = true then pure (some r.snd)
      else if r.snd > 1 then do
        let x ← ltAt' lo (lo + r.snd - 1)
        match x with
        | some rose => if rose = true then pure (some r.snd) else do
            reverseSlice' lo (lo + r.snd)
            descP lo r.snd nrem
        | _ => pure none
      else descP lo r.snd nrem) := by
  rw [countRun'_eq]
  refine congrArg (ascL lo 1 nrem >>= ·) (funext fun r => ?_)
  refine Classical.byContradiction fun hnX => ?_
  obtain ⟨r, n⟩ := r
  refine hnX ?_
  clear hnX
  cases r with
  | some r => rfl
  | none =>
    dsimp only
    have key : (do
        liftM (rule "list.sort.descending-run")
        let r ← descL lo (n + 1) nrem
        match r.fst with
        | some r => pure r
        | none =>
          if r.snd.snd > 0 then do
            reverseSlice' (lo + r.snd.fst - (r.snd.snd + 1)) (lo + r.snd.fst)
            reverseSlice' lo (lo + r.snd.fst)
            let r3 ← ascL lo r.snd.fst nrem
            match r3.fst with
            | some r => pure r
            | none => pure (some r3.snd)
          else do
            reverseSlice' lo (lo + r.snd.fst)
            let r3 ← ascL lo r.snd.fst nrem
            match r3.fst with
            | some r => pure r
            | none => pure (some r3.snd) : StateT SortSt Sem (Option Nat)) = descP lo n nrem := rfl
    split
    · rfl
    · split
      · congr 1
        funext x
        cases x with
        | none => rfl
        | some rose =>
          dsimp only
          split
          · rfl
          · congr 1
            funext _u
            rw [← key]
            unfold descL ascL
            congr 1; funext _u; congr 1; congr 1; funext s2; obtain ⟨r2, n2, q2⟩ := s2
            cases r2 with
            | some r2 => rfl
            | none =>
              dsimp only
              split
              · congr 1; funext _v; congr 1; funext _w; congr 1; funext s3; obtain ⟨r3, n3⟩ := s3; cases r3 <;> rfl
              · congr 1; funext _w; congr 1; funext s3; obtain ⟨r3, n3⟩ := s3; cases r3 <;> rfl
      · rw [← key]
        unfold descL ascL
        congr 1; funext _u; congr 1; congr 1; funext s2; obtain ⟨r2, n2, q2⟩ := s2
        cases r2 with
        | some r2 => rfl
        | none =>
          dsimp only
          split
          · congr 1; funext _v; congr 1; funext _w; congr 1; funext s3; obtain ⟨r3, n3⟩ := s3; cases r3 <;> rfl
          · congr 1; funext _w; congr 1; funext s3; obtain ⟨r3, n3⟩ := s3; cases r3 <;> rfl

section
variable {prog : Program} {w : World} {A : Around} {E : Value → Shared → Prop} {s : Shared} {a₀ : Array Keyed} {κ : SortKind} {key : Keyed → T3}

theorem SegS.snoc {xs : Array Keyed} {lo x : Nat} (hs : SegS key xs lo (lo + x)) (hx : 1 ≤ x) (h : T3.le (KS key xs (lo + x - 1)) (KS key xs (lo + x)) = true) : SegS key xs lo (lo + (x + 1)) := by
  intro i j hi hij hj
  by_cases hjx : j < lo + x
  · exact hs i j hi hij hjx
  · have hj' : j = lo + x := by exact Lin.lin [(.lt (.v 0) (.a (.v 1) (.a (.v 2) (.k 1)))), (.no (.lt (.v 0) (.a (.v 1) (.v 2))))] (.eq (.v 0) (.a (.v 1) (.v 2))) (.s (.l [1, 0, 1]) (.l [1, 1])) rfl [_, _, _] [] hj hjx
    subst hj'
    by_cases hi' : i = lo + x
    · subst hi'; exact le3_refl _
    · exact le3_trans (hs i (lo + x - 1) hi (by exact Lin.lin [(.le (.v 0) (.a (.v 2) (.v 3))), (.no (.eq (.v 0) (.a (.v 2) (.v 3)))), (.or (.an (.le (.k 1) (.a (.v 2) (.v 3))) (.eq (.a (.v 1) (.k 1)) (.a (.v 2) (.v 3)))) (.an (.le (.a (.v 2) (.v 3)) (.k 1)) (.eq (.v 1) (.k 0))))] (.le (.v 0) (.v 1)) (.s (.s (.l [1, 0, 1, 0, 0, 1]) (.l [1, 0, 1, 1, 0, 1])) (.s (.l [0, 1, 1]) (.l [0, 1, 1]))) rfl [_, _, _, _] [] hij hi' (Lin.sub_ax _ _)) (by exact Lin.lin [(.le (.k 1) (.v 2)), (.or (.an (.le (.k 1) (.a (.v 1) (.v 2))) (.eq (.a (.v 0) (.k 1)) (.a (.v 1) (.v 2)))) (.an (.le (.a (.v 1) (.v 2)) (.k 1)) (.eq (.v 0) (.k 0))))] (.lt (.v 0) (.a (.v 1) (.v 2))) (.s (.l [1, 0, 0, 1]) (.l [1, 1, 0, 1])) rfl [_, _, _] [] hx (Lin.sub_ax _ _))) h
theorem SegD.snoc {xs : Array Keyed} {lo x : Nat} (hs : SegD key xs lo (lo + x)) (hx : 1 ≤ x) (h : T3.le (KS key xs (lo + x)) (KS key xs (lo + x - 1)) = true) : SegD key xs lo (lo + (x + 1)) := by
  intro i j hi hij hj
  by_cases hjx : j < lo + x
  · exact hs i j hi hij hjx
  · have hj' : j = lo + x := by exact Lin.lin [(.lt (.v 0) (.a (.v 1) (.a (.v 2) (.k 1)))), (.no (.lt (.v 0) (.a (.v 1) (.v 2))))] (.eq (.v 0) (.a (.v 1) (.v 2))) (.s (.l [1, 0, 1]) (.l [1, 1])) rfl [_, _, _] [] hj hjx
    subst hj'
    by_cases hi' : i = lo + x
    · subst hi'; exact le3_refl _
    · exact le3_trans h (hs i (lo + x - 1) hi (by exact Lin.lin [(.le (.v 0) (.a (.v 2) (.v 3))), (.no (.eq (.v 0) (.a (.v 2) (.v 3)))), (.or (.an (.le (.k 1) (.a (.v 2) (.v 3))) (.eq (.a (.v 1) (.k 1)) (.a (.v 2) (.v 3)))) (.an (.le (.a (.v 2) (.v 3)) (.k 1)) (.eq (.v 1) (.k 0))))] (.le (.v 0) (.v 1)) (.s (.s (.l [1, 0, 1, 0, 0, 1]) (.l [1, 0, 1, 1, 0, 1])) (.s (.l [0, 1, 1]) (.l [0, 1, 1]))) rfl [_, _, _, _] [] hij hi' (Lin.sub_ax _ _)) (by exact Lin.lin [(.le (.k 1) (.v 2)), (.or (.an (.le (.k 1) (.a (.v 1) (.v 2))) (.eq (.a (.v 0) (.k 1)) (.a (.v 1) (.v 2)))) (.an (.le (.a (.v 1) (.v 2)) (.k 1)) (.eq (.v 0) (.k 0))))] (.lt (.v 0) (.a (.v 1) (.v 2))) (.s (.l [1, 0, 0, 1]) (.l [1, 1, 0, 1])) rfl [_, _, _] [] hx (Lin.sub_ax _ _)))

theorem wpS_ascL {lo hi : Nat} {st0 st : SortSt} {a nrem : Nat} {Q : AscSt → SortSt → Prop} (H : LtOK prog w A E s κ a₀ key) (hn : lo + nrem ≤ a₀.size) (ha : 1 ≤ a) (han : a ≤ nrem) (hB : SB a₀ κ lo hi st0 st) (hs : SegS key (arrOf st) lo (lo + a))
    (h : ∀ n, a ≤ n → n ≤ nrem → SegS key (arrOf st) lo (lo + n) → (n = nrem ∨ T3.le (KS key (arrOf st) (lo + n)) (KS key (arrOf st) (lo + n - 1)) = true) → Q (none, n) st) :
    wpS (model prog w) A E s (ascL lo a nrem) Q st := by
  unfold ascL
  refine wpS_forRange (I := fun x c st' => st' = st ∧ c = (none, x) ∧ SegS key (arrOf st) lo (lo + x)) ?step ?fin ⟨rfl, rfl, hs⟩
  case fin =>
    intro c st' hX2
    refine Classical.byContradiction fun hnX => ?_
    obtain ⟨rfl, rfl, hs'⟩ := hX2
    refine hnX ?_
    clear hnX
    rw [show max a nrem = nrem by lia] at hs' ⊢
    exact h nrem han (Nat.le_refl _) hs' (.inl rfl)
  case step =>
    intro x c st' hax hxn hX5
    refine Classical.byContradiction fun hnX => ?_
    obtain ⟨rfl, rfl, hs'⟩ := hX5
    refine hnX ?_
    clear hnX
    skip
    refine wpS_bind (wpS_lt H hB (by exact Lin.lin [(.le (.a (.v 0) (.v 3)) (.v 2)), (.lt (.v 1) (.v 3))] (.lt (.a (.v 0) (.v 1)) (.v 2)) (.l [1, 1, 1]) rfl [_, _, _, _] [] hn hxn) (by exact Lin.lin [(.le (.a (.v 2) (.v 3)) (.v 1)), (.lt (.v 4) (.v 3)), (.or (.an (.le (.k 1) (.a (.v 2) (.v 4))) (.eq (.a (.v 0) (.k 1)) (.a (.v 2) (.v 4)))) (.an (.le (.a (.v 2) (.v 4)) (.k 1)) (.eq (.v 0) (.k 0))))] (.lt (.v 0) (.v 1)) (.s (.l [1, 1, 1, 0, 1]) (.l [1, 1, 1, 0, 1])) rfl [_, _, _, _, _] [] hn hxn (Lin.sub_ax _ _)) ?_)
    cases hless : T3.le (KS key (arrOf st') (lo + x - 1)) (KS key (arrOf st') (lo + x))
    case false =>
      simp only [Bool.not_false, if_true]
      exact wpS_pure (h x hax (by exact Lin.lin [(.lt (.v 0) (.v 1))] (.le (.v 0) (.v 1)) (.l [1, 1]) rfl [_, _] [] hxn) hs' (.inr (le3_total hless)))
    case true =>
      simp only [Bool.not_true, Bool.false_eq_true, if_false]
      exact wpS_pure ⟨rfl, rfl, hs'.snoc (by exact Lin.lin [(.le (.k 1) (.v 1)), (.le (.v 1) (.v 0))] (.le (.k 1) (.v 0)) (.l [1, 1, 1]) rfl [_, _] [] ha hax) hless⟩

theorem wpS_tailL {lo : Nat} {st0 st : SortSt} {n nrem : Nat} {Q : Option Nat → SortSt → Prop} (H : LtOK prog w A E s κ a₀ key) (hn : lo + nrem ≤ a₀.size) (h1 : 1 ≤ n) (hnn : n ≤ nrem) (hB : SB a₀ κ lo (lo + nrem) st0 st)
    (hs : SegD key (arrOf st) lo (lo + n)) (h : ∀ m st', SB a₀ κ lo (lo + nrem) st0 st' → gallopOf st' = gallopOf st → 1 ≤ m → m ≤ nrem → SegS key (arrOf st') lo (lo + m) → Q (some m) st') :
    wpS (model prog w) A E s (tailL lo n nrem) Q st := by
  unfold tailL
  have hsz : lo + n ≤ (arrOf st).size := by rw [hB.size]; exact Lin.lin [(.le (.a (.v 0) (.v 3)) (.v 2)), (.le (.v 1) (.v 3))] (.le (.a (.v 0) (.v 1)) (.v 2)) (.l [1, 1, 1]) rfl [_, _, _, _] [] hn hnn
  refine wpS_bind (wpS_reverse ?_)
  have hB' := hB.mirror (i := lo) (j := lo + n) (Nat.le_refl _) (by exact Lin.lin [(.le (.v 1) (.v 2))] (.le (.a (.v 0) (.v 1)) (.a (.v 0) (.v 2))) (.l [1, 1]) rfl [_, _, _] [] hnn) hn
  refine wpS_bind (wpS_ascL H hn h1 hnn hB' ?_ fun m hm1 hm2 hsm _ => wpS_pure (h m _ hB' rfl (by exact Lin.lin [(.le (.k 1) (.v 1)), (.le (.v 1) (.v 0))] (.le (.k 1) (.v 0)) (.l [1, 1, 1]) rfl [_, _] [] h1 hm1) hm2 hsm))
  intro i j hi hij hj
  show T3.le (KS key (mirror (arrOf st) lo (lo + n) ((lo + n - lo) / 2)) i) (KS key (mirror (arrOf st) lo (lo + n) ((lo + n - lo) / 2)) j) = true
  rw [KS_mirror hsz, KS_mirror hsz, if_pos (by exact Lin.lin [(.le (.v 0) (.v 1)), (.le (.v 1) (.v 3)), (.lt (.v 3) (.a (.v 0) (.v 2)))] (.an (.le (.v 0) (.v 1)) (.lt (.v 1) (.a (.v 0) (.v 2)))) (.s (.l [1, 1]) (.l [1, 0, 1, 1])) rfl [_, _, _, _] [] hi hij hj), if_pos (by exact Lin.lin [(.le (.v 0) (.v 3)), (.le (.v 3) (.v 1)), (.lt (.v 1) (.a (.v 0) (.v 2)))] (.an (.le (.v 0) (.v 1)) (.lt (.v 1) (.a (.v 0) (.v 2)))) (.s (.l [1, 1, 1]) (.l [1, 0, 0, 1])) rfl [_, _, _, _] [] hi hij hj)]
  exact hs _ _ (by exact Lin.lin [(.lt (.v 2) (.a (.v 0) (.v 3))), (.or (.an (.le (.v 2) (.v 4)) (.eq (.a (.v 1) (.v 2)) (.v 4))) (.an (.le (.v 4) (.v 2)) (.eq (.v 1) (.k 0)))), (.or (.an (.le (.k 1) (.a (.v 0) (.a (.v 0) (.v 3)))) (.eq (.a (.v 4) (.k 1)) (.a (.v 0) (.a (.v 0) (.v 3))))) (.an (.le (.a (.v 0) (.a (.v 0) (.v 3))) (.k 1)) (.eq (.v 4) (.k 0))))] (.le (.v 0) (.v 1)) (.s (.s (.l [1, 1, 0, 0, 1, 0, 0, 1]) (.l [1, 1, 0, 0, 1, 1, 0, 1])) (.s (.l [1, 1, 1, 0, 1, 0, 0, 1]) (.l [1, 1, 1, 0, 1, 1, 0, 1]))) rfl [_, _, _, _, _] [] hj (Lin.sub_ax _ _) (Lin.sub_ax _ _)) (by exact Lin.lin [(.le (.v 2) (.v 3)), (.or (.an (.le (.v 2) (.v 4)) (.eq (.a (.v 1) (.v 2)) (.v 4))) (.an (.le (.v 4) (.v 2)) (.eq (.v 1) (.k 0)))), (.or (.an (.le (.v 3) (.v 4)) (.eq (.a (.v 0) (.v 3)) (.v 4))) (.an (.le (.v 4) (.v 3)) (.eq (.v 0) (.k 0))))] (.le (.v 0) (.v 1)) (.s (.s (.l [1, 1, 0, 0, 1, 0, 1]) (.l [1, 0, 1, 0, 1, 0, 1])) (.s (.l [1, 1, 1, 0, 1, 0, 1]) (.l [1, 0, 0, 0, 1, 0, 1]))) rfl [_, _, _, _, _] [] hij (Lin.sub_ax _ _) (Lin.sub_ax _ _)) (by exact Lin.lin [(.le (.v 1) (.v 3)), (.lt (.v 4) (.a (.v 1) (.v 2))), (.or (.an (.le (.v 3) (.v 5)) (.eq (.a (.v 0) (.v 3)) (.v 5))) (.an (.le (.v 5) (.v 3)) (.eq (.v 0) (.k 0)))), (.or (.an (.le (.k 1) (.a (.v 1) (.a (.v 1) (.v 2)))) (.eq (.a (.v 5) (.k 1)) (.a (.v 1) (.a (.v 1) (.v 2))))) (.an (.le (.a (.v 1) (.a (.v 1) (.v 2))) (.k 1)) (.eq (.v 5) (.k 0))))] (.lt (.v 0) (.a (.v 1) (.v 2))) (.s (.s (.l [1, 1, 0, 0, 1, 0, 0, 1]) (.l [1, 1, 1, 0, 1, 0, 0, 1])) (.s (.l [2, 0, 0, 0, 2, 0, 1]) (.l [1, 0, 1, 0, 1]))) rfl [_, _, _, _, _, _] [] hi hj (Lin.sub_ax _ _) (Lin.sub_ax _ _))

theorem wpS_descL {lo : Nat} {st0 st : SortSt} {n nrem : Nat} {Q : DescSt → SortSt → Prop} (H : LtOK prog w A E s κ a₀ key) (hn : lo + nrem ≤ a₀.size) (h1 : 1 ≤ n) (hnn : n ≤ nrem) (hB : SB a₀ κ lo (lo + nrem) st0 st) (hs : SegD key (arrOf st) lo (lo + n))
    (h : ∀ m neq st', SB a₀ κ lo (lo + nrem) st0 st' → gallopOf st' = gallopOf st → n ≤ m → m ≤ nrem → SegD key (arrOf st') lo (lo + m) → neq + 1 ≤ m → (∀ i, lo + m - (neq + 1) ≤ i → i < lo + m → KS key (arrOf st') i = KS key (arrOf st') (lo + m - 1)) → Q (none, m, neq) st') :
    wpS (model prog w) A E s (descL lo n nrem) Q st := by
  unfold descL
  refine wpS_forRange (I := fun x c st' => ∃ neq, c = (none, x, neq) ∧ SB a₀ κ lo (lo + nrem) st0 st' ∧ gallopOf st' = gallopOf st ∧ SegD key (arrOf st') lo (lo + x) ∧ neq + 1 ≤ x ∧
      (∀ i, lo + x - (neq + 1) ≤ i → i < lo + x → KS key (arrOf st') i = KS key (arrOf st') (lo + x - 1))) ?step ?fin ⟨0, rfl, hB, rfl, hs, by exact Lin.lin [(.le (.k 1) (.v 0))] (.le (.a (.k 0) (.k 1)) (.v 0)) (.l [1, 1]) rfl [_] [] h1, fun i h1 h2 => by congr 1; exact Lin.lin [(.le (.v 1) (.v 0)), (.lt (.v 0) (.a (.v 2) (.v 3))), (.or (.an (.le (.a (.k 0) (.k 1)) (.a (.v 2) (.v 3))) (.eq (.a (.v 1) (.a (.k 0) (.k 1))) (.a (.v 2) (.v 3)))) (.an (.le (.a (.v 2) (.v 3)) (.a (.k 0) (.k 1))) (.eq (.v 1) (.k 0))))] (.eq (.v 0) (.v 1)) (.s (.s (.l [1, 1]) (.l [1, 1])) (.s (.l [1, 0, 1, 0, 0, 1]) (.l [1, 0, 1, 1, 0, 1]))) rfl [_, _, _, _] [] h1 h2 (Lin.sub_ax _ _)⟩
  case fin =>
    intro c st' hX2
    refine Classical.byContradiction fun hnX => ?_
    obtain ⟨neq, rfl, hB', hg, hs', hq, he⟩ := hX2
    refine hnX ?_
    clear hnX
    rw [show max n nrem = nrem by lia] at hs' hq he ⊢
    exact h nrem neq st' hB' hg hnn (Nat.le_refl _) hs' hq he
  case step =>
    intro x c st' hax hxn hX5
    refine Classical.byContradiction fun hnX => ?_
    obtain ⟨neq, rfl, hB', hg, hs', hq, he⟩ := hX5
    refine hnX ?_
    clear hnX
    dsimp only
    have hsz : lo + x ≤ (arrOf st').size := by rw [hB'.size]; exact Lin.lin [(.le (.a (.v 0) (.v 3)) (.v 2)), (.lt (.v 1) (.v 3))] (.le (.a (.v 0) (.v 1)) (.v 2)) (.l [1, 1, 1]) rfl [_, _, _, _] [] hn hxn
    refine wpS_bind (wpS_lt H hB' (by exact Lin.lin [(.le (.a (.v 0) (.v 3)) (.v 2)), (.lt (.v 1) (.v 3))] (.lt (.a (.v 0) (.v 1)) (.v 2)) (.l [1, 1, 1]) rfl [_, _, _, _] [] hn hxn) (by exact Lin.lin [(.le (.a (.v 2) (.v 3)) (.v 1)), (.lt (.v 4) (.v 3)), (.or (.an (.le (.k 1) (.a (.v 2) (.v 4))) (.eq (.a (.v 0) (.k 1)) (.a (.v 2) (.v 4)))) (.an (.le (.a (.v 2) (.v 4)) (.k 1)) (.eq (.v 0) (.k 0))))] (.lt (.v 0) (.v 1)) (.s (.l [1, 1, 1, 0, 1]) (.l [1, 1, 1, 0, 1])) rfl [_, _, _, _, _] [] hn hxn (Lin.sub_ax _ _)) ?_)
    cases hless : T3.le (KS key (arrOf st') (lo + x - 1)) (KS key (arrOf st') (lo + x))
    case false =>
      simp only [Bool.not_false, if_true]
      have hsn := hs'.snoc (by exact Lin.lin [(.le (.k 1) (.v 1)), (.le (.v 1) (.v 0))] (.le (.k 1) (.v 0)) (.l [1, 1, 1]) rfl [_, _] [] h1 hax) (le3_total hless)
      by_cases hneq : neq > 0
      · rw [if_pos hneq]
        refine wpS_bind (wpS_reverse (wpS_pure ⟨0, rfl, hB'.mirror (by exact Lin.lin [(.le (.a (.v 2) (.k 1)) (.v 3)), (.or (.an (.le (.a (.v 2) (.k 1)) (.a (.v 0) (.v 3))) (.eq (.a (.v 1) (.a (.v 2) (.k 1))) (.a (.v 0) (.v 3)))) (.an (.le (.a (.v 0) (.v 3)) (.a (.v 2) (.k 1))) (.eq (.v 1) (.k 0))))] (.le (.v 0) (.v 1)) (.s (.l [1, 1, 0, 0, 1]) (.l [1, 1, 1, 0, 1])) rfl [_, _, _, _] [] hq (Lin.sub_ax _ _)) (by exact Lin.lin [(.lt (.v 1) (.v 2))] (.le (.a (.v 0) (.v 1)) (.a (.v 0) (.v 2))) (.l [1, 1]) rfl [_, _, _] [] hxn) hn, hg, fun i j hi hij hj => ?_, by exact Lin.lin [] (.le (.a (.k 0) (.k 1)) (.a (.v 0) (.k 1))) (.l [1]) rfl [_] [], fun i h1 h2 => by congr 1; exact Lin.lin [(.le (.v 1) (.v 0)), (.lt (.v 0) (.a (.v 2) (.a (.v 3) (.k 1)))), (.or (.an (.le (.a (.k 0) (.k 1)) (.a (.v 2) (.a (.v 3) (.k 1)))) (.eq (.a (.v 1) (.a (.k 0) (.k 1))) (.a (.v 2) (.a (.v 3) (.k 1))))) (.an (.le (.a (.v 2) (.a (.v 3) (.k 1))) (.a (.k 0) (.k 1))) (.eq (.v 1) (.k 0))))] (.eq (.v 0) (.v 1)) (.s (.s (.l [1, 1]) (.l [1, 1])) (.s (.l [1, 0, 1, 0, 0, 1]) (.l [1, 0, 1, 1, 0, 1]))) rfl [_, _, _, _] [] h1 h2 (Lin.sub_ax _ _)⟩))
        show T3.le (KS key (mirror (arrOf st') _ _ _) j) (KS key (mirror (arrOf st') _ _ _) i) = true
        rw [KS_mirror_equal hsz he, KS_mirror_equal hsz he]
        exact hsn i j hi hij hj
      · rw [if_neg hneq]
        exact wpS_pure ⟨0, rfl, hB', hg, hsn, by exact Lin.lin [] (.le (.a (.k 0) (.k 1)) (.a (.v 0) (.k 1))) (.l [1]) rfl [_] [], fun i h1 h2 => by congr 1; exact Lin.lin [(.le (.v 1) (.v 0)), (.lt (.v 0) (.a (.v 2) (.a (.v 3) (.k 1)))), (.or (.an (.le (.a (.k 0) (.k 1)) (.a (.v 2) (.a (.v 3) (.k 1)))) (.eq (.a (.v 1) (.a (.k 0) (.k 1))) (.a (.v 2) (.a (.v 3) (.k 1))))) (.an (.le (.a (.v 2) (.a (.v 3) (.k 1))) (.a (.k 0) (.k 1))) (.eq (.v 1) (.k 0))))] (.eq (.v 0) (.v 1)) (.s (.s (.l [1, 1]) (.l [1, 1])) (.s (.l [1, 0, 1, 0, 0, 1]) (.l [1, 0, 1, 1, 0, 1]))) rfl [_, _, _, _] [] h1 h2 (Lin.sub_ax _ _)⟩
    case true =>
      simp only [Bool.not_true, Bool.false_eq_true, if_false]
      refine wpS_bind (wpS_lt H hB' (by exact Lin.lin [(.le (.a (.v 2) (.v 3)) (.v 1)), (.lt (.v 4) (.v 3)), (.or (.an (.le (.k 1) (.a (.v 2) (.v 4))) (.eq (.a (.v 0) (.k 1)) (.a (.v 2) (.v 4)))) (.an (.le (.a (.v 2) (.v 4)) (.k 1)) (.eq (.v 0) (.k 0))))] (.lt (.v 0) (.v 1)) (.s (.l [1, 1, 1, 0, 1]) (.l [1, 1, 1, 0, 1])) rfl [_, _, _, _, _] [] hn hxn (Lin.sub_ax _ _)) (by exact Lin.lin [(.le (.a (.v 0) (.v 3)) (.v 2)), (.lt (.v 1) (.v 3))] (.lt (.a (.v 0) (.v 1)) (.v 2)) (.l [1, 1, 1]) rfl [_, _, _, _] [] hn hxn) ?_)
      cases hlarger : T3.le (KS key (arrOf st') (lo + x)) (KS key (arrOf st') (lo + x - 1))
      case false =>
        simp only [Bool.not_false, if_true]
        exact wpS_pure (h x neq st' hB' hg hax (by exact Lin.lin [(.lt (.v 0) (.v 1))] (.le (.v 0) (.v 1)) (.l [1, 1]) rfl [_, _] [] hxn) hs' hq he)
      case true =>
        simp only [Bool.not_true, Bool.false_eq_true, if_false]
        have heqx : KS key (arrOf st') (lo + x) = KS key (arrOf st') (lo + x - 1) := le3_antisymm hlarger hless
        refine wpS_pure ⟨neq + 1, rfl, hB', hg, hs'.snoc (by exact Lin.lin [(.le (.k 1) (.v 1)), (.le (.v 1) (.v 0))] (.le (.k 1) (.v 0)) (.l [1, 1, 1]) rfl [_, _] [] h1 hax) hlarger, by exact Lin.lin [(.le (.a (.v 0) (.k 1)) (.v 1))] (.le (.a (.a (.v 0) (.k 1)) (.k 1)) (.a (.v 1) (.k 1))) (.l [1, 1]) rfl [_, _] [] hq, fun i h1 h2 => ?_⟩
        rw [show lo + (x + 1) - 1 = lo + x by exact Lin.lin [(.or (.an (.le (.k 1) (.a (.v 1) (.a (.v 2) (.k 1)))) (.eq (.a (.v 0) (.k 1)) (.a (.v 1) (.a (.v 2) (.k 1))))) (.an (.le (.a (.v 1) (.a (.v 2) (.k 1))) (.k 1)) (.eq (.v 0) (.k 0))))] (.eq (.v 0) (.a (.v 1) (.v 2))) (.s (.s (.l [1, 0, 0, 1]) (.l [1, 1, 0, 1])) (.s (.l [1, 0, 1]) (.l [1, 0, 1]))) rfl [_, _, _] [] (Lin.sub_ax _ _)]
        by_cases hix : i = lo + x
        · subst hix; rfl
        · rw [heqx]; exact he i (by exact Lin.lin [(.le (.v 2) (.v 1)), (.or (.an (.le (.a (.a (.v 3) (.k 1)) (.k 1)) (.a (.v 4) (.a (.v 5) (.k 1)))) (.eq (.a (.v 2) (.a (.a (.v 3) (.k 1)) (.k 1))) (.a (.v 4) (.a (.v 5) (.k 1))))) (.an (.le (.a (.v 4) (.a (.v 5) (.k 1))) (.a (.a (.v 3) (.k 1)) (.k 1))) (.eq (.v 2) (.k 0)))), (.or (.an (.le (.a (.v 3) (.k 1)) (.a (.v 4) (.v 5))) (.eq (.a (.v 0) (.a (.v 3) (.k 1))) (.a (.v 4) (.v 5)))) (.an (.le (.a (.v 4) (.v 5)) (.a (.v 3) (.k 1))) (.eq (.v 0) (.k 0))))] (.le (.v 0) (.v 1)) (.s (.s (.l [1, 1, 0, 0, 1, 0, 1]) (.l [1, 1, 1, 0, 1, 0, 1])) (.s (.l [1, 1, 1, 0, 1, 0, 1]) (.l [1, 1, 0, 0, 1, 0, 1]))) rfl [_, _, _, _, _, _] [] h1 (Lin.sub_ax _ _) (Lin.sub_ax _ _)) (by exact Lin.lin [(.lt (.v 0) (.a (.v 1) (.a (.v 2) (.k 1)))), (.no (.eq (.v 0) (.a (.v 1) (.v 2))))] (.lt (.v 0) (.a (.v 1) (.v 2))) (.s (.l [1, 0, 1]) (.l [0, 1, 1])) rfl [_, _, _] [] h2 hix)

theorem wpS_descP {lo : Nat} {st0 st : SortSt} {n nrem : Nat} {Q : Option Nat → SortSt → Prop} (H : LtOK prog w A E s κ a₀ key) (hn : lo + nrem ≤ a₀.size) (hnn : n + 1 ≤ nrem) (hB : SB a₀ κ lo (lo + nrem) st0 st)
    (hs : SegD key (arrOf st) lo (lo + (n + 1))) (h : ∀ m st', SB a₀ κ lo (lo + nrem) st0 st' → gallopOf st' = gallopOf st → 1 ≤ m → m ≤ nrem → SegS key (arrOf st') lo (lo + m) → Q (some m) st') :
    wpS (model prog w) A E s (descP lo n nrem) Q st := by
  unfold descP
  refine wpS_bind (wpS_lift (wpAny_rule ⟨rfl, ?_⟩))
  refine wpS_bind (wpS_descL H hn (by exact Lin.lin [] (.le (.k 1) (.a (.v 0) (.k 1))) (.l [1]) rfl [_] []) hnn hB hs fun m neq st' hB' hg hm1 hm2 hs' hq he => ?_)
  dsimp only
  have hsz : lo + m ≤ (arrOf st').size := by rw [hB'.size]; exact Lin.lin [(.le (.a (.v 0) (.v 3)) (.v 2)), (.le (.v 1) (.v 3))] (.le (.a (.v 0) (.v 1)) (.v 2)) (.l [1, 1, 1]) rfl [_, _, _, _] [] hn hm2
  by_cases hneq : neq > 0
  · rw [if_pos hneq]
    refine wpS_bind (wpS_reverse (wpS_tailL H hn (by exact Lin.lin [(.le (.a (.v 1) (.k 1)) (.v 0))] (.le (.k 1) (.v 0)) (.l [1, 1]) rfl [_, _] [] hq) hm2 (hB'.mirror (by exact Lin.lin [(.le (.a (.v 2) (.k 1)) (.v 3)), (.or (.an (.le (.a (.v 2) (.k 1)) (.a (.v 0) (.v 3))) (.eq (.a (.v 1) (.a (.v 2) (.k 1))) (.a (.v 0) (.v 3)))) (.an (.le (.a (.v 0) (.v 3)) (.a (.v 2) (.k 1))) (.eq (.v 1) (.k 0))))] (.le (.v 0) (.v 1)) (.s (.l [1, 1, 0, 0, 1]) (.l [1, 1, 1, 0, 1])) rfl [_, _, _, _] [] hq (Lin.sub_ax _ _)) (by exact Lin.lin [(.le (.v 1) (.v 2))] (.le (.a (.v 0) (.v 1)) (.a (.v 0) (.v 2))) (.l [1, 1]) rfl [_, _, _] [] hm2) hn) ?_ fun m' st2 g1 g2 => h m' st2 g1 (g2.trans hg)))
    intro i j hi hij hj
    show T3.le (KS key (mirror (arrOf st') _ _ _) j) (KS key (mirror (arrOf st') _ _ _) i) = true
    rw [KS_mirror_equal hsz he, KS_mirror_equal hsz he]
    exact hs' i j hi hij hj
  · rw [if_neg hneq]
    exact wpS_tailL H hn (by exact Lin.lin [(.le (.a (.v 1) (.k 1)) (.v 0))] (.le (.k 1) (.v 0)) (.l [1, 1]) rfl [_, _] [] hm1) hm2 hB' hs' fun m' st2 g1 g2 => h m' st2 g1 (g2.trans hg)

theorem wpS_count {lo : Nat} {st : SortSt} {nrem : Nat} {Q : Option Nat → SortSt → Prop} (H : LtOK prog w A E s κ a₀ key) (hn : lo + nrem ≤ a₀.size) (h1 : 1 ≤ nrem) (hB : SB a₀ κ lo (lo + nrem) st st)
    (h : ∀ m st', SB a₀ κ lo (lo + nrem) st st' → gallopOf st' = gallopOf st → 1 ≤ m → m ≤ nrem → SegS key (arrOf st') lo (lo + m) → Q (some m) st') :
    wpS (model prog w) A E s (countRun' lo nrem) Q st := by
  rw [countL_eq]
  refine wpS_bind (wpS_ascL H hn (Nat.le_refl 1) h1 hB (fun i j hi hij hj => by have : i = j := (by exact Lin.lin [(.le (.v 2) (.v 0)), (.le (.v 0) (.v 1)), (.lt (.v 1) (.a (.v 2) (.k 1)))] (.eq (.v 0) (.v 1)) (.s (.l [1, 1, 0, 1]) (.l [1, 0, 1])) rfl [_, _, _] [] hi hij hj); subst this; exact le3_refl _) fun n hn1 hn2 hsn hor => ?_)
  skip
  by_cases hnn : n = nrem
  · rw [if_pos (by simpa using hnn)]
    exact wpS_pure (h n st hB rfl hn1 hn2 hsn)
  · rw [if_neg (by simpa using hnn)]
    have hlt := hor.resolve_left hnn
    by_cases hgt : n > 1
    · rw [if_pos hgt]
      refine wpS_bind (wpS_lt H hB (by exact Lin.lin [(.le (.a (.v 0) (.v 2)) (.v 1)), (.le (.k 1) (.v 2))] (.lt (.v 0) (.v 1)) (.l [1, 1, 1]) rfl [_, _, _] [] hn h1) (by exact Lin.lin [(.le (.a (.v 2) (.v 3)) (.v 1)), (.le (.k 1) (.v 3)), (.le (.v 4) (.v 3)), (.or (.an (.le (.k 1) (.a (.v 2) (.v 4))) (.eq (.a (.v 0) (.k 1)) (.a (.v 2) (.v 4)))) (.an (.le (.a (.v 2) (.v 4)) (.k 1)) (.eq (.v 0) (.k 0))))] (.lt (.v 0) (.v 1)) (.s (.l [1, 1, 0, 1, 0, 1]) (.l [1, 1, 1, 0, 0, 1])) rfl [_, _, _, _, _] [] hn h1 hn2 (Lin.sub_ax _ _)) ?_)
      cases hrose : T3.le (KS key (arrOf st) (lo + n - 1)) (KS key (arrOf st) lo)
      case false =>
        simp only [Bool.not_false, if_true]
        exact wpS_pure (h n st hB rfl hn1 hn2 hsn)
      case true =>
        simp only [Bool.not_true, Bool.false_eq_true, if_false]
        have hsz : lo + n ≤ (arrOf st).size := by rw [hB.size]; exact Lin.lin [(.le (.a (.v 0) (.v 3)) (.v 2)), (.le (.v 1) (.v 3))] (.le (.a (.v 0) (.v 1)) (.v 2)) (.l [1, 1, 1]) rfl [_, _, _, _] [] hn hn2
        have hall : ∀ k, lo ≤ k → k < lo + n → KS key (arrOf st) k = KS key (arrOf st) (lo + n - 1) := by
          intro k hk1 hk
          have a1 := hsn lo k (Nat.le_refl _) hk1 hk
          have a2 := hsn k (lo + n - 1) hk1 (by exact Lin.lin [(.lt (.v 0) (.a (.v 2) (.v 3))), (.or (.an (.le (.k 1) (.a (.v 2) (.v 3))) (.eq (.a (.v 1) (.k 1)) (.a (.v 2) (.v 3)))) (.an (.le (.a (.v 2) (.v 3)) (.k 1)) (.eq (.v 1) (.k 0))))] (.le (.v 0) (.v 1)) (.s (.l [1, 1, 0, 0, 1]) (.l [1, 1, 1, 0, 1])) rfl [_, _, _, _] [] hk (Lin.sub_ax _ _)) (by exact Lin.lin [(.lt (.k 1) (.v 2)), (.or (.an (.le (.k 1) (.a (.v 1) (.v 2))) (.eq (.a (.v 0) (.k 1)) (.a (.v 1) (.v 2)))) (.an (.le (.a (.v 1) (.v 2)) (.k 1)) (.eq (.v 0) (.k 0))))] (.lt (.v 0) (.a (.v 1) (.v 2))) (.s (.l [1, 0, 0, 1]) (.l [1, 1, 0, 1])) rfl [_, _, _] [] hgt (Lin.sub_ax _ _))
          exact le3_antisymm a2 (le3_trans hrose a1)
        have hD : SegD key (arrOf st) lo (lo + (n + 1)) := by
          refine SegD.snoc (fun i j hi hij hj => ?_) (by exact Lin.lin [(.le (.k 1) (.v 0))] (.le (.k 1) (.v 0)) (.l [1, 1]) rfl [_] [] hn1) hlt
          rw [hall i hi (by exact Lin.lin [(.le (.v 0) (.v 3)), (.lt (.v 3) (.a (.v 1) (.v 2)))] (.lt (.v 0) (.a (.v 1) (.v 2))) (.l [1, 1, 1]) rfl [_, _, _, _] [] hij hj), hall j (by exact Lin.lin [(.le (.v 0) (.v 2)), (.le (.v 2) (.v 1))] (.le (.v 0) (.v 1)) (.l [1, 1, 1]) rfl [_, _, _] [] hi hij) hj]; exact le3_refl _
        refine wpS_bind (wpS_reverse (wpS_descP H hn (by exact Lin.lin [(.le (.v 0) (.v 1)), (.no (.eq (.v 0) (.v 1)))] (.le (.a (.v 0) (.k 1)) (.v 1)) (.s (.l [1, 0, 1]) (.l [0, 1, 1])) rfl [_, _] [] hn2 hnn) (hB.mirror (Nat.le_refl _) (by exact Lin.lin [(.le (.v 1) (.v 2))] (.le (.a (.v 0) (.v 1)) (.a (.v 0) (.v 2))) (.l [1, 1]) rfl [_, _, _] [] hn2) hn) ?_ fun m' st2 g1 g2 => h m' st2 g1 g2))
        intro i j hi hij hj
        show T3.le (KS key (mirror (arrOf st) _ _ _) j) (KS key (mirror (arrOf st) _ _ _) i) = true
        rw [KS_mirror_equal hsz hall, KS_mirror_equal hsz hall]
        exact hD i j hi hij hj
    · rw [if_neg hgt]
      have hn1' : n = 1 := by exact Lin.lin [(.le (.k 1) (.v 0)), (.no (.lt (.k 1) (.v 0)))] (.eq (.v 0) (.k 1)) (.s (.l [1, 1]) (.l [1, 0, 1])) rfl [_] [] hn1 hgt
      subst hn1'
      refine wpS_descP H hn (by lia) hB (SegD.snoc (fun i j hi hij hj => ?_) (by lia) hlt) h
      have : i = j := by lia
      subst this; exact le3_refl _
end
end Mini

/-! Galloping. -/
set_option autoImplicit false
namespace Mini
open PySem PyProof.Rows

noncomputable def gallop' : Bool → Keyed → Array Keyed → Nat → Nat → Nat → StateT SortSt Sem (Option Nat) := sortPriv% PySem.Builtin.gallop
theorem gallop'_eq (left : Bool) (key : Keyed) (arr : Array Keyed) (base n hint : Nat) : gallop' left key arr base n hint = (do
  let beyond (i : Nat) : StateT SortSt Sem (Option Bool) := do
    let x ← elem' arr (base + i)
    if left then lt' x key else return (← lt' key x).map (!·)
  let mut lastofs := 0
  let mut ofs := 1
  let mut lo := 0
  let mut hi := 0
  let some right ← beyond hint | return none
  if right then
    let maxofs := n - hint
    for _ in [0:n] do
      if ofs ≥ maxofs then break
      let some more ← beyond (hint + ofs) | return none
      if !more then break
      lastofs := ofs
      ofs := 2 * ofs + 1
    lo := hint + lastofs + 1
    hi := hint + min ofs maxofs
  else
    let maxofs := hint + 1
    for _ in [0:n] do
      if ofs ≥ maxofs then break
      let some found ← beyond (hint - ofs) | return none
      if found then break
      lastofs := ofs
      ofs := 2 * ofs + 1
    lo := hint + 1 - min ofs maxofs
    hi := hint - lastofs
  for _ in [0:n] do
    if lo ≥ hi then break
    let m := lo + (hi - lo) / 2
    let some more ← beyond m | return none
    if more then lo := m + 1 else hi := m
  return some hi) := rfl

/-- the tree of a gallop with its question as a parameter -/
noncomputable def gallopB (beyond : Nat → StateT SortSt Sem (Option Bool)) (n hint : Nat) : StateT SortSt Sem (Option Nat) := do
  let mut lastofs := 0
  let mut ofs := 1
  let mut lo := 0
  let mut hi := 0
  let some right ← beyond hint | return none
  if right then
    let maxofs := n - hint
    for _ in [0:n] do
      if ofs ≥ maxofs then break
      let some more ← beyond (hint + ofs) | return none
      if !more then break
      lastofs := ofs
      ofs := 2 * ofs + 1
    lo := hint + lastofs + 1
    hi := hint + min ofs maxofs
  else
    let maxofs := hint + 1
    for _ in [0:n] do
      if ofs ≥ maxofs then break
      let some found ← beyond (hint - ofs) | return none
      if found then break
      lastofs := ofs
      ofs := 2 * ofs + 1
    lo := hint + 1 - min ofs maxofs
    hi := hint - lastofs
  for _ in [0:n] do
    if lo ≥ hi then break
    let m := lo + (hi - lo) / 2
    let some more ← beyond m | return none
    if more then lo := m + 1 else hi := m
  return some hi

noncomputable def bisectB (beyond : Nat → StateT SortSt Sem (Option Bool)) (n lo hi : Nat) : StateT SortSt Sem (Option Nat) := do
  let mut lo := lo
  let mut hi := hi
  for _ in [0:n] do
    if lo ≥ hi then break
    let m := lo + (hi - lo) / 2
    let some more ← beyond m | return none
    if more then lo := m + 1 else hi := m
  return some hi

section
variable {prog : Program} {w : World} {A : Around} {E : Value → Shared → Prop} {s : Shared} {a₀ : Array Keyed} {κ : SortKind} {key : Keyed → T3}

theorem wpS_bisect {beyond : Nat → StateT SortSt Sem (Option Bool)} {n lo hi : Nat} {P : Nat → Bool} {st : SortSt} {Q : Option Nat → SortSt → Prop} (hb : ∀ i, i < n → ∀ (Q : Option Bool → SortSt → Prop), Q (some (P i)) st → wpS (model prog w) A E s (beyond i) Q st)
    (hm : ∀ i j, i ≤ j → j < n → P j = true → P i = true) (h1 : lo ≤ hi) (h2 : hi ≤ n) (hT : ∀ i, i < lo → P i = true) (hF : ∀ i, hi ≤ i → i < n → P i = false)
    (h : ∀ k, k ≤ n → (∀ i, i < k → P i = true) → (∀ i, k ≤ i → i < n → P i = false) → Q (some k) st) : wpS (model prog w) A E s (bisectB beyond n lo hi) Q st := by
  unfold bisectB
  refine wpS_bind (wpS_mono (wpS_forRange (I := fun x c st' => st' = st ∧ ∃ l r, c = (none, l, r) ∧ l ≤ r ∧ r ≤ n ∧ r - l ≤ n - x ∧ (∀ i, i < l → P i = true) ∧ (∀ i, r ≤ i → i < n → P i = false))
    (Q := fun c st' => st' = st ∧ ∃ k, c = (none, k, k) ∧ k ≤ n ∧ (∀ i, i < k → P i = true) ∧ (∀ i, k ≤ i → i < n → P i = false)) ?step ?fin ⟨rfl, lo, hi, rfl, h1, h2, by exact Lin.lin [(.le (.v 2) (.v 1)), (.or (.an (.le (.v 3) (.v 2)) (.eq (.a (.v 0) (.v 3)) (.v 2))) (.an (.le (.v 2) (.v 3)) (.eq (.v 0) (.k 0))))] (.le (.v 0) (.v 1)) (.s (.l [1, 1, 0, 1]) (.l [1, 1, 0, 1])) rfl [_, _, _, _] [] h2 (Lin.sub_ax _ _), hT, hF⟩) ?post)
  case post =>
    intro c st' hX2
    refine Classical.byContradiction fun hnX => ?_
    obtain ⟨rfl, k, rfl, hk, g1, g2⟩ := hX2
    refine hnX ?_
    clear hnX
    exact wpS_pure (h k hk g1 g2)
  case fin =>
    intro c st' hX2
    refine Classical.byContradiction fun hnX => ?_
    obtain ⟨rfl, l, r, rfl, g1, g2, g3, g4, g5⟩ := hX2
    refine hnX ?_
    clear hnX
    have : l = r := by exact Lin.lin [(.le (.v 0) (.v 1)), (.le (.v 2) (.v 3)), (.or (.an (.le (.v 4) (.v 4)) (.eq (.a (.v 3) (.v 4)) (.v 4))) (.an (.le (.v 4) (.v 4)) (.eq (.v 3) (.k 0)))), (.or (.an (.le (.v 0) (.v 1)) (.eq (.a (.v 2) (.v 0)) (.v 1))) (.an (.le (.v 1) (.v 0)) (.eq (.v 2) (.k 0))))] (.eq (.v 0) (.v 1)) (.s (.s (.s (.l [1, 0, 1, 0, 1, 0, 0, 0, 1]) (.l [1, 0, 0, 0, 0, 0, 1])) (.s (.l [1, 0, 1, 0, 1, 0, 0, 0, 1]) (.l [1, 0, 0, 0, 0, 0, 1]))) (.s (.s (.l [1, 1]) (.l [1, 1])) (.s (.l [1, 1]) (.l [1, 1])))) rfl [_, _, _, _, _] [] g1 g3 (Lin.sub_ax _ _) (Lin.sub_ax _ _)
    subst this
    exact ⟨rfl, l, rfl, g2, g4, g5⟩
  case step =>
    intro x c st' _ hx hX5
    refine Classical.byContradiction fun hnX => ?_
    obtain ⟨rfl, l, r, rfl, g1, g2, g3, g4, g5⟩ := hX5
    refine hnX ?_
    clear hnX
    dsimp only
    by_cases hge : l ≥ r
    · rw [if_pos hge]
      have : l = r := by exact Lin.lin [(.le (.v 0) (.v 1)), (.le (.v 1) (.v 0))] (.eq (.v 0) (.v 1)) (.s (.l [1, 0, 1]) (.l [1, 1])) rfl [_, _] [] g1 hge
      subst this
      exact wpS_pure ⟨rfl, l, rfl, g2, g4, g5⟩
    · rw [if_neg hge]
      refine wpS_bind (hb _ (by exact Lin.lin [(.le (.v 3) (.v 2)), (.no (.le (.v 3) (.v 0))), (.an (.le (.m 2 (.v 1)) (.v 4)) (.lt (.v 4) (.a (.m 2 (.v 1)) (.k 2)))), (.or (.an (.le (.v 0) (.v 3)) (.eq (.a (.v 4) (.v 0)) (.v 3))) (.an (.le (.v 3) (.v 0)) (.eq (.v 4) (.k 0))))] (.lt (.a (.v 0) (.v 1)) (.v 2)) (.s (.l [2, 2, 1, 1, 0, 0, 1]) (.l [0, 0, 1, 0, 0, 1])) rfl [_, _, _, _, _] [] g2 hge (Lin.div_ax _ 2 (by decide)) (Lin.sub_ax _ _)) _ ?_)
      cases hp : P (l + (r - l) / 2) with
      | true =>
        simp only [if_true]
        exact wpS_pure ⟨rfl, _, r, rfl, by exact Lin.lin [(.no (.le (.v 2) (.v 0))), (.an (.le (.m 2 (.v 1)) (.v 3)) (.lt (.v 3) (.a (.m 2 (.v 1)) (.k 2)))), (.or (.an (.le (.v 0) (.v 2)) (.eq (.a (.v 3) (.v 0)) (.v 2))) (.an (.le (.v 2) (.v 0)) (.eq (.v 3) (.k 0))))] (.le (.a (.a (.v 0) (.v 1)) (.k 1)) (.v 2)) (.s (.l [2, 1, 1, 0, 0, 1]) (.l [0, 1, 0, 0, 1])) rfl [_, _, _, _] [] hge (Lin.div_ax _ 2 (by decide)) (Lin.sub_ax _ _), g2, by omega, fun i hi => hm i _ (by exact Lin.lin [(.lt (.v 0) (.a (.a (.v 1) (.v 2)) (.k 1)))] (.le (.v 0) (.a (.v 1) (.v 2))) (.l [1, 1]) rfl [_, _, _] [] hi) (by exact Lin.lin [(.le (.v 3) (.v 2)), (.no (.le (.v 3) (.v 0))), (.an (.le (.m 2 (.v 1)) (.v 4)) (.lt (.v 4) (.a (.m 2 (.v 1)) (.k 2)))), (.or (.an (.le (.v 0) (.v 3)) (.eq (.a (.v 4) (.v 0)) (.v 3))) (.an (.le (.v 3) (.v 0)) (.eq (.v 4) (.k 0))))] (.lt (.a (.v 0) (.v 1)) (.v 2)) (.s (.l [2, 2, 1, 1, 0, 0, 1]) (.l [0, 0, 1, 0, 0, 1])) rfl [_, _, _, _, _] [] g2 hge (Lin.div_ax _ 2 (by decide)) (Lin.sub_ax _ _)) hp, g5⟩
      | false =>
        simp only [Bool.false_eq_true, if_false]
        refine wpS_pure ⟨rfl, l, _, rfl, by exact Lin.lin [] (.le (.v 0) (.a (.v 0) (.v 1))) (.l [1]) rfl [_, _] [], by exact Lin.lin [(.le (.v 3) (.v 2)), (.no (.le (.v 3) (.v 0))), (.an (.le (.m 2 (.v 1)) (.v 4)) (.lt (.v 4) (.a (.m 2 (.v 1)) (.k 2)))), (.or (.an (.le (.v 0) (.v 3)) (.eq (.a (.v 4) (.v 0)) (.v 3))) (.an (.le (.v 3) (.v 0)) (.eq (.v 4) (.k 0))))] (.le (.a (.v 0) (.v 1)) (.v 2)) (.s (.l [2, 2, 1, 1, 0, 0, 1]) (.l [0, 0, 1, 0, 0, 1])) rfl [_, _, _, _, _] [] g2 hge (Lin.div_ax _ 2 (by decide)) (Lin.sub_ax _ _), by exact Lin.lin [(.le (.v 2) (.v 3)), (.an (.le (.m 2 (.v 4)) (.v 2)) (.lt (.v 2) (.a (.m 2 (.v 4)) (.k 2)))), (.or (.an (.le (.v 5) (.v 6)) (.eq (.a (.v 3) (.v 5)) (.v 6))) (.an (.le (.v 6) (.v 5)) (.eq (.v 3) (.k 0)))), (.or (.an (.le (.a (.v 5) (.k 1)) (.v 6)) (.eq (.a (.v 1) (.a (.v 5) (.k 1))) (.v 6))) (.an (.le (.v 6) (.a (.v 5) (.k 1))) (.eq (.v 1) (.k 0)))), (.or (.an (.le (.v 7) (.a (.v 7) (.v 4))) (.eq (.a (.v 0) (.v 7)) (.a (.v 7) (.v 4)))) (.an (.le (.a (.v 7) (.v 4)) (.v 7)) (.eq (.v 0) (.k 0))))] (.le (.v 0) (.v 1)) (.s (.s (.s (.l [2, 1, 1, 0, 0, 1, 0, 1, 0, 2, 0, 2]) (.l [1, 0, 0, 0, 0, 0, 0, 1, 0, 1, 0, 1])) (.s (.l [2, 1, 1, 0, 0, 1, 0, 1, 0, 2, 0, 2]) (.l [1, 0, 0, 0, 0, 0, 0, 0, 0, 1, 0, 1]))) (.s (.s (.l [0, 0, 0, 0, 1, 0, 0, 1]) (.l [0, 0, 0, 0, 1, 0, 0, 1])) (.s (.l [2, 1, 1, 0, 0, 1, 0, 0, 0, 2, 0, 2]) (.l [1, 0, 0, 0, 0, 0, 0, 0, 0, 1, 0, 1])))) rfl [_, _, _, _, _, _, _, _] [] g3 (Lin.div_ax _ 2 (by decide)) (Lin.sub_ax _ _) (Lin.sub_ax _ _) (Lin.sub_ax _ _), g4, fun i h1 h2 => ?_⟩
        cases hq : P i with
        | false => rfl
        | true => rw [hm _ i h1 h2 hq] at hp; cases hp

theorem wpS_gallopB {beyond : Nat → StateT SortSt Sem (Option Bool)} {n hint : Nat} {P : Nat → Bool} {st : SortSt} {Q : Option Nat → SortSt → Prop} (hb : ∀ i, i < n → ∀ (Q : Option Bool → SortSt → Prop), Q (some (P i)) st → wpS (model prog w) A E s (beyond i) Q st)
    (hm : ∀ i j, i ≤ j → j < n → P j = true → P i = true) (hh : hint < n) (h : ∀ k, k ≤ n → (∀ i, i < k → P i = true) → (∀ i, k ≤ i → i < n → P i = false) → Q (some k) st) : wpS (model prog w) A E s (gallopB beyond n hint) Q st := by
  have hmF : ∀ i j, i ≤ j → j < n → P i = false → P j = false := fun i j h1 h2 h3 => by
    cases hq : P j with
    | false => rfl
    | true => rw [hm i j h1 h2 hq] at h3; cases h3
  unfold gallopB
  refine wpS_bind (hb hint hh _ ?_)
  skip
  cases hr : P hint with
  | true =>
    simp only [if_true]
    refine wpS_bind (wpS_mono (wpS_forRange (I := fun x c st' => st' = st ∧ ∃ l o, c = (none, l, o) ∧ l < o ∧ x + 1 ≤ o ∧ hint + l < n ∧ P (hint + l) = true)
      (Q := fun c st' => st' = st ∧ ∃ l o, c = (none, l, o) ∧ l < o ∧ hint + l < n ∧ P (hint + l) = true ∧ (o ≥ n - hint ∨ (hint + o < n ∧ P (hint + o) = false))) ?step ?fin ⟨rfl, 0, 1, rfl, by exact Lin.lin [] (.lt (.k 0) (.k 1)) (.l [1]) rfl [] [], by exact Lin.lin [] (.le (.a (.k 0) (.k 1)) (.k 1)) (.l [1]) rfl [] [], by exact Lin.lin [(.lt (.v 0) (.v 1))] (.lt (.a (.v 0) (.k 0)) (.v 1)) (.l [1, 1]) rfl [_, _] [] hh, hr⟩) ?post)
    case fin =>
      intro c st' hX2
      refine Classical.byContradiction fun hnX => ?_
      obtain ⟨rfl, l, o, rfl, g1, g2, g3, g4⟩ := hX2
      refine hnX ?_
      clear hnX
      exact ⟨rfl, l, o, rfl, g1, g3, g4, .inl (by exact Lin.lin [(.le (.a (.v 2) (.k 1)) (.v 1)), (.or (.an (.le (.v 3) (.v 2)) (.eq (.a (.v 0) (.v 3)) (.v 2))) (.an (.le (.v 2) (.v 3)) (.eq (.v 0) (.k 0))))] (.le (.v 0) (.v 1)) (.s (.l [1, 1, 0, 1]) (.l [1, 1, 0, 1])) rfl [_, _, _, _] [] g2 (Lin.sub_ax _ _))⟩
    case step =>
      intro x c st' _ hx hX5
      refine Classical.byContradiction fun hnX => ?_
      obtain ⟨rfl, l, o, rfl, g1, g2, g3, g4⟩ := hX5
      refine hnX ?_
      clear hnX
      dsimp only
      by_cases hge : o ≥ n - hint
      · rw [if_pos hge]; exact wpS_pure ⟨rfl, l, o, rfl, g1, g3, g4, .inl hge⟩
      · rw [if_neg hge]
        refine wpS_bind (hb _ (by exact Lin.lin [(.no (.le (.v 3) (.v 1))), (.or (.an (.le (.v 0) (.v 2)) (.eq (.a (.v 3) (.v 0)) (.v 2))) (.an (.le (.v 2) (.v 0)) (.eq (.v 3) (.k 0))))] (.lt (.a (.v 0) (.v 1)) (.v 2)) (.s (.l [1, 1, 0, 1]) (.l [0, 1, 0, 1])) rfl [_, _, _, _] [] hge (Lin.sub_ax _ _)) _ ?_)
        cases hp : P (hint + o) with
        | true =>
          simp only [Bool.not_true, Bool.false_eq_true, if_false]
          exact wpS_pure ⟨rfl, o, 2 * o + 1, rfl, by exact Lin.lin [] (.lt (.v 0) (.a (.m 2 (.v 0)) (.k 1))) (.l [1]) rfl [_] [], by exact Lin.lin [(.le (.a (.v 0) (.k 1)) (.v 1))] (.le (.a (.a (.v 0) (.k 1)) (.k 1)) (.a (.m 2 (.v 1)) (.k 1))) (.l [1, 2]) rfl [_, _] [] g2, by exact Lin.lin [(.no (.le (.v 3) (.v 1))), (.or (.an (.le (.v 0) (.v 2)) (.eq (.a (.v 3) (.v 0)) (.v 2))) (.an (.le (.v 2) (.v 0)) (.eq (.v 3) (.k 0))))] (.lt (.a (.v 0) (.v 1)) (.v 2)) (.s (.l [1, 1, 0, 1]) (.l [0, 1, 0, 1])) rfl [_, _, _, _] [] hge (Lin.sub_ax _ _), hp⟩
        | false =>
          simp only [Bool.not_false, if_true]
          exact wpS_pure ⟨rfl, l, o, rfl, g1, g3, g4, .inr ⟨by exact Lin.lin [(.no (.le (.v 3) (.v 1))), (.or (.an (.le (.v 0) (.v 2)) (.eq (.a (.v 3) (.v 0)) (.v 2))) (.an (.le (.v 2) (.v 0)) (.eq (.v 3) (.k 0))))] (.lt (.a (.v 0) (.v 1)) (.v 2)) (.s (.l [1, 1, 0, 1]) (.l [0, 1, 0, 1])) rfl [_, _, _, _] [] hge (Lin.sub_ax _ _), hp⟩⟩
    case post =>
      intro c st' hX2
      refine Classical.byContradiction fun hnX => ?_
      obtain ⟨rfl, l, o, rfl, g1, g2, g3, g4⟩ := hX2
      refine hnX ?_
      clear hnX
      show wpS _ _ _ _ (bisectB beyond n (hint + l + 1) (hint + min o (n - hint))) Q st'
      refine wpS_bisect hb hm (by exact Lin.lin [(.lt (.v 1) (.v 3)), (.lt (.a (.v 0) (.v 1)) (.v 4)), (.or (.an (.le (.v 3) (.v 5)) (.eq (.v 2) (.v 3))) (.an (.le (.v 5) (.v 3)) (.eq (.v 2) (.v 5)))), (.or (.an (.le (.v 0) (.v 4)) (.eq (.a (.v 5) (.v 0)) (.v 4))) (.an (.le (.v 4) (.v 0)) (.eq (.v 5) (.k 0))))] (.le (.a (.a (.v 0) (.v 1)) (.k 1)) (.a (.v 0) (.v 2))) (.s (.s (.l [1, 1, 0, 0, 0, 1]) (.l [1, 1, 0, 0, 0, 1])) (.s (.l [1, 0, 1, 0, 0, 1, 0, 0, 1]) (.l [1, 0, 1, 0, 0, 1, 1, 0, 1]))) rfl [_, _, _, _, _, _] [] g1 g2 (Lin.min_ax _ _) (Lin.sub_ax _ _)) (by exact Lin.lin [(.lt (.v 0) (.v 2)), (.or (.an (.le (.v 3) (.v 4)) (.eq (.v 1) (.v 3))) (.an (.le (.v 4) (.v 3)) (.eq (.v 1) (.v 4)))), (.or (.an (.le (.v 0) (.v 2)) (.eq (.a (.v 4) (.v 0)) (.v 2))) (.an (.le (.v 2) (.v 0)) (.eq (.v 4) (.k 0))))] (.le (.a (.v 0) (.v 1)) (.v 2)) (.s (.s (.l [1, 0, 1, 1, 0, 0, 1]) (.l [0, 1, 0, 0, 0, 1])) (.s (.l [1, 0, 0, 1, 0, 0, 1]) (.l [0, 1, 0, 0, 0, 1]))) rfl [_, _, _, _, _] [] hh (Lin.min_ax _ _) (Lin.sub_ax _ _)) (fun i hi => hm i _ (by exact Lin.lin [(.lt (.v 0) (.a (.a (.v 1) (.v 2)) (.k 1)))] (.le (.v 0) (.a (.v 1) (.v 2))) (.l [1, 1]) rfl [_, _, _] [] hi) g2 g3) (fun i h1 h2 => ?_) h
      rcases g4 with g4 | ⟨g4, g5⟩
      · omega
      · exact hmF _ i (by exact Lin.lin [(.le (.a (.v 0) (.v 3)) (.v 2)), (.lt (.a (.v 0) (.v 1)) (.v 4)), (.or (.an (.le (.v 1) (.v 5)) (.eq (.v 3) (.v 1))) (.an (.le (.v 5) (.v 1)) (.eq (.v 3) (.v 5)))), (.or (.an (.le (.v 0) (.v 4)) (.eq (.a (.v 5) (.v 0)) (.v 4))) (.an (.le (.v 4) (.v 0)) (.eq (.v 5) (.k 0))))] (.le (.a (.v 0) (.v 1)) (.v 2)) (.s (.s (.l [1, 1, 0, 0, 0, 1]) (.l [1, 1, 0, 0, 0, 1])) (.s (.l [1, 1, 1, 0, 0, 1, 0, 0, 1]) (.l [1, 1, 1, 0, 0, 1, 1, 0, 1]))) rfl [_, _, _, _, _, _] [] h1 g4 (Lin.min_ax _ _) (Lin.sub_ax _ _)) h2 g5
  | false =>
    simp only [Bool.false_eq_true, if_false]
    refine wpS_bind (wpS_mono (wpS_forRange (I := fun x c st' => st' = st ∧ ∃ l o, c = (none, l, o) ∧ l < o ∧ x + 1 ≤ o ∧ l ≤ hint ∧ P (hint - l) = false)
      (Q := fun c st' => st' = st ∧ ∃ l o, c = (none, l, o) ∧ l < o ∧ l ≤ hint ∧ P (hint - l) = false ∧ (o ≥ hint + 1 ∨ (o ≤ hint ∧ P (hint - o) = true))) ?step ?fin ⟨rfl, 0, 1, rfl, by exact Lin.lin [] (.lt (.k 0) (.k 1)) (.l [1]) rfl [] [], by exact Lin.lin [] (.le (.a (.k 0) (.k 1)) (.k 1)) (.l [1]) rfl [] [], by exact Lin.lin [] (.le (.k 0) (.v 0)) (.l [1]) rfl [_] [], hr⟩) ?post)
    case fin =>
      intro c st' hX2
      refine Classical.byContradiction fun hnX => ?_
      obtain ⟨rfl, l, o, rfl, g1, g2, g3, g4⟩ := hX2
      refine hnX ?_
      clear hnX
      exact ⟨rfl, l, o, rfl, g1, g3, g4, .inl (by exact Lin.lin [(.lt (.v 0) (.v 2)), (.le (.a (.v 2) (.k 1)) (.v 1))] (.le (.a (.v 0) (.k 1)) (.v 1)) (.l [1, 1, 1]) rfl [_, _, _] [] hh g2)⟩
    case step =>
      intro x c st' _ hx hX5
      refine Classical.byContradiction fun hnX => ?_
      obtain ⟨rfl, l, o, rfl, g1, g2, g3, g4⟩ := hX5
      refine hnX ?_
      clear hnX
      skip
      by_cases hge : o ≥ hint + 1
      · rw [if_pos hge]; exact wpS_pure ⟨rfl, l, o, rfl, g1, g3, g4, .inl hge⟩
      · rw [if_neg hge]
        refine wpS_bind (hb _ (by exact Lin.lin [(.lt (.v 2) (.v 1)), (.or (.an (.le (.v 3) (.v 2)) (.eq (.a (.v 0) (.v 3)) (.v 2))) (.an (.le (.v 2) (.v 3)) (.eq (.v 0) (.k 0))))] (.lt (.v 0) (.v 1)) (.s (.l [1, 1, 0, 1]) (.l [1, 1, 0, 1])) rfl [_, _, _, _] [] hh (Lin.sub_ax _ _)) _ ?_)
        cases hp : P (hint - o) with
        | true =>
          simp only [if_true]
          exact wpS_pure ⟨rfl, l, o, rfl, g1, g3, g4, .inr ⟨by exact Lin.lin [(.no (.le (.a (.v 1) (.k 1)) (.v 0)))] (.le (.v 0) (.v 1)) (.l [1, 1]) rfl [_, _] [] hge, hp⟩⟩
        | false =>
          simp only [Bool.false_eq_true, if_false]
          exact wpS_pure ⟨rfl, o, 2 * o + 1, rfl, by exact Lin.lin [] (.lt (.v 0) (.a (.m 2 (.v 0)) (.k 1))) (.l [1]) rfl [_] [], by exact Lin.lin [(.le (.a (.v 0) (.k 1)) (.v 1))] (.le (.a (.a (.v 0) (.k 1)) (.k 1)) (.a (.m 2 (.v 1)) (.k 1))) (.l [1, 2]) rfl [_, _] [] g2, by exact Lin.lin [(.no (.le (.a (.v 1) (.k 1)) (.v 0)))] (.le (.v 0) (.v 1)) (.l [1, 1]) rfl [_, _] [] hge, hp⟩
    case post =>
      intro c st' hX2
      refine Classical.byContradiction fun hnX => ?_
      obtain ⟨rfl, l, o, rfl, g1, g2, g3, g4⟩ := hX2
      refine hnX ?_
      clear hnX
      show wpS _ _ _ _ (bisectB beyond n (hint + 1 - min o (hint + 1)) (hint - l)) Q st'
      refine wpS_bisect hb hm (by exact Lin.lin [(.lt (.v 2) (.v 3)), (.or (.an (.le (.v 2) (.v 4)) (.eq (.a (.v 1) (.v 2)) (.v 4))) (.an (.le (.v 4) (.v 2)) (.eq (.v 1) (.k 0)))), (.or (.an (.le (.v 5) (.a (.v 4) (.k 1))) (.eq (.a (.v 0) (.v 5)) (.a (.v 4) (.k 1)))) (.an (.le (.a (.v 4) (.k 1)) (.v 5)) (.eq (.v 0) (.k 0)))), (.or (.an (.le (.v 3) (.a (.v 4) (.k 1))) (.eq (.v 5) (.v 3))) (.an (.le (.a (.v 4) (.k 1)) (.v 3)) (.eq (.v 5) (.a (.v 4) (.k 1)))))] (.le (.v 0) (.v 1)) (.s (.s (.s (.l [1, 1, 0, 0, 1, 0, 1, 0, 0, 0, 1]) (.l [1, 0, 1, 0, 1, 0, 1, 0, 0, 0, 1])) (.s (.l [1, 0, 1, 0, 1, 0, 1]) (.l [1, 0, 1, 0, 1, 0, 1]))) (.s (.s (.l [1, 1, 1, 0, 1, 0, 1, 0, 0, 0, 1]) (.l [1, 0, 0, 0, 1, 0, 1, 0, 0, 0, 1])) (.s (.l [1, 0, 0, 0, 1, 0, 1]) (.l [1, 0, 0, 0, 1, 0, 1])))) rfl [_, _, _, _, _, _] [] g1 (Lin.sub_ax _ _) (Lin.sub_ax _ _) (Lin.min_ax _ _)) (by exact Lin.lin [(.lt (.v 2) (.v 1)), (.or (.an (.le (.v 3) (.v 2)) (.eq (.a (.v 0) (.v 3)) (.v 2))) (.an (.le (.v 2) (.v 3)) (.eq (.v 0) (.k 0))))] (.le (.v 0) (.v 1)) (.s (.l [1, 1, 0, 1]) (.l [1, 1, 0, 1])) rfl [_, _, _, _] [] hh (Lin.sub_ax _ _)) (fun i hi => ?_) (fun i h1 h2 => hmF _ i h1 h2 g3) h
      rcases g4 with g4 | ⟨g4, g5⟩
      · omega
      · exact hm i _ (by exact Lin.lin [(.lt (.v 0) (.v 2)), (.or (.an (.le (.v 3) (.a (.v 4) (.k 1))) (.eq (.a (.v 2) (.v 3)) (.a (.v 4) (.k 1)))) (.an (.le (.a (.v 4) (.k 1)) (.v 3)) (.eq (.v 2) (.k 0)))), (.or (.an (.le (.v 5) (.a (.v 4) (.k 1))) (.eq (.v 3) (.v 5))) (.an (.le (.a (.v 4) (.k 1)) (.v 5)) (.eq (.v 3) (.a (.v 4) (.k 1))))), (.or (.an (.le (.v 5) (.v 4)) (.eq (.a (.v 1) (.v 5)) (.v 4))) (.an (.le (.v 4) (.v 5)) (.eq (.v 1) (.k 0))))] (.le (.v 0) (.v 1)) (.s (.s (.s (.l [1, 1, 0, 1, 0, 0, 0, 1, 0, 0, 1]) (.l [1, 1, 0, 1, 0, 0, 0, 1, 1, 0, 1])) (.s (.l [0, 0, 0, 0, 0, 1, 0, 0, 1]) (.l [1, 1, 0, 1, 0, 0, 0, 1, 0, 0, 1]))) (.s (.s (.l [0, 0, 1, 0, 0, 0, 1, 0, 1]) (.l [1, 1, 0, 1, 0, 0, 0, 0, 0, 0, 1])) (.s (.l [0, 0, 0, 0, 0, 1, 0, 0, 1]) (.l [1, 1, 0, 1, 0, 0, 0, 0, 0, 0, 1])))) rfl [_, _, _, _, _, _] [] hi (Lin.sub_ax _ _) (Lin.min_ax _ _) (Lin.sub_ax _ _)) (by exact Lin.lin [(.lt (.v 2) (.v 1)), (.or (.an (.le (.v 3) (.v 2)) (.eq (.a (.v 0) (.v 3)) (.v 2))) (.an (.le (.v 2) (.v 3)) (.eq (.v 0) (.k 0))))] (.lt (.v 0) (.v 1)) (.s (.l [1, 1, 0, 1]) (.l [1, 1, 0, 1])) rfl [_, _, _, _] [] hh (Lin.sub_ax _ _)) g5

/-- a gallop in a sorted stretch -/
theorem wpS_gallop {left : Bool} {x : Keyed} {arr : Array Keyed} {base n hint : Nat} {st : SortSt} {Q : Option Nat → SortSt → Prop} (H : LtOK prog w A E s κ a₀ key) (hk : kindOf st = κ) (hx : x ∈ a₀.toList) (ha : ∀ i (hi : i < arr.size), arr[i] ∈ a₀.toList) (hn : base + n ≤ arr.size) (hs : SegS key arr base (base + n)) (hh : hint < n)
    (h : ∀ k, k ≤ n → (∀ i, i < k → (if left then !T3.le (key x) (KS key arr (base + i)) else T3.le (KS key arr (base + i)) (key x)) = true) → (∀ i, k ≤ i → i < n → (if left then !T3.le (key x) (KS key arr (base + i)) else T3.le (KS key arr (base + i)) (key x)) = false) → Q (some k) st) :
    wpS (model prog w) A E s (gallop' left x arr base n hint) Q st := by
  rw [gallop'_eq]
  show wpS _ _ _ _ (gallopB (fun i => do
    let y ← elem' arr (base + i)
    if left then lt' y x else return (← lt' x y).map (!·)) n hint) Q st
  refine wpS_gallopB (P := fun i => if left then !T3.le (key x) (KS key arr (base + i)) else T3.le (KS key arr (base + i)) (key x)) (fun i hi Q' hq => ?_) (fun i j hij hj hp => ?_) hh h
  · have hi' : base + i < arr.size := by exact Lin.lin [(.le (.a (.v 0) (.v 3)) (.v 2)), (.lt (.v 1) (.v 3))] (.lt (.a (.v 0) (.v 1)) (.v 2)) (.l [1, 1, 1]) rfl [_, _, _, _] [] hn hi
    refine wpS_bind (wpS_elem hi' ?_)
    rw [KS_get hi'] at hq
    cases left with
    | true =>
      simp only [if_true] at hq ⊢
      exact H _ _ (ha _ hi') hx st Q' hk hq
    | false =>
      simp only [Bool.false_eq_true, if_false] at hq ⊢
      refine wpS_bind (H _ _ hx (ha _ hi') st _ hk ?_)
      refine wpS_pure ?_
      simpa using hq
  · have hle := hs (base + i) (base + j) (by exact Lin.lin [] (.le (.v 0) (.a (.v 0) (.v 1))) (.l [1]) rfl [_, _] []) (by exact Lin.lin [(.le (.v 1) (.v 2))] (.le (.a (.v 0) (.v 1)) (.a (.v 0) (.v 2))) (.l [1, 1]) rfl [_, _, _] [] hij) (by exact Lin.lin [(.lt (.v 1) (.v 2))] (.lt (.a (.v 0) (.v 1)) (.a (.v 0) (.v 2))) (.l [1, 1]) rfl [_, _, _] [] hj)
    cases left with
    | true =>
      simp only [if_true, Bool.not_eq_true'] at hp ⊢
      cases hq : T3.le (key x) (KS key arr (base + i)) with
      | false => rfl
      | true => rw [le3_trans hq hle] at hp; cases hp
    | false =>
      simp only [Bool.false_eq_true, if_false] at hp ⊢
      exact le3_trans hle hp
end
end Mini

/-! Merging, from the low end. -/
set_option autoImplicit false
namespace Mini
open PySem PyProof.Rows

abbrev setGal (st : SortSt) (g : Nat) : SortSt := SortSt.mk' (kindOf st) (arrOf st) (pendingOf st) g (failedOf st)
noncomputable def mergeLo' : Array Keyed → Array Keyed → StateT SortSt Sem (Array Keyed) := sortPriv% PySem.Builtin.mergeLo
noncomputable def mergeHi' : Array Keyed → Array Keyed → StateT SortSt Sem (Array Keyed) := sortPriv% PySem.Builtin.mergeHi
noncomputable def setMinGallop' : Nat → StateT SortSt Sem Unit := sortPriv% PySem.Builtin.setMinGallop
theorem setMinGallop'_eq (g : Nat) : setMinGallop' g = modify fun s => setGal s g := rfl
theorem mergeLo'_eq (a b : Array Keyed) : mergeLo' a b = (do
  rule "list.sort.merge-lo"
  let total := a.size + b.size
  let done (out : Array Keyed) (ia ib : Nat) := out ++ a.extract ia a.size ++ b.extract ib b.size
  let lastOfA (out : Array Keyed) (ia ib : Nat) := out ++ b.extract ib b.size ++ a.extract ia a.size
  let mut out : Array Keyed := #[← elem' b 0]
  let mut ia := 0
  let mut ib := 1
  if ib == b.size then return done out ia ib
  if ia + 1 == a.size then return lastOfA out ia ib
  let mut minGallop := gallopOf (← get)
  for _ in [0:total] do
    let mut acount := 0
    let mut bcount := 0
    for _ in [0:total] do
      let some bWins ← lt' (← elem' b ib) (← elem' a ia) | return done out ia ib
      if bWins then
        out := out.push (← elem' b ib); ib := ib + 1; bcount := bcount + 1; acount := 0
        if ib == b.size then return done out ia ib
        if bcount ≥ minGallop then break
      else
        out := out.push (← elem' a ia); ia := ia + 1; acount := acount + 1; bcount := 0
        if ia + 1 == a.size then return lastOfA out ia ib
        if acount ≥ minGallop then break
    rule "list.sort.gallop"
    minGallop := minGallop + 1
    for _ in [0:total] do
      if minGallop > 1 then minGallop := minGallop - 1
      setMinGallop' minGallop
      let some k ← gallop' false (← elem' b ib) a ia (a.size - ia) 0 | return done out ia ib
      acount := k
      if k > 0 then
        out := out ++ a.extract ia (ia + k); ia := ia + k
        if ia + 1 == a.size then return lastOfA out ia ib
        if ia == a.size then return done out ia ib
      out := out.push (← elem' b ib); ib := ib + 1
      if ib == b.size then return done out ia ib
      let some k ← gallop' true (← elem' a ia) b ib (b.size - ib) 0 | return done out ia ib
      bcount := k
      if k > 0 then
        out := out ++ b.extract ib (ib + k); ib := ib + k
        if ib == b.size then return done out ia ib
      out := out.push (← elem' a ia); ia := ia + 1
      if ia + 1 == a.size then return lastOfA out ia ib
      if acount < 7 && bcount < 7 then break
    minGallop := minGallop + 1
    setMinGallop' minGallop
  unsupported "internal:list.sort.merge-bound") := rfl

/-- sorted by the keys -/
noncomputable def Srt (key : Keyed → T3) (l : List Keyed) : Prop := l.Pairwise fun x y => T3.le (key x) (key y) = true
/-- every one of l is at most every one of r -/
noncomputable def Leq (key : Keyed → T3) (l r : List Keyed) : Prop := ∀ x ∈ l, ∀ y ∈ r, T3.le (key x) (key y) = true

section
variable {key : Keyed → T3}
theorem Srt.app {l r : List Keyed} (h1 : Srt key l) (h2 : Srt key r) (h : Leq key l r) : Srt key (l ++ r) := List.pairwise_append.mpr ⟨h1, h2, h⟩
theorem Srt.cut {l r : List Keyed} (h : Srt key (l ++ r)) : Srt key l ∧ Srt key r ∧ Leq key l r := List.pairwise_append.mp h

/-- what stands while two runs are merged from the low end -/
structure MI (key : Keyed → T3) (T out ra rb : List Keyed) : Prop where
  perm : (out ++ (ra ++ rb)).Perm T
  so : Srt key out
  sa : Srt key ra
  sb : Srt key rb
  la : Leq key out ra
  lb : Leq key out rb
theorem MI.takeA {T out u ra rb : List Keyed} (h : MI key T out (u ++ ra) rb) (hu : Leq key u rb) : MI key T (out ++ u) ra rb := by
  refine Classical.byContradiction fun hnX => ?_
  obtain ⟨s1, s2, s3⟩ := h.sa.cut
  refine hnX ?_
  clear hnX
  refine ⟨by simpa [List.append_assoc] using h.perm, h.so.app s1 fun x hx y hy => h.la x hx y (List.mem_append_left _ hy), s2, h.sb, fun x hx y hy => ?_, fun x hx y hy => ?_⟩
  · rcases List.mem_append.mp hx with hx | hx
    · exact h.la x hx y (List.mem_append_right _ hy)
    · exact s3 x hx y hy
  · rcases List.mem_append.mp hx with hx | hx
    · exact h.lb x hx y hy
    · exact hu x hx y hy
theorem MI.takeB {T out u ra rb : List Keyed} (h : MI key T out ra (u ++ rb)) (hu : Leq key u ra) : MI key T (out ++ u) ra rb := by
  refine Classical.byContradiction fun hnX => ?_
  obtain ⟨s1, s2, s3⟩ := h.sb.cut
  refine hnX ?_
  clear hnX
  refine ⟨List.Perm.trans ?_ h.perm, h.so.app s1 fun x hx y hy => h.lb x hx y (List.mem_append_left _ hy), h.sa, s2, fun x hx y hy => ?_, fun x hx y hy => ?_⟩
  · rw [List.append_assoc]
    exact List.Perm.append_left _ (by
      rw [← List.append_assoc, ← List.append_assoc]
      exact List.Perm.append_right _ List.perm_append_comm)
  · rcases List.mem_append.mp hx with hx | hx
    · exact h.la x hx y hy
    · exact hu x hx y hy
  · rcases List.mem_append.mp hx with hx | hx
    · exact h.lb x hx y (List.mem_append_right _ hy)
    · exact s3 x hx y hy
theorem MI.endA {T out rb : List Keyed} (h : MI key T out [] rb) : (out ++ rb).Perm T ∧ Srt key (out ++ rb) := ⟨by simpa using h.perm, h.so.app h.sb h.lb⟩
theorem MI.endB {T out ra : List Keyed} (h : MI key T out ra []) : (out ++ ra).Perm T ∧ Srt key (out ++ ra) := ⟨by simpa using h.perm, h.so.app h.sa h.la⟩
theorem MI.last {T out ra rb : List Keyed} (h : MI key T out ra rb) (hu : Leq key rb ra) : (out ++ rb ++ ra).Perm T ∧ Srt key (out ++ rb ++ ra) := by
  have h' := MI.takeB (u := rb) (rb := []) (by simpa using h) hu
  exact h'.endB

/-- the rest of an array from a place -/
theorem drop_cons {a : Array Keyed} {i : Nat} (hi : i < a.size) : a.toList.drop i = a[i] :: a.toList.drop (i + 1) := by
  rw [List.drop_eq_getElem_cons (by simpa using hi)]; simp
theorem mem_drop {a : Array Keyed} {i : Nat} {x : Keyed} (h : x ∈ a.toList.drop i) : ∃ j, ∃ hj : j < a.size, i ≤ j ∧ x = a[j] := by
  refine Classical.byContradiction fun hnX => ?_
  obtain ⟨k, hk, rfl⟩ := List.getElem_of_mem h
  refine hnX ?_
  clear hnX
  rw [List.length_drop, Array.length_toList] at hk
  exact ⟨i + k, by lia, by lia, by simp⟩
theorem drop_split (a : Array Keyed) (i k : Nat) (h : i + k ≤ a.size) : a.toList.drop i = (a.extract i (i + k)).toList ++ a.toList.drop (i + k) := by
  rw [Array.toList_extract]
  simp only [List.extract_eq_drop_take]
  have : i + k - i = k := by exact Lin.lin [(.or (.an (.le (.v 2) (.a (.v 2) (.v 1))) (.eq (.a (.v 0) (.v 2)) (.a (.v 2) (.v 1)))) (.an (.le (.a (.v 2) (.v 1)) (.v 2)) (.eq (.v 0) (.k 0))))] (.eq (.v 0) (.v 1)) (.s (.s (.l [1, 0, 0, 1]) (.l [1, 1, 0, 1])) (.s (.l [1, 0, 1]) (.l [1, 0, 1]))) rfl [_, _, _] [] (Lin.sub_ax _ _)
  rw [this, ← List.drop_drop, List.take_append_drop]
theorem extract_all (a : Array Keyed) (i : Nat) : (a.extract i a.size).toList = a.toList.drop i := by
  rw [Array.toList_extract]
  simp only [List.extract_eq_drop_take]
  rw [List.take_of_length_le (by simp)]
theorem mem_extract {a : Array Keyed} {i k : Nat} {x : Keyed} (h : x ∈ (a.extract i (i + k)).toList) (hk : i + k ≤ a.size) : ∃ j, ∃ hj : j < a.size, i ≤ j ∧ j < i + k ∧ x = a[j] := by
  refine Classical.byContradiction fun hnX => ?_
  obtain ⟨m, hm, rfl⟩ := List.getElem_of_mem h
  refine hnX ?_
  clear hnX
  have hm' : m < k := by simp at hm; exact Lin.lin [(.lt (.v 0) (.v 2)), (.or (.an (.le (.v 1) (.v 3)) (.eq (.v 2) (.v 1))) (.an (.le (.v 3) (.v 1)) (.eq (.v 2) (.v 3))))] (.lt (.v 0) (.v 1)) (.s (.l [1, 1, 0, 1]) (.l [1, 1, 1, 1])) rfl [_, _, _, _] [] hm (Lin.min_ax _ _)
  exact ⟨i + m, by lia, by lia, by lia, by simp⟩
theorem srt_seg {a : Array Keyed} : SegS key a 0 a.size ↔ Srt key a.toList := by
  unfold Srt
  rw [List.pairwise_iff_getElem]
  constructor
  · intro h i j hi hj hij
    have hi' : i < a.size := by simpa using hi
    have hj' : j < a.size := by simpa using hj
    have := h i j (Nat.zero_le _) (Nat.le_of_lt hij) hj'
    rw [KS_get hi', KS_get hj'] at this
    simpa using this
  · intro h i j _ hij hj
    by_cases he : i = j
    · subst he; exact le3_refl _
    · have := h i j (by simp; lia) (by simpa using hj) (by lia)
      rw [KS_get (by lia), KS_get hj]
      simpa using this
end
end Mini

/-! Merging from the low end: the walk. -/
set_option autoImplicit false
namespace Mini
open PySem PyProof.Rows

structure Same (st0 st : SortSt) : Prop where
  kind : kindOf st = kindOf st0
  arr : arrOf st = arrOf st0
  pend : pendingOf st = pendingOf st0
  ok : failedOf st = failedOf st0
theorem Same.refl (st : SortSt) : Same st st := ⟨rfl, rfl, rfl, rfl⟩
theorem Same.gal {st0 st : SortSt} (h : Same st0 st) (g : Nat) : Same st0 (setGal st g) := ⟨h.kind, h.arr, h.pend, h.ok⟩

section
variable {prog : Program} {w : World} {A : Around} {E : Value → Shared → Prop} {s : Shared} {a₀ : Array Keyed} {κ : SortKind} {key : Keyed → T3}

/-- two runs that may be merged -/
structure Two (a₀ : Array Keyed) (key : Keyed → T3) (a b : Array Keyed) : Prop where
  ina : ∀ i (hi : i < a.size), a[i] ∈ a₀.toList
  inb : ∀ i (hi : i < b.size), b[i] ∈ a₀.toList
  sa : Srt key a.toList
  sb : Srt key b.toList
  pa : 1 ≤ a.size
  pb : 1 ≤ b.size
  first : ∀ i (hi : i < a.size) (h0 : 0 < b.size), T3.le (key b[0]) (key a[i]) = true
  last : ∀ j (hj : j < b.size) (h0 : a.size - 1 < a.size), T3.le (key b[j]) (key a[a.size - 1]) = true

noncomputable def Res (key : Keyed → T3) (a b r : Array Keyed) : Prop := r.toList.Perm (a.toList ++ b.toList) ∧ Srt key r.toList
/-- in the midst of the merge -/
structure Mid (key : Keyed → T3) (a b out : Array Keyed) (ia ib : Nat) : Prop where
  mi : MI key (a.toList ++ b.toList) out.toList (a.toList.drop ia) (b.toList.drop ib)
  ha : ia + 1 < a.size
  hb : ib < b.size

variable {a b : Array Keyed}
theorem res_doneB {out : Array Keyed} {ia : Nat} (h : MI key (a.toList ++ b.toList) out.toList (a.toList.drop ia) (b.toList.drop b.size)) : Res key a b (out ++ a.extract ia a.size ++ b.extract b.size b.size) := by
  rw [List.drop_of_length_le (l := b.toList) (i := b.size) (by simp)] at h
  have := h.endB
  unfold Res
  rw [Array.toList_append, Array.toList_append, extract_all, extract_all, List.drop_of_length_le (i := b.size) (by simp), List.append_nil]
  exact this
theorem res_doneA {out : Array Keyed} {ib : Nat} (h : MI key (a.toList ++ b.toList) out.toList (a.toList.drop a.size) (b.toList.drop ib)) : Res key a b (out ++ a.extract a.size a.size ++ b.extract ib b.size) := by
  rw [List.drop_of_length_le (l := a.toList) (i := a.size) (by simp)] at h
  have := h.endA
  unfold Res
  rw [Array.toList_append, Array.toList_append, extract_all, extract_all, List.drop_of_length_le (i := a.size) (by simp), List.append_nil]
  exact this
theorem res_last {out : Array Keyed} {ia ib : Nat} (T : Two a₀ key a b) (h : MI key (a.toList ++ b.toList) out.toList (a.toList.drop ia) (b.toList.drop ib)) (hia : ia + 1 = a.size) : Res key a b (out ++ b.extract ib b.size ++ a.extract ia a.size) := by
  unfold Res
  rw [Array.toList_append, Array.toList_append, extract_all, extract_all]
  refine h.last fun x hx y hy => ?_
  refine Classical.byContradiction fun hnX => ?_
  obtain ⟨j, hj, _, rfl⟩ := mem_drop hx
  refine hnX ?_
  clear hnX
  refine Classical.byContradiction fun hnX => ?_
  obtain ⟨i, hi, h1, rfl⟩ := mem_drop hy
  refine hnX ?_
  clear hnX
  have hii : i = a.size - 1 := by lia
  subst hii
  exact T.last j hj hi

theorem push_toList (out : Array Keyed) (x : Keyed) : (out.push x).toList = out.toList ++ [x] := Array.toList_push ..

theorem mi_pushB {out : Array Keyed} {ia ib : Nat} (h : MI key (a.toList ++ b.toList) out.toList (a.toList.drop ia) (b.toList.drop ib)) (hb : ib < b.size) (hl : ∀ i (hi : i < a.size), ia ≤ i → T3.le (key b[ib]) (key a[i]) = true) :
    MI key (a.toList ++ b.toList) (out.push b[ib]).toList (a.toList.drop ia) (b.toList.drop (ib + 1)) := by
  rw [push_toList]
  rw [drop_cons hb] at h
  refine MI.takeB (u := [b[ib]]) h fun x hx y hy => ?_
  rw [List.mem_singleton.mp hx]
  refine Classical.byContradiction fun hnX => ?_
  obtain ⟨i, hi, h1, rfl⟩ := mem_drop hy
  refine hnX ?_
  clear hnX
  exact hl i hi h1
theorem mi_pushA {out : Array Keyed} {ia ib : Nat} (h : MI key (a.toList ++ b.toList) out.toList (a.toList.drop ia) (b.toList.drop ib)) (ha : ia < a.size) (hl : ∀ j (hj : j < b.size), ib ≤ j → T3.le (key a[ia]) (key b[j]) = true) :
    MI key (a.toList ++ b.toList) (out.push a[ia]).toList (a.toList.drop (ia + 1)) (b.toList.drop ib) := by
  rw [push_toList]
  rw [drop_cons ha] at h
  refine MI.takeA (u := [a[ia]]) h fun x hx y hy => ?_
  rw [List.mem_singleton.mp hx]
  refine Classical.byContradiction fun hnX => ?_
  obtain ⟨i, hi, h1, rfl⟩ := mem_drop hy
  refine hnX ?_
  clear hnX
  exact hl i hi h1
theorem mi_runA {out : Array Keyed} {ia ib k : Nat} (h : MI key (a.toList ++ b.toList) out.toList (a.toList.drop ia) (b.toList.drop ib)) (hk : ia + k ≤ a.size) (hl : ∀ i (hi : i < a.size), ia ≤ i → i < ia + k → ∀ j (hj : j < b.size), ib ≤ j → T3.le (key a[i]) (key b[j]) = true) :
    MI key (a.toList ++ b.toList) (out ++ a.extract ia (ia + k)).toList (a.toList.drop (ia + k)) (b.toList.drop ib) := by
  rw [Array.toList_append]
  rw [drop_split a ia k hk] at h
  refine MI.takeA h fun x hx y hy => ?_
  refine Classical.byContradiction fun hnX => ?_
  obtain ⟨i, hi, h1, h2, rfl⟩ := mem_extract hx hk
  refine hnX ?_
  clear hnX
  refine Classical.byContradiction fun hnX => ?_
  obtain ⟨j, hj, h3, rfl⟩ := mem_drop hy
  refine hnX ?_
  clear hnX
  exact hl i hi h1 h2 j hj h3
theorem mi_runB {out : Array Keyed} {ia ib k : Nat} (h : MI key (a.toList ++ b.toList) out.toList (a.toList.drop ia) (b.toList.drop ib)) (hk : ib + k ≤ b.size) (hl : ∀ i (hi : i < b.size), ib ≤ i → i < ib + k → ∀ j (hj : j < a.size), ia ≤ j → T3.le (key b[i]) (key a[j]) = true) :
    MI key (a.toList ++ b.toList) (out ++ b.extract ib (ib + k)).toList (a.toList.drop ia) (b.toList.drop (ib + k)) := by
  rw [Array.toList_append]
  rw [drop_split b ib k hk] at h
  refine MI.takeB h fun x hx y hy => ?_
  refine Classical.byContradiction fun hnX => ?_
  obtain ⟨i, hi, h1, h2, rfl⟩ := mem_extract hx hk
  refine hnX ?_
  clear hnX
  refine Classical.byContradiction fun hnX => ?_
  obtain ⟨j, hj, h3, rfl⟩ := mem_drop hy
  refine hnX ?_
  clear hnX
  exact hl i hi h1 h2 j hj h3
theorem srt_le {c : Array Keyed} (h : Srt key c.toList) {i j : Nat} (hi : i < c.size) (hj : j < c.size) (hij : i ≤ j) : T3.le (key c[i]) (key c[j]) = true := by
  have := srt_seg.mpr h i j (Nat.zero_le _) hij hj
  rwa [KS_get hi, KS_get hj] at this
theorem srt_sub {c : Array Keyed} (h : Srt key c.toList) {i n : Nat} (hn : i + n ≤ c.size) : SegS key c i (i + n) := fun p q h1 h2 h3 => srt_seg.mpr h p q (Nat.zero_le _) h2 (by lia)

/-- one turn of the gallop -/
abbrev LoSt := Option (Array Keyed) × Array Keyed × Nat × Nat × Nat × Nat × Nat
noncomputable def loB (a b : Array Keyed) (minGallop acount : Nat) (out : Array Keyed) (ia ib bcount : Nat) : StateT SortSt Sem (ForInStep LoSt) := do
  let x ← elem' b ib
  let out := out.push x
  let ib := ib + 1
  if (ib == b.size) = true then pure (.done (some (out ++ a.extract ia a.size ++ b.extract ib b.size), out, ia, ib, minGallop, acount, bcount))
  else do
    let y ← elem' a ia
    let z ← gallop' true y b ib (b.size - ib) 0
    match z with
    | some k =>
      let jp := fun (_ : Unit) (out : Array Keyed) (ib : Nat) => (do
        let y ← elem' a ia
        let out := out.push y
        let ia := ia + 1
        if (ia + 1 == a.size) = true then pure (.done (some (out ++ b.extract ib b.size ++ a.extract ia a.size), out, ia, ib, minGallop, acount, k))
        else if (decide (acount < 7) && decide (k < 7)) = true then pure (.done (none, out, ia, ib, minGallop, acount, k))
        else pure (.yield (none, out, ia, ib, minGallop, acount, k)) : StateT SortSt Sem (ForInStep LoSt))
      if k > 0 then
        let out := out ++ b.extract ib (ib + k)
        let ib := ib + k
        if (ib == b.size) = true then pure (.done (some (out ++ a.extract ia a.size ++ b.extract ib b.size), out, ia, ib, minGallop, acount, k))
        else jp () out ib
      else jp () out ib
    | _ => pure (.done (some (out ++ a.extract ia a.size ++ b.extract ib b.size), out, ia, ib, minGallop, acount, bcount))
noncomputable def loA (a b : Array Keyed) (out : Array Keyed) (ia ib acount bcount : Nat) (minGallop : Nat) : StateT SortSt Sem (ForInStep LoSt) := do
  setMinGallop' minGallop
  let x ← elem' b ib
  let z ← gallop' false x a ia (a.size - ia) 0
  match z with
  | some k =>
    if k > 0 then
      let out := out ++ a.extract ia (ia + k)
      let ia := ia + k
      if (ia + 1 == a.size) = true then pure (.done (some (out ++ b.extract ib b.size ++ a.extract ia a.size), out, ia, ib, minGallop, k, bcount))
      else if (ia == a.size) = true then pure (.done (some (out ++ a.extract ia a.size ++ b.extract ib b.size), out, ia, ib, minGallop, k, bcount))
      else loB a b minGallop k out ia ib bcount
    else loB a b minGallop k out ia ib bcount
  | _ => pure (.done (some (out ++ a.extract ia a.size ++ b.extract ib b.size), out, ia, ib, minGallop, acount, bcount))

theorem wpS_loB {st st' : SortSt} {N mg ac bc : Nat} {out : Array Keyed} {ia ib : Nat} {Q : ForInStep LoSt → SortSt → Prop} (H : LtOK prog w A E s κ a₀ key) (hk : kindOf st = κ) (T : Two a₀ key a b) (hM : Mid key a b out ia ib) (hS : Same st st')
    (hl : ∀ i (hi : i < a.size), ia ≤ i → T3.le (key (b[ib]'hM.hb)) (key a[i]) = true) (hp : N ≤ ia + ib)
    (h1 : ∀ r rest, Res key a b r → Q (.done (some r, rest)) st') (h2 : ∀ out ia ib mg ac bc, Mid key a b out ia ib → N ≤ ia + ib → Q (.done (none, out, ia, ib, mg, ac, bc)) st' ∧ Q (.yield (none, out, ia, ib, mg, ac, bc)) st') :
    wpS (model prog w) A E s (loB a b mg ac out ia ib bc) Q st' := by
  have ha := hM.ha
  have hb := hM.hb
  unfold loB
  refine wpS_bind (wpS_elem hb ?_)
  have m1 := mi_pushB hM.mi hb hl
  by_cases he : ib + 1 = b.size
  · refine wpS_ifp (by simpa using he) ?_
    refine wpS_pure (h1 _ _ ?_)
    rw [he] at m1 ⊢
    exact res_doneB m1
  · refine wpS_ifn (by simpa using he) ?_
    refine wpS_bind (wpS_elem (show ia < a.size by lia) (wpS_bind (wpS_gallop H (hS.kind.trans hk) (T.ina _ _) T.inb (by lia) (srt_sub T.sb (by lia)) (by lia) fun k hkn g1 g2 => ?_)))
    simp only [if_true] at g1 g2
    have fin : ∀ (out : Array Keyed) (ib' : Nat), MI key (a.toList ++ b.toList) out.toList (a.toList.drop ia) (b.toList.drop ib') → ib' < b.size → ib + 1 + k = ib' → wpS (model prog w) A E s (do
        let y ← elem' a ia
        if (ia + 1 + 1 == a.size) = true then pure (.done (some (out.push y ++ b.extract ib' b.size ++ a.extract (ia + 1) a.size), out.push y, ia + 1, ib', mg, ac, k))
        else if (decide (ac < 7) && decide (k < 7)) = true then pure (.done (none, out.push y, ia + 1, ib', mg, ac, k))
        else pure (.yield (none, out.push y, ia + 1, ib', mg, ac, k)) : StateT SortSt Sem (ForInStep LoSt)) Q st' := by
      intro out ib' m2 hb' hib
      refine wpS_bind (wpS_elem (show ia < a.size by lia) ?_)
      have m3 := mi_pushA m2 (show ia < a.size by lia) fun j hj hj1 => by
        have := g2 (j - (ib + 1)) (by lia) (by lia)
        rw [show ib + 1 + (j - (ib + 1)) = j by lia, KS_get hj] at this
        simpa using this
      by_cases he2 : ia + 1 + 1 = a.size
      · refine wpS_ifp (by simpa using he2) ?_
        exact wpS_pure (h1 _ _ (res_last T m3 he2))
      · refine wpS_ifn (by simpa using he2) ?_
        have hM' : Mid key a b (out.push a[ia]) (ia + 1) ib' := ⟨m3, by lia, hb'⟩
        refine wpS_ifb (fun _ => ?_) (fun _ => ?_)
        · exact wpS_pure (h2 _ _ _ _ _ _ hM' (by lia)).1
        · exact wpS_pure (h2 _ _ _ _ _ _ hM' (by lia)).2
    by_cases hk0 : k > 0
    · refine wpS_ifp hk0 ?_
      have m2 := mi_runB (k := k) m1 (by lia) fun i hi hi1 hi2 j hj hj1 => by
        have := g1 (i - (ib + 1)) (by lia)
        rw [show ib + 1 + (i - (ib + 1)) = i by lia, KS_get hi] at this
        have hle := le3_total (by simpa using this : T3.le (key a[ia]) (key b[i]) = false)
        exact le3_trans hle (srt_le T.sa (by lia) hj hj1)
      by_cases he2 : ib + 1 + k = b.size
      · refine wpS_ifp (by simpa using he2) ?_
        refine wpS_pure (h1 _ _ ?_)
        rw [he2] at m2 ⊢
        exact res_doneB m2
      · refine wpS_ifn (by simpa using he2) ?_
        exact fin _ _ m2 (by lia) rfl
    · refine wpS_ifn hk0 ?_
      exact fin _ _ m1 (by lia) (by lia)

theorem wpS_loA {st st' : SortSt} {N mg ac bc : Nat} {out : Array Keyed} {ia ib : Nat} {Q : ForInStep LoSt → SortSt → Prop} (H : LtOK prog w A E s κ a₀ key) (hk : kindOf st = κ) (T : Two a₀ key a b) (hM : Mid key a b out ia ib) (hS : Same st st') (hp : N ≤ ia + ib)
    (h1 : ∀ r rest st', Same st st' → Res key a b r → Q (.done (some r, rest)) st') (h2 : ∀ out ia ib mg ac bc st', Same st st' → Mid key a b out ia ib → N ≤ ia + ib → Q (.done (none, out, ia, ib, mg, ac, bc)) st' ∧ Q (.yield (none, out, ia, ib, mg, ac, bc)) st') :
    wpS (model prog w) A E s (loA a b out ia ib ac bc mg) Q st' := by
  have ha := hM.ha
  have hb := hM.hb
  unfold loA
  rw [setMinGallop'_eq]
  refine wpS_bind (wpS_modify ?_)
  have hS' := hS.gal mg
  refine wpS_bind (wpS_elem hb (wpS_bind (wpS_gallop H (hS'.kind.trans hk) (T.inb _ _) T.ina (by lia) (srt_sub T.sa (by lia)) (by lia) fun k hkn g1 g2 => ?_)))
  simp only [Bool.false_eq_true, if_false] at g1 g2
  have hg2 : ∀ i (hi : i < a.size), ia + k ≤ i → T3.le (key b[ib]) (key a[i]) = true := fun i hi hi1 => by
    have := g2 (i - ia) (by lia) (by lia)
    rw [show ia + (i - ia) = i by lia, KS_get hi] at this
    exact le3_total this
  by_cases hk0 : k > 0
  · refine wpS_ifp hk0 ?_
    have m2 := mi_runA (k := k) hM.mi (by lia) fun i hi hi1 hi2 j hj hj1 => by
      have := g1 (i - ia) (by lia)
      rw [show ia + (i - ia) = i by lia, KS_get hi] at this
      exact le3_trans this (srt_le T.sb hb hj hj1)
    by_cases he : ia + k + 1 = a.size
    · refine wpS_ifp (by simpa using he) ?_
      exact wpS_pure (h1 _ _ _ hS' (res_last T m2 he))
    · refine wpS_ifn (by simpa using he) ?_
      by_cases he2 : ia + k = a.size
      · refine wpS_ifp (by simpa using he2) ?_
        refine wpS_pure (h1 _ _ _ hS' ?_)
        rw [he2] at m2 ⊢
        exact res_doneA m2
      · refine wpS_ifn (by simpa using he2) ?_
        exact wpS_loB H hk T ⟨m2, by lia, hb⟩ hS' hg2 (by lia) (fun r rest hR => h1 r rest _ hS' hR) fun out ia ib mg ac bc hM' hp' => h2 out ia ib mg ac bc _ hS' hM' hp'
  · refine wpS_ifn hk0 ?_
    exact wpS_loB H hk T hM hS' (fun i hi hi1 => hg2 i hi (by lia)) hp (fun r rest hR => h1 r rest _ hS' hR) fun out ia ib mg ac bc hM' hp' => h2 out ia ib mg ac bc _ hS' hM' hp'

theorem wpS_mergeLo {st : SortSt} {Q : Array Keyed → SortSt → Prop} (H : LtOK prog w A E s κ a₀ key) (hk : kindOf st = κ) (T : Two a₀ key a b) (h : ∀ r st', Same st st' → Res key a b r → Q r st') : wpS (model prog w) A E s (mergeLo' a b) Q st := by
  rw [mergeLo'_eq]
  have pa := T.pa
  have pb := T.pb
  refine wpS_bind (wpS_lift (wpAny_rule ⟨rfl, ?_⟩))
  refine wpS_bind (wpS_elem (by lia) ?_)
  have m0 : MI key (a.toList ++ b.toList) #[b[0]].toList (a.toList.drop 0) (b.toList.drop 1) := by
    have : MI key (a.toList ++ b.toList) (#[] : Array Keyed).toList (a.toList.drop 0) (b.toList.drop 0) := ⟨by simp, List.Pairwise.nil, by simpa using T.sa, by simpa using T.sb, fun x hx => by simp at hx, fun x hx => by simp at hx⟩
    exact mi_pushB this (by lia) fun i hi _ => T.first i hi (by lia)
  by_cases h1 : 1 = b.size
  · refine wpS_ifp (by simpa using h1) ?_
    refine wpS_pure (h _ st (Same.refl _) ?_)
    have := res_doneB (ia := 0) (h1 ▸ m0)
    rw [h1]; exact this
  · refine wpS_ifn (by simpa using h1) ?_
    by_cases h2 : 0 + 1 = a.size
    · refine wpS_ifp (by simpa using h2) ?_
      exact wpS_pure (h _ st (Same.refl _) (res_last T m0 h2))
    · refine wpS_ifn (by simpa using h2) ?_
      refine wpS_bind (wpS_get ?_)
      refine wpS_bind (wpS_mono (wpS_forRange (I := fun x c st' => Same st st' ∧ ∃ out ia ib mg, c = (none, out, ia, ib, mg) ∧ Mid key a b out ia ib ∧ x + 1 ≤ ia + ib)
        (Q := fun c st' => Same st st' ∧ ∃ r rest, c = (some r, rest) ∧ Res key a b r) ?step ?fin ⟨Same.refl _, #[b[0]], 0, 1, _, rfl, ⟨m0, by lia, by lia⟩, by lia⟩) ?post)
      case post =>
        intro c st' hX2
        refine Classical.byContradiction fun hnX => ?_
        obtain ⟨hS, r, rest, rfl, hR⟩ := hX2
        refine hnX ?_
        clear hnX
        exact wpS_pure (h r st' hS hR)
      case fin =>
        intro c st' hX2
        refine Classical.byContradiction fun hnX => ?_
        obtain ⟨hS, out, ia, ib, mg, rfl, hM, hp⟩ := hX2
        refine hnX ?_
        clear hnX
        have := hM.ha; have := hM.hb
        lia
      case step =>
        intro x c st' _ hx hX5
        refine Classical.byContradiction fun hnX => ?_
        obtain ⟨hS, out, ia, ib, mg, rfl, hM, hp⟩ := hX5
        refine hnX ?_
        clear hnX
        refine wpS_bind (wpS_mono (wpS_forRange (I := fun y c st' => Same st st' ∧ ∃ out ia' ib' ac bc, c = (none, out, ia', ib', ac, bc) ∧ Mid key a b out ia' ib' ∧ ia + ib + y ≤ ia' + ib')
          (Q := fun c st' => Same st st' ∧ ((∃ r rest, c = (some r, rest) ∧ Res key a b r) ∨ ∃ out ia' ib' ac bc, c = (none, out, ia', ib', ac, bc) ∧ Mid key a b out ia' ib' ∧ ia + ib + 1 ≤ ia' + ib')) ?step1 ?fin1 ⟨hS, out, ia, ib, 0, 0, rfl, hM, by lia⟩) ?post1)
        case fin1 =>
          intro c st' hX2
          refine Classical.byContradiction fun hnX => ?_
          obtain ⟨hS, out, ia', ib', ac, bc, rfl, hM, hp⟩ := hX2
          refine hnX ?_
          clear hnX
          exact ⟨hS, .inr ⟨out, ia', ib', ac, bc, rfl, hM, by lia⟩⟩
        case step1 =>
          intro y c st' _ hy hX5
          refine Classical.byContradiction fun hnX => ?_
          obtain ⟨hS, out, ia', ib', ac, bc, rfl, hM, hp⟩ := hX5
          refine hnX ?_
          clear hnX
          have ha := hM.ha
          have hb := hM.hb
          refine wpS_bind (wpS_elem hb (wpS_bind (wpS_elem (show ia' < a.size by lia) (wpS_bind (H _ _ (T.inb _ hb) (T.ina _ _) st' _ (hS.kind.trans hk) ?_)))))
          cases hl : T3.le (key a[ia']) (key b[ib']) with
          | false =>
            refine wpS_ifp rfl ?_
            refine wpS_bind (wpS_elem hb ?_)
            have m1 := mi_pushB hM.mi hb fun i hi h1 => le3_trans (le3_total hl) (srt_le T.sa (by lia) hi h1)
            by_cases he : ib' + 1 = b.size
            · refine wpS_ifp (by simpa using he) ?_
              refine wpS_pure ⟨hS, .inl ⟨_, _, rfl, ?_⟩⟩
              rw [he] at m1 ⊢
              exact res_doneB m1
            · refine wpS_ifn (by simpa using he) ?_
              have hM' : Mid key a b (out.push b[ib']) ia' (ib' + 1) := ⟨m1, ha, by lia⟩
              refine wpS_ifb (fun _ => ?_) (fun _ => ?_)
              · exact wpS_pure ⟨hS, .inr ⟨_, _, _, _, _, rfl, hM', by lia⟩⟩
              · exact wpS_pure ⟨hS, _, _, _, _, _, rfl, hM', by lia⟩
          | true =>
            refine wpS_ifn (fun h => Bool.noConfusion h) ?_
            refine wpS_bind (wpS_elem (show ia' < a.size by lia) ?_)
            have m1 := mi_pushA hM.mi (show ia' < a.size by lia) fun j hj h1 => le3_trans hl (srt_le T.sb hb hj h1)
            by_cases he : ia' + 1 + 1 = a.size
            · refine wpS_ifp (by simpa using he) ?_
              exact wpS_pure ⟨hS, .inl ⟨_, _, rfl, res_last T m1 he⟩⟩
            · refine wpS_ifn (by simpa using he) ?_
              have hM' : Mid key a b (out.push a[ia']) (ia' + 1) ib' := ⟨m1, by lia, hb⟩
              refine wpS_ifb (fun _ => ?_) (fun _ => ?_)
              · exact wpS_pure ⟨hS, .inr ⟨_, _, _, _, _, rfl, hM', by lia⟩⟩
              · exact wpS_pure ⟨hS, _, _, _, _, _, rfl, hM', by lia⟩
        case post1 =>
          intro c st' hX2
          refine Classical.byContradiction fun hnX => ?_
          obtain ⟨hS, hor⟩ := hX2
          refine hnX ?_
          clear hnX
          rcases hor with ⟨r, rest, rfl, hR⟩ | ⟨out, ia', ib', ac, bc, rfl, hM, hp1⟩
          · exact wpS_pure ⟨hS, r, _, rfl, hR⟩
          · skip
            refine wpS_bind (wpS_lift (wpAny_rule ⟨rfl, ?_⟩))
            refine wpS_bind (wpS_mono (wpS_forRange (I := fun y c st' => Same st st' ∧ ∃ out ia' ib' mg ac bc, c = (none, out, ia', ib', mg, ac, bc) ∧ Mid key a b out ia' ib' ∧ ia + ib + 1 ≤ ia' + ib')
              (Q := fun c st' => Same st st' ∧ ((∃ r rest, c = (some r, rest) ∧ Res key a b r) ∨ ∃ out ia' ib' mg ac bc, c = (none, out, ia', ib', mg, ac, bc) ∧ Mid key a b out ia' ib' ∧ ia + ib + 1 ≤ ia' + ib')) ?step2 ?fin2 ⟨hS, out, ia', ib', _, ac, bc, rfl, hM, hp1⟩) ?post2)
            case fin2 =>
              intro c st' hX2
              refine Classical.byContradiction fun hnX => ?_
              obtain ⟨hS, out, ia', ib', mg, ac, bc, rfl, hM, hp⟩ := hX2
              refine hnX ?_
              clear hnX
              exact ⟨hS, .inr ⟨out, ia', ib', mg, ac, bc, rfl, hM, hp⟩⟩
            case post2 =>
              intro c st' hX2
              refine Classical.byContradiction fun hnX => ?_
              obtain ⟨hS, hor⟩ := hX2
              refine hnX ?_
              clear hnX
              rcases hor with ⟨r, rest, rfl, hR⟩ | ⟨out, ia', ib', mg, ac, bc, rfl, hM, hp1⟩
              · exact wpS_pure ⟨hS, r, _, rfl, hR⟩
              · dsimp only
                rw [setMinGallop'_eq]
                exact wpS_bind (wpS_modify (wpS_pure ⟨hS.gal _, out, ia', ib', _, rfl, hM, by lia⟩))
            case step2 =>
              clear hM hp1 hS out ia' ib' ac bc
              intro y c st' _ hy hX5
              refine Classical.byContradiction fun hnX => ?_
              obtain ⟨hS, out, ia', ib', mg, ac, bc, rfl, hM, hp⟩ := hX5
              refine hnX ?_
              clear hnX
              have fin : ∀ mg', wpS (model prog w) A E s (loA a b out ia' ib' ac bc mg') (fun r st' => match r with
                  | .done c' => Same st st' ∧ ((∃ r rest, c' = (some r, rest) ∧ Res key a b r) ∨ ∃ out ia' ib' mg ac bc, c' = (none, out, ia', ib', mg, ac, bc) ∧ Mid key a b out ia' ib' ∧ ia + ib + 1 ≤ ia' + ib')
                  | .yield c' => Same st st' ∧ ∃ out ia' ib' mg ac bc, c' = (none, out, ia', ib', mg, ac, bc) ∧ Mid key a b out ia' ib' ∧ ia + ib + 1 ≤ ia' + ib') st' := fun mg' =>
                wpS_loA H hk T hM hS hp (fun r rest st2 hS2 hR => ⟨hS2, .inl ⟨r, rest, rfl, hR⟩⟩) fun out ia ib mg ac bc st2 hS2 hM2 hp2 => ⟨⟨hS2, .inr ⟨_, _, _, _, _, _, rfl, hM2, hp2⟩⟩, hS2, _, _, _, _, _, _, rfl, hM2, hp2⟩
              by_cases hg : mg > 1
              · refine wpS_ifp hg ?_; exact wpS_mono (fin (mg - 1)) fun r st2 hq => by cases r <;> exact hq
              · refine wpS_ifn hg ?_; exact wpS_mono (fin mg) fun r st2 hq => by cases r <;> exact hq
end
end Mini

/-! Merging from the high end. -/
set_option autoImplicit false
namespace Mini
open PySem PyProof.Rows

theorem mergeHi'_eq (a b : Array Keyed) : mergeHi' a b = (do
  rule "list.sort.merge-hi"
  let total := a.size + b.size
  let done (out : Array Keyed) (na nb : Nat) := a.extract 0 na ++ b.extract 0 nb ++ out.reverse
  let firstOfB (out : Array Keyed) (na nb : Nat) := b.extract 0 nb ++ a.extract 0 na ++ out.reverse
  let mut na := a.size - 1
  let mut nb := b.size
  let mut out : Array Keyed := #[← elem' a na]
  if na == 0 then return done out na nb
  if nb == 1 then return firstOfB out na nb
  let mut minGallop := gallopOf (← get)
  for _ in [0:total] do
    let mut acount := 0
    let mut bcount := 0
    for _ in [0:total] do
      let some aWins ← lt' (← elem' b (nb - 1)) (← elem' a (na - 1)) | return done out na nb
      if aWins then
        na := na - 1; out := out.push (← elem' a na); acount := acount + 1; bcount := 0
        if na == 0 then return done out na nb
        if acount ≥ minGallop then break
      else
        nb := nb - 1; out := out.push (← elem' b nb); bcount := bcount + 1; acount := 0
        if nb == 1 then return firstOfB out na nb
        if bcount ≥ minGallop then break
    rule "list.sort.gallop"
    minGallop := minGallop + 1
    for _ in [0:total] do
      if minGallop > 1 then minGallop := minGallop - 1
      setMinGallop' minGallop
      let some at_ ← gallop' false (← elem' b (nb - 1)) a 0 na (na - 1) | return done out na nb
      let k := na - at_
      acount := k
      if k > 0 then
        out := out ++ (a.extract at_ na).reverse; na := at_
        if na == 0 then return done out na nb
      nb := nb - 1; out := out.push (← elem' b nb)
      if nb == 1 then return firstOfB out na nb
      let some at_ ← gallop' true (← elem' a (na - 1)) b 0 nb (nb - 1) | return done out na nb
      let k := nb - at_
      bcount := k
      if k > 0 then
        out := out ++ (b.extract at_ nb).reverse; nb := at_
        if nb == 1 then return firstOfB out na nb
        if nb == 0 then return done out na nb
      na := na - 1; out := out.push (← elem' a na)
      if na == 0 then return done out na nb
      if acount < 7 && bcount < 7 then break
    minGallop := minGallop + 1
    setMinGallop' minGallop
  unsupported "internal:list.sort.merge-bound") := rfl

section
variable {key : Keyed → T3}
structure MJ (key : Keyed → T3) (T o ra rb : List Keyed) : Prop where
  perm : (ra ++ rb ++ o).Perm T
  so : Srt key o
  sa : Srt key ra
  sb : Srt key rb
  la : Leq key ra o
  lb : Leq key rb o
theorem MJ.takeA {T o u ra rb : List Keyed} (h : MJ key T o (ra ++ u) rb) (hu : Leq key rb u) : MJ key T (u ++ o) ra rb := by
  refine Classical.byContradiction fun hnX => ?_
  obtain ⟨s1, s2, s3⟩ := h.sa.cut
  refine hnX ?_
  clear hnX
  refine ⟨List.Perm.trans ?_ h.perm, s2.app h.so fun x hx y hy => h.la x (List.mem_append_right _ hx) y hy, s1, h.sb, fun x hx y hy => ?_, fun x hx y hy => ?_⟩
  · rw [show ra ++ rb ++ (u ++ o) = ra ++ (rb ++ u) ++ o by simp only [List.append_assoc], show ra ++ u ++ rb ++ o = ra ++ (u ++ rb) ++ o by simp only [List.append_assoc]]
    exact List.Perm.append_right _ (List.Perm.append_left _ List.perm_append_comm)
  · rcases List.mem_append.mp hy with hy | hy
    · exact s3 x hx y hy
    · exact h.la x (List.mem_append_left _ hx) y hy
  · rcases List.mem_append.mp hy with hy | hy
    · exact hu x hx y hy
    · exact h.lb x hx y hy
theorem MJ.takeB {T o u ra rb : List Keyed} (h : MJ key T o ra (rb ++ u)) (hu : Leq key ra u) : MJ key T (u ++ o) ra rb := by
  refine Classical.byContradiction fun hnX => ?_
  obtain ⟨s1, s2, s3⟩ := h.sb.cut
  refine hnX ?_
  clear hnX
  refine ⟨by simpa [List.append_assoc] using h.perm, s2.app h.so fun x hx y hy => h.lb x (List.mem_append_right _ hx) y hy, h.sa, s1, fun x hx y hy => ?_, fun x hx y hy => ?_⟩
  · rcases List.mem_append.mp hy with hy | hy
    · exact hu x hx y hy
    · exact h.la x hx y hy
  · rcases List.mem_append.mp hy with hy | hy
    · exact s3 x hx y hy
    · exact h.lb x (List.mem_append_left _ hx) y hy
theorem MJ.endA {T o rb : List Keyed} (h : MJ key T o [] rb) : (rb ++ o).Perm T ∧ Srt key (rb ++ o) := ⟨by simpa using h.perm, h.sb.app h.so h.lb⟩
theorem MJ.endB {T o ra : List Keyed} (h : MJ key T o ra []) : (ra ++ o).Perm T ∧ Srt key (ra ++ o) := ⟨by simpa using h.perm, h.sa.app h.so h.la⟩
theorem MJ.first {T o ra rb : List Keyed} (h : MJ key T o ra rb) (hu : Leq key rb ra) : (rb ++ ra ++ o).Perm T ∧ Srt key (rb ++ ra ++ o) := by
  have h' := MJ.takeA (u := ra) (ra := []) (by simpa using h) hu
  have := h'.endA
  rw [List.append_assoc]; exact this

theorem mem_take {a : Array Keyed} {n : Nat} {x : Keyed} (h : x ∈ a.toList.take n) : ∃ j, ∃ hj : j < a.size, j < n ∧ x = a[j] := by
  refine Classical.byContradiction fun hnX => ?_
  obtain ⟨k, hk, rfl⟩ := List.getElem_of_mem h
  refine hnX ?_
  clear hnX
  rw [List.length_take, Array.length_toList] at hk
  exact ⟨k, by lia, by lia, by simp⟩
theorem take_snoc {a : Array Keyed} {n : Nat} (hn : 1 ≤ n) (h : n - 1 < a.size) : a.toList.take n = a.toList.take (n - 1) ++ [a[n - 1]] := by
  have e : n = n - 1 + 1 := by exact Lin.lin [(.le (.k 1) (.v 0)), (.or (.an (.le (.k 1) (.v 0)) (.eq (.a (.v 1) (.k 1)) (.v 0))) (.an (.le (.v 0) (.k 1)) (.eq (.v 1) (.k 0))))] (.eq (.v 0) (.a (.v 1) (.k 1))) (.s (.s (.l [1, 0, 0, 1]) (.l [1, 1, 0, 1])) (.s (.l [1, 0, 0, 0, 1]) (.l [1, 0, 1, 0, 1]))) rfl [_, _] [] hn (Lin.sub_ax _ _)
  conv => lhs; rw [e]
  rw [List.take_add_one, List.getElem?_eq_getElem (by simpa using h)]
  simp
theorem take_split (a : Array Keyed) (i n : Nat) (h : i ≤ n) : a.toList.take n = a.toList.take i ++ (a.extract i n).toList := by
  rw [Array.toList_extract]
  simp only [List.extract_eq_drop_take]
  conv => lhs; rw [show n = i + (n - i) by exact Lin.lin [(.le (.v 1) (.v 0)), (.or (.an (.le (.v 1) (.v 0)) (.eq (.a (.v 2) (.v 1)) (.v 0))) (.an (.le (.v 0) (.v 1)) (.eq (.v 2) (.k 0))))] (.eq (.v 0) (.a (.v 1) (.v 2))) (.s (.s (.l [1, 0, 0, 1]) (.l [1, 1, 0, 1])) (.s (.l [1, 0, 0, 0, 1]) (.l [1, 0, 1, 0, 1]))) rfl [_, _, _] [] h (Lin.sub_ax _ _)]
  exact List.take_add
theorem extract_take (a : Array Keyed) (n : Nat) : (a.extract 0 n).toList = a.toList.take n := by
  rw [Array.toList_extract]
  simp only [List.extract_eq_drop_take, Nat.sub_zero, List.drop_zero]
theorem mem_ext {a : Array Keyed} {i n : Nat} {x : Keyed} (h : x ∈ (a.extract i n).toList) (hn : n ≤ a.size) : ∃ j, ∃ hj : j < a.size, i ≤ j ∧ j < n ∧ x = a[j] := by
  refine Classical.byContradiction fun hnX => ?_
  obtain ⟨m, hm, rfl⟩ := List.getElem_of_mem h
  refine hnX ?_
  clear hnX
  have hm' : m < n - i := by simp at hm; exact Lin.lin [(.lt (.v 0) (.v 2)), (.or (.an (.le (.v 1) (.v 3)) (.eq (.v 2) (.v 1))) (.an (.le (.v 3) (.v 1)) (.eq (.v 2) (.v 3))))] (.lt (.v 0) (.v 1)) (.s (.l [1, 1, 0, 1]) (.l [1, 1, 1, 1])) rfl [_, _, _, _] [] hm (Lin.min_ax _ _)
  exact ⟨i + m, by lia, by lia, by lia, by simp⟩
end

section
variable {prog : Program} {w : World} {A : Around} {E : Value → Shared → Prop} {s : Shared} {a₀ : Array Keyed} {κ : SortKind} {key : Keyed → T3} {a b : Array Keyed}

abbrev MJa (key : Keyed → T3) (a b out : Array Keyed) (na nb : Nat) : Prop := MJ key (a.toList ++ b.toList) out.reverse.toList (a.toList.take na) (b.toList.take nb)
structure Mih (key : Keyed → T3) (a b out : Array Keyed) (na nb : Nat) : Prop where
  mi : MJa key a b out na nb
  ha : 1 ≤ na
  hb : 2 ≤ nb
  ha' : na ≤ a.size
  hb' : nb ≤ b.size

theorem hi_done0 {out : Array Keyed} {na nb : Nat} (h : MJa key a b out na nb) (e : na = 0) : Res key a b (a.extract 0 na ++ b.extract 0 nb ++ out.reverse) := by
  subst e
  have := MJ.endA (show MJ key _ _ [] _ from h)
  unfold Res
  rw [Array.toList_append, Array.toList_append, extract_take, extract_take]
  exact this
theorem hi_doneB {out : Array Keyed} {na nb : Nat} (h : MJa key a b out na nb) (e : nb = 0) : Res key a b (a.extract 0 na ++ b.extract 0 nb ++ out.reverse) := by
  subst e
  have := MJ.endB (show MJ key _ _ _ [] from h)
  unfold Res
  rw [Array.toList_append, Array.toList_append, extract_take, extract_take]
  simpa using this
theorem hi_first {out : Array Keyed} {na nb : Nat} (T : Two a₀ key a b) (h : MJa key a b out na nb) (e : nb = 1) : Res key a b (b.extract 0 nb ++ a.extract 0 na ++ out.reverse) := by
  subst e
  unfold Res
  rw [Array.toList_append, Array.toList_append, extract_take, extract_take]
  refine h.first fun x hx y hy => ?_
  refine Classical.byContradiction fun hnX => ?_
  obtain ⟨j, hj, h1, rfl⟩ := mem_take hx
  refine hnX ?_
  clear hnX
  refine Classical.byContradiction fun hnX => ?_
  obtain ⟨i, hi, _, rfl⟩ := mem_take hy
  refine hnX ?_
  clear hnX
  have : j = 0 := by exact Lin.lin [(.lt (.v 0) (.k 1))] (.eq (.v 0) (.k 0)) (.s (.l [1]) (.l [1, 1])) rfl [_] [] h1
  subst this
  exact T.first i hi hj
theorem rev_push (out : Array Keyed) (x : Keyed) : (out.push x).reverse.toList = x :: out.reverse.toList := by simp
theorem rev_app (out u : Array Keyed) : (out ++ u.reverse).reverse.toList = u.toList ++ out.reverse.toList := by simp

theorem mj_pushA {out : Array Keyed} {na nb : Nat} (h : MJa key a b out na nb) (hn : 1 ≤ na) (ha : na - 1 < a.size) (hl : ∀ j (hj : j < b.size), j < nb → T3.le (key b[j]) (key a[na - 1]) = true) : MJa key a b (out.push a[na - 1]) (na - 1) nb := by
  unfold MJa
  rw [rev_push]
  unfold MJa at h
  rw [take_snoc hn ha] at h
  refine MJ.takeA (u := [a[na - 1]]) h fun x hx y hy => ?_
  rw [List.mem_singleton.mp hy]
  refine Classical.byContradiction fun hnX => ?_
  obtain ⟨j, hj, h1, rfl⟩ := mem_take hx
  refine hnX ?_
  clear hnX
  exact hl j hj h1
theorem mj_pushB {out : Array Keyed} {na nb : Nat} (h : MJa key a b out na nb) (hn : 1 ≤ nb) (hb : nb - 1 < b.size) (hl : ∀ j (hj : j < a.size), j < na → T3.le (key a[j]) (key b[nb - 1]) = true) : MJa key a b (out.push b[nb - 1]) na (nb - 1) := by
  unfold MJa
  rw [rev_push]
  unfold MJa at h
  rw [take_snoc hn hb] at h
  refine MJ.takeB (u := [b[nb - 1]]) h fun x hx y hy => ?_
  rw [List.mem_singleton.mp hy]
  refine Classical.byContradiction fun hnX => ?_
  obtain ⟨j, hj, h1, rfl⟩ := mem_take hx
  refine hnX ?_
  clear hnX
  exact hl j hj h1
theorem mj_runA {out : Array Keyed} {na nb m : Nat} (h : MJa key a b out na nb) (hm : m ≤ na) (ha : na ≤ a.size) (hl : ∀ j (hj : j < b.size), j < nb → ∀ i (hi : i < a.size), m ≤ i → i < na → T3.le (key b[j]) (key a[i]) = true) : MJa key a b (out ++ (a.extract m na).reverse) m nb := by
  unfold MJa
  rw [rev_app]
  unfold MJa at h
  rw [take_split a m na hm] at h
  refine MJ.takeA h fun x hx y hy => ?_
  refine Classical.byContradiction fun hnX => ?_
  obtain ⟨j, hj, h1, rfl⟩ := mem_take hx
  refine hnX ?_
  clear hnX
  refine Classical.byContradiction fun hnX => ?_
  obtain ⟨i, hi, h2, h3, rfl⟩ := mem_ext hy ha
  refine hnX ?_
  clear hnX
  exact hl j hj h1 i hi h2 h3
theorem mj_runB {out : Array Keyed} {na nb m : Nat} (h : MJa key a b out na nb) (hm : m ≤ nb) (hb : nb ≤ b.size) (hl : ∀ j (hj : j < a.size), j < na → ∀ i (hi : i < b.size), m ≤ i → i < nb → T3.le (key a[j]) (key b[i]) = true) : MJa key a b (out ++ (b.extract m nb).reverse) na m := by
  unfold MJa
  rw [rev_app]
  unfold MJa at h
  rw [take_split b m nb hm] at h
  refine MJ.takeB h fun x hx y hy => ?_
  refine Classical.byContradiction fun hnX => ?_
  obtain ⟨j, hj, h1, rfl⟩ := mem_take hx
  refine hnX ?_
  clear hnX
  refine Classical.byContradiction fun hnX => ?_
  obtain ⟨i, hi, h2, h3, rfl⟩ := mem_ext hy hb
  refine hnX ?_
  clear hnX
  exact hl j hj h1 i hi h2 h3

abbrev HiSt := Option (Array Keyed) × Nat × Nat × Array Keyed × Nat × Nat × Nat
noncomputable def hiB (a b : Array Keyed) (minGallop acount : Nat) (out : Array Keyed) (na nb bcount : Nat) : StateT SortSt Sem (ForInStep HiSt) := do
  let nb := nb - 1
  let x ← elem' b nb
  let out := out.push x
  if (nb == 1) = true then pure (.done (some (b.extract 0 nb ++ a.extract 0 na ++ out.reverse), na, nb, out, minGallop, acount, bcount))
  else do
    let y ← elem' a (na - 1)
    let z ← gallop' true y b 0 nb (nb - 1)
    match z with
    | some at_ =>
      let k := nb - at_
      let jp := fun (_ : Unit) (nb : Nat) (out : Array Keyed) => (do
        let na := na - 1
        let y ← elem' a na
        let out := out.push y
        if (na == 0) = true then pure (.done (some (a.extract 0 na ++ b.extract 0 nb ++ out.reverse), na, nb, out, minGallop, acount, k))
        else if (decide (acount < 7) && decide (k < 7)) = true then pure (.done (none, na, nb, out, minGallop, acount, k))
        else pure (.yield (none, na, nb, out, minGallop, acount, k)) : StateT SortSt Sem (ForInStep HiSt))
      if k > 0 then
        let out := out ++ (b.extract at_ nb).reverse
        let nb := at_
        if (nb == 1) = true then pure (.done (some (b.extract 0 nb ++ a.extract 0 na ++ out.reverse), na, nb, out, minGallop, acount, k))
        else if (nb == 0) = true then pure (.done (some (a.extract 0 na ++ b.extract 0 nb ++ out.reverse), na, nb, out, minGallop, acount, k))
        else jp () nb out
      else jp () nb out
    | _ => pure (.done (some (a.extract 0 na ++ b.extract 0 nb ++ out.reverse), na, nb, out, minGallop, acount, bcount))
noncomputable def hiA (a b : Array Keyed) (na nb : Nat) (out : Array Keyed) (acount bcount minGallop : Nat) : StateT SortSt Sem (ForInStep HiSt) := do
  setMinGallop' minGallop
  let x ← elem' b (nb - 1)
  let z ← gallop' false x a 0 na (na - 1)
  match z with
  | some at_ =>
    let k := na - at_
    if k > 0 then
      let out := out ++ (a.extract at_ na).reverse
      let na := at_
      if (na == 0) = true then pure (.done (some (a.extract 0 na ++ b.extract 0 nb ++ out.reverse), na, nb, out, minGallop, k, bcount))
      else hiB a b minGallop k out na nb bcount
    else hiB a b minGallop k out na nb bcount
  | _ => pure (.done (some (a.extract 0 na ++ b.extract 0 nb ++ out.reverse), na, nb, out, minGallop, acount, bcount))

theorem wpS_hiB {st st' : SortSt} {N mg ac bc : Nat} {out : Array Keyed} {na nb : Nat} {Q : ForInStep HiSt → SortSt → Prop} (H : LtOK prog w A E s κ a₀ key) (hk : kindOf st = κ) (T : Two a₀ key a b) (hM : Mih key a b out na nb) (hS : Same st st')
    (hl : ∀ j (hj : j < a.size) (hb : nb - 1 < b.size), j < na → T3.le (key a[j]) (key b[nb - 1]) = true) (hp : na + nb ≤ N)
    (h1 : ∀ r rest, Res key a b r → Q (.done (some r, rest)) st') (h2 : ∀ out na nb mg ac bc, Mih key a b out na nb → na + nb ≤ N → Q (.done (none, na, nb, out, mg, ac, bc)) st' ∧ Q (.yield (none, na, nb, out, mg, ac, bc)) st') :
    wpS (model prog w) A E s (hiB a b mg ac out na nb bc) Q st' := by
  refine Classical.byContradiction fun hnX => ?_
  obtain ⟨hmi, ha, hb, ha', hb'⟩ := hM
  refine hnX ?_
  clear hnX
  unfold hiB
  refine wpS_bind (wpS_elem (show nb - 1 < b.size by exact Lin.lin [(.le (.k 2) (.v 2)), (.le (.v 2) (.v 1)), (.or (.an (.le (.k 1) (.v 2)) (.eq (.a (.v 0) (.k 1)) (.v 2))) (.an (.le (.v 2) (.k 1)) (.eq (.v 0) (.k 0))))] (.lt (.v 0) (.v 1)) (.s (.l [1, 0, 1, 0, 1]) (.l [0, 1, 0, 1])) rfl [_, _, _] [] hb hb' (Lin.sub_ax _ _)) ?_)
  have m1 := mj_pushB hmi (by exact Lin.lin [(.le (.k 2) (.v 0))] (.le (.k 1) (.v 0)) (.l [1, 1]) rfl [_] [] hb) (show nb - 1 < b.size by exact Lin.lin [(.le (.k 2) (.v 2)), (.le (.v 2) (.v 1)), (.or (.an (.le (.k 1) (.v 2)) (.eq (.a (.v 0) (.k 1)) (.v 2))) (.an (.le (.v 2) (.k 1)) (.eq (.v 0) (.k 0))))] (.lt (.v 0) (.v 1)) (.s (.l [1, 0, 1, 0, 1]) (.l [0, 1, 0, 1])) rfl [_, _, _] [] hb hb' (Lin.sub_ax _ _)) fun j hj h => hl j hj (by exact Lin.lin [(.le (.k 2) (.v 2)), (.le (.v 2) (.v 1)), (.or (.an (.le (.k 1) (.v 2)) (.eq (.a (.v 0) (.k 1)) (.v 2))) (.an (.le (.v 2) (.k 1)) (.eq (.v 0) (.k 0))))] (.lt (.v 0) (.v 1)) (.s (.l [1, 0, 1, 0, 1]) (.l [0, 1, 0, 1])) rfl [_, _, _] [] hb hb' (Lin.sub_ax _ _)) h
  by_cases he : nb - 1 = 1
  · refine wpS_ifp (by simpa using he) ?_
    refine wpS_pure (h1 _ _ ?_)
    exact hi_first T m1 he
  · refine wpS_ifn (by simpa using he) ?_
    refine wpS_bind (wpS_elem (show na - 1 < a.size by exact Lin.lin [(.le (.k 1) (.v 2)), (.le (.v 2) (.v 1)), (.or (.an (.le (.k 1) (.v 2)) (.eq (.a (.v 0) (.k 1)) (.v 2))) (.an (.le (.v 2) (.k 1)) (.eq (.v 0) (.k 0))))] (.lt (.v 0) (.v 1)) (.s (.l [1, 0, 1, 0, 1]) (.l [1, 1, 1, 0, 1])) rfl [_, _, _] [] ha ha' (Lin.sub_ax _ _)) (wpS_bind (wpS_gallop H (hS.kind.trans hk) (T.ina _ _) T.inb (by exact Lin.lin [(.le (.v 2) (.v 1)), (.or (.an (.le (.k 1) (.v 2)) (.eq (.a (.v 0) (.k 1)) (.v 2))) (.an (.le (.v 2) (.k 1)) (.eq (.v 0) (.k 0))))] (.le (.a (.k 0) (.v 0)) (.v 1)) (.s (.l [1, 1, 0, 1]) (.l [1, 1, 0, 1])) rfl [_, _, _] [] hb' (Lin.sub_ax _ _)) (srt_sub T.sb (by exact Lin.lin [(.le (.v 2) (.v 1)), (.or (.an (.le (.k 1) (.v 2)) (.eq (.a (.v 0) (.k 1)) (.v 2))) (.an (.le (.v 2) (.k 1)) (.eq (.v 0) (.k 0))))] (.le (.a (.k 0) (.v 0)) (.v 1)) (.s (.l [1, 1, 0, 1]) (.l [1, 1, 0, 1])) rfl [_, _, _] [] hb' (Lin.sub_ax _ _))) (by exact Lin.lin [(.le (.k 2) (.v 2)), (.or (.an (.le (.k 1) (.v 1)) (.eq (.a (.v 0) (.k 1)) (.v 1))) (.an (.le (.v 1) (.k 1)) (.eq (.v 0) (.k 0)))), (.or (.an (.le (.k 1) (.v 2)) (.eq (.a (.v 1) (.k 1)) (.v 2))) (.an (.le (.v 2) (.k 1)) (.eq (.v 1) (.k 0))))] (.lt (.v 0) (.v 1)) (.s (.s (.l [1, 0, 0, 1]) (.l [1, 0, 0, 1])) (.s (.l [1, 1, 0, 1, 0, 0, 0, 1]) (.l [0, 1, 0, 0, 0, 1]))) rfl [_, _, _] [] hb (Lin.sub_ax _ _) (Lin.sub_ax _ _)) fun m hmn g1 g2 => ?_)))
    simp only [if_true, Nat.zero_add] at g1 g2
    have fin : ∀ (out : Array Keyed) (nb' : Nat), MJa key a b out na nb' → 2 ≤ nb' → nb' = m → nb' ≤ nb - 1 → wpS (model prog w) A E s (do
        let y ← elem' a (na - 1)
        if (na - 1 == 0) = true then pure (.done (some (a.extract 0 (na - 1) ++ b.extract 0 nb' ++ (out.push y).reverse), na - 1, nb', out.push y, mg, ac, nb - 1 - m))
        else if (decide (ac < 7) && decide (nb - 1 - m < 7)) = true then pure (.done (none, na - 1, nb', out.push y, mg, ac, nb - 1 - m))
        else pure (.yield (none, na - 1, nb', out.push y, mg, ac, nb - 1 - m)) : StateT SortSt Sem (ForInStep HiSt)) Q st' := by
      intro out nb' m2 hb2 hnb hle
      refine wpS_bind (wpS_elem (show na - 1 < a.size by exact Lin.lin [(.le (.k 1) (.v 2)), (.le (.v 2) (.v 1)), (.or (.an (.le (.k 1) (.v 2)) (.eq (.a (.v 0) (.k 1)) (.v 2))) (.an (.le (.v 2) (.k 1)) (.eq (.v 0) (.k 0))))] (.lt (.v 0) (.v 1)) (.s (.l [1, 0, 1, 0, 1]) (.l [1, 1, 1, 0, 1])) rfl [_, _, _] [] ha ha' (Lin.sub_ax _ _)) ?_)
      have m3 := mj_pushA m2 ha (show na - 1 < a.size by exact Lin.lin [(.le (.k 1) (.v 2)), (.le (.v 2) (.v 1)), (.or (.an (.le (.k 1) (.v 2)) (.eq (.a (.v 0) (.k 1)) (.v 2))) (.an (.le (.v 2) (.k 1)) (.eq (.v 0) (.k 0))))] (.lt (.v 0) (.v 1)) (.s (.l [1, 0, 1, 0, 1]) (.l [1, 1, 1, 0, 1])) rfl [_, _, _] [] ha ha' (Lin.sub_ax _ _)) fun j hj hj1 => by
        have := g1 j (by exact Lin.lin [(.eq (.v 2) (.v 1)), (.lt (.v 0) (.v 2))] (.lt (.v 0) (.v 1)) (.l [1, 1, 0, 1]) rfl [_, _, _] [] hnb hj1)
        rw [KS_get hj] at this
        exact le3_total (by simpa using this)
      by_cases he2 : na - 1 = 0
      · refine wpS_ifp (by simpa using he2) ?_
        refine wpS_pure (h1 _ _ ?_)
        exact hi_done0 m3 he2
      · refine wpS_ifn (by simpa using he2) ?_
        have hM' : Mih key a b (out.push a[na - 1]) (na - 1) nb' := ⟨m3, by exact Lin.lin [(.no (.eq (.v 0) (.k 0)))] (.le (.k 1) (.v 0)) (.s (.l [0, 1]) (.l [1, 1])) rfl [_] [] he2, hb2, by exact Lin.lin [(.le (.v 2) (.v 1)), (.or (.an (.le (.k 1) (.v 2)) (.eq (.a (.v 0) (.k 1)) (.v 2))) (.an (.le (.v 2) (.k 1)) (.eq (.v 0) (.k 0))))] (.le (.v 0) (.v 1)) (.s (.l [1, 1, 0, 1]) (.l [1, 1, 0, 1])) rfl [_, _, _] [] ha' (Lin.sub_ax _ _), by exact Lin.lin [(.le (.v 2) (.v 1)), (.le (.v 3) (.v 4)), (.eq (.v 0) (.v 3)), (.or (.an (.le (.k 1) (.v 2)) (.eq (.a (.v 4) (.k 1)) (.v 2))) (.an (.le (.v 2) (.k 1)) (.eq (.v 4) (.k 0))))] (.le (.v 0) (.v 1)) (.s (.l [1, 1, 1, 1, 0, 0, 1]) (.l [1, 0, 1, 1, 0, 0, 1])) rfl [_, _, _, _, _] [] hb' hmn hnb (Lin.sub_ax _ _)⟩
        refine wpS_ifb (fun _ => ?_) (fun _ => ?_)
        · exact wpS_pure (h2 _ _ _ _ _ _ hM' (by exact Lin.lin [(.le (.a (.v 3) (.v 4)) (.v 2)), (.le (.v 5) (.v 6)), (.eq (.v 1) (.v 5)), (.or (.an (.le (.k 1) (.v 4)) (.eq (.a (.v 6) (.k 1)) (.v 4))) (.an (.le (.v 4) (.k 1)) (.eq (.v 6) (.k 0)))), (.or (.an (.le (.k 1) (.v 3)) (.eq (.a (.v 0) (.k 1)) (.v 3))) (.an (.le (.v 3) (.k 1)) (.eq (.v 0) (.k 0))))] (.le (.a (.v 0) (.v 1)) (.v 2)) (.s (.s (.l [1, 1, 1, 1, 0, 0, 1, 0, 0, 1]) (.l [1, 1, 1, 1, 0, 0, 1, 0, 0, 1])) (.s (.l [1, 1, 1, 1, 0, 0, 1, 0, 0, 1]) (.l [1, 0, 1, 1, 0, 0, 1, 0, 0, 1]))) rfl [_, _, _, _, _, _, _] [] hp hmn hnb (Lin.sub_ax _ _) (Lin.sub_ax _ _))).1
        · exact wpS_pure (h2 _ _ _ _ _ _ hM' (by exact Lin.lin [(.le (.a (.v 3) (.v 4)) (.v 2)), (.le (.v 5) (.v 6)), (.eq (.v 1) (.v 5)), (.or (.an (.le (.k 1) (.v 4)) (.eq (.a (.v 6) (.k 1)) (.v 4))) (.an (.le (.v 4) (.k 1)) (.eq (.v 6) (.k 0)))), (.or (.an (.le (.k 1) (.v 3)) (.eq (.a (.v 0) (.k 1)) (.v 3))) (.an (.le (.v 3) (.k 1)) (.eq (.v 0) (.k 0))))] (.le (.a (.v 0) (.v 1)) (.v 2)) (.s (.s (.l [1, 1, 1, 1, 0, 0, 1, 0, 0, 1]) (.l [1, 1, 1, 1, 0, 0, 1, 0, 0, 1])) (.s (.l [1, 1, 1, 1, 0, 0, 1, 0, 0, 1]) (.l [1, 0, 1, 1, 0, 0, 1, 0, 0, 1]))) rfl [_, _, _, _, _, _, _] [] hp hmn hnb (Lin.sub_ax _ _) (Lin.sub_ax _ _))).2
    by_cases hk0 : nb - 1 - m > 0
    · refine wpS_ifp hk0 ?_
      have m2 := mj_runB (m := m) m1 (by exact Lin.lin [(.le (.v 0) (.v 1))] (.le (.v 0) (.v 1)) (.l [1, 1]) rfl [_, _] [] hmn) (by exact Lin.lin [(.le (.v 2) (.v 1)), (.or (.an (.le (.k 1) (.v 2)) (.eq (.a (.v 0) (.k 1)) (.v 2))) (.an (.le (.v 2) (.k 1)) (.eq (.v 0) (.k 0))))] (.le (.v 0) (.v 1)) (.s (.l [1, 1, 0, 1]) (.l [1, 1, 0, 1])) rfl [_, _, _] [] hb' (Lin.sub_ax _ _)) fun j hj hj1 i hi hi1 hi2 => by
        have := g2 i hi1 hi2
        rw [KS_get hi] at this
        exact le3_trans (srt_le T.sa hj (show na - 1 < a.size by exact Lin.lin [(.le (.k 1) (.v 2)), (.le (.v 2) (.v 1)), (.or (.an (.le (.k 1) (.v 2)) (.eq (.a (.v 0) (.k 1)) (.v 2))) (.an (.le (.v 2) (.k 1)) (.eq (.v 0) (.k 0))))] (.lt (.v 0) (.v 1)) (.s (.l [1, 0, 1, 0, 1]) (.l [1, 1, 1, 0, 1])) rfl [_, _, _] [] ha ha' (Lin.sub_ax _ _)) (by exact Lin.lin [(.lt (.v 0) (.v 2)), (.or (.an (.le (.k 1) (.v 2)) (.eq (.a (.v 1) (.k 1)) (.v 2))) (.an (.le (.v 2) (.k 1)) (.eq (.v 1) (.k 0))))] (.le (.v 0) (.v 1)) (.s (.l [1, 1, 0, 0, 1]) (.l [1, 1, 1, 0, 1])) rfl [_, _, _] [] hj1 (Lin.sub_ax _ _))) (by simpa using this)
      by_cases he2 : m = 1
      · refine wpS_ifp (by simpa using he2) ?_
        refine wpS_pure (h1 _ _ ?_)
        exact hi_first T m2 he2
      · refine wpS_ifn (by simpa using he2) ?_
        by_cases he3 : m = 0
        · refine wpS_ifp (by simpa using he3) ?_
          refine wpS_pure (h1 _ _ ?_)
          exact hi_doneB m2 he3
        · refine wpS_ifn (by simpa using he3) ?_
          exact fin _ _ m2 (by exact Lin.lin [(.no (.eq (.v 0) (.k 1))), (.no (.eq (.v 0) (.k 0)))] (.le (.k 2) (.v 0)) (.s (.s (.l [0, 0, 1]) (.l [0, 1, 1])) (.s (.l [1, 1]) (.l [1, 1]))) rfl [_] [] he2 he3) rfl (by exact Lin.lin [(.le (.v 0) (.v 1))] (.le (.v 0) (.v 1)) (.l [1, 1]) rfl [_, _] [] hmn)
    · refine wpS_ifn hk0 ?_
      exact fin _ _ m1 (by exact Lin.lin [(.le (.k 2) (.v 1)), (.no (.eq (.v 0) (.k 1))), (.or (.an (.le (.k 1) (.v 1)) (.eq (.a (.v 0) (.k 1)) (.v 1))) (.an (.le (.v 1) (.k 1)) (.eq (.v 0) (.k 0))))] (.le (.k 2) (.v 0)) (.s (.s (.l [0, 1, 1, 0, 0, 1]) (.l [0, 1, 0, 1])) (.s (.l [1, 0, 1]) (.l [1, 0, 1]))) rfl [_, _] [] hb he (Lin.sub_ax _ _)) (by exact Lin.lin [(.le (.v 1) (.v 0)), (.no (.lt (.k 0) (.v 2))), (.or (.an (.le (.v 1) (.v 0)) (.eq (.a (.v 2) (.v 1)) (.v 0))) (.an (.le (.v 0) (.v 1)) (.eq (.v 2) (.k 0))))] (.eq (.v 0) (.v 1)) (.s (.s (.l [1, 1]) (.l [1, 1])) (.s (.l [1, 0, 1, 0, 0, 1]) (.l [1, 0, 0, 1]))) rfl [_, _, _] [] hmn hk0 (Lin.sub_ax _ _)) (by exact Lin.lin [] (.le (.v 0) (.v 0)) (.l [1]) rfl [_] [])

theorem wpS_hiA {st st' : SortSt} {N mg ac bc : Nat} {out : Array Keyed} {na nb : Nat} {Q : ForInStep HiSt → SortSt → Prop} (H : LtOK prog w A E s κ a₀ key) (hk : kindOf st = κ) (T : Two a₀ key a b) (hM : Mih key a b out na nb) (hS : Same st st') (hp : na + nb ≤ N)
    (h1 : ∀ r rest st', Same st st' → Res key a b r → Q (.done (some r, rest)) st') (h2 : ∀ out na nb mg ac bc st', Same st st' → Mih key a b out na nb → na + nb ≤ N → Q (.done (none, na, nb, out, mg, ac, bc)) st' ∧ Q (.yield (none, na, nb, out, mg, ac, bc)) st') :
    wpS (model prog w) A E s (hiA a b na nb out ac bc mg) Q st' := by
  have hM0 := hM
  refine Classical.byContradiction fun hnX => ?_
  obtain ⟨hmi, ha, hb, ha', hb'⟩ := hM
  refine hnX ?_
  clear hnX
  unfold hiA
  rw [setMinGallop'_eq]
  refine wpS_bind (wpS_modify ?_)
  have hS' := hS.gal mg
  refine wpS_bind (wpS_elem (show nb - 1 < b.size by exact Lin.lin [(.le (.k 2) (.v 2)), (.le (.v 2) (.v 1)), (.or (.an (.le (.k 1) (.v 2)) (.eq (.a (.v 0) (.k 1)) (.v 2))) (.an (.le (.v 2) (.k 1)) (.eq (.v 0) (.k 0))))] (.lt (.v 0) (.v 1)) (.s (.l [1, 0, 1, 0, 1]) (.l [0, 1, 0, 1])) rfl [_, _, _] [] hb hb' (Lin.sub_ax _ _)) (wpS_bind (wpS_gallop H (hS'.kind.trans hk) (T.inb _ _) T.ina (by exact Lin.lin [(.le (.v 0) (.v 1))] (.le (.a (.k 0) (.v 0)) (.v 1)) (.l [1, 1]) rfl [_, _] [] ha') (srt_sub T.sa (by exact Lin.lin [(.le (.v 0) (.v 1))] (.le (.a (.k 0) (.v 0)) (.v 1)) (.l [1, 1]) rfl [_, _] [] ha')) (by exact Lin.lin [(.le (.k 1) (.v 1)), (.or (.an (.le (.k 1) (.v 1)) (.eq (.a (.v 0) (.k 1)) (.v 1))) (.an (.le (.v 1) (.k 1)) (.eq (.v 0) (.k 0))))] (.lt (.v 0) (.v 1)) (.s (.l [1, 0, 0, 1]) (.l [1, 1, 0, 1])) rfl [_, _] [] ha (Lin.sub_ax _ _)) fun m hmn g1 g2 => ?_)))
  simp only [Bool.false_eq_true, if_false, Nat.zero_add] at g1 g2
  have hg1 : ∀ j (hj : j < a.size) (hb : nb - 1 < b.size), j < m → T3.le (key a[j]) (key b[nb - 1]) = true := fun j hj _ hj1 => by
    have := g1 j hj1
    rwa [KS_get hj] at this
  by_cases hk0 : na - m > 0
  · refine wpS_ifp hk0 ?_
    have m2 := mj_runA (m := m) hmi (by exact Lin.lin [(.le (.v 0) (.v 1))] (.le (.v 0) (.v 1)) (.l [1, 1]) rfl [_, _] [] hmn) ha' fun j hj hj1 i hi hi1 hi2 => by
      have := g2 i hi1 hi2
      rw [KS_get hi] at this
      exact le3_trans (srt_le T.sb hj (show nb - 1 < b.size by exact Lin.lin [(.le (.k 2) (.v 2)), (.le (.v 2) (.v 1)), (.or (.an (.le (.k 1) (.v 2)) (.eq (.a (.v 0) (.k 1)) (.v 2))) (.an (.le (.v 2) (.k 1)) (.eq (.v 0) (.k 0))))] (.lt (.v 0) (.v 1)) (.s (.l [1, 0, 1, 0, 1]) (.l [0, 1, 0, 1])) rfl [_, _, _] [] hb hb' (Lin.sub_ax _ _)) (by exact Lin.lin [(.lt (.v 0) (.v 2)), (.or (.an (.le (.k 1) (.v 2)) (.eq (.a (.v 1) (.k 1)) (.v 2))) (.an (.le (.v 2) (.k 1)) (.eq (.v 1) (.k 0))))] (.le (.v 0) (.v 1)) (.s (.l [1, 1, 0, 0, 1]) (.l [1, 1, 1, 0, 1])) rfl [_, _, _] [] hj1 (Lin.sub_ax _ _))) (le3_total this)
    by_cases he : m = 0
    · refine wpS_ifp (by simpa using he) ?_
      refine wpS_pure (h1 _ _ _ hS' ?_)
      exact hi_done0 m2 he
    · refine wpS_ifn (by simpa using he) ?_
      exact wpS_hiB H hk T ⟨m2, by exact Lin.lin [(.no (.eq (.v 0) (.k 0)))] (.le (.k 1) (.v 0)) (.s (.l [0, 1]) (.l [1, 1])) rfl [_] [] he, hb, by exact Lin.lin [(.le (.v 2) (.v 1)), (.le (.v 0) (.v 2))] (.le (.v 0) (.v 1)) (.l [1, 1, 1]) rfl [_, _, _] [] ha' hmn, hb'⟩ hS' hg1 (by exact Lin.lin [(.le (.a (.v 3) (.v 1)) (.v 2)), (.le (.v 0) (.v 3))] (.le (.a (.v 0) (.v 1)) (.v 2)) (.l [1, 1, 1]) rfl [_, _, _, _] [] hp hmn) (fun r rest hR => h1 r rest _ hS' hR) fun out na nb mg ac bc hM' hp' => h2 out na nb mg ac bc _ hS' hM' hp'
  · refine wpS_ifn hk0 ?_
    exact wpS_hiB H hk T hM0 hS' (fun j hj hb hj1 => hg1 j hj hb (by exact Lin.lin [(.no (.lt (.k 0) (.v 2))), (.lt (.v 0) (.v 3)), (.or (.an (.le (.v 1) (.v 3)) (.eq (.a (.v 2) (.v 1)) (.v 3))) (.an (.le (.v 3) (.v 1)) (.eq (.v 2) (.k 0))))] (.lt (.v 0) (.v 1)) (.s (.l [1, 1, 1, 0, 0, 1]) (.l [1, 0, 1, 1])) rfl [_, _, _, _] [] hk0 hj1 (Lin.sub_ax _ _))) hp (fun r rest hR => h1 r rest _ hS' hR) fun out na nb mg ac bc hM' hp' => h2 out na nb mg ac bc _ hS' hM' hp'

theorem wpS_mergeHi {st : SortSt} {Q : Array Keyed → SortSt → Prop} (H : LtOK prog w A E s κ a₀ key) (hk : kindOf st = κ) (T : Two a₀ key a b) (h : ∀ r st', Same st st' → Res key a b r → Q r st') : wpS (model prog w) A E s (mergeHi' a b) Q st := by
  rw [mergeHi'_eq]
  have pa := T.pa
  have pb := T.pb
  refine wpS_bind (wpS_lift (wpAny_rule ⟨rfl, ?_⟩))
  refine wpS_bind (wpS_elem (show a.size - 1 < a.size by exact Lin.lin [(.le (.k 1) (.v 1)), (.or (.an (.le (.k 1) (.v 1)) (.eq (.a (.v 0) (.k 1)) (.v 1))) (.an (.le (.v 1) (.k 1)) (.eq (.v 0) (.k 0))))] (.lt (.v 0) (.v 1)) (.s (.l [1, 0, 0, 1]) (.l [1, 1, 0, 1])) rfl [_, _] [] pa (Lin.sub_ax _ _)) ?_)
  have m0 : MJa key a b #[a[a.size - 1]] (a.size - 1) b.size := by
    have : MJa key a b #[] a.size b.size := by
      unfold MJa
      rw [List.take_of_length_le (l := a.toList) (by simp), List.take_of_length_le (l := b.toList) (by simp)]
      exact ⟨by simp, List.Pairwise.nil, T.sa, T.sb, fun x hx y hy => by simp at hy, fun x hx y hy => by simp at hy⟩
    exact mj_pushA this pa (by exact Lin.lin [(.le (.k 1) (.v 1)), (.or (.an (.le (.k 1) (.v 1)) (.eq (.a (.v 0) (.k 1)) (.v 1))) (.an (.le (.v 1) (.k 1)) (.eq (.v 0) (.k 0))))] (.lt (.v 0) (.v 1)) (.s (.l [1, 0, 0, 1]) (.l [1, 1, 0, 1])) rfl [_, _] [] pa (Lin.sub_ax _ _)) fun j hj _ => T.last j hj (by exact Lin.lin [(.le (.k 1) (.v 1)), (.or (.an (.le (.k 1) (.v 1)) (.eq (.a (.v 0) (.k 1)) (.v 1))) (.an (.le (.v 1) (.k 1)) (.eq (.v 0) (.k 0))))] (.lt (.v 0) (.v 1)) (.s (.l [1, 0, 0, 1]) (.l [1, 1, 0, 1])) rfl [_, _] [] pa (Lin.sub_ax _ _))
  by_cases h1 : a.size - 1 = 0
  · refine wpS_ifp (by simpa using h1) ?_
    refine wpS_pure (h _ st (Same.refl _) ?_)
    exact hi_done0 m0 h1
  · refine wpS_ifn (by simpa using h1) ?_
    by_cases h2 : b.size = 1
    · refine wpS_ifp (by simpa using h2) ?_
      refine wpS_pure (h _ st (Same.refl _) ?_)
      exact hi_first T m0 h2
    · refine wpS_ifn (by simpa using h2) ?_
      refine wpS_bind (wpS_get ?_)
      refine wpS_bind (wpS_mono (wpS_forRange (I := fun x c st' => Same st st' ∧ ∃ na nb out mg, c = (none, na, nb, out, mg) ∧ Mih key a b out na nb ∧ x + na + nb < a.size + b.size)
        (Q := fun c st' => Same st st' ∧ ∃ r rest, c = (some r, rest) ∧ Res key a b r) ?step ?fin ⟨Same.refl _, a.size - 1, b.size, #[a[a.size - 1]], _, rfl, ⟨m0, by exact Lin.lin [(.no (.eq (.v 0) (.k 0)))] (.le (.k 1) (.v 0)) (.s (.l [0, 1]) (.l [1, 1])) rfl [_] [] h1, by exact Lin.lin [(.le (.k 1) (.v 0)), (.no (.eq (.v 0) (.k 1)))] (.le (.k 2) (.v 0)) (.s (.l [0, 1, 1]) (.l [1, 0, 1])) rfl [_] [] pb h2, by exact Lin.lin [(.or (.an (.le (.k 1) (.v 1)) (.eq (.a (.v 0) (.k 1)) (.v 1))) (.an (.le (.v 1) (.k 1)) (.eq (.v 0) (.k 0))))] (.le (.v 0) (.v 1)) (.s (.l [1, 0, 1]) (.l [1, 0, 1])) rfl [_, _] [] (Lin.sub_ax _ _), by exact Lin.lin [] (.le (.v 0) (.v 0)) (.l [1]) rfl [_] []⟩, by exact Lin.lin [(.le (.k 1) (.v 2)), (.or (.an (.le (.k 1) (.v 2)) (.eq (.a (.v 0) (.k 1)) (.v 2))) (.an (.le (.v 2) (.k 1)) (.eq (.v 0) (.k 0))))] (.lt (.a (.a (.k 0) (.v 0)) (.v 1)) (.a (.v 2) (.v 1))) (.s (.l [1, 0, 0, 1]) (.l [1, 1, 0, 1])) rfl [_, _, _] [] pa (Lin.sub_ax _ _)⟩) ?post)
      case post =>
        intro c st' hX2
        refine Classical.byContradiction fun hnX => ?_
        obtain ⟨hS, r, rest, rfl, hR⟩ := hX2
        refine hnX ?_
        clear hnX
        exact wpS_pure (h r st' hS hR)
      case fin =>
        intro c st' hX2
        refine Classical.byContradiction fun hnX => ?_
        obtain ⟨hS, na, nb, out, mg, rfl, hM, hp⟩ := hX2
        refine hnX ?_
        clear hnX
        lia
      case step =>
        intro x c st' _ hx hX5
        refine Classical.byContradiction fun hnX => ?_
        obtain ⟨hS, na, nb, out, mg, rfl, hM, hp⟩ := hX5
        refine hnX ?_
        clear hnX
        refine wpS_bind (wpS_mono (wpS_forRange (I := fun y c st' => Same st st' ∧ ∃ na' nb' out ac bc, c = (none, na', nb', out, ac, bc) ∧ Mih key a b out na' nb' ∧ na' + nb' + y ≤ na + nb)
          (Q := fun c st' => Same st st' ∧ ((∃ r rest, c = (some r, rest) ∧ Res key a b r) ∨ ∃ na' nb' out ac bc, c = (none, na', nb', out, ac, bc) ∧ Mih key a b out na' nb' ∧ na' + nb' + 1 ≤ na + nb)) ?step1 ?fin1 ⟨hS, na, nb, out, 0, 0, rfl, hM, by exact Lin.lin [] (.le (.a (.a (.v 0) (.v 1)) (.k 0)) (.a (.v 0) (.v 1))) (.l [1]) rfl [_, _] []⟩) ?post1)
        case fin1 =>
          intro c st' hX2
          refine Classical.byContradiction fun hnX => ?_
          obtain ⟨hS, na', nb', out, ac, bc, rfl, hM, hp⟩ := hX2
          refine hnX ?_
          clear hnX
          exact ⟨hS, .inr ⟨na', nb', out, ac, bc, rfl, hM, by exact Lin.lin [(.le (.k 1) (.v 4)), (.le (.a (.a (.v 0) (.v 1)) (.v 5)) (.a (.v 2) (.v 3))), (.or (.an (.le (.k 0) (.a (.v 6) (.v 4))) (.eq (.v 5) (.a (.v 6) (.v 4)))) (.an (.le (.a (.v 6) (.v 4)) (.k 0)) (.eq (.v 5) (.k 0))))] (.le (.a (.a (.v 0) (.v 1)) (.k 1)) (.a (.v 2) (.v 3))) (.s (.l [1, 1, 1, 0, 0, 1]) (.l [0, 1, 0, 1])) rfl [_, _, _, _, _, _, _] [] pb hp (Lin.max_ax _ _)⟩⟩
        case step1 =>
          clear hM
          intro y c st' _ hy hX5
          refine Classical.byContradiction fun hnX => ?_
          obtain ⟨hS, na', nb', out, ac, bc, rfl, hM, hp⟩ := hX5
          refine hnX ?_
          clear hnX
          refine Classical.byContradiction fun hnX => ?_
          obtain ⟨hmi, ha, hb, ha', hb'⟩ := hM
          refine hnX ?_
          clear hnX
          have la : na' - 1 < a.size := by exact Lin.lin [(.le (.k 1) (.v 1)), (.le (.v 2) (.v 1)), (.or (.an (.le (.k 1) (.v 2)) (.eq (.a (.v 0) (.k 1)) (.v 2))) (.an (.le (.v 2) (.k 1)) (.eq (.v 0) (.k 0))))] (.lt (.v 0) (.v 1)) (.s (.l [1, 0, 1, 0, 1]) (.l [1, 1, 0, 0, 1])) rfl [_, _, _] [] pa ha' (Lin.sub_ax _ _)
          have lb : nb' - 1 < b.size := by exact Lin.lin [(.le (.k 2) (.v 2)), (.le (.v 2) (.v 1)), (.or (.an (.le (.k 1) (.v 2)) (.eq (.a (.v 0) (.k 1)) (.v 2))) (.an (.le (.v 2) (.k 1)) (.eq (.v 0) (.k 0))))] (.lt (.v 0) (.v 1)) (.s (.l [1, 0, 1, 0, 1]) (.l [0, 1, 0, 1])) rfl [_, _, _] [] hb hb' (Lin.sub_ax _ _)
          refine wpS_bind (wpS_elem lb (wpS_bind (wpS_elem la (wpS_bind (H _ _ (T.inb _ lb) (T.ina _ la) st' _ (hS.kind.trans hk) ?_)))))
          cases hl : T3.le (key a[na' - 1]) (key b[nb' - 1]) with
          | false =>
            refine wpS_ifp rfl ?_
            refine wpS_bind (wpS_elem la ?_)
            have m1 := mj_pushA hmi ha la fun j hj hj1 => le3_trans (srt_le T.sb hj lb (by exact Lin.lin [(.lt (.v 0) (.v 2)), (.or (.an (.le (.k 1) (.v 2)) (.eq (.a (.v 1) (.k 1)) (.v 2))) (.an (.le (.v 2) (.k 1)) (.eq (.v 1) (.k 0))))] (.le (.v 0) (.v 1)) (.s (.l [1, 1, 0, 0, 1]) (.l [1, 1, 1, 0, 1])) rfl [_, _, _] [] hj1 (Lin.sub_ax _ _))) (le3_total hl)
            by_cases he : na' - 1 = 0
            · refine wpS_ifp (by simpa using he) ?_
              refine wpS_pure ⟨hS, .inl ⟨_, _, rfl, ?_⟩⟩
              exact hi_done0 m1 he
            · refine wpS_ifn (by simpa using he) ?_
              have hM' : Mih key a b (out.push a[na' - 1]) (na' - 1) nb' := ⟨m1, by exact Lin.lin [(.no (.eq (.v 0) (.k 0)))] (.le (.k 1) (.v 0)) (.s (.l [0, 1]) (.l [1, 1])) rfl [_] [] he, hb, by exact Lin.lin [(.lt (.v 0) (.v 1))] (.le (.v 0) (.v 1)) (.l [1, 1]) rfl [_, _] [] la, hb'⟩
              refine wpS_ifb (fun _ => ?_) (fun _ => ?_)
              · exact wpS_pure ⟨hS, .inr ⟨_, _, _, _, _, rfl, hM', by exact Lin.lin [(.le (.a (.a (.v 4) (.v 1)) (.v 5)) (.a (.v 2) (.v 3))), (.le (.k 1) (.v 4)), (.or (.an (.le (.k 1) (.v 4)) (.eq (.a (.v 0) (.k 1)) (.v 4))) (.an (.le (.v 4) (.k 1)) (.eq (.v 0) (.k 0))))] (.le (.a (.a (.v 0) (.v 1)) (.k 1)) (.a (.v 2) (.v 3))) (.s (.l [1, 1, 0, 0, 1]) (.l [1, 1, 1, 0, 1])) rfl [_, _, _, _, _, _] [] hp ha (Lin.sub_ax _ _)⟩⟩
              · exact wpS_pure ⟨hS, _, _, _, _, _, rfl, hM', by exact Lin.lin [(.le (.a (.a (.v 5) (.v 1)) (.v 2)) (.a (.v 3) (.v 4))), (.le (.k 1) (.v 5)), (.or (.an (.le (.k 1) (.v 5)) (.eq (.a (.v 0) (.k 1)) (.v 5))) (.an (.le (.v 5) (.k 1)) (.eq (.v 0) (.k 0))))] (.le (.a (.a (.v 0) (.v 1)) (.a (.v 2) (.k 1))) (.a (.v 3) (.v 4))) (.s (.l [1, 1, 0, 0, 1]) (.l [1, 1, 1, 0, 1])) rfl [_, _, _, _, _, _] [] hp ha (Lin.sub_ax _ _)⟩
          | true =>
            refine wpS_ifn (fun h => Bool.noConfusion h) ?_
            refine wpS_bind (wpS_elem lb ?_)
            have m1 := mj_pushB hmi (by exact Lin.lin [(.le (.k 2) (.v 0))] (.le (.k 1) (.v 0)) (.l [1, 1]) rfl [_] [] hb) lb fun j hj hj1 => le3_trans (srt_le T.sa hj la (by exact Lin.lin [(.lt (.v 0) (.v 2)), (.or (.an (.le (.k 1) (.v 2)) (.eq (.a (.v 1) (.k 1)) (.v 2))) (.an (.le (.v 2) (.k 1)) (.eq (.v 1) (.k 0))))] (.le (.v 0) (.v 1)) (.s (.l [1, 1, 0, 0, 1]) (.l [1, 1, 1, 0, 1])) rfl [_, _, _] [] hj1 (Lin.sub_ax _ _))) hl
            by_cases he : nb' - 1 = 1
            · refine wpS_ifp (by simpa using he) ?_
              refine wpS_pure ⟨hS, .inl ⟨_, _, rfl, ?_⟩⟩
              exact hi_first T m1 he
            · refine wpS_ifn (by simpa using he) ?_
              have hM' : Mih key a b (out.push b[nb' - 1]) na' (nb' - 1) := ⟨m1, ha, by exact Lin.lin [(.le (.k 2) (.v 1)), (.no (.eq (.v 0) (.k 1))), (.or (.an (.le (.k 1) (.v 1)) (.eq (.a (.v 0) (.k 1)) (.v 1))) (.an (.le (.v 1) (.k 1)) (.eq (.v 0) (.k 0))))] (.le (.k 2) (.v 0)) (.s (.s (.l [0, 1, 1, 0, 0, 1]) (.l [0, 1, 0, 1])) (.s (.l [1, 0, 1]) (.l [1, 0, 1]))) rfl [_, _] [] hb he (Lin.sub_ax _ _), ha', by exact Lin.lin [(.lt (.v 0) (.v 1))] (.le (.v 0) (.v 1)) (.l [1, 1]) rfl [_, _] [] lb⟩
              refine wpS_ifb (fun _ => ?_) (fun _ => ?_)
              · exact wpS_pure ⟨hS, .inr ⟨_, _, _, _, _, rfl, hM', by exact Lin.lin [(.le (.a (.a (.v 0) (.v 4)) (.v 5)) (.a (.v 2) (.v 3))), (.le (.k 2) (.v 4)), (.or (.an (.le (.k 1) (.v 4)) (.eq (.a (.v 1) (.k 1)) (.v 4))) (.an (.le (.v 4) (.k 1)) (.eq (.v 1) (.k 0))))] (.le (.a (.a (.v 0) (.v 1)) (.k 1)) (.a (.v 2) (.v 3))) (.s (.l [1, 1, 0, 0, 1]) (.l [0, 0, 1, 1])) rfl [_, _, _, _, _, _] [] hp hb (Lin.sub_ax _ _)⟩⟩
              · exact wpS_pure ⟨hS, _, _, _, _, _, rfl, hM', by exact Lin.lin [(.le (.a (.a (.v 0) (.v 5)) (.v 2)) (.a (.v 3) (.v 4))), (.le (.k 2) (.v 5)), (.or (.an (.le (.k 1) (.v 5)) (.eq (.a (.v 1) (.k 1)) (.v 5))) (.an (.le (.v 5) (.k 1)) (.eq (.v 1) (.k 0))))] (.le (.a (.a (.v 0) (.v 1)) (.a (.v 2) (.k 1))) (.a (.v 3) (.v 4))) (.s (.l [1, 1, 0, 0, 1]) (.l [0, 0, 1, 1])) rfl [_, _, _, _, _, _] [] hp hb (Lin.sub_ax _ _)⟩
        case post1 =>
          intro c st' hX2
          refine Classical.byContradiction fun hnX => ?_
          obtain ⟨hS, hor⟩ := hX2
          refine hnX ?_
          clear hnX
          rcases hor with ⟨r, rest, rfl, hR⟩ | ⟨na', nb', out, ac, bc, rfl, hM, hp1⟩
          · exact wpS_pure ⟨hS, r, _, rfl, hR⟩
          · skip
            refine wpS_bind (wpS_lift (wpAny_rule ⟨rfl, ?_⟩))
            refine wpS_bind (wpS_mono (wpS_forRange (I := fun y c st' => Same st st' ∧ ∃ na' nb' out mg ac bc, c = (none, na', nb', out, mg, ac, bc) ∧ Mih key a b out na' nb' ∧ na' + nb' ≤ na + nb - 1)
              (Q := fun c st' => Same st st' ∧ ((∃ r rest, c = (some r, rest) ∧ Res key a b r) ∨ ∃ na' nb' out mg ac bc, c = (none, na', nb', out, mg, ac, bc) ∧ Mih key a b out na' nb' ∧ na' + nb' ≤ na + nb - 1)) ?step2 ?fin2 ⟨hS, na', nb', out, _, ac, bc, rfl, hM, by exact Lin.lin [(.le (.a (.a (.v 0) (.v 1)) (.k 1)) (.a (.v 3) (.v 4))), (.or (.an (.le (.k 1) (.a (.v 3) (.v 4))) (.eq (.a (.v 2) (.k 1)) (.a (.v 3) (.v 4)))) (.an (.le (.a (.v 3) (.v 4)) (.k 1)) (.eq (.v 2) (.k 0))))] (.le (.a (.v 0) (.v 1)) (.v 2)) (.s (.l [1, 1, 0, 0, 1]) (.l [1, 1, 1, 0, 1])) rfl [_, _, _, _, _] [] hp1 (Lin.sub_ax _ _)⟩) ?post2)
            case fin2 =>
              intro c st' hX2
              refine Classical.byContradiction fun hnX => ?_
              obtain ⟨hS, na', nb', out, mg, ac, bc, rfl, hM, hp⟩ := hX2
              refine hnX ?_
              clear hnX
              exact ⟨hS, .inr ⟨na', nb', out, mg, ac, bc, rfl, hM, hp⟩⟩
            case post2 =>
              intro c st' hX2
              refine Classical.byContradiction fun hnX => ?_
              obtain ⟨hS, hor⟩ := hX2
              refine hnX ?_
              clear hnX
              rcases hor with ⟨r, rest, rfl, hR⟩ | ⟨na', nb', out, mg, ac, bc, rfl, hM, hp1⟩
              · exact wpS_pure ⟨hS, r, _, rfl, hR⟩
              · dsimp only
                rw [setMinGallop'_eq]
                exact wpS_bind (wpS_modify (wpS_pure ⟨hS.gal _, na', nb', out, _, rfl, hM, by exact Lin.lin [(.lt (.a (.a (.v 0) (.v 5)) (.v 6)) (.a (.v 3) (.v 4))), (.le (.a (.v 1) (.v 2)) (.v 7)), (.or (.an (.le (.k 1) (.a (.v 5) (.v 6))) (.eq (.a (.v 7) (.k 1)) (.a (.v 5) (.v 6)))) (.an (.le (.a (.v 5) (.v 6)) (.k 1)) (.eq (.v 7) (.k 0)))), (.le (.a (.a (.v 8) (.v 9)) (.k 1)) (.a (.v 5) (.v 6)))] (.lt (.a (.a (.a (.v 0) (.k 1)) (.v 1)) (.v 2)) (.a (.v 3) (.v 4))) (.s (.l [1, 1, 1, 0, 1]) (.l [1, 1, 1, 0, 1, 0, 1])) rfl [_, _, _, _, _, _, _, _, _, _] [] hp hp1 (Lin.sub_ax _ _) ‹_›⟩))
            case step2 =>
              clear hM hp1 hS out na' nb' ac bc
              intro y c st' _ hy hX5
              refine Classical.byContradiction fun hnX => ?_
              obtain ⟨hS, na', nb', out, mg, ac, bc, rfl, hM, hp⟩ := hX5
              refine hnX ?_
              clear hnX
              have fin : ∀ mg', wpS (model prog w) A E s (hiA a b na' nb' out ac bc mg') (fun r st' => match r with
                  | .done c' => Same st st' ∧ ((∃ r rest, c' = (some r, rest) ∧ Res key a b r) ∨ ∃ na' nb' out mg ac bc, c' = (none, na', nb', out, mg, ac, bc) ∧ Mih key a b out na' nb' ∧ na' + nb' ≤ na + nb - 1)
                  | .yield c' => Same st st' ∧ ∃ na' nb' out mg ac bc, c' = (none, na', nb', out, mg, ac, bc) ∧ Mih key a b out na' nb' ∧ na' + nb' ≤ na + nb - 1) st' := fun mg' =>
                wpS_hiA H hk T hM hS hp (fun r rest st2 hS2 hR => ⟨hS2, .inl ⟨r, rest, rfl, hR⟩⟩) fun out na nb mg ac bc st2 hS2 hM2 hp2 => ⟨⟨hS2, .inr ⟨_, _, _, _, _, _, rfl, hM2, hp2⟩⟩, hS2, _, _, _, _, _, _, rfl, hM2, hp2⟩
              by_cases hg : mg > 1
              · refine wpS_ifp hg ?_; exact wpS_mono (fin (mg - 1)) fun r st2 hq => by cases r <;> exact hq
              · refine wpS_ifn hg ?_; exact wpS_mono (fin mg) fun r st2 hq => by cases r <;> exact hq
end
end Mini

/-! One merge of two runs that lie side by side. -/
set_option autoImplicit false
namespace Mini
open PySem PyProof.Rows

theorem mergeAt'_eq (i : Nat) : mergeAt' i = (do
  let s ← get
  let (some (sa, na, power), some (sb, nb, _)) := ((pendingOf s)[i]?, (pendingOf s)[i + 1]?) | unsupported "internal:list.sort.pending"
  set (SortSt.mk' (kindOf s) (arrOf s) (((pendingOf s).setIfInBounds i (sa, na + nb, power)).eraseIdxIfInBounds (i + 1)) (gallopOf s) (failedOf s))
  let some k ← gallop' false (← elem' (arrOf s) sb) (arrOf s) sa na 0 | return false
  let (sa, na) := (sa + k, na - k)
  if na == 0 then return true
  let some nb ← gallop' true (← elem' (arrOf s) (sa + na - 1)) (arrOf s) sb nb (nb - 1) | return false
  if nb == 0 then return true
  let x := (arrOf s).extract sa sb
  let y := (arrOf s).extract sb (sb + nb)
  let merged ← if na ≤ nb then mergeLo' x y else mergeHi' x y
  modify fun s => setArr s (merged.toList.zipIdx.foldl (fun a (p, j) => a.setIfInBounds (sa + j) p) (arrOf s))
  return (failedOf (← get)).isNone) := rfl

/-- a list written over an array from a place -/
noncomputable def over (xs : Array Keyed) (off : Nat) (l : List (Keyed × Nat)) : Array Keyed := l.foldl (fun a p => a.setIfInBounds (off + p.2) p.1) xs
theorem over_size (off : Nat) : ∀ (l : List (Keyed × Nat)) (xs : Array Keyed), (over xs off l).size = xs.size
  | [], xs => rfl
  | p :: l, xs => by show (over _ off l).size = _; rw [over_size off l]; simp
theorem over_get (off : Nat) : ∀ (r : List Keyed) (n : Nat) (xs : Array Keyed), off + n + r.length ≤ xs.size → ∀ k : Nat,
    (over xs off (r.zipIdx n))[k]? = if off + n ≤ k ∧ k < off + n + r.length then r[k - (off + n)]? else xs[k]?
  | [], n, xs, _, k => by rw [if_neg (by simp)]; rfl
  | x :: r, n, xs, h, k => by
    rw [List.zipIdx_cons]
    show (over (xs.setIfInBounds (off + n) x) off (r.zipIdx (n + 1)))[k]? = _
    simp only [List.length_cons] at h ⊢
    rw [over_get off r (n + 1) _ (by simp; exact Lin.lin [(.le (.a (.a (.v 0) (.v 1)) (.a (.v 2) (.k 1))) (.v 3))] (.le (.a (.a (.v 0) (.a (.v 1) (.k 1))) (.v 2)) (.v 3)) (.l [1, 1]) rfl [_, _, _, _] [] h)]
    by_cases h1 : k = off + n
    · subst h1
      rw [if_neg (by exact Lin.lin [] (.no (.an (.le (.a (.v 0) (.a (.v 1) (.k 1))) (.a (.v 0) (.v 1))) (.lt (.a (.v 0) (.v 1)) (.a (.a (.v 0) (.a (.v 1) (.k 1))) (.v 2))))) (.l [1]) rfl [_, _, _] []), if_pos (by exact Lin.lin [] (.an (.le (.a (.v 0) (.v 1)) (.a (.v 0) (.v 1))) (.lt (.a (.v 0) (.v 1)) (.a (.a (.v 0) (.v 1)) (.a (.v 2) (.k 1))))) (.s (.l [1]) (.l [1])) rfl [_, _, _] [])]
      simp [show off + n < xs.size by exact Lin.lin [(.le (.a (.a (.v 0) (.v 1)) (.a (.v 3) (.k 1))) (.v 2))] (.lt (.a (.v 0) (.v 1)) (.v 2)) (.l [1, 1]) rfl [_, _, _, _] [] h]
    · by_cases h2 : off + (n + 1) ≤ k ∧ k < off + (n + 1) + r.length
      · rw [if_pos h2, if_pos (by exact Lin.lin [(.an (.le (.a (.v 0) (.a (.v 1) (.k 1))) (.v 2)) (.lt (.v 2) (.a (.a (.v 0) (.a (.v 1) (.k 1))) (.v 3))))] (.an (.le (.a (.v 0) (.v 1)) (.v 2)) (.lt (.v 2) (.a (.a (.v 0) (.v 1)) (.a (.v 3) (.k 1))))) (.s (.l [1, 1]) (.l [1, 0, 1])) rfl [_, _, _, _] [] h2)]
        rw [show k - (off + n) = k - (off + (n + 1)) + 1 by exact Lin.lin [(.an (.le (.a (.v 2) (.a (.v 3) (.k 1))) (.v 4)) (.lt (.v 4) (.a (.a (.v 2) (.a (.v 3) (.k 1))) (.v 5)))), (.or (.an (.le (.a (.v 2) (.a (.v 3) (.k 1))) (.v 4)) (.eq (.a (.v 1) (.a (.v 2) (.a (.v 3) (.k 1)))) (.v 4))) (.an (.le (.v 4) (.a (.v 2) (.a (.v 3) (.k 1)))) (.eq (.v 1) (.k 0)))), (.or (.an (.le (.a (.v 2) (.v 3)) (.v 4)) (.eq (.a (.v 0) (.a (.v 2) (.v 3))) (.v 4))) (.an (.le (.v 4) (.a (.v 2) (.v 3))) (.eq (.v 0) (.k 0))))] (.eq (.v 0) (.a (.v 1) (.k 1))) (.s (.s (.s (.l [1, 0, 0, 0, 1, 0, 0, 0, 1]) (.l [0, 1, 0, 0, 0, 0, 1])) (.s (.l [1, 1, 0, 0, 1, 0, 0, 0, 1]) (.l [0, 1, 0, 0, 0, 0, 1]))) (.s (.s (.l [1, 0, 0, 0, 0, 1, 0, 1]) (.l [0, 1, 0, 0, 0, 0, 1])) (.s (.l [1, 0, 0, 1, 0, 1, 0, 1]) (.l [0, 1, 0, 0, 0, 0, 1])))) rfl [_, _, _, _, _, _] [] h2 (Lin.sub_ax _ _) (Lin.sub_ax _ _)]; simp
      · rw [if_neg h2, if_neg (by exact Lin.lin [(.no (.eq (.v 2) (.a (.v 0) (.v 1)))), (.no (.an (.le (.a (.v 0) (.a (.v 1) (.k 1))) (.v 2)) (.lt (.v 2) (.a (.a (.v 0) (.a (.v 1) (.k 1))) (.v 3)))))] (.no (.an (.le (.a (.v 0) (.v 1)) (.v 2)) (.lt (.v 2) (.a (.a (.v 0) (.v 1)) (.a (.v 3) (.k 1)))))) (.s (.s (.l [1, 0, 1]) (.l [1, 0, 1])) (.s (.l [0, 0, 1, 1]) (.l [0, 1, 0, 1]))) rfl [_, _, _, _] [] h1 h2)]
        rw [Array.getElem?_setIfInBounds, if_neg (by exact Lin.lin [(.no (.eq (.v 2) (.a (.v 0) (.v 1))))] (.no (.eq (.a (.v 0) (.v 1)) (.v 2))) (.s (.l [1, 0, 1]) (.l [0, 1, 1])) rfl [_, _, _] [] h1)]

/-- the segment gives way to a permutation of itself -/
theorem over_perm {xs r : Array Keyed} {off e : Nat} (he : off ≤ e) (hs : e ≤ xs.size) (hp : r.toList.Perm (xs.extract off e).toList) : (over xs off (r.toList.zipIdx)).Perm xs := by
  have hl : r.toList.length = e - off := by rw [hp.length_eq]; simp; exact Lin.lin [(.le (.v 2) (.v 3)), (.or (.an (.le (.v 1) (.v 4)) (.eq (.v 0) (.v 1))) (.an (.le (.v 4) (.v 1)) (.eq (.v 0) (.v 4)))), (.or (.an (.le (.v 5) (.v 3)) (.eq (.a (.v 4) (.v 5)) (.v 3))) (.an (.le (.v 3) (.v 5)) (.eq (.v 4) (.k 0)))), (.or (.an (.le (.v 5) (.v 2)) (.eq (.a (.v 1) (.v 5)) (.v 2))) (.an (.le (.v 2) (.v 5)) (.eq (.v 1) (.k 0))))] (.eq (.v 0) (.v 1)) (.s (.s (.s (.s (.l [1, 0, 0, 0, 1]) (.l [1, 0, 0, 0, 1])) (.s (.l [1, 0, 0, 0, 1]) (.l [1, 0, 0, 0, 1]))) (.s (.s (.l [1, 1, 0, 0, 1, 0, 0, 1, 0, 1]) (.l [1, 0, 0, 0, 1, 1, 0, 1, 0, 1])) (.s (.l [1, 1, 0, 0, 1, 1, 0, 1, 0, 1]) (.l [1, 0, 0, 0, 1, 0, 0, 1, 0, 1])))) (.s (.s (.s (.l [1, 0, 0, 1]) (.l [1, 0, 0, 1])) (.s (.l [1, 0, 0, 1]) (.l [1, 0, 0, 1]))) (.s (.s (.l [1, 0, 1, 1]) (.l [1, 0, 1, 1])) (.s (.l [1, 0, 1, 1]) (.l [1, 0, 1, 1]))))) rfl [_, _, _, _, _, _] [] hs (Lin.min_ax _ _) (Lin.sub_ax _ _) (Lin.sub_ax _ _)
  have key : (over xs off (r.toList.zipIdx)).toList = xs.toList.take off ++ r.toList ++ xs.toList.drop e := by
    apply List.ext_getElem?
    intro k
    rw [Array.getElem?_toList, over_get off r.toList 0 xs (by exact Lin.lin [(.le (.v 0) (.v 3)), (.le (.v 3) (.v 2)), (.eq (.v 1) (.v 4)), (.or (.an (.le (.v 0) (.v 3)) (.eq (.a (.v 4) (.v 0)) (.v 3))) (.an (.le (.v 3) (.v 0)) (.eq (.v 4) (.k 0))))] (.le (.a (.a (.v 0) (.k 0)) (.v 1)) (.v 2)) (.s (.l [1, 0, 1, 1, 0, 0, 1]) (.l [1, 1, 1, 1, 0, 0, 1])) rfl [_, _, _, _, _] [] he hs hl (Lin.sub_ax _ _))]
    rw [List.append_assoc]
    by_cases h1 : k < off
    · rw [if_neg (by exact Lin.lin [(.lt (.v 1) (.v 0))] (.no (.an (.le (.a (.v 0) (.k 0)) (.v 1)) (.lt (.v 1) (.a (.a (.v 0) (.k 0)) (.v 2))))) (.l [1, 0, 1]) rfl [_, _, _] [] h1), List.getElem?_append_left (by simp; exact Lin.lin [(.le (.v 2) (.v 3)), (.le (.v 3) (.v 4)), (.lt (.v 0) (.v 2)), (.or (.an (.le (.v 2) (.v 4)) (.eq (.v 1) (.v 2))) (.an (.le (.v 4) (.v 2)) (.eq (.v 1) (.v 4))))] (.lt (.v 0) (.v 1)) (.s (.l [1, 0, 0, 1, 0, 0, 1]) (.l [1, 1, 1, 1, 0, 0, 1])) rfl [_, _, _, _, _] [] he hs h1 (Lin.min_ax _ _)), List.getElem?_take_of_lt h1]; simp
    · rw [List.getElem?_append_right (by simp; exact Lin.lin [(.no (.lt (.v 1) (.v 2))), (.or (.an (.le (.v 2) (.v 3)) (.eq (.v 0) (.v 2))) (.an (.le (.v 3) (.v 2)) (.eq (.v 0) (.v 3))))] (.le (.v 0) (.v 1)) (.s (.l [1, 1, 0, 1]) (.l [1, 1, 1, 1])) rfl [_, _, _, _] [] h1 (Lin.min_ax _ _))]
      have e0 : (xs.toList.take off).length = off := by simp; exact Lin.lin [(.le (.v 1) (.v 2)), (.le (.v 2) (.v 3)), (.or (.an (.le (.v 1) (.v 3)) (.eq (.v 0) (.v 1))) (.an (.le (.v 3) (.v 1)) (.eq (.v 0) (.v 3))))] (.eq (.v 0) (.v 1)) (.s (.s (.l [1, 0, 0, 0, 0, 1]) (.l [1, 1, 1, 0, 0, 1])) (.s (.l [1, 0, 0, 0, 1]) (.l [1, 0, 0, 1, 1]))) rfl [_, _, _, _] [] he hs (Lin.min_ax _ _)
      rw [e0]
      by_cases h2 : k < e
      · rw [if_pos (by exact Lin.lin [(.eq (.v 2) (.v 3)), (.no (.lt (.v 1) (.v 0))), (.lt (.v 1) (.v 4)), (.or (.an (.le (.v 0) (.v 4)) (.eq (.a (.v 3) (.v 0)) (.v 4))) (.an (.le (.v 4) (.v 0)) (.eq (.v 3) (.k 0))))] (.an (.le (.a (.v 0) (.k 0)) (.v 1)) (.lt (.v 1) (.a (.a (.v 0) (.k 0)) (.v 2)))) (.s (.s (.l [1, 0, 0, 1]) (.l [1, 0, 0, 1])) (.s (.l [1, 0, 1, 0, 1, 0, 0, 1]) (.l [0, 0, 0, 1, 1, 1]))) rfl [_, _, _, _, _] [] hl h1 h2 (Lin.sub_ax _ _)), List.getElem?_append_left (by exact Lin.lin [(.eq (.v 1) (.v 2)), (.no (.lt (.v 3) (.v 4))), (.lt (.v 3) (.v 5)), (.or (.an (.le (.v 4) (.v 5)) (.eq (.a (.v 2) (.v 4)) (.v 5))) (.an (.le (.v 5) (.v 4)) (.eq (.v 2) (.k 0)))), (.or (.an (.le (.v 4) (.v 3)) (.eq (.a (.v 0) (.v 4)) (.v 3))) (.an (.le (.v 3) (.v 4)) (.eq (.v 0) (.k 0))))] (.lt (.v 0) (.v 1)) (.s (.s (.l [1, 0, 1, 0, 1, 0, 0, 1, 0, 1]) (.l [1, 0, 1, 1, 1, 0, 0, 1, 0, 1])) (.s (.l [0, 0, 0, 1, 1, 1]) (.l [0, 0, 0, 1, 1, 1]))) rfl [_, _, _, _, _, _] [] hl h1 h2 (Lin.sub_ax _ _) (Lin.sub_ax _ _))]; simp
      · rw [if_neg (by exact Lin.lin [(.eq (.v 2) (.v 3)), (.no (.lt (.v 1) (.v 4))), (.or (.an (.le (.v 0) (.v 4)) (.eq (.a (.v 3) (.v 0)) (.v 4))) (.an (.le (.v 4) (.v 0)) (.eq (.v 3) (.k 0))))] (.no (.an (.le (.a (.v 0) (.k 0)) (.v 1)) (.lt (.v 1) (.a (.a (.v 0) (.k 0)) (.v 2))))) (.s (.l [0, 1, 1, 0, 1, 0, 1]) (.l [1, 1, 1, 0, 0, 0, 1])) rfl [_, _, _, _, _] [] hl h2 (Lin.sub_ax _ _)), List.getElem?_append_right (by exact Lin.lin [(.eq (.v 0) (.v 2)), (.no (.lt (.v 3) (.v 4))), (.or (.an (.le (.v 5) (.v 4)) (.eq (.a (.v 2) (.v 5)) (.v 4))) (.an (.le (.v 4) (.v 5)) (.eq (.v 2) (.k 0)))), (.or (.an (.le (.v 5) (.v 3)) (.eq (.a (.v 1) (.v 5)) (.v 3))) (.an (.le (.v 3) (.v 5)) (.eq (.v 1) (.k 0))))] (.le (.v 0) (.v 1)) (.s (.s (.l [1, 1, 0, 1, 0, 1, 0, 0, 0, 1]) (.l [1, 1, 0, 1, 0, 1, 0, 1, 0, 1])) (.s (.l [1, 1, 0, 0, 0, 1, 0, 1, 0, 1]) (.l [1, 1, 0, 0, 0, 1, 0, 0, 0, 1]))) rfl [_, _, _, _, _, _] [] hl h2 (Lin.sub_ax _ _) (Lin.sub_ax _ _)), List.getElem?_drop, hl]
        rw [show e + (k - off - (e - off)) = k by exact Lin.lin [(.le (.v 3) (.v 0)), (.no (.lt (.v 2) (.v 0))), (.or (.an (.le (.v 4) (.v 5)) (.eq (.a (.v 1) (.v 4)) (.v 5))) (.an (.le (.v 5) (.v 4)) (.eq (.v 1) (.k 0)))), (.or (.an (.le (.v 3) (.v 0)) (.eq (.a (.v 4) (.v 3)) (.v 0))) (.an (.le (.v 0) (.v 3)) (.eq (.v 4) (.k 0)))), (.or (.an (.le (.v 3) (.v 2)) (.eq (.a (.v 5) (.v 3)) (.v 2))) (.an (.le (.v 2) (.v 3)) (.eq (.v 5) (.k 0))))] (.eq (.a (.v 0) (.v 1)) (.v 2)) (.s (.s (.s (.s (.l [1, 0, 0, 0, 0, 1, 0, 1, 0, 0, 0, 1]) (.l [1, 1, 0, 1, 0, 1, 0, 0, 0, 1])) (.s (.l [1, 1, 0, 0, 0, 1, 0, 1, 0, 0, 0, 1]) (.l [1, 1, 0, 1, 0, 1, 0, 0, 0, 1]))) (.s (.s (.l [1, 0, 0, 1, 0, 1, 0, 1, 0, 0, 0, 1]) (.l [1, 1, 0, 0, 0, 1, 0, 0, 0, 1])) (.s (.l [1, 1, 0, 1, 0, 1, 0, 1, 0, 0, 0, 1]) (.l [1, 1, 0, 0, 0, 1, 0, 0, 0, 1])))) (.s (.s (.s (.l [1, 0, 0, 0, 1, 0, 0, 0, 1, 0, 1]) (.l [1, 1, 1, 0, 1, 0, 0, 0, 1, 0, 1])) (.s (.l [1, 0, 0, 0, 1, 0, 1, 0, 1, 0, 1]) (.l [1, 0, 1, 0, 1, 0, 0, 0, 1, 0, 1]))) (.s (.s (.l [1, 0, 1, 0, 1]) (.l [1, 0, 1, 0, 1])) (.s (.l [1, 0, 1, 0, 1]) (.l [1, 0, 1, 0, 1]))))) rfl [_, _, _, _, _, _] [] he h2 (Lin.sub_ax _ _) (Lin.sub_ax _ _) (Lin.sub_ax _ _)]; simp
  rw [Array.perm_iff_toList_perm, key]
  have e1 : xs.toList = xs.toList.take off ++ (xs.extract off e).toList ++ xs.toList.drop e := by
    rw [← take_split xs off e he, List.take_append_drop]
  conv => rhs; rw [e1]
  exact List.Perm.append_right _ (List.Perm.append_left _ hp)

section
variable {prog : Program} {w : World} {A : Around} {E : Value → Shared → Prop} {s : Shared} {a₀ : Array Keyed} {κ : SortKind} {key : Keyed → T3}

/-- all through the sort -/
structure SA (a₀ : Array Keyed) (κ : SortKind) (st : SortSt) : Prop where
  perm : (arrOf st).Perm a₀
  kind : kindOf st = κ
  ok : failedOf st = none
theorem SA.size {st : SortSt} (h : SA a₀ κ st) : (arrOf st).size = a₀.size := h.perm.size_eq

theorem wpS_set {σ : Type} {M : Model} {t st : σ} {Q : PUnit → σ → Prop} (h : Q ⟨⟩ t) : wpS M A E s (set t : StateT σ Sem PUnit) Q st := by
  unfold wpS; exact wpAny_pure ⟨rfl, h⟩

theorem mem_seg {xs : Array Keyed} {i j : Nat} {x : Keyed} (h : x ∈ (xs.extract i j).toList) (hj : j ≤ xs.size) : ∃ t, i ≤ t ∧ t < j ∧ KS key xs t = key x := by
  refine Classical.byContradiction fun hnX => ?_
  obtain ⟨t, ht, h1, h2, rfl⟩ := mem_ext h hj
  refine hnX ?_
  clear hnX
  exact ⟨t, h1, h2, KS_get ht⟩
theorem ext_srt {xs : Array Keyed} {i j : Nat} (hs : SegS key xs i j) (hj : j ≤ xs.size) : Srt key (xs.extract i j).toList := by
  rw [← srt_seg]
  intro p q _ hpq hq
  have hsz : (xs.extract i j).size = j - i := by simp; exact Lin.lin [(.le (.v 2) (.v 3)), (.or (.an (.le (.v 4) (.v 2)) (.eq (.a (.v 1) (.v 4)) (.v 2))) (.an (.le (.v 2) (.v 4)) (.eq (.v 1) (.k 0)))), (.or (.an (.le (.v 4) (.v 5)) (.eq (.a (.v 0) (.v 4)) (.v 5))) (.an (.le (.v 5) (.v 4)) (.eq (.v 0) (.k 0)))), (.or (.an (.le (.v 2) (.v 3)) (.eq (.v 5) (.v 2))) (.an (.le (.v 3) (.v 2)) (.eq (.v 5) (.v 3))))] (.eq (.v 0) (.v 1)) (.s (.s (.s (.s (.l [1, 0, 0, 1, 0, 0, 0, 1, 0, 0, 1]) (.l [1, 1, 0, 1, 0, 0, 0, 1, 0, 0, 1])) (.s (.l [1, 0, 0, 1, 0, 1, 0, 1, 0, 0, 1]) (.l [1, 1, 0, 1, 0, 1, 0, 1, 0, 0, 1]))) (.s (.s (.l [1, 0, 0, 1, 0, 1, 0, 1]) (.l [1, 0, 0, 1, 0, 1, 0, 1])) (.s (.l [1, 0, 0, 1, 0, 0, 0, 1]) (.l [1, 0, 0, 1, 0, 0, 0, 1])))) (.s (.s (.s (.l [1, 0, 0, 0, 1, 0, 1, 0, 0, 1]) (.l [1, 0, 0, 0, 1, 0, 1, 0, 1, 1])) (.s (.l [1, 0, 1, 0, 1, 0, 1]) (.l [1, 0, 1, 0, 1, 0, 1]))) (.s (.s (.l [1, 0, 1, 0, 1, 0, 1, 0, 0, 1]) (.l [1, 0, 1, 0, 1, 0, 1, 0, 1, 1])) (.s (.l [1, 0, 0, 0, 1, 0, 1]) (.l [1, 0, 0, 0, 1, 0, 1]))))) rfl [_, _, _, _, _, _] [] hj (Lin.sub_ax _ _) (Lin.sub_ax _ _) (Lin.min_ax _ _)
  rw [hsz] at hq
  have g : ∀ p, p < j - i → KS key (xs.extract i j) p = KS key xs (i + p) := fun p hp => KS_congr (by rw [Array.getElem?_extract]; rw [if_pos (by exact Lin.lin [(.le (.v 2) (.v 3)), (.lt (.v 0) (.v 4)), (.or (.an (.le (.v 5) (.v 2)) (.eq (.a (.v 4) (.v 5)) (.v 2))) (.an (.le (.v 2) (.v 5)) (.eq (.v 4) (.k 0)))), (.or (.an (.le (.v 5) (.v 6)) (.eq (.a (.v 1) (.v 5)) (.v 6))) (.an (.le (.v 6) (.v 5)) (.eq (.v 1) (.k 0)))), (.or (.an (.le (.v 2) (.v 3)) (.eq (.v 6) (.v 2))) (.an (.le (.v 3) (.v 2)) (.eq (.v 6) (.v 3))))] (.lt (.v 0) (.v 1)) (.s (.s (.s (.l [1, 0, 1, 0, 1, 0, 0, 0, 1, 0, 0, 1]) (.l [1, 1, 1, 0, 1, 0, 0, 0, 1, 0, 0, 1])) (.s (.l [1, 0, 1, 0, 1, 0, 1, 0, 1, 0, 0, 1]) (.l [1, 1, 1, 0, 1, 0, 1, 0, 1, 0, 0, 1]))) (.s (.s (.l [1, 0, 1, 0, 1, 0, 1, 0, 1]) (.l [1, 0, 1, 0, 1, 0, 1, 0, 1])) (.s (.l [1, 0, 1, 0, 1, 0, 0, 0, 1]) (.l [1, 0, 1, 0, 1, 0, 0, 0, 1])))) rfl [_, _, _, _, _, _, _] [] hj hp (Lin.sub_ax _ _) (Lin.sub_ax _ _) (Lin.min_ax _ _))])
  rw [g p (by exact Lin.lin [(.le (.v 0) (.v 2)), (.lt (.v 2) (.v 1))] (.lt (.v 0) (.v 1)) (.l [1, 1, 1]) rfl [_, _, _] [] hpq hq), g q hq]
  exact hs _ _ (by exact Lin.lin [] (.le (.v 0) (.a (.v 0) (.v 1))) (.l [1]) rfl [_, _] []) (by exact Lin.lin [(.le (.v 1) (.v 2))] (.le (.a (.v 0) (.v 1)) (.a (.v 0) (.v 2))) (.l [1, 1]) rfl [_, _, _] [] hpq) (by exact Lin.lin [(.lt (.v 1) (.v 3)), (.or (.an (.le (.v 0) (.v 2)) (.eq (.a (.v 3) (.v 0)) (.v 2))) (.an (.le (.v 2) (.v 0)) (.eq (.v 3) (.k 0))))] (.lt (.a (.v 0) (.v 1)) (.v 2)) (.s (.l [1, 1, 0, 1]) (.l [0, 1, 0, 1])) rfl [_, _, _, _] [] hq (Lin.sub_ax _ _))

theorem wpS_mergeAt {st : SortSt} {i sa na pw sb nb pw2 : Nat} {Q : Bool → SortSt → Prop} (H : LtOK prog w A E s κ a₀ key) (hA : SA a₀ κ st) (h1 : (pendingOf st)[i]? = some (sa, na, pw)) (h2 : (pendingOf st)[i + 1]? = some (sb, nb, pw2))
    (hsb : sb = sa + na) (hna : 1 ≤ na) (hnb : 1 ≤ nb) (hsz : sb + nb ≤ a₀.size) (hs1 : SegS key (arrOf st) sa sb) (hs2 : SegS key (arrOf st) sb (sb + nb))
    (h : ∀ st', SA a₀ κ st' → pendingOf st' = ((pendingOf st).setIfInBounds i (sa, na + nb, pw)).eraseIdxIfInBounds (i + 1) → (∀ k : Nat, k < sa ∨ sb + nb ≤ k → (arrOf st')[k]? = (arrOf st)[k]?) → SegS key (arrOf st') sa (sb + nb) → Q true st') :
    wpS (model prog w) A E s (mergeAt' i) Q st := by
  have hin : ∀ i (hi : i < (arrOf st).size), (arrOf st)[i] ∈ a₀.toList := fun i hi => mem_of_perm hA.perm hi
  have hz := hA.size
  rw [mergeAt'_eq]
  refine wpS_bind (wpS_get ?_)
  dsimp only
  rw [h1, h2]
  dsimp only
  refine wpS_bind (wpS_set ?_)
  have key0 : ∀ st' : SortSt, st' = SortSt.mk' (kindOf st) (arrOf st) (((pendingOf st).setIfInBounds i (sa, na + nb, pw)).eraseIdxIfInBounds (i + 1)) (gallopOf st) (failedOf st) → SegS key (arrOf st) sa (sb + nb) → Q true st' := fun st' e hs => by
    subst e; exact h _ ⟨hA.perm, hA.kind, hA.ok⟩ rfl (fun _ _ => rfl) hs
  refine wpS_bind (wpS_elem (show sb < (arrOf st).size by exact Lin.lin [(.le (.k 1) (.v 2)), (.le (.a (.v 0) (.v 2)) (.v 3)), (.eq (.v 1) (.v 3))] (.lt (.v 0) (.v 1)) (.l [1, 1, 1, 0, 1]) rfl [_, _, _, _] [] hnb hsz hz) (wpS_bind (wpS_gallop H hA.kind (hin _ _) hin (by exact Lin.lin [(.eq (.v 3) (.a (.v 0) (.v 1))), (.le (.a (.v 3) (.v 4)) (.v 5)), (.eq (.v 2) (.v 5))] (.le (.a (.v 0) (.v 1)) (.v 2)) (.l [1, 0, 1, 1, 0, 1]) rfl [_, _, _, _, _, _] [] hsb hsz hz) (hsb ▸ hs1) (by exact Lin.lin [(.le (.k 1) (.v 0))] (.lt (.k 0) (.v 0)) (.l [1, 1]) rfl [_] [] hna) fun k hkn g1 g2 => ?_)))
  dsimp only
  simp only [Bool.false_eq_true, if_false] at g1 g2
  have f1 : ∀ t, sa ≤ t → t < sa + k → T3.le (KS key (arrOf st) t) (KS key (arrOf st) sb) = true := fun t ht1 ht2 => by
    have := g1 (t - sa) (by exact Lin.lin [(.le (.v 2) (.v 3)), (.lt (.v 3) (.a (.v 2) (.v 1))), (.or (.an (.le (.v 2) (.v 3)) (.eq (.a (.v 0) (.v 2)) (.v 3))) (.an (.le (.v 3) (.v 2)) (.eq (.v 0) (.k 0))))] (.lt (.v 0) (.v 1)) (.s (.l [1, 0, 1, 0, 1]) (.l [1, 1, 1, 0, 1])) rfl [_, _, _, _] [] ht1 ht2 (Lin.sub_ax _ _))
    rw [show sa + (t - sa) = t by exact Lin.lin [(.le (.v 0) (.v 2)), (.or (.an (.le (.v 0) (.v 2)) (.eq (.a (.v 1) (.v 0)) (.v 2))) (.an (.le (.v 2) (.v 0)) (.eq (.v 1) (.k 0))))] (.eq (.a (.v 0) (.v 1)) (.v 2)) (.s (.s (.l [1, 0, 0, 0, 1]) (.l [1, 0, 1, 0, 1])) (.s (.l [1, 0, 0, 1]) (.l [1, 1, 0, 1]))) rfl [_, _, _] [] ht1 (Lin.sub_ax _ _)] at this
    rw [KS_get (show sb < (arrOf st).size by exact Lin.lin [(.le (.k 1) (.v 2)), (.le (.a (.v 0) (.v 2)) (.v 3)), (.eq (.v 1) (.v 3))] (.lt (.v 0) (.v 1)) (.l [1, 1, 1, 0, 1]) rfl [_, _, _, _] [] hnb hsz hz)]; exact this
  have f2 : ∀ t, sa + k ≤ t → t < sb → T3.le (KS key (arrOf st) sb) (KS key (arrOf st) t) = true := fun t ht1 ht2 => by
    have := g2 (t - sa) (by exact Lin.lin [(.le (.a (.v 2) (.v 0)) (.v 3)), (.or (.an (.le (.v 2) (.v 3)) (.eq (.a (.v 1) (.v 2)) (.v 3))) (.an (.le (.v 3) (.v 2)) (.eq (.v 1) (.k 0))))] (.le (.v 0) (.v 1)) (.s (.l [1, 1, 0, 0, 1]) (.l [1, 1, 1, 0, 1])) rfl [_, _, _, _] [] ht1 (Lin.sub_ax _ _)) (by exact Lin.lin [(.eq (.v 2) (.a (.v 3) (.v 1))), (.le (.k 1) (.v 1)), (.lt (.v 4) (.v 2)), (.or (.an (.le (.v 3) (.v 4)) (.eq (.a (.v 0) (.v 3)) (.v 4))) (.an (.le (.v 4) (.v 3)) (.eq (.v 0) (.k 0))))] (.lt (.v 0) (.v 1)) (.s (.l [1, 1, 0, 0, 1, 0, 1]) (.l [1, 0, 0, 1, 0, 0, 1])) rfl [_, _, _, _, _] [] hsb hna ht2 (Lin.sub_ax _ _))
    rw [show sa + (t - sa) = t by exact Lin.lin [(.le (.a (.v 0) (.v 3)) (.v 2)), (.or (.an (.le (.v 0) (.v 2)) (.eq (.a (.v 1) (.v 0)) (.v 2))) (.an (.le (.v 2) (.v 0)) (.eq (.v 1) (.k 0))))] (.eq (.a (.v 0) (.v 1)) (.v 2)) (.s (.s (.l [1, 0, 0, 0, 1]) (.l [1, 0, 1, 0, 1])) (.s (.l [1, 0, 0, 1]) (.l [1, 1, 0, 1]))) rfl [_, _, _, _] [] ht1 (Lin.sub_ax _ _)] at this
    rw [KS_get (show sb < (arrOf st).size by exact Lin.lin [(.le (.k 1) (.v 2)), (.le (.a (.v 0) (.v 2)) (.v 3)), (.eq (.v 1) (.v 3))] (.lt (.v 0) (.v 1)) (.l [1, 1, 1, 0, 1]) rfl [_, _, _, _] [] hnb hsz hz)]; exact le3_total this
  by_cases hk0 : na - k = 0
  · rw [if_pos (by simpa using hk0)]
    refine wpS_pure (key0 _ rfl fun p q hp hpq hq => ?_)
    by_cases c1 : q < sb
    · exact hs1 p q hp hpq c1
    · by_cases c2 : sb ≤ p
      · exact hs2 p q c2 hpq hq
      · exact le3_trans (f1 p hp (by exact Lin.lin [(.eq (.v 3) (.a (.v 1) (.v 4))), (.eq (.v 5) (.k 0)), (.no (.le (.v 3) (.v 0))), (.or (.an (.le (.v 2) (.v 4)) (.eq (.a (.v 5) (.v 2)) (.v 4))) (.an (.le (.v 4) (.v 2)) (.eq (.v 5) (.k 0))))] (.lt (.v 0) (.a (.v 1) (.v 2))) (.s (.l [1, 1, 0, 1, 0, 1, 0, 0, 1]) (.l [1, 1, 0, 0, 0, 1, 1])) rfl [_, _, _, _, _, _] [] hsb hk0 c2 (Lin.sub_ax _ _))) (hs2 sb q (Nat.le_refl _) (by exact Lin.lin [(.no (.lt (.v 1) (.v 0)))] (.le (.v 0) (.v 1)) (.l [1, 1]) rfl [_, _] [] c1) hq)
  · rw [if_neg (by simpa using hk0)]
    have hlast : sa + k + (na - k) - 1 = sb - 1 := by exact Lin.lin [(.eq (.v 2) (.a (.v 3) (.v 4))), (.le (.v 5) (.v 4)), (.or (.an (.le (.k 1) (.v 2)) (.eq (.a (.v 1) (.k 1)) (.v 2))) (.an (.le (.v 2) (.k 1)) (.eq (.v 1) (.k 0)))), (.or (.an (.le (.k 1) (.a (.a (.v 3) (.v 5)) (.v 6))) (.eq (.a (.v 0) (.k 1)) (.a (.a (.v 3) (.v 5)) (.v 6)))) (.an (.le (.a (.a (.v 3) (.v 5)) (.v 6)) (.k 1)) (.eq (.v 0) (.k 0)))), (.or (.an (.le (.v 5) (.v 4)) (.eq (.a (.v 6) (.v 5)) (.v 4))) (.an (.le (.v 4) (.v 5)) (.eq (.v 6) (.k 0))))] (.eq (.v 0) (.v 1)) (.s (.s (.s (.s (.l [1, 1, 0, 0, 0, 1, 0, 0, 0, 1, 0, 0, 1]) (.l [1, 1, 0, 0, 0, 1, 0, 0, 0, 1, 1, 0, 1])) (.s (.l [1, 1, 0, 0, 0, 1, 0, 1, 0, 1, 0, 0, 1]) (.l [1, 1, 0, 0, 0, 1, 0, 1, 0, 1, 1, 0, 1]))) (.s (.s (.l [1, 0, 0, 0, 0, 1, 0, 1, 0, 1]) (.l [1, 0, 0, 0, 0, 1, 0, 1, 0, 1])) (.s (.l [1, 0, 0, 0, 0, 1, 0, 0, 0, 1]) (.l [1, 0, 0, 0, 0, 1, 0, 0, 0, 1])))) (.s (.s (.s (.l [1, 0, 1, 0, 0, 0, 1, 0, 1, 0, 0, 1]) (.l [1, 0, 1, 1, 0, 0, 1, 0, 1, 0, 0, 1])) (.s (.l [1, 0, 0, 0, 1, 0, 1, 0, 1]) (.l [1, 0, 0, 0, 1, 0, 1, 0, 1]))) (.s (.s (.l [1, 0, 1, 0, 1, 0, 1, 0, 1, 0, 0, 1]) (.l [1, 0, 1, 1, 1, 0, 1, 0, 1, 0, 0, 1])) (.s (.l [1, 0, 0, 0, 0, 0, 1, 0, 1]) (.l [1, 0, 0, 0, 0, 0, 1, 0, 1]))))) rfl [_, _, _, _, _, _, _] [] hsb hkn (Lin.sub_ax _ _) (Lin.sub_ax _ _) (Lin.sub_ax _ _)
    rw [hlast]
    refine wpS_bind (wpS_elem (show sb - 1 < (arrOf st).size by exact Lin.lin [(.le (.k 1) (.v 2)), (.le (.a (.v 3) (.v 2)) (.v 4)), (.eq (.v 1) (.v 4)), (.or (.an (.le (.k 1) (.v 3)) (.eq (.a (.v 0) (.k 1)) (.v 3))) (.an (.le (.v 3) (.k 1)) (.eq (.v 0) (.k 0))))] (.lt (.v 0) (.v 1)) (.s (.l [1, 1, 1, 0, 1, 0, 1]) (.l [1, 1, 1, 0, 1, 0, 1])) rfl [_, _, _, _, _] [] hnb hsz hz (Lin.sub_ax _ _)) (wpS_bind (wpS_gallop H hA.kind (hin _ _) hin (by exact Lin.lin [(.le (.a (.v 0) (.v 1)) (.v 3)), (.eq (.v 2) (.v 3))] (.le (.a (.v 0) (.v 1)) (.v 2)) (.l [1, 1, 0, 1]) rfl [_, _, _, _] [] hsz hz) hs2 (by exact Lin.lin [(.le (.k 1) (.v 1)), (.or (.an (.le (.k 1) (.v 1)) (.eq (.a (.v 0) (.k 1)) (.v 1))) (.an (.le (.v 1) (.k 1)) (.eq (.v 0) (.k 0))))] (.lt (.v 0) (.v 1)) (.s (.l [1, 0, 0, 1]) (.l [1, 1, 0, 1])) rfl [_, _] [] hnb (Lin.sub_ax _ _)) fun m hmn g3 g4 => ?_)))
    dsimp only
    simp only [if_true] at g3 g4
    have f3 : ∀ t, sb ≤ t → t < sb + m → T3.le (KS key (arrOf st) t) (KS key (arrOf st) (sb - 1)) = true := fun t ht1 ht2 => by
      have := g3 (t - sb) (by exact Lin.lin [(.le (.v 2) (.v 3)), (.lt (.v 3) (.a (.v 2) (.v 1))), (.or (.an (.le (.v 2) (.v 3)) (.eq (.a (.v 0) (.v 2)) (.v 3))) (.an (.le (.v 3) (.v 2)) (.eq (.v 0) (.k 0))))] (.lt (.v 0) (.v 1)) (.s (.l [1, 0, 1, 0, 1]) (.l [1, 1, 1, 0, 1])) rfl [_, _, _, _] [] ht1 ht2 (Lin.sub_ax _ _))
      rw [show sb + (t - sb) = t by exact Lin.lin [(.le (.v 0) (.v 2)), (.or (.an (.le (.v 0) (.v 2)) (.eq (.a (.v 1) (.v 0)) (.v 2))) (.an (.le (.v 2) (.v 0)) (.eq (.v 1) (.k 0))))] (.eq (.a (.v 0) (.v 1)) (.v 2)) (.s (.s (.l [1, 0, 0, 0, 1]) (.l [1, 0, 1, 0, 1])) (.s (.l [1, 0, 0, 1]) (.l [1, 1, 0, 1]))) rfl [_, _, _] [] ht1 (Lin.sub_ax _ _)] at this
      rw [KS_get (show sb - 1 < (arrOf st).size by exact Lin.lin [(.le (.k 1) (.v 2)), (.le (.a (.v 3) (.v 2)) (.v 4)), (.eq (.v 1) (.v 4)), (.or (.an (.le (.k 1) (.v 3)) (.eq (.a (.v 0) (.k 1)) (.v 3))) (.an (.le (.v 3) (.k 1)) (.eq (.v 0) (.k 0))))] (.lt (.v 0) (.v 1)) (.s (.l [1, 1, 1, 0, 1, 0, 1]) (.l [1, 1, 1, 0, 1, 0, 1])) rfl [_, _, _, _, _] [] hnb hsz hz (Lin.sub_ax _ _))]; exact le3_total (by simpa using this)
    have f4 : ∀ t, sb + m ≤ t → t < sb + nb → T3.le (KS key (arrOf st) (sb - 1)) (KS key (arrOf st) t) = true := fun t ht1 ht2 => by
      have := g4 (t - sb) (by exact Lin.lin [(.le (.a (.v 2) (.v 0)) (.v 3)), (.or (.an (.le (.v 2) (.v 3)) (.eq (.a (.v 1) (.v 2)) (.v 3))) (.an (.le (.v 3) (.v 2)) (.eq (.v 1) (.k 0))))] (.le (.v 0) (.v 1)) (.s (.l [1, 1, 0, 0, 1]) (.l [1, 1, 1, 0, 1])) rfl [_, _, _, _] [] ht1 (Lin.sub_ax _ _)) (by exact Lin.lin [(.le (.k 1) (.v 1)), (.lt (.v 2) (.a (.v 3) (.v 1))), (.or (.an (.le (.v 3) (.v 2)) (.eq (.a (.v 0) (.v 3)) (.v 2))) (.an (.le (.v 2) (.v 3)) (.eq (.v 0) (.k 0))))] (.lt (.v 0) (.v 1)) (.s (.l [1, 0, 1, 0, 1]) (.l [1, 1, 0, 0, 1])) rfl [_, _, _, _] [] hnb ht2 (Lin.sub_ax _ _))
      rw [show sb + (t - sb) = t by exact Lin.lin [(.le (.a (.v 0) (.v 3)) (.v 2)), (.or (.an (.le (.v 0) (.v 2)) (.eq (.a (.v 1) (.v 0)) (.v 2))) (.an (.le (.v 2) (.v 0)) (.eq (.v 1) (.k 0))))] (.eq (.a (.v 0) (.v 1)) (.v 2)) (.s (.s (.l [1, 0, 0, 0, 1]) (.l [1, 0, 1, 0, 1])) (.s (.l [1, 0, 0, 1]) (.l [1, 1, 0, 1]))) rfl [_, _, _, _] [] ht1 (Lin.sub_ax _ _)] at this
      rw [KS_get (show sb - 1 < (arrOf st).size by exact Lin.lin [(.le (.k 1) (.v 2)), (.le (.a (.v 3) (.v 2)) (.v 4)), (.eq (.v 1) (.v 4)), (.or (.an (.le (.k 1) (.v 3)) (.eq (.a (.v 0) (.k 1)) (.v 3))) (.an (.le (.v 3) (.k 1)) (.eq (.v 0) (.k 0))))] (.lt (.v 0) (.v 1)) (.s (.l [1, 1, 1, 0, 1, 0, 1]) (.l [1, 1, 1, 0, 1, 0, 1])) rfl [_, _, _, _, _] [] hnb hsz hz (Lin.sub_ax _ _))]; simpa using this
    by_cases hm0 : m = 0
    · rw [if_pos (by simpa using hm0)]
      refine wpS_pure (key0 _ rfl fun p q hp hpq hq => ?_)
      by_cases c1 : q < sb
      · exact hs1 p q hp hpq c1
      · by_cases c2 : sb ≤ p
        · exact hs2 p q c2 hpq hq
        · exact le3_trans (hs1 p (sb - 1) hp (by exact Lin.lin [(.no (.le (.v 2) (.v 0))), (.or (.an (.le (.k 1) (.v 2)) (.eq (.a (.v 1) (.k 1)) (.v 2))) (.an (.le (.v 2) (.k 1)) (.eq (.v 1) (.k 0))))] (.le (.v 0) (.v 1)) (.s (.l [1, 1, 0, 0, 1]) (.l [1, 1, 1, 0, 1])) rfl [_, _, _] [] c2 (Lin.sub_ax _ _)) (by exact Lin.lin [(.no (.le (.v 1) (.v 2))), (.or (.an (.le (.k 1) (.v 1)) (.eq (.a (.v 0) (.k 1)) (.v 1))) (.an (.le (.v 1) (.k 1)) (.eq (.v 0) (.k 0))))] (.lt (.v 0) (.v 1)) (.s (.l [1, 0, 0, 1]) (.l [1, 1, 0, 1])) rfl [_, _, _] [] c2 (Lin.sub_ax _ _))) (f4 q (by exact Lin.lin [(.eq (.v 1) (.k 0)), (.no (.lt (.v 2) (.v 0)))] (.le (.a (.v 0) (.v 1)) (.v 2)) (.l [1, 1, 0, 1]) rfl [_, _, _] [] hm0 c1) hq)
    · rw [if_neg (by simpa using hm0)]
      have hx : ∀ j (hj : j < ((arrOf st).extract (sa + k) sb).size), ((arrOf st).extract (sa + k) sb)[j] = (arrOf st)[sa + k + j]'(by simp at hj; lia) := fun j hj => by simp
      have hy : ∀ j (hj : j < ((arrOf st).extract sb (sb + m)).size), ((arrOf st).extract sb (sb + m))[j] = (arrOf st)[sb + j]'(by simp at hj; lia) := fun j hj => by simp
      have zx : ((arrOf st).extract (sa + k) sb).size = na - k := by simp; exact Lin.lin [(.eq (.v 2) (.a (.v 3) (.v 4))), (.le (.a (.v 2) (.v 5)) (.v 6)), (.eq (.v 7) (.v 6)), (.or (.an (.le (.v 8) (.v 4)) (.eq (.a (.v 1) (.v 8)) (.v 4))) (.an (.le (.v 4) (.v 8)) (.eq (.v 1) (.k 0)))), (.or (.an (.le (.a (.v 3) (.v 8)) (.v 9)) (.eq (.a (.v 0) (.a (.v 3) (.v 8))) (.v 9))) (.an (.le (.v 9) (.a (.v 3) (.v 8))) (.eq (.v 0) (.k 0)))), (.or (.an (.le (.v 2) (.v 7)) (.eq (.v 9) (.v 2))) (.an (.le (.v 7) (.v 2)) (.eq (.v 9) (.v 7))))] (.eq (.v 0) (.v 1)) (.s (.s (.s (.s (.l [1, 0, 1, 0, 0, 0, 0, 1, 0, 0, 0, 1, 0, 0, 1]) (.l [1, 0, 1, 1, 0, 1, 0, 1, 0, 0, 0, 1, 0, 0, 1])) (.s (.l [1, 0, 1, 0, 0, 0, 0, 1, 0, 1, 0, 1, 0, 0, 1]) (.l [1, 0, 1, 1, 0, 1, 0, 1, 0, 1, 0, 1, 0, 0, 1]))) (.s (.s (.l [1, 0, 0, 0, 0, 0, 0, 1, 0, 1, 0, 1]) (.l [1, 0, 0, 0, 0, 0, 0, 1, 0, 1, 0, 1])) (.s (.l [1, 0, 0, 0, 0, 0, 0, 1, 0, 0, 0, 1]) (.l [1, 0, 0, 0, 0, 0, 0, 1, 0, 0, 0, 1])))) (.s (.s (.s (.l [1, 1, 0, 0, 0, 0, 0, 0, 1, 0, 1, 0, 0, 1]) (.l [1, 1, 0, 0, 0, 0, 0, 0, 1, 0, 1, 0, 1, 1])) (.s (.l [1, 0, 0, 0, 0, 0, 1, 0, 1, 0, 1]) (.l [1, 0, 0, 0, 0, 0, 1, 0, 1, 0, 1]))) (.s (.s (.l [1, 1, 0, 0, 0, 0, 1, 0, 1, 0, 1, 0, 0, 1]) (.l [1, 1, 0, 0, 0, 0, 1, 0, 1, 0, 1, 0, 1, 1])) (.s (.l [1, 0, 0, 0, 0, 0, 0, 0, 1, 0, 1]) (.l [1, 0, 0, 0, 0, 0, 0, 0, 1, 0, 1]))))) rfl [_, _, _, _, _, _, _, _, _, _] [] hsb hsz hz (Lin.sub_ax _ _) (Lin.sub_ax _ _) (Lin.min_ax _ _)
      have zy : ((arrOf st).extract sb (sb + m)).size = m := by simp; exact Lin.lin [(.le (.a (.v 2) (.v 3)) (.v 4)), (.eq (.v 5) (.v 4)), (.le (.v 1) (.v 3)), (.or (.an (.le (.v 2) (.v 6)) (.eq (.a (.v 0) (.v 2)) (.v 6))) (.an (.le (.v 6) (.v 2)) (.eq (.v 0) (.k 0)))), (.or (.an (.le (.a (.v 2) (.v 1)) (.v 5)) (.eq (.v 6) (.a (.v 2) (.v 1)))) (.an (.le (.v 5) (.a (.v 2) (.v 1))) (.eq (.v 6) (.v 5))))] (.eq (.v 0) (.v 1)) (.s (.s (.s (.l [1, 0, 0, 0, 0, 0, 0, 1, 0, 0, 1]) (.l [1, 1, 0, 1, 1, 0, 0, 1, 0, 0, 1])) (.s (.l [1, 0, 0, 0, 0, 1, 0, 1, 0, 0, 1]) (.l [1, 1, 0, 1, 1, 1, 0, 1, 0, 0, 1]))) (.s (.s (.l [1, 0, 0, 0, 0, 0, 1, 0, 0, 1]) (.l [1, 0, 0, 0, 0, 0, 1, 0, 1, 1])) (.s (.l [1, 0, 0, 0, 0, 0, 1]) (.l [1, 0, 0, 0, 0, 0, 1])))) rfl [_, _, _, _, _, _, _] [] hsz hz hmn (Lin.sub_ax _ _) (Lin.min_ax _ _)
      have T : Two a₀ key ((arrOf st).extract (sa + k) sb) ((arrOf st).extract sb (sb + m)) := by
        refine ⟨fun j hj => by rw [hx j hj]; exact hin _ _, fun j hj => by rw [hy j hj]; exact hin _ _, ext_srt (fun p q a1 a2 a3 => hs1 p q (by exact Lin.lin [(.le (.a (.v 0) (.v 2)) (.v 1))] (.le (.v 0) (.v 1)) (.l [1, 1]) rfl [_, _, _] [] a1) a2 a3) (by exact Lin.lin [(.le (.a (.v 0) (.v 2)) (.v 3)), (.eq (.v 1) (.v 3))] (.le (.v 0) (.v 1)) (.l [1, 1, 0, 1]) rfl [_, _, _, _] [] hsz hz), ext_srt (fun p q a1 a2 a3 => hs2 p q a1 a2 (by exact Lin.lin [(.le (.v 3) (.v 2)), (.lt (.v 0) (.a (.v 1) (.v 3)))] (.lt (.v 0) (.a (.v 1) (.v 2))) (.l [1, 1, 1]) rfl [_, _, _, _] [] hmn a3)) (by exact Lin.lin [(.le (.a (.v 0) (.v 3)) (.v 4)), (.eq (.v 2) (.v 4)), (.le (.v 1) (.v 3))] (.le (.a (.v 0) (.v 1)) (.v 2)) (.l [1, 1, 0, 1, 1]) rfl [_, _, _, _, _] [] hsz hz hmn), by exact Lin.lin [(.eq (.v 0) (.v 1)), (.no (.eq (.v 1) (.k 0)))] (.le (.k 1) (.v 0)) (.s (.l [0, 1, 0, 1]) (.l [1, 0, 1, 1])) rfl [_, _] [] zx hk0, by exact Lin.lin [(.eq (.v 0) (.v 1)), (.no (.eq (.v 1) (.k 0)))] (.le (.k 1) (.v 0)) (.s (.l [0, 1, 0, 1]) (.l [1, 0, 1, 1])) rfl [_, _] [] zy hm0, fun j hj h0 => ?_, fun j hj h0 => ?_⟩
        · rw [hx j hj, hy 0 h0]
          have := f2 (sa + k + j) (by exact Lin.lin [] (.le (.a (.v 0) (.v 1)) (.a (.a (.v 0) (.v 1)) (.v 2))) (.l [1]) rfl [_, _, _] []) (by exact Lin.lin [(.eq (.v 3) (.a (.v 0) (.v 4))), (.eq (.v 5) (.v 6)), (.lt (.v 2) (.v 5)), (.or (.an (.le (.v 1) (.v 4)) (.eq (.a (.v 6) (.v 1)) (.v 4))) (.an (.le (.v 4) (.v 1)) (.eq (.v 6) (.k 0))))] (.lt (.a (.a (.v 0) (.v 1)) (.v 2)) (.v 3)) (.s (.l [1, 0, 1, 1, 0, 1, 0, 1]) (.l [0, 0, 0, 1, 0, 1, 0, 1])) rfl [_, _, _, _, _, _, _] [] hsb zx hj (Lin.sub_ax _ _))
          rw [KS_get (by exact Lin.lin [(.le (.k 1) (.v 2)), (.le (.a (.v 0) (.v 2)) (.v 3)), (.eq (.v 1) (.v 3))] (.lt (.v 0) (.v 1)) (.l [1, 1, 1, 0, 1]) rfl [_, _, _, _] [] hnb hsz hz), KS_get (by exact Lin.lin [(.eq (.v 4) (.a (.v 0) (.v 5))), (.le (.a (.v 4) (.v 6)) (.v 7)), (.eq (.v 3) (.v 7)), (.eq (.v 8) (.v 9)), (.lt (.v 2) (.v 8)), (.or (.an (.le (.v 1) (.v 5)) (.eq (.a (.v 9) (.v 1)) (.v 5))) (.an (.le (.v 5) (.v 1)) (.eq (.v 9) (.k 0))))] (.lt (.a (.a (.v 0) (.v 1)) (.v 2)) (.v 3)) (.s (.l [1, 0, 1, 1, 0, 1, 1, 0, 1, 0, 1]) (.l [0, 0, 0, 0, 0, 0, 1, 0, 1, 0, 1])) rfl [_, _, _, _, _, _, _, _, _, _] [] hsb hsz hz zx hj (Lin.sub_ax _ _))] at this
          exact this
        · rw [hx _ h0, hy j hj]
          have := f3 (sb + j) (by exact Lin.lin [] (.le (.v 0) (.a (.v 0) (.v 1))) (.l [1]) rfl [_, _] []) (by exact Lin.lin [(.eq (.v 3) (.v 2)), (.lt (.v 1) (.v 3))] (.lt (.a (.v 0) (.v 1)) (.a (.v 0) (.v 2))) (.l [1, 1, 0, 1]) rfl [_, _, _, _] [] zy hj)
          rw [KS_get (by exact Lin.lin [(.le (.a (.v 0) (.v 3)) (.v 4)), (.eq (.v 2) (.v 4)), (.le (.v 5) (.v 3)), (.eq (.v 6) (.v 5)), (.lt (.v 1) (.v 6))] (.lt (.a (.v 0) (.v 1)) (.v 2)) (.l [1, 1, 0, 1, 1, 1, 0, 1]) rfl [_, _, _, _, _, _, _] [] hsz hz hmn zy hj), KS_get (by exact Lin.lin [(.le (.k 1) (.v 2)), (.le (.a (.v 3) (.v 2)) (.v 4)), (.eq (.v 1) (.v 4)), (.or (.an (.le (.k 1) (.v 3)) (.eq (.a (.v 0) (.k 1)) (.v 3))) (.an (.le (.v 3) (.k 1)) (.eq (.v 0) (.k 0))))] (.lt (.v 0) (.v 1)) (.s (.l [1, 1, 1, 0, 1, 0, 1]) (.l [1, 1, 1, 0, 1, 0, 1])) rfl [_, _, _, _, _] [] hnb hsz hz (Lin.sub_ax _ _))] at this
          have e : sa + k + (((arrOf st).extract (sa + k) sb).size - 1) = sb - 1 := by exact Lin.lin [(.eq (.v 4) (.v 3)), (.eq (.v 5) (.v 6)), (.lt (.v 2) (.v 5)), (.or (.an (.le (.k 1) (.a (.a (.v 0) (.v 1)) (.v 6))) (.eq (.a (.v 4) (.k 1)) (.a (.a (.v 0) (.v 1)) (.v 6)))) (.an (.le (.a (.a (.v 0) (.v 1)) (.v 6)) (.k 1)) (.eq (.v 4) (.k 0)))), (.or (.an (.le (.k 1) (.v 5)) (.eq (.a (.v 2) (.k 1)) (.v 5))) (.an (.le (.v 5) (.k 1)) (.eq (.v 2) (.k 0))))] (.eq (.a (.a (.v 0) (.v 1)) (.v 2)) (.v 3)) (.s (.s (.s (.l [1, 0, 1, 0, 1, 0, 0, 1, 0, 0, 0, 1]) (.l [1, 0, 1, 0, 1, 0, 0, 1, 0, 1, 0, 1])) (.s (.l [1, 0, 1, 0, 0, 0, 0, 1, 0, 1, 0, 1]) (.l [1, 0, 1, 0, 0, 0, 0, 1, 0, 0, 0, 1]))) (.s (.s (.l [1, 1, 0, 1, 0, 1, 0, 0, 1]) (.l [1, 1, 0, 1, 0, 1, 0, 0, 1])) (.s (.l [1, 1, 0, 1, 0, 1, 1, 0, 1]) (.l [1, 1, 0, 1, 0, 1, 1, 0, 1])))) rfl [_, _, _, _, _, _, _] [] hlast zx h0 (Lin.sub_ax _ _) (Lin.sub_ax _ _)
          simp only [e]
          exact this
      have fin : ∀ (r : Array Keyed) (st' : SortSt), Same (SortSt.mk' (kindOf st) (arrOf st) (((pendingOf st).setIfInBounds i (sa, na + nb, pw)).eraseIdxIfInBounds (i + 1)) (gallopOf st) (failedOf st)) st' → Res key ((arrOf st).extract (sa + k) sb) ((arrOf st).extract sb (sb + m)) r →
          Q true (setArr st' (over (arrOf st') (sa + k) r.toList.zipIdx)) ∧ (failedOf st').isNone = true := by
        intro r st' hS hR
        have earr : arrOf st' = arrOf st := hS.arr
        have hfail : failedOf st' = none := hS.ok.trans hA.ok
        have hcat : ((arrOf st).extract (sa + k) sb).toList ++ ((arrOf st).extract sb (sb + m)).toList = ((arrOf st).extract (sa + k) (sb + m)).toList := by
          rw [← Array.toList_append, Array.extract_append_extract]
          congr 2 <;> lia
        have hp : r.toList.Perm ((arrOf st).extract (sa + k) (sb + m)).toList := hcat ▸ hR.1
        have hlen : r.toList.length = sb + m - (sa + k) := by rw [hp.length_eq]; simp; exact Lin.lin [(.le (.a (.v 2) (.v 3)) (.v 4)), (.eq (.v 5) (.v 4)), (.le (.v 6) (.v 3)), (.or (.an (.le (.v 1) (.v 7)) (.eq (.v 0) (.v 1))) (.an (.le (.v 7) (.v 1)) (.eq (.v 0) (.v 7)))), (.or (.an (.le (.a (.v 8) (.v 9)) (.v 5)) (.eq (.a (.v 7) (.a (.v 8) (.v 9))) (.v 5))) (.an (.le (.v 5) (.a (.v 8) (.v 9))) (.eq (.v 7) (.k 0)))), (.or (.an (.le (.a (.v 8) (.v 9)) (.a (.v 2) (.v 6))) (.eq (.a (.v 1) (.a (.v 8) (.v 9))) (.a (.v 2) (.v 6)))) (.an (.le (.a (.v 2) (.v 6)) (.a (.v 8) (.v 9))) (.eq (.v 1) (.k 0))))] (.eq (.v 0) (.v 1)) (.s (.s (.s (.s (.l [1, 0, 0, 0, 0, 0, 0, 1]) (.l [1, 0, 0, 0, 0, 0, 0, 1])) (.s (.l [1, 0, 0, 0, 0, 0, 0, 1]) (.l [1, 0, 0, 0, 0, 0, 0, 1]))) (.s (.s (.l [1, 1, 0, 1, 1, 0, 0, 1, 0, 0, 1, 0, 1]) (.l [1, 0, 0, 0, 0, 0, 0, 1, 1, 0, 1, 0, 1])) (.s (.l [1, 1, 0, 1, 1, 0, 0, 1, 1, 0, 1, 0, 1]) (.l [1, 0, 0, 0, 0, 0, 0, 1, 0, 0, 1, 0, 1])))) (.s (.s (.s (.l [1, 0, 0, 0, 0, 0, 1]) (.l [1, 0, 0, 0, 0, 0, 1])) (.s (.l [1, 0, 0, 0, 0, 0, 1]) (.l [1, 0, 0, 0, 0, 0, 1]))) (.s (.s (.l [1, 0, 0, 0, 0, 1, 1]) (.l [1, 0, 0, 0, 0, 1, 1])) (.s (.l [1, 0, 0, 0, 0, 1, 1]) (.l [1, 0, 0, 0, 0, 1, 1]))))) rfl [_, _, _, _, _, _, _, _, _, _] [] hsz hz hmn (Lin.min_ax _ _) (Lin.sub_ax _ _) (Lin.sub_ax _ _)
        have hget : ∀ t, KS key (over (arrOf st) (sa + k) r.toList.zipIdx) t = if sa + k ≤ t ∧ t < sb + m then key (r.toList[t - (sa + k)]?.getD default) else KS key (arrOf st) t := fun t => by
          unfold KS
          rw [over_get (sa + k) r.toList 0 (arrOf st) (by exact Lin.lin [(.eq (.v 4) (.a (.v 0) (.v 5))), (.le (.a (.v 4) (.v 6)) (.v 7)), (.eq (.v 3) (.v 7)), (.le (.v 1) (.v 5)), (.le (.v 8) (.v 6)), (.eq (.v 2) (.v 9)), (.or (.an (.le (.a (.v 0) (.v 1)) (.a (.v 4) (.v 8))) (.eq (.a (.v 9) (.a (.v 0) (.v 1))) (.a (.v 4) (.v 8)))) (.an (.le (.a (.v 4) (.v 8)) (.a (.v 0) (.v 1))) (.eq (.v 9) (.k 0))))] (.le (.a (.a (.a (.v 0) (.v 1)) (.k 0)) (.v 2)) (.v 3)) (.s (.l [1, 0, 0, 1, 0, 1, 0, 1, 1, 0, 0, 1]) (.l [1, 0, 1, 1, 0, 1, 1, 1, 1, 0, 0, 1])) rfl [_, _, _, _, _, _, _, _, _, _] [] hsb hsz hz hkn hmn hlen (Lin.sub_ax _ _))]
          by_cases c : sa + k ≤ t ∧ t < sb + m
          · rw [if_pos (by exact Lin.lin [(.eq (.v 3) (.v 4)), (.an (.le (.a (.v 0) (.v 1)) (.v 2)) (.lt (.v 2) (.a (.v 5) (.v 6)))), (.or (.an (.le (.a (.v 0) (.v 1)) (.a (.v 5) (.v 6))) (.eq (.a (.v 4) (.a (.v 0) (.v 1))) (.a (.v 5) (.v 6)))) (.an (.le (.a (.v 5) (.v 6)) (.a (.v 0) (.v 1))) (.eq (.v 4) (.k 0))))] (.an (.le (.a (.a (.v 0) (.v 1)) (.k 0)) (.v 2)) (.lt (.v 2) (.a (.a (.a (.v 0) (.v 1)) (.k 0)) (.v 3)))) (.s (.s (.l [1, 0, 0, 1]) (.l [1, 0, 0, 1])) (.s (.l [1, 0, 1, 0, 1, 0, 0, 1]) (.l [0, 0, 0, 1, 1, 1]))) rfl [_, _, _, _, _, _, _] [] hlen c (Lin.sub_ax _ _)), if_pos c]; rfl
          · rw [if_neg (by exact Lin.lin [(.eq (.v 3) (.v 4)), (.no (.an (.le (.a (.v 0) (.v 1)) (.v 2)) (.lt (.v 2) (.a (.v 5) (.v 6))))), (.or (.an (.le (.a (.v 0) (.v 1)) (.a (.v 5) (.v 6))) (.eq (.a (.v 4) (.a (.v 0) (.v 1))) (.a (.v 5) (.v 6)))) (.an (.le (.a (.v 5) (.v 6)) (.a (.v 0) (.v 1))) (.eq (.v 4) (.k 0))))] (.no (.an (.le (.a (.a (.v 0) (.v 1)) (.k 0)) (.v 2)) (.lt (.v 2) (.a (.a (.a (.v 0) (.v 1)) (.k 0)) (.v 3))))) (.s (.s (.l [1, 0, 0, 0, 1]) (.l [1, 0, 0, 0, 1])) (.s (.l [0, 1, 1, 0, 1, 0, 1]) (.l [1, 1, 1, 0, 0, 0, 1]))) rfl [_, _, _, _, _, _, _] [] hlen c (Lin.sub_ax _ _)), if_neg c]
        have hr : ∀ t, sa + k ≤ t → t < sb + m → ∃ u, sa + k ≤ u ∧ u < sb + m ∧ key (r.toList[t - (sa + k)]?.getD default) = KS key (arrOf st) u := fun t t1 t2 => by
          have ht : t - (sa + k) < r.toList.length := by exact Lin.lin [(.eq (.v 1) (.v 2)), (.le (.a (.v 3) (.v 4)) (.v 5)), (.lt (.v 5) (.a (.v 6) (.v 7))), (.or (.an (.le (.a (.v 3) (.v 4)) (.a (.v 6) (.v 7))) (.eq (.a (.v 2) (.a (.v 3) (.v 4))) (.a (.v 6) (.v 7)))) (.an (.le (.a (.v 6) (.v 7)) (.a (.v 3) (.v 4))) (.eq (.v 2) (.k 0)))), (.or (.an (.le (.a (.v 3) (.v 4)) (.v 5)) (.eq (.a (.v 0) (.a (.v 3) (.v 4))) (.v 5))) (.an (.le (.v 5) (.a (.v 3) (.v 4))) (.eq (.v 0) (.k 0))))] (.lt (.v 0) (.v 1)) (.s (.s (.l [1, 0, 1, 0, 1, 0, 0, 1, 0, 1]) (.l [1, 0, 1, 1, 1, 0, 0, 1, 0, 1])) (.s (.l [0, 0, 0, 1, 1, 1]) (.l [0, 0, 0, 1, 1, 1]))) rfl [_, _, _, _, _, _, _, _] [] hlen t1 t2 (Lin.sub_ax _ _) (Lin.sub_ax _ _)
          rw [List.getElem?_eq_getElem ht]
          refine Classical.byContradiction fun hnX => ?_
          obtain ⟨u, u1, u2, u3⟩ := mem_seg (key := key) (hp.mem_iff.mp (List.getElem_mem ht)) (by exact Lin.lin [(.le (.a (.v 0) (.v 3)) (.v 4)), (.eq (.v 2) (.v 4)), (.le (.v 1) (.v 3))] (.le (.a (.v 0) (.v 1)) (.v 2)) (.l [1, 1, 0, 1, 1]) rfl [_, _, _, _, _] [] hsz hz hmn)
          refine hnX ?_
          clear hnX
          exact ⟨u, u1, u2, u3.symm⟩
        have low : ∀ p u, sa ≤ p → p < sa + k → sa + k ≤ u → u < sb + m → T3.le (KS key (arrOf st) p) (KS key (arrOf st) u) = true := fun p u p1 p2 u1 u2 => by
          by_cases c : u < sb
          · exact hs1 p u p1 (by exact Lin.lin [(.lt (.v 0) (.a (.v 2) (.v 3))), (.le (.a (.v 2) (.v 3)) (.v 1))] (.le (.v 0) (.v 1)) (.l [1, 1, 1]) rfl [_, _, _, _] [] p2 u1) c
          · exact le3_trans (f1 p p1 p2) (hs2 sb u (Nat.le_refl _) (by exact Lin.lin [(.no (.lt (.v 1) (.v 0)))] (.le (.v 0) (.v 1)) (.l [1, 1]) rfl [_, _] [] c) (by exact Lin.lin [(.le (.v 3) (.v 2)), (.lt (.v 0) (.a (.v 1) (.v 3)))] (.lt (.v 0) (.a (.v 1) (.v 2))) (.l [1, 1, 1]) rfl [_, _, _, _] [] hmn u2))
        have high : ∀ u q, sa + k ≤ u → u < sb + m → sb + m ≤ q → q < sb + nb → T3.le (KS key (arrOf st) u) (KS key (arrOf st) q) = true := fun u q u1 u2 q1 q2 => by
          by_cases c : u < sb
          · exact le3_trans (hs1 u (sb - 1) (by exact Lin.lin [(.le (.a (.v 0) (.v 2)) (.v 1))] (.le (.v 0) (.v 1)) (.l [1, 1]) rfl [_, _, _] [] u1) (by exact Lin.lin [(.lt (.v 0) (.v 2)), (.or (.an (.le (.k 1) (.v 2)) (.eq (.a (.v 1) (.k 1)) (.v 2))) (.an (.le (.v 2) (.k 1)) (.eq (.v 1) (.k 0))))] (.le (.v 0) (.v 1)) (.s (.l [1, 1, 0, 0, 1]) (.l [1, 1, 1, 0, 1])) rfl [_, _, _] [] c (Lin.sub_ax _ _)) (by exact Lin.lin [(.lt (.v 2) (.v 1)), (.or (.an (.le (.k 1) (.v 1)) (.eq (.a (.v 0) (.k 1)) (.v 1))) (.an (.le (.v 1) (.k 1)) (.eq (.v 0) (.k 0))))] (.lt (.v 0) (.v 1)) (.s (.l [1, 0, 0, 1]) (.l [1, 1, 0, 1])) rfl [_, _, _] [] c (Lin.sub_ax _ _))) (f4 q q1 q2)
          · exact hs2 u q (by exact Lin.lin [(.no (.lt (.v 1) (.v 0)))] (.le (.v 0) (.v 1)) (.l [1, 1]) rfl [_, _] [] c) (by exact Lin.lin [(.lt (.v 0) (.a (.v 2) (.v 3))), (.le (.a (.v 2) (.v 3)) (.v 1))] (.le (.v 0) (.v 1)) (.l [1, 1, 1]) rfl [_, _, _, _] [] u2 q1) q2
        refine ⟨?_, by rw [hfail]; rfl⟩
        rw [earr]
        refine h _ ⟨?_, hS.kind.trans hA.kind, hfail⟩ hS.pend (fun t ht => ?_) fun p q p1 pq q1 => ?_
        · exact (over_perm (by exact Lin.lin [(.eq (.v 2) (.a (.v 0) (.v 4))), (.le (.v 1) (.v 4))] (.le (.a (.v 0) (.v 1)) (.a (.v 2) (.v 3))) (.l [1, 0, 1, 1]) rfl [_, _, _, _, _] [] hsb hkn) (by exact Lin.lin [(.le (.a (.v 0) (.v 3)) (.v 4)), (.eq (.v 2) (.v 4)), (.le (.v 1) (.v 3))] (.le (.a (.v 0) (.v 1)) (.v 2)) (.l [1, 1, 0, 1, 1]) rfl [_, _, _, _, _] [] hsz hz hmn) hp).trans hA.perm
        · show (over (arrOf st) (sa + k) r.toList.zipIdx)[t]? = _
          rw [over_get (sa + k) r.toList 0 (arrOf st) (by exact Lin.lin [(.eq (.v 4) (.a (.v 0) (.v 5))), (.le (.a (.v 4) (.v 6)) (.v 7)), (.eq (.v 3) (.v 7)), (.le (.v 1) (.v 5)), (.le (.v 8) (.v 6)), (.eq (.v 2) (.v 9)), (.or (.an (.le (.a (.v 0) (.v 1)) (.a (.v 4) (.v 8))) (.eq (.a (.v 9) (.a (.v 0) (.v 1))) (.a (.v 4) (.v 8)))) (.an (.le (.a (.v 4) (.v 8)) (.a (.v 0) (.v 1))) (.eq (.v 9) (.k 0))))] (.le (.a (.a (.a (.v 0) (.v 1)) (.k 0)) (.v 2)) (.v 3)) (.s (.l [1, 0, 0, 1, 0, 1, 0, 1, 1, 0, 0, 1]) (.l [1, 0, 1, 1, 0, 1, 1, 1, 1, 0, 0, 1])) rfl [_, _, _, _, _, _, _, _, _, _] [] hsb hsz hz hkn hmn hlen (Lin.sub_ax _ _)), if_neg (by exact Lin.lin [(.le (.v 4) (.v 5)), (.eq (.v 3) (.v 6)), (.or (.lt (.v 2) (.v 0)) (.le (.a (.v 7) (.v 5)) (.v 2))), (.or (.an (.le (.a (.v 0) (.v 1)) (.a (.v 7) (.v 4))) (.eq (.a (.v 6) (.a (.v 0) (.v 1))) (.a (.v 7) (.v 4)))) (.an (.le (.a (.v 7) (.v 4)) (.a (.v 0) (.v 1))) (.eq (.v 6) (.k 0))))] (.no (.an (.le (.a (.a (.v 0) (.v 1)) (.k 0)) (.v 2)) (.lt (.v 2) (.a (.a (.a (.v 0) (.v 1)) (.k 0)) (.v 3))))) (.s (.s (.l [1, 0, 0, 0, 0, 1]) (.l [1, 1, 0, 1, 0, 0, 0, 1])) (.s (.l [0, 1, 1, 1, 0, 1, 0, 1]) (.l [1, 1, 0, 1, 0, 0, 0, 1]))) rfl [_, _, _, _, _, _, _, _] [] hmn hlen ht (Lin.sub_ax _ _))]
        · show T3.le (KS key (over (arrOf st) (sa + k) r.toList.zipIdx) p) (KS key (over (arrOf st) (sa + k) r.toList.zipIdx) q) = true
          rw [hget p, hget q]
          by_cases cp : sa + k ≤ p ∧ p < sb + m
          · rw [if_pos cp]
            by_cases cq : sa + k ≤ q ∧ q < sb + m
            · rw [if_pos cq]
              have h1' : p - (sa + k) < r.toList.length := by exact Lin.lin [(.eq (.v 1) (.v 2)), (.an (.le (.a (.v 3) (.v 4)) (.v 5)) (.lt (.v 5) (.a (.v 6) (.v 7)))), (.or (.an (.le (.a (.v 3) (.v 4)) (.a (.v 6) (.v 7))) (.eq (.a (.v 2) (.a (.v 3) (.v 4))) (.a (.v 6) (.v 7)))) (.an (.le (.a (.v 6) (.v 7)) (.a (.v 3) (.v 4))) (.eq (.v 2) (.k 0)))), (.or (.an (.le (.a (.v 3) (.v 4)) (.v 5)) (.eq (.a (.v 0) (.a (.v 3) (.v 4))) (.v 5))) (.an (.le (.v 5) (.a (.v 3) (.v 4))) (.eq (.v 0) (.k 0))))] (.lt (.v 0) (.v 1)) (.s (.s (.l [1, 0, 1, 0, 1, 0, 0, 1, 0, 1]) (.l [1, 0, 1, 1, 1, 0, 0, 1, 0, 1])) (.s (.l [0, 0, 0, 1, 1, 1]) (.l [0, 0, 0, 1, 1, 1]))) rfl [_, _, _, _, _, _, _, _] [] hlen cp (Lin.sub_ax _ _) (Lin.sub_ax _ _)
              have h2' : q - (sa + k) < r.toList.length := by exact Lin.lin [(.eq (.v 1) (.v 2)), (.an (.le (.a (.v 3) (.v 4)) (.v 5)) (.lt (.v 5) (.a (.v 6) (.v 7)))), (.or (.an (.le (.a (.v 3) (.v 4)) (.a (.v 6) (.v 7))) (.eq (.a (.v 2) (.a (.v 3) (.v 4))) (.a (.v 6) (.v 7)))) (.an (.le (.a (.v 6) (.v 7)) (.a (.v 3) (.v 4))) (.eq (.v 2) (.k 0)))), (.or (.an (.le (.a (.v 3) (.v 4)) (.v 5)) (.eq (.a (.v 0) (.a (.v 3) (.v 4))) (.v 5))) (.an (.le (.v 5) (.a (.v 3) (.v 4))) (.eq (.v 0) (.k 0))))] (.lt (.v 0) (.v 1)) (.s (.s (.l [1, 0, 1, 0, 1, 0, 0, 1, 0, 1]) (.l [1, 0, 1, 1, 1, 0, 0, 1, 0, 1])) (.s (.l [0, 0, 0, 1, 1, 1]) (.l [0, 0, 0, 1, 1, 1]))) rfl [_, _, _, _, _, _, _, _] [] hlen cq (Lin.sub_ax _ _) (Lin.sub_ax _ _)
              rw [List.getElem?_eq_getElem h1', List.getElem?_eq_getElem h2']
              have := srt_le hR.2 (i := p - (sa + k)) (j := q - (sa + k)) (by simpa using h1') (by simpa using h2') (by exact Lin.lin [(.le (.v 2) (.v 3)), (.or (.an (.le (.a (.v 4) (.v 5)) (.v 3)) (.eq (.a (.v 1) (.a (.v 4) (.v 5))) (.v 3))) (.an (.le (.v 3) (.a (.v 4) (.v 5))) (.eq (.v 1) (.k 0)))), (.or (.an (.le (.a (.v 4) (.v 5)) (.v 2)) (.eq (.a (.v 0) (.a (.v 4) (.v 5))) (.v 2))) (.an (.le (.v 2) (.a (.v 4) (.v 5))) (.eq (.v 0) (.k 0))))] (.le (.v 0) (.v 1)) (.s (.s (.l [1, 1, 0, 0, 1, 0, 1]) (.l [1, 0, 1, 0, 1, 0, 1])) (.s (.l [1, 1, 1, 0, 1, 0, 1]) (.l [1, 0, 0, 0, 1, 0, 1]))) rfl [_, _, _, _, _, _] [] pq (Lin.sub_ax _ _) (Lin.sub_ax _ _))
              simpa using this
            · rw [if_neg cq]
              refine Classical.byContradiction fun hnX => ?_
              obtain ⟨u, u1, u2, u3⟩ := hr p cp.1 cp.2
              refine hnX ?_
              clear hnX
              rw [u3]; exact high u q u1 u2 (by exact Lin.lin [(.le (.v 3) (.v 2)), (.an (.le (.a (.v 4) (.v 5)) (.v 3)) (.lt (.v 3) (.a (.v 0) (.v 1)))), (.no (.an (.le (.a (.v 4) (.v 5)) (.v 2)) (.lt (.v 2) (.a (.v 0) (.v 1)))))] (.le (.a (.v 0) (.v 1)) (.v 2)) (.s (.l [0, 1, 1, 0, 1]) (.l [1, 0, 0, 0, 1])) rfl [_, _, _, _, _, _] [] pq cp cq) q1
          · rw [if_neg cp]
            by_cases cq : sa + k ≤ q ∧ q < sb + m
            · rw [if_pos cq]
              refine Classical.byContradiction fun hnX => ?_
              obtain ⟨u, u1, u2, u3⟩ := hr q cq.1 cq.2
              refine hnX ?_
              clear hnX
              rw [u3]; exact low p u p1 (by exact Lin.lin [(.le (.v 0) (.v 3)), (.an (.le (.a (.v 1) (.v 2)) (.v 3)) (.lt (.v 3) (.a (.v 4) (.v 5)))), (.no (.an (.le (.a (.v 1) (.v 2)) (.v 0)) (.lt (.v 0) (.a (.v 4) (.v 5)))))] (.lt (.v 0) (.a (.v 1) (.v 2))) (.s (.l [1, 0, 0, 0, 1]) (.l [0, 1, 0, 1, 1])) rfl [_, _, _, _, _, _] [] pq cq cp) u1 u2
            · rw [if_neg cq]
              by_cases c1 : q < sb
              · exact hs1 p q p1 pq c1
              · by_cases c2 : sb ≤ p
                · exact hs2 p q c2 pq q1
                · exact le3_trans (low p sb p1 (by exact Lin.lin [(.no (.le (.v 3) (.v 0))), (.no (.an (.le (.a (.v 1) (.v 2)) (.v 0)) (.lt (.v 0) (.a (.v 3) (.v 4)))))] (.lt (.v 0) (.a (.v 1) (.v 2))) (.s (.l [1, 0, 1]) (.l [0, 1, 1])) rfl [_, _, _, _, _] [] c2 cp) (by exact Lin.lin [(.eq (.v 2) (.a (.v 0) (.v 3))), (.le (.v 1) (.v 3))] (.le (.a (.v 0) (.v 1)) (.v 2)) (.l [1, 0, 1, 1]) rfl [_, _, _, _] [] hsb hkn) (by exact Lin.lin [(.no (.eq (.v 1) (.k 0)))] (.lt (.v 0) (.a (.v 0) (.v 1))) (.s (.l [0, 1]) (.l [1, 1])) rfl [_, _] [] hm0)) (hs2 sb q (Nat.le_refl _) (by exact Lin.lin [(.no (.lt (.v 1) (.v 0)))] (.le (.v 0) (.v 1)) (.l [1, 1]) rfl [_, _] [] c1) q1)
      by_cases hc : na - k ≤ m
      · rw [if_pos hc]
        refine wpS_bind (wpS_mergeLo H hA.kind T fun r st' hS hR => ?_)
        refine Classical.byContradiction fun hnX => ?_
        obtain ⟨q1, q2⟩ := fin r st' hS hR
        refine hnX ?_
        clear hnX
        refine wpS_bind (wpS_modify (wpS_bind (wpS_get (wpS_pure ?_))))
        rw [show (failedOf (setArr st' (over (arrOf st') (sa + k) r.toList.zipIdx))).isNone = true from q2]
        exact q1
      · rw [if_neg hc]
        refine wpS_bind (wpS_mergeHi H hA.kind T fun r st' hS hR => ?_)
        refine Classical.byContradiction fun hnX => ?_
        obtain ⟨q1, q2⟩ := fin r st' hS hR
        refine hnX ?_
        clear hnX
        refine wpS_bind (wpS_modify (wpS_bind (wpS_get (wpS_pure ?_))))
        rw [show (failedOf (setArr st' (over (arrOf st') (sa + k) r.toList.zipIdx))).isNone = true from q2]
        exact q1
end
end Mini

/-! The whole sort of an array. -/
set_option autoImplicit false
namespace Mini
open PySem PyProof.Rows

/-- runs side by side from b to e, each in order -/
noncomputable def Runs (key : Keyed → T3) (xs : Array Keyed) : Nat → List (Nat × Nat × Nat) → Nat → Prop
  | b, [], e => b = e
  | b, r :: l, e => r.1 = b ∧ 1 ≤ r.2.1 ∧ SegS key xs b (b + r.2.1) ∧ Runs key xs (b + r.2.1) l e

section
variable {key : Keyed → T3} {xs ys : Array Keyed}
theorem SegS.congr {i j : Nat} (h : SegS key xs i j) (he : ∀ k : Nat, i ≤ k → k < j → ys[k]? = xs[k]?) : SegS key ys i j := fun p q h1 h2 h3 => by
  rw [KS_congr (he p h1 (by exact Lin.lin [(.le (.v 0) (.v 2)), (.lt (.v 2) (.v 1))] (.lt (.v 0) (.v 1)) (.l [1, 1, 1]) rfl [_, _, _] [] h2 h3)), KS_congr (he q (by exact Lin.lin [(.le (.v 0) (.v 2)), (.le (.v 2) (.v 1))] (.le (.v 0) (.v 1)) (.l [1, 1, 1]) rfl [_, _, _] [] h1 h2) h3)]; exact h p q h1 h2 h3
theorem Runs.le : ∀ {l : List (Nat × Nat × Nat)} {b e : Nat}, Runs key xs b l e → b + l.length ≤ e
  | [], b, e, h => by have : b = e := h; simp; exact Lin.lin [(.eq (.v 0) (.v 1))] (.le (.v 0) (.v 1)) (.l [1, 1]) rfl [_, _] [] this
  | r :: l, b, e, h => by obtain ⟨_, h2, _, h4⟩ := h; have := Runs.le h4; simp; exact Lin.lin [(.le (.k 1) (.v 3)), (.le (.a (.a (.v 0) (.v 3)) (.v 1)) (.v 2))] (.le (.a (.v 0) (.a (.v 1) (.k 1))) (.v 2)) (.l [1, 1, 1]) rfl [_, _, _, _] [] h2 this
theorem Runs.congr : ∀ {l : List (Nat × Nat × Nat)} {b e : Nat}, Runs key xs b l e → (∀ k : Nat, b ≤ k → k < e → ys[k]? = xs[k]?) → Runs key ys b l e
  | [], b, e, h, _ => h
  | r :: l, b, e, h, he => by
    refine Classical.byContradiction fun hnX => ?_
    obtain ⟨h1, h2, h3, h4⟩ := h
    refine hnX ?_
    clear hnX
    have := Runs.le h4
    exact ⟨h1, h2, h3.congr fun k a1 a2 => he k a1 (by exact Lin.lin [(.le (.a (.a (.v 2) (.v 3)) (.v 4)) (.v 1)), (.lt (.v 0) (.a (.v 2) (.v 3)))] (.lt (.v 0) (.v 1)) (.l [1, 1, 1]) rfl [_, _, _, _, _] [] this a2), Runs.congr h4 fun k a1 a2 => he k (by exact Lin.lin [(.le (.a (.v 0) (.v 2)) (.v 1))] (.le (.v 0) (.v 1)) (.l [1, 1]) rfl [_, _, _] [] a1) a2⟩
theorem Runs.snoc : ∀ {l : List (Nat × Nat × Nat)} {b e n w : Nat}, Runs key xs b l e → 1 ≤ n → SegS key xs e (e + n) → Runs key xs b (l ++ [(e, n, w)]) (e + n)
  | [], b, e, n, w, h, hn, hs => by have h : b = e := h; subst h; exact ⟨rfl, hn, hs, rfl⟩
  | r :: l, b, e, n, w, h, hn, hs => by
    refine Classical.byContradiction fun hnX => ?_
    obtain ⟨h1, h2, h3, h4⟩ := h
    refine hnX ?_
    clear hnX
    exact ⟨h1, h2, h3, Runs.snoc h4 hn hs⟩
/-- two neighbours -/
theorem Runs.pair : ∀ {l1 : List (Nat × Nat × Nat)} {b e : Nat} {r1 r2 : Nat × Nat × Nat} {l2 : List (Nat × Nat × Nat)}, Runs key xs b (l1 ++ r1 :: r2 :: l2) e → b ≤ r1.1 ∧ 1 ≤ r1.2.1 ∧ 1 ≤ r2.2.1 ∧ r2.1 = r1.1 + r1.2.1 ∧ r2.1 + r2.2.1 ≤ e ∧ SegS key xs r1.1 r2.1 ∧ SegS key xs r2.1 (r2.1 + r2.2.1)
  | [], b, e, r1, r2, l2, h => by
    refine Classical.byContradiction fun hnX => ?_
    obtain ⟨h1, h2, h3, h4, h5, h6, h7⟩ := h
    refine hnX ?_
    clear hnX
    have := Runs.le h7
    subst h1
    refine ⟨Nat.le_refl _, h2, h5, h4, by exact Lin.lin [(.eq (.v 0) (.a (.v 3) (.v 4))), (.le (.a (.a (.a (.v 3) (.v 4)) (.v 1)) (.v 5)) (.v 2))] (.le (.a (.v 0) (.v 1)) (.v 2)) (.l [1, 1, 0, 1]) rfl [_, _, _, _, _, _] [] h4 this, ?_, ?_⟩
    · rw [h4]; exact h3
    · rw [h4]; exact h6
  | r :: l1, b, e, r1, r2, l2, h => by
    refine Classical.byContradiction fun hnX => ?_
    obtain ⟨h1, h2, h3, h4⟩ := h
    refine hnX ?_
    clear hnX
    refine Classical.byContradiction fun hnX => ?_
    obtain ⟨g1, g⟩ := Runs.pair h4
    refine hnX ?_
    clear hnX
    exact ⟨by exact Lin.lin [(.le (.a (.v 0) (.v 2)) (.v 1))] (.le (.v 0) (.v 1)) (.l [1, 1]) rfl [_, _, _] [] g1, g⟩
theorem Runs.join : ∀ {l1 : List (Nat × Nat × Nat)} {b e : Nat} {r1 r2 : Nat × Nat × Nat} {l2 : List (Nat × Nat × Nat)} {w : Nat}, Runs key xs b (l1 ++ r1 :: r2 :: l2) e → (∀ k : Nat, k < r1.1 ∨ r2.1 + r2.2.1 ≤ k → ys[k]? = xs[k]?) → SegS key ys r1.1 (r2.1 + r2.2.1) → Runs key ys b (l1 ++ (r1.1, r1.2.1 + r2.2.1, w) :: l2) e
  | [], b, e, r1, r2, l2, w, h, hk, hs => by
    refine Classical.byContradiction fun hnX => ?_
    obtain ⟨h1, h2, h3, h4, h5, h6, h7⟩ := h
    refine hnX ?_
    clear hnX
    subst h1
    refine ⟨rfl, by show 1 ≤ r1.2.1 + r2.2.1; exact Lin.lin [(.le (.k 1) (.v 1))] (.le (.k 1) (.a (.v 0) (.v 1))) (.l [1, 1]) rfl [_, _] [] h5, ?_, ?_⟩
    · show SegS key ys r1.1 (r1.1 + (r1.2.1 + r2.2.1))
      rw [← Nat.add_assoc, ← h4]; exact hs
    · show Runs key ys (r1.1 + (r1.2.1 + r2.2.1)) l2 e
      rw [← Nat.add_assoc]
      exact h7.congr fun k a1 a2 => hk k (.inr (by exact Lin.lin [(.eq (.v 0) (.a (.v 3) (.v 4))), (.le (.a (.a (.v 3) (.v 4)) (.v 1)) (.v 2))] (.le (.a (.v 0) (.v 1)) (.v 2)) (.l [1, 1, 0, 1]) rfl [_, _, _, _, _] [] h4 a1))
  | r :: l1, b, e, r1, r2, l2, w, h, hk, hs => by
    refine Classical.byContradiction fun hnX => ?_
    obtain ⟨h1, h2, h3, h4⟩ := h
    refine hnX ?_
    clear hnX
    have g := Runs.pair h4
    exact ⟨h1, h2, h3.congr fun k a1 a2 => hk k (.inl (by lia)), Runs.join h4 hk hs⟩
/-- the last one's power does not matter -/
theorem Runs.last : ∀ {l : List (Nat × Nat × Nat)} {b e n : Nat} {f : Nat × Nat × Nat → Nat × Nat × Nat}, (∀ r, (f r).1 = r.1 ∧ (f r).2.1 = r.2.1) → Runs key xs b l e → Runs key xs b (l.modify n f) e
  | [], b, e, n, f, hf, h => by simpa using h
  | r :: l, b, e, 0, f, hf, h => by
    refine Classical.byContradiction fun hnX => ?_
    obtain ⟨h1, h2, h3, h4⟩ := h
    refine hnX ?_
    clear hnX
    rw [List.modify_zero_cons]
    refine ⟨(hf r).1.trans h1, by rw [(hf r).2]; exact h2, by rw [(hf r).2]; exact h3, by rw [(hf r).2]; exact h4⟩
  | r :: l, b, e, n + 1, f, hf, h => by
    refine Classical.byContradiction fun hnX => ?_
    obtain ⟨h1, h2, h3, h4⟩ := h
    refine hnX ?_
    clear hnX
    rw [List.modify_succ_cons]
    exact ⟨h1, h2, h3, Runs.last hf h4⟩
end

theorem pend_split {p : Array (Nat × Nat × Nat)} {i : Nat} (h : i + 1 < p.size) : ∃ r1 r2, p[i]? = some r1 ∧ p[i + 1]? = some r2 ∧ p.toList = p.toList.take i ++ r1 :: r2 :: p.toList.drop (i + 2) ∧
    ∀ v, ((p.setIfInBounds i v).eraseIdxIfInBounds (i + 1)).toList = p.toList.take i ++ v :: p.toList.drop (i + 2) := by
  have hl : i + 1 < p.toList.length := by simpa using h
  refine ⟨p[i], p[i + 1], getElem?_pos p i (by exact Lin.lin [(.lt (.a (.v 0) (.k 1)) (.v 1))] (.lt (.v 0) (.v 1)) (.l [1, 1]) rfl [_, _] [] h), getElem?_pos p (i + 1) h, ?_, fun v => ?_⟩
  · have e1 : p.toList.drop i = p[i] :: p.toList.drop (i + 1) := by rw [List.drop_eq_getElem_cons (by lia)]; simp
    have e2 : p.toList.drop (i + 1) = p[i + 1] :: p.toList.drop (i + 2) := by rw [List.drop_eq_getElem_cons hl]; simp
    conv => lhs; rw [← List.take_append_drop i p.toList]
    rw [e1, e2]
  · have hs : i + 1 < (p.setIfInBounds i v).size := by simpa using h
    simp only [Array.eraseIdxIfInBounds, hs, dif_pos]
    rw [Array.toList_eraseIdx, Array.toList_setIfInBounds]
    rw [List.eraseIdx_eq_take_drop_succ, List.take_set, List.drop_set_of_lt (by exact Lin.lin [] (.lt (.v 0) (.a (.a (.v 0) (.k 1)) (.k 1))) (.l [1]) rfl [_] [])]
    rw [List.take_add_one, List.getElem?_eq_getElem (by exact Lin.lin [(.lt (.a (.v 0) (.k 1)) (.v 1))] (.lt (.v 0) (.v 1)) (.l [1, 1]) rfl [_, _] [] h)]
    simp only [Option.toList_some]
    rw [List.set_append_right _ _ (by simp; exact Lin.lin [(.or (.an (.le (.v 1) (.v 2)) (.eq (.v 0) (.v 1))) (.an (.le (.v 2) (.v 1)) (.eq (.v 0) (.v 2))))] (.le (.v 0) (.v 1)) (.s (.l [1, 0, 1]) (.l [1, 1, 1])) rfl [_, _, _] [] (Lin.min_ax _ _))]
    simp only [List.length_take, Array.length_toList]
    rw [show i - min i p.size = 0 by exact Lin.lin [(.lt (.a (.v 1) (.k 1)) (.v 2)), (.or (.an (.le (.v 3) (.v 1)) (.eq (.a (.v 0) (.v 3)) (.v 1))) (.an (.le (.v 1) (.v 3)) (.eq (.v 0) (.k 0)))), (.or (.an (.le (.v 1) (.v 2)) (.eq (.v 3) (.v 1))) (.an (.le (.v 2) (.v 1)) (.eq (.v 3) (.v 2))))] (.eq (.v 0) (.k 0)) (.s (.s (.s (.l [1, 0, 1, 0, 1]) (.l [1, 0, 1, 0, 1])) (.s (.l [1, 0, 0, 0, 1]) (.l [1, 0, 0, 0, 1]))) (.s (.s (.l [1, 0, 0, 1, 0, 0, 0, 1]) (.l [0, 1, 0, 0, 0, 1])) (.s (.l [1, 0, 0, 1]) (.l [1, 0, 0, 1])))) rfl [_, _, _, _] [] h (Lin.sub_ax _ _) (Lin.min_ax _ _)]
    simp

section
variable {prog : Program} {w : World} {A : Around} {E : Value → Shared → Prop} {s : Shared} {a₀ : Array Keyed} {κ : SortKind} {key : Keyed → T3}

/-- a merge within the runs -/
theorem wpS_runs {st : SortSt} {i e : Nat} {Q : Bool → SortSt → Prop} (H : LtOK prog w A E s κ a₀ key) (hA : SA a₀ κ st) (hR : Runs key (arrOf st) 0 (pendingOf st).toList e) (he : e ≤ a₀.size) (hi : i + 1 < (pendingOf st).size)
    (h : ∀ st', SA a₀ κ st' → Runs key (arrOf st') 0 (pendingOf st').toList e → (pendingOf st').size + 1 = (pendingOf st).size → (∀ k : Nat, e ≤ k → (arrOf st')[k]? = (arrOf st)[k]?) → Q true st') : wpS (model prog w) A E s (mergeAt' i) Q st := by
  refine Classical.byContradiction fun hnX => ?_
  obtain ⟨⟨s1, n1, w1⟩, ⟨s2, n2, w2⟩, h1, h2, hsp, hjoin⟩ := pend_split hi
  refine hnX ?_
  clear hnX
  have hR0 := hR
  rw [hsp] at hR0
  refine Classical.byContradiction fun hnX => ?_
  obtain ⟨g1, g2, g3, g4, g5, g6, g7⟩ := hR0.pair
  refine hnX ?_
  clear hnX
  dsimp only at g1 g2 g3 g4 g5 g6 g7
  refine wpS_mergeAt H hA h1 h2 g4 g2 g3 (by exact Lin.lin [(.le (.v 3) (.v 2)), (.le (.a (.v 0) (.v 1)) (.v 3))] (.le (.a (.v 0) (.v 1)) (.v 2)) (.l [1, 1, 1]) rfl [_, _, _, _] [] he g5) g6 g7 fun st' hA' hp hout hseg => h st' hA' ?_ ?_ fun k hk => hout k (.inr (by exact Lin.lin [(.le (.a (.v 0) (.v 1)) (.v 3)), (.le (.v 3) (.v 2))] (.le (.a (.v 0) (.v 1)) (.v 2)) (.l [1, 1, 1]) rfl [_, _, _, _] [] g5 hk))
  · rw [hp, hjoin]
    exact Runs.join (w := w1) hR0 hout hseg
  · have e1 := congrArg List.length (hjoin (s1, n1 + n2, w1))
    have e2 := congrArg List.length hsp
    rw [hp]
    simp only [Array.length_toList, List.length_append, List.length_cons] at e1 e2
    lia

theorem ite_le (c : Prop) [Decidable c] (u : Nat) : (if c then u - 1 else u) ≤ u := by split <;> lia

noncomputable def runTail (lo n size : Nat) : StateT SortSt Sem (ForInStep (Option Unit × Nat)) := do
  let st ← get
  match (pendingOf st).back? with
  | some (s1, n1, _) => do
    let r ← forIn [0:size] ((none, ()) : Option Unit × Unit) fun _ _ => do
      let st ← get
      match (if (pendingOf st).size > 1 then (pendingOf st)[(pendingOf st).size - 2]? else none) with
      | some (_, _, older) =>
        if older ≤ power' size (2 * s1 + n1) (2 * s1 + n1 + n1 + n) size then pure (ForInStep.done (none, ()))
        else do
          let b ← mergeAt' ((pendingOf st).size - 2)
          if (!b) = true then pure (ForInStep.done (some (), ())) else pure (ForInStep.yield (none, ()))
      | _ => pure (ForInStep.done (none, ()))
    match r.fst with
    | some r => pure (ForInStep.done (some r, lo))
    | none => do
      modify fun s => setPending s ((pendingOf s).modify ((pendingOf s).size - 1) fun x => (x.fst, x.2.fst, power' size (2 * s1 + n1) (2 * s1 + n1 + n1 + n) size))
      modify fun s => setPending s ((pendingOf s).push (lo, n, 0))
      pure (ForInStep.yield (none, lo + n))
  | _ => do
    modify fun s => setPending s ((pendingOf s).push (lo, n, 0))
    pure (ForInStep.yield (none, lo + n))

theorem wpS_runTail {lo n : Nat} {st : SortSt} {Q : ForInStep (Option Unit × Nat) → SortSt → Prop} (H : LtOK prog w A E s κ a₀ key) (hA : SA a₀ κ st) (hR : Runs key (arrOf st) 0 (pendingOf st).toList lo) (hn : 1 ≤ n) (hln : lo + n ≤ a₀.size) (hs : SegS key (arrOf st) lo (lo + n))
    (h : ∀ st', SA a₀ κ st' → Runs key (arrOf st') 0 (pendingOf st').toList (lo + n) → Q (.yield (none, lo + n)) st') : wpS (model prog w) A E s (runTail lo n a₀.size) Q st := by
  have fin : ∀ st' : SortSt, SA a₀ κ st' → Runs key (arrOf st') 0 (pendingOf st').toList lo → SegS key (arrOf st') lo (lo + n) → Q (.yield (none, lo + n)) (setPending st' ((pendingOf st').push (lo, n, 0))) := fun st' hA' hR' hs' =>
    h _ ⟨hA'.perm, hA'.kind, hA'.ok⟩ (by show Runs key (arrOf st') 0 ((pendingOf st').push (lo, n, 0)).toList (lo + n); rw [Array.toList_push]; exact hR'.snoc hn hs')
  unfold runTail
  refine wpS_bind (wpS_get ?_)
  cases hb : (pendingOf st).back? with
  | none => exact wpS_bind (wpS_modify (wpS_pure (fin st hA hR hs)))
  | some r =>
    refine Classical.byContradiction fun hnX => ?_
    obtain ⟨s1, n1, w1⟩ := r
    refine hnX ?_
    clear hnX
    refine wpS_bind (wpS_mono (wpS_forRange (I := fun _ c st' => c = (none, ()) ∧ SA a₀ κ st' ∧ Runs key (arrOf st') 0 (pendingOf st').toList lo ∧ SegS key (arrOf st') lo (lo + n))
      (Q := fun c st' => c = (none, ()) ∧ SA a₀ κ st' ∧ Runs key (arrOf st') 0 (pendingOf st').toList lo ∧ SegS key (arrOf st') lo (lo + n)) ?step (fun _ _ hh => hh) ⟨rfl, hA, hR, hs⟩) ?post)
    case post =>
      intro c st' hX2
      refine Classical.byContradiction fun hnX => ?_
      obtain ⟨rfl, hA', hR', hs'⟩ := hX2
      refine hnX ?_
      clear hnX
      refine wpS_bind (wpS_modify (wpS_bind (wpS_modify (wpS_pure (fin _ ⟨hA'.perm, hA'.kind, hA'.ok⟩ ?_ hs')))))
      show Runs key (arrOf st') 0 ((pendingOf st').modify ((pendingOf st').size - 1) _).toList lo
      rw [Array.toList_modify]
      exact Runs.last (fun _ => ⟨rfl, rfl⟩) hR'
    case step =>
      intro x c st' _ hx hX5
      refine Classical.byContradiction fun hnX => ?_
      obtain ⟨rfl, hA', hR', hs'⟩ := hX5
      refine hnX ?_
      clear hnX
      refine wpS_bind (wpS_get ?_)
      by_cases hp : (pendingOf st').size > 1
      · rw [if_pos hp, getElem?_pos (pendingOf st') ((pendingOf st').size - 2) (by exact Lin.lin [(.lt (.k 1) (.v 1)), (.or (.an (.le (.k 2) (.v 1)) (.eq (.a (.v 0) (.k 2)) (.v 1))) (.an (.le (.v 1) (.k 2)) (.eq (.v 0) (.k 0))))] (.lt (.v 0) (.v 1)) (.s (.l [1, 0, 0, 1]) (.l [1, 1, 0, 1])) rfl [_, _] [] hp (Lin.sub_ax _ _))]
        dsimp only
        split
        · exact wpS_pure ⟨rfl, hA', hR', hs'⟩
        · refine wpS_bind (wpS_runs H hA' hR' (by exact Lin.lin [(.le (.a (.v 0) (.v 2)) (.v 1))] (.le (.v 0) (.v 1)) (.l [1, 1]) rfl [_, _, _] [] hln) (by exact Lin.lin [(.lt (.k 1) (.v 1)), (.or (.an (.le (.k 2) (.v 1)) (.eq (.a (.v 0) (.k 2)) (.v 1))) (.an (.le (.v 1) (.k 2)) (.eq (.v 0) (.k 0))))] (.lt (.a (.v 0) (.k 1)) (.v 1)) (.s (.l [1, 0, 0, 1]) (.l [1, 1, 0, 1])) rfl [_, _] [] hp (Lin.sub_ax _ _)) fun st3 hA3 hR3 _ hk3 => ?_)
          exact wpS_pure ⟨rfl, hA3, hR3, hs'.congr fun k h1 _ => hk3 k h1⟩
      · rw [if_neg hp]
        exact wpS_pure ⟨rfl, hA', hR', hs'⟩

theorem bind_eq {α β : Type} {m m' : StateT SortSt Sem α} {f f' : α → StateT SortSt Sem β} (h : m = m') (h' : f = f') : (m >>= f) = (m' >>= f') := by rw [h, h']
theorem wpS_congr {α : Type} {m m' : StateT SortSt Sem α} {Q : α → SortSt → Prop} {st : SortSt} (e : m = m') (h : wpS (model prog w) A E s m' Q st) : wpS (model prog w) A E s m Q st := e ▸ h

theorem wpS_sort {st : SortSt} {Q : Unit → SortSt → Prop} (H : LtOK prog w A E s κ a₀ key) (hA : SA a₀ κ st) (hP : pendingOf st = #[])
    (h : ∀ st', SA a₀ κ st' → SegS key (arrOf st') 0 a₀.size → Q () st') : wpS (model prog w) A E s sortRuns' Q st := by
  rw [sortRuns'_eq]
  refine wpS_bind (wpS_get ?_)
  dsimp only
  simp only [hA.size]
  refine wpS_bind (wpS_mono (wpS_forRange (I := fun x c st' => ∃ lo, c = (none, lo) ∧ SA a₀ κ st' ∧ Runs key (arrOf st') 0 (pendingOf st').toList lo ∧ lo ≤ a₀.size ∧ x ≤ lo)
    (Q := fun c st' => c = (none, a₀.size) ∧ SA a₀ κ st' ∧ Runs key (arrOf st') 0 (pendingOf st').toList a₀.size) ?step ?fin ⟨0, rfl, hA, by rw [hP]; exact rfl, Nat.zero_le _, Nat.le_refl _⟩) ?post)
  case fin =>
    intro c st' hX2
    refine Classical.byContradiction fun hnX => ?_
    obtain ⟨lo, rfl, hA', hR, hle, hx⟩ := hX2
    refine hnX ?_
    clear hnX
    have : lo = a₀.size := by exact Lin.lin [(.le (.v 0) (.v 1)), (.le (.v 1) (.v 0))] (.eq (.v 0) (.v 1)) (.s (.l [1, 0, 1]) (.l [1, 1])) rfl [_, _] [] hle hx
    subst this
    exact ⟨rfl, hA', hR⟩
  case step =>
    intro x c st' _ hx hX5
    refine Classical.byContradiction fun hnX => ?_
    obtain ⟨lo, rfl, hA', hR, hle, hxl⟩ := hX5
    refine hnX ?_
    clear hnX
    dsimp only
    by_cases hge : lo ≥ a₀.size
    · rw [if_pos hge]
      have : lo = a₀.size := by exact Lin.lin [(.le (.v 0) (.v 1)), (.le (.v 1) (.v 0))] (.eq (.v 0) (.v 1)) (.s (.l [1, 0, 1]) (.l [1, 1])) rfl [_, _] [] hle hge
      subst this
      exact wpS_pure ⟨rfl, hA', hR⟩
    · rw [if_neg hge]
      refine wpS_bind (wpS_count H (by exact Lin.lin [(.no (.le (.v 2) (.v 0))), (.or (.an (.le (.v 0) (.v 2)) (.eq (.a (.v 1) (.v 0)) (.v 2))) (.an (.le (.v 2) (.v 0)) (.eq (.v 1) (.k 0))))] (.le (.a (.v 0) (.v 1)) (.v 2)) (.s (.l [1, 0, 0, 1]) (.l [0, 1, 1])) rfl [_, _, _] [] hge (Lin.sub_ax _ _)) (by exact Lin.lin [(.no (.le (.v 1) (.v 2))), (.or (.an (.le (.v 2) (.v 1)) (.eq (.a (.v 0) (.v 2)) (.v 1))) (.an (.le (.v 1) (.v 2)) (.eq (.v 0) (.k 0))))] (.le (.k 1) (.v 0)) (.s (.l [1, 1, 0, 0, 1]) (.l [0, 1, 1])) rfl [_, _, _] [] hge (Lin.sub_ax _ _)) ⟨hA'.perm, hA'.kind, hA'.ok, rfl, fun _ _ => rfl⟩ fun n st2 hB _ hn1 hn2 hs => ?_)
      dsimp only
      have hA2 : SA a₀ κ st2 := ⟨hB.perm, hB.kind, hB.ok⟩
      have hR2 : Runs key (arrOf st2) 0 (pendingOf st2).toList lo := by rw [hB.pend]; exact hR.congr fun k _ hk => hB.out k (.inl hk)
      by_cases hmr : n < minRun' a₀.size a₀.size 0
      · rw [if_pos hmr]
        refine wpS_bind (wpS_lift (wpAny_rule ⟨rfl, ?_⟩))
        refine wpS_bind (wpS_insert (st0 := st2) H (by exact Lin.lin [(.no (.le (.v 2) (.v 0))), (.or (.an (.le (.v 3) (.v 4)) (.eq (.v 1) (.v 3))) (.an (.le (.v 4) (.v 3)) (.eq (.v 1) (.v 4)))), (.or (.an (.le (.v 0) (.v 2)) (.eq (.a (.v 3) (.v 0)) (.v 2))) (.an (.le (.v 2) (.v 0)) (.eq (.v 3) (.k 0))))] (.le (.a (.v 0) (.v 1)) (.v 2)) (.s (.s (.l [1, 0, 0, 1, 0, 0, 1]) (.l [0, 1, 0, 0, 0, 1])) (.s (.l [1, 0, 1, 1, 0, 0, 1]) (.l [0, 1, 0, 0, 0, 1]))) rfl [_, _, _, _, _] [] hge (Lin.min_ax _ _) (Lin.sub_ax _ _)) (by exact Lin.lin [(.le (.v 0) (.v 2)), (.lt (.v 0) (.v 3)), (.or (.an (.le (.v 2) (.v 3)) (.eq (.v 1) (.v 2))) (.an (.le (.v 3) (.v 2)) (.eq (.v 1) (.v 3))))] (.le (.v 0) (.v 1)) (.s (.l [1, 1, 0, 0, 0, 1]) (.l [1, 0, 1, 0, 0, 1])) rfl [_, _, _, _] [] hn2 hmr (Lin.min_ax _ _)) ⟨hA2.perm, hA2.kind, hA2.ok, rfl, fun _ _ => rfl⟩ hs fun st3 hB3 hs3 _ => ?_)
        simp only [Bool.not_true, Bool.false_eq_true, if_false]
        refine wpS_congr (m' := runTail lo (min (a₀.size - lo) (minRun' a₀.size a₀.size 0)) a₀.size) (by
          unfold runTail
          refine congrArg (get >>= ·) (funext fun st => ?_)
          cases (pendingOf st).back? with
          | none => rfl
          | some r =>
            refine Classical.byContradiction fun hnX => ?_
            obtain ⟨s1, n1, w1⟩ := r
            refine hnX ?_
            clear hnX
            refine bind_eq ?_ (funext fun r => ?_)
            · refine congrArg (forIn [0:a₀.size] ((none, ()) : Option Unit × Unit)) (funext fun x => funext fun c => congrArg (get >>= ·) (funext fun st => ?_))
              cases (if (pendingOf st).size > 1 then (pendingOf st)[(pendingOf st).size - 2]? else none) with
              | none => rfl
              | some r => rfl
            · refine Classical.byContradiction fun hnX => ?_
              obtain ⟨r, u⟩ := r
              refine hnX ?_
              clear hnX
              cases r <;> rfl) ?_
        refine wpS_runTail H ⟨hB3.perm, hB3.kind, hB3.ok⟩ (by rw [hB3.pend]; exact hR2.congr fun k _ hk => hB3.out k (.inl hk)) (by exact Lin.lin [(.le (.k 1) (.v 1)), (.le (.v 1) (.v 2)), (.lt (.v 1) (.v 3)), (.or (.an (.le (.v 2) (.v 3)) (.eq (.v 0) (.v 2))) (.an (.le (.v 3) (.v 2)) (.eq (.v 0) (.v 3))))] (.le (.k 1) (.v 0)) (.s (.l [1, 1, 1, 0, 0, 0, 1]) (.l [1, 1, 0, 1, 0, 0, 1])) rfl [_, _, _, _] [] hn1 hn2 hmr (Lin.min_ax _ _)) (by exact Lin.lin [(.no (.le (.v 2) (.v 0))), (.or (.an (.le (.v 3) (.v 4)) (.eq (.v 1) (.v 3))) (.an (.le (.v 4) (.v 3)) (.eq (.v 1) (.v 4)))), (.or (.an (.le (.v 0) (.v 2)) (.eq (.a (.v 3) (.v 0)) (.v 2))) (.an (.le (.v 2) (.v 0)) (.eq (.v 3) (.k 0))))] (.le (.a (.v 0) (.v 1)) (.v 2)) (.s (.s (.l [1, 0, 0, 1, 0, 0, 1]) (.l [0, 1, 0, 0, 0, 1])) (.s (.l [1, 0, 1, 1, 0, 0, 1]) (.l [0, 1, 0, 0, 0, 1]))) rfl [_, _, _, _, _] [] hge (Lin.min_ax _ _) (Lin.sub_ax _ _)) hs3 fun st4 hA4 hR4 => ⟨_, rfl, hA4, hR4, by exact Lin.lin [(.no (.le (.v 2) (.v 0))), (.or (.an (.le (.v 3) (.v 4)) (.eq (.v 1) (.v 3))) (.an (.le (.v 4) (.v 3)) (.eq (.v 1) (.v 4)))), (.or (.an (.le (.v 0) (.v 2)) (.eq (.a (.v 3) (.v 0)) (.v 2))) (.an (.le (.v 2) (.v 0)) (.eq (.v 3) (.k 0))))] (.le (.a (.v 0) (.v 1)) (.v 2)) (.s (.s (.l [1, 0, 0, 1, 0, 0, 1]) (.l [0, 1, 0, 0, 0, 1])) (.s (.l [1, 0, 1, 1, 0, 0, 1]) (.l [0, 1, 0, 0, 0, 1]))) rfl [_, _, _, _, _] [] hge (Lin.min_ax _ _) (Lin.sub_ax _ _), by exact Lin.lin [(.le (.v 0) (.v 1)), (.le (.k 1) (.v 3)), (.le (.v 3) (.v 4)), (.lt (.v 3) (.v 5)), (.or (.an (.le (.v 4) (.v 5)) (.eq (.v 2) (.v 4))) (.an (.le (.v 5) (.v 4)) (.eq (.v 2) (.v 5))))] (.le (.a (.v 0) (.k 1)) (.a (.v 1) (.v 2))) (.s (.l [1, 1, 1, 1, 0, 0, 0, 1]) (.l [1, 1, 1, 0, 1, 0, 0, 1])) rfl [_, _, _, _, _, _] [] hxl hn1 hn2 hmr (Lin.min_ax _ _)⟩
      · rw [if_neg hmr]
        refine wpS_congr (m' := runTail lo n a₀.size) (by
          unfold runTail
          refine congrArg (get >>= ·) (funext fun st => ?_)
          cases (pendingOf st).back? with
          | none => rfl
          | some r =>
            refine Classical.byContradiction fun hnX => ?_
            obtain ⟨s1, n1, w1⟩ := r
            refine hnX ?_
            clear hnX
            refine bind_eq ?_ (funext fun r => ?_)
            · refine congrArg (forIn [0:a₀.size] ((none, ()) : Option Unit × Unit)) (funext fun x => funext fun c => congrArg (get >>= ·) (funext fun st => ?_))
              cases (if (pendingOf st).size > 1 then (pendingOf st)[(pendingOf st).size - 2]? else none) with
              | none => rfl
              | some r => rfl
            · refine Classical.byContradiction fun hnX => ?_
              obtain ⟨r, u⟩ := r
              refine hnX ?_
              clear hnX
              cases r <;> rfl) ?_
        exact wpS_runTail H hA2 hR2 hn1 (by exact Lin.lin [(.no (.le (.v 2) (.v 0))), (.le (.v 1) (.v 3)), (.or (.an (.le (.v 0) (.v 2)) (.eq (.a (.v 3) (.v 0)) (.v 2))) (.an (.le (.v 2) (.v 0)) (.eq (.v 3) (.k 0))))] (.le (.a (.v 0) (.v 1)) (.v 2)) (.s (.l [1, 0, 1, 0, 1]) (.l [0, 1, 0, 1])) rfl [_, _, _, _] [] hge hn2 (Lin.sub_ax _ _)) hs fun st4 hA4 hR4 => ⟨_, rfl, hA4, hR4, by exact Lin.lin [(.no (.le (.v 2) (.v 0))), (.le (.v 1) (.v 3)), (.or (.an (.le (.v 0) (.v 2)) (.eq (.a (.v 3) (.v 0)) (.v 2))) (.an (.le (.v 2) (.v 0)) (.eq (.v 3) (.k 0))))] (.le (.a (.v 0) (.v 1)) (.v 2)) (.s (.l [1, 0, 1, 0, 1]) (.l [0, 1, 0, 1])) rfl [_, _, _, _] [] hge hn2 (Lin.sub_ax _ _), by exact Lin.lin [(.le (.v 0) (.v 1)), (.le (.k 1) (.v 2))] (.le (.a (.v 0) (.k 1)) (.a (.v 1) (.v 2))) (.l [1, 1, 1]) rfl [_, _, _] [] hxl hn1⟩
  case post =>
    intro c st' hX2
    refine Classical.byContradiction fun hnX => ?_
    obtain ⟨rfl, hA', hR⟩ := hX2
    refine hnX ?_
    clear hnX
    dsimp only
    have hle := hR.le
    refine wpS_bind (wpS_mono (wpS_forRange (I := fun x c st'' => c = (none, ()) ∧ SA a₀ κ st'' ∧ Runs key (arrOf st'') 0 (pendingOf st'').toList a₀.size ∧ (pendingOf st'').size ≤ max 1 (a₀.size - x))
      (Q := fun c st'' => c = (none, ()) ∧ SA a₀ κ st'' ∧ Runs key (arrOf st'') 0 (pendingOf st'').toList a₀.size ∧ (pendingOf st'').size ≤ 1) ?_ ?_ ⟨rfl, hA', hR, by simp only [Array.length_toList] at hle; exact Lin.lin [(.le (.a (.k 0) (.v 0)) (.v 2)), (.or (.an (.le (.k 1) (.v 2)) (.eq (.v 1) (.v 2))) (.an (.le (.v 2) (.k 1)) (.eq (.v 1) (.k 1))))] (.le (.v 0) (.v 1)) (.s (.l [1, 1, 0, 0, 1]) (.l [1, 1, 1, 0, 1])) rfl [_, _, _] [] hle (Lin.max_ax _ _)⟩) ?_)
    · intro x c st'' _ hx hX5
      refine Classical.byContradiction fun hnX => ?_
      obtain ⟨rfl, hA2, hR2, hsz⟩ := hX5
      refine hnX ?_
      clear hnX
      refine wpS_bind (wpS_get ?_)
      by_cases hp : (pendingOf st'').size ≤ 1
      · rw [if_pos hp]; exact wpS_pure ⟨rfl, hA2, hR2, hp⟩
      · rw [if_neg hp]
        refine wpS_bind (wpS_runs H hA2 hR2 (Nat.le_refl _) (Nat.lt_of_le_of_lt (Nat.succ_le_succ (ite_le _ _)) (by exact Lin.lin [(.no (.le (.v 1) (.k 1))), (.or (.an (.le (.k 2) (.v 1)) (.eq (.a (.v 0) (.k 2)) (.v 1))) (.an (.le (.v 1) (.k 2)) (.eq (.v 0) (.k 0))))] (.lt (.a (.v 0) (.k 1)) (.v 1)) (.s (.l [1, 0, 0, 1]) (.l [1, 1, 0, 1])) rfl [_, _] [] hp (Lin.sub_ax _ _))) fun st3 hA3 hR3 hs3 _ => ?_)
        simp only [Bool.not_true, Bool.false_eq_true, if_false]
        exact wpS_pure ⟨rfl, hA3, hR3, by lia⟩
    · intro c st'' hX2
      refine Classical.byContradiction fun hnX => ?_
      obtain ⟨rfl, hA2, hR2, hsz⟩ := hX2
      refine hnX ?_
      clear hnX
      exact ⟨rfl, hA2, hR2, by exact Lin.lin [(.le (.v 0) (.v 1)), (.or (.an (.le (.k 1) (.v 2)) (.eq (.v 1) (.v 2))) (.an (.le (.v 2) (.k 1)) (.eq (.v 1) (.k 1)))), (.or (.an (.le (.v 3) (.v 3)) (.eq (.a (.v 2) (.v 3)) (.v 3))) (.an (.le (.v 3) (.v 3)) (.eq (.v 2) (.k 0))))] (.le (.v 0) (.k 1)) (.s (.s (.l [0, 0, 1, 0, 0, 0, 1]) (.l [0, 0, 1, 0, 0, 0, 1])) (.s (.l [1, 1, 0, 1]) (.l [1, 1, 0, 1]))) rfl [_, _, _, _] [] hsz (Lin.max_ax _ _) (Lin.sub_ax _ _)⟩
    · intro c st'' hX2
      refine Classical.byContradiction fun hnX => ?_
      obtain ⟨rfl, hA2, hR2, hsz⟩ := hX2
      refine hnX ?_
      clear hnX
      refine wpS_pure (h st'' hA2 ?_)
      have hl : (pendingOf st'').toList.length ≤ 1 := by simpa using hsz
      generalize (pendingOf st'').toList = l at hR2 hl
      cases l with
      | nil =>
        have h0 : 0 = a₀.size := hR2
        intro p q _ _ hq; lia
      | cons r l =>
        cases l with
        | nil =>
          refine Classical.byContradiction fun hnX => ?_
          obtain ⟨_, _, g3, g4⟩ := hR2
          refine hnX ?_
          clear hnX
          have g4 : 0 + r.2.1 = a₀.size := g4
          rw [g4] at g3; exact g3
        | cons _ _ => simp at hl
end
end Mini

/-! The shell of «sorted», for any length and kind. -/
set_option autoImplicit false
namespace Mini
open PySem PyProof.Rows

section
variable {prog : Program} {w : World} {A : Around} {E : Value → Shared → Prop} {s : Shared} {κ : SortKind} {key : Keyed → T3}

/-- the heap while a list is sorted -/
noncomputable def midHeap (h : Heap) (a : Addr) (vs : List Value) : Heap := ((h.update a (Obj.mapSeq fun _ => #[])).push (seqObj "tuple" vs.toArray 0)).push (seqObj "list" #[] 0)

theorem list_sort_any {a : Addr} {vs : List Value} {n : Nat} {P : PySem.Fin → Shared → Prop} (ho : s.heap.get? a = some (seqObj "list" vs.toArray n)) (hlen : vs.length ≤ sizeLine)
    (hkk : 2 ≤ vs.length → ∀ Q : SortKind → Shared → Prop, Q κ { s with heap := midHeap s.heap a vs } → wpAny (model prog w) A (keyKind' vs.toArray) Q E { s with heap := midHeap s.heap a vs })
    (H : LtOK prog w A E { s with heap := midHeap s.heap a vs } κ (pairsOf vs) key)
    (h : ∀ r : Array Keyed, r.Perm (pairsOf vs) → SegS key r 0 (pairsOf vs).size → P (.done (.ret .none)) { s with heap := sortedHeap s.heap a vs (r.map (·.2)) }) :
    wpAny (model prog w) A (Builtin.«list.sort» ⟨[.ref a], []⟩) P E s := by
  rw [list_sort_plain]
  have ha : a < s.heap.objs.size := Heap.lt_size ho
  refine wpAny_bind (listItems_at ho rfl ?_)
  refine wpAny_bind (listUpdate_at ho rfl ?_ (by simpa using hlen) (Nat.zero_le _))
  obtain ⟨e1, ho1⟩ : ∃ e1, (s.heap.update a (Obj.mapSeq fun _ => #[])).get? a = some (seqObj "list" #[] e1) := ⟨_, get?_update_seq ho (fun _ => #[])⟩
  refine wpAny_bind (seqEpoch_at ho1 rfl ?_)
  refine wpAny_bind (wpAny_newTuple ?_ (by simpa using hlen))
  refine wpAny_bind (wpAny_newList ?_ (Nat.zero_le _))
  refine wpAny_holding ?_
  have ho6 : (midHeap s.heap a vs).get? a = some (seqObj "list" #[] e1) := by
    unfold midHeap
    rw [Heap.get?_push_ne _ _ _ (by rw [size_push', Heap.size_update]; exact Nat.ne_of_lt (Nat.lt_succ_of_lt ha)), Heap.get?_push_ne _ _ _ (by rw [Heap.size_update]; exact Nat.ne_of_lt ha)]
    exact ho1
  show wpAny (model prog w) A _ P E { s with heap := midHeap s.heap a vs }
  dsimp only
  have hsz : vs.toArray.size = vs.length := by simp
  have hout : ∀ r : Array Keyed, r.Perm (pairsOf vs) → (r.map (·.2)).size ≤ sizeLine + 1 := fun r hp => by
    rw [Array.size_map, hp.size_eq, pairsOf_size]; lia
  by_cases h2 : vs.toArray.size < 2
  · rw [if_pos h2, if_pos h2]
    refine wpAny_bind (wpAny_pure ?_)
    rw [StateT.run_pure]
    refine wpAny_bind (wpAny_pure ?_)
    dsimp only
    refine wpAny_bind (seqEpoch_at ho6 rfl ?_)
    refine wpAny_bind (listUpdate_at ho6 rfl ?_ (Nat.zero_le _) (hout (pairsOf vs) (Array.Perm.refl _)))
    simp only [bne_self_eq_false, Bool.false_eq_true, if_false]
    refine wpAny_pure (h (pairsOf vs) (Array.Perm.refl _) fun i j _ hij hj => ?_)
    have : i = j := by rw [pairsOf_size] at hj; lia
    subst this; exact le3_refl _
  · rw [if_neg h2, if_neg h2]
    refine wpAny_bind (hkk (by lia) _ ?_)
    refine wpAny_bind (wpAny_mono (wpS_sort (a₀ := pairsOf vs) (st := SortSt.mk' κ (vs.toArray.zip vs.toArray) #[] 7 none)
      (Q := fun _ st' => SA (pairsOf vs) κ st' ∧ SegS key (arrOf st') 0 (pairsOf vs).size) H ⟨Array.Perm.refl _, rfl, rfl⟩ rfl fun st' a1 a2 => ⟨a1, a2⟩) ?_ fun _ _ e => e)
    intro hX0 s' hX2
    refine Classical.byContradiction fun hnX => ?_
    obtain ⟨⟨⟩, st'⟩ := hX0
    obtain ⟨rfl, hA, hs⟩ := hX2
    refine hnX ?_
    clear hnX
    dsimp only
    refine wpAny_bind (seqEpoch_at ho6 rfl ?_)
    refine wpAny_bind (listUpdate_at ho6 rfl ?_ (Nat.zero_le _) (hout _ hA.perm))
    rw [hA.ok]
    simp only [bne_self_eq_false, Bool.false_eq_true, if_false]
    exact wpAny_pure (h (arrOf st') hA.perm hs)

/-- the heap when «sorted» has its list -/
noncomputable def preHeap (h : Heap) (vs : List Value) : Heap := ((h.push (seqObj "list" #[] 0)).update h.objs.size (Obj.mapSeq (· ++ vs.toArray))).push (seqObj "list" vs.toArray 0)
theorem pre_keep {h : Heap} {vs : List Value} {b : Addr} {o : Obj} (q : h.get? b = some o) : (preHeap h vs).get? b = some o := by
  have hlt : b < h.objs.size := Heap.lt_size q
  have hsz : ((h.push (seqObj "list" #[] 0)).update h.objs.size (Obj.mapSeq (· ++ vs.toArray))).objs.size = h.objs.size + 1 := by rw [Heap.size_update, size_push']
  unfold preHeap
  rw [Heap.get?_push_ne _ _ _ (by rw [hsz]; exact Nat.ne_of_lt (Nat.lt_succ_of_lt hlt)), Heap.get?_update_ne _ _ _ _ (Nat.ne_of_lt hlt), Heap.get?_push_ne _ _ _ (Nat.ne_of_lt hlt)]
  exact q
theorem mid_keep {h : Heap} {vs : List Value} {b : Addr} {o : Obj} (q : h.get? b = some o) : (midHeap (preHeap h vs) (h.objs.size + 1) vs).get? b = some o := by
  have hlt : b < h.objs.size := Heap.lt_size q
  unfold midHeap
  refine Heap.get?_push_of_some _ (Heap.get?_push_of_some _ ?_)
  rw [Heap.get?_update_ne _ _ _ _ (Nat.ne_of_lt (Nat.lt_succ_of_lt hlt))]
  exact pre_keep q

theorem sorted_any {l : Addr} {vs : List Value} {Q : Value → Shared → Prop} (hl : s.heap.IsList l vs.toArray) (hlen : vs.length ≤ sizeLine)
    (hkk : 2 ≤ vs.length → ∀ Q : SortKind → Shared → Prop, Q κ { s with heap := midHeap (preHeap s.heap vs) (s.heap.objs.size + 1) vs } → wpAny (model prog w) A.in1.in1 (keyKind' vs.toArray) Q E { s with heap := midHeap (preHeap s.heap vs) (s.heap.objs.size + 1) vs })
    (H : LtOK prog w A.in1.in1 E { s with heap := midHeap (preHeap s.heap vs) (s.heap.objs.size + 1) vs } κ (pairsOf vs) key)
    (h : ∀ r : Array Keyed, r.Perm (pairsOf vs) → SegS key r 0 (pairsOf vs).size → Q (.ref (s.heap.objs.size + 1)) { s with heap := sortedHeap (preHeap s.heap vs) (s.heap.objs.size + 1) vs (r.map (·.2)) }) :
    wpAny (model prog w) A (call (.builtin "sorted") [.ref l]) Q E s := by
  refine Calls.call_function_entry kind_sorted plain_sorted entry_sorted (args_sorted1 _) ?_
  unfold Builtin.«sorted»
  refine wpAny_bind (m := checkCount "sorted" 1 1 _) (wpAny_pure ?_)
  refine wpAny_bind (collect_list hl ?_ hlen)
  refine wpAny_bind (wpAny_newList ?_ hlen)
  have hsz : ((s.heap.push (seqObj "list" #[] 0)).update s.heap.objs.size (Obj.mapSeq (· ++ vs.toArray))).objs.size = s.heap.objs.size + 1 := by
    rw [Heap.size_update, size_push']
  have hoL : (preHeap s.heap vs).get? (s.heap.objs.size + 1) = some (seqObj "list" vs.toArray 0) := by
    unfold preHeap; rw [← hsz]; exact Heap.get?_push_size _ rfl
  show wpAny _ _ _ _ _ { s with heap := preHeap s.heap vs }
  rw [hsz]
  refine wpAny_bind (wpAny_holding (wpAny_call_entry slot_list_sort ⟨_, hoL, rfl⟩ entry_list_sort (list_sort_any (s := { s with heap := preHeap s.heap vs }) hoL hlen hkk H fun r a1 a2 => ⟨_, rfl, ?_⟩) (args_list_sort _)))
  exact wpAny_pure ⟨_, rfl, h r a1 a2⟩
end
end Mini

/-! Comparisons: ints, and tuples of three ints. -/
set_option autoImplicit false
namespace Mini
open PySem PyProof.Rows PySem.W

noncomputable def nmOf : Option Value → Int
  | some (.int n _) => n
  | _ => 0
noncomputable def seqKey : PySem.Data → T3
  | .seq xs _ => ⟨nmOf xs[0]?, nmOf xs[1]?, nmOf xs[2]?⟩
  | _ => default
noncomputable def kOf (h : Heap) : Value → T3
  | .int n _ => ⟨n, 0, 0⟩
  | .ref a => ((h.get? a).map fun o => seqKey o.data).getD default
  | _ => default

section
variable {prog : Program} {w : World} {A : Around} {E : Value → Shared → Prop} {s : Shared}

theorem lt_of_keyLt {x y : Keyed} {b : Bool} {κ : SortKind} (h : ∀ (E' : Value → Shared → Prop) (Q : Bool → Shared → Prop), Q b s → wpAny (model prog w) A (keyLt' κ x.1 y.1) Q E' s) {st : SortSt} {Q : Option Bool → SortSt → Prop} (hk : kindOf st = κ) (hq : Q (some b) st) : wpS (model prog w) A E s (lt' x y) Q st := by
  rw [lt'_eq]
  refine wpS_bind (wpS_get ?_)
  rw [hk]
  refine wpS_bind (wpS_lift (wpAny_attempt (h _ _ ⟨rfl, ?_⟩)))
  exact wpS_pure hq

theorem not_le3 (x y : T3) (b : Bool) (h : b = true ↔ (x.a < y.a ∨ (x.a = y.a ∧ (x.b < y.b ∨ (x.b = y.b ∧ x.c < y.c))))) : (!T3.le y x) = b := by
  rw [Bool.eq_iff_iff, h, Bool.not_eq_true', ← Bool.not_eq_true, le3_iff]; omega

theorem intLt {vs : List Value} (hv : ∀ v ∈ vs, ∃ n t, v = .int n t) (hp : Heap) : LtOK prog w A E s oneType' (pairsOf vs) (fun p => kOf hp p.1) := by
  intro x y hx hy st Q hk hq
  rw [pairsOf_toList] at hx hy
  refine Classical.byContradiction fun hnX => ?_
  obtain ⟨n, t, ex⟩ := hv x.1 (List.of_mem_zip hx).1
  refine hnX ?_
  clear hnX
  refine Classical.byContradiction fun hnX => ?_
  obtain ⟨m, u, ey⟩ := hv y.1 (List.of_mem_zip hy).1
  refine hnX ?_
  clear hnX
  refine lt_of_keyLt (b := decide (n < m)) (fun E' Q' hq' => ?_) hk ?_
  · rw [ex, ey, keyLt'_oneType]; exact oneLt_int hq'
  · have : (!T3.le (kOf hp y.1) (kOf hp x.1)) = decide (n < m) := by
      rw [ex, ey]; refine not_le3 _ _ _ ?_; simp only [kOf, decide_eq_true_eq]; omega
    rw [this] at hq; exact hq

theorem tupLt {vs : List Value} (hv : ∀ v ∈ vs, ∃ a n0 n1 n2 t0 t1 t2, v = .ref a ∧ s.heap.get? a = some (tupObj [.int n0 t0, .int n1 t1, .int n2 t2])) : LtOK prog w A E s (tuples' true) (pairsOf vs) (fun p => kOf s.heap p.1) := by
  intro x y hx hy st Q hk hq
  rw [pairsOf_toList] at hx hy
  refine Classical.byContradiction fun hnX => ?_
  obtain ⟨a, n0, n1, n2, t0, t1, t2, ex, gx⟩ := hv x.1 (List.of_mem_zip hx).1
  refine hnX ?_
  clear hnX
  refine Classical.byContradiction fun hnX => ?_
  obtain ⟨b, m0, m1, m2, u0, u1, u2, ey, gy⟩ := hv y.1 (List.of_mem_zip hy).1
  refine hnX ?_
  clear hnX
  have kx : kOf s.heap x.1 = ⟨n0, n1, n2⟩ := by rw [ex]; show ((s.heap.get? a).map fun o => seqKey o.data).getD default = _; rw [gx]; rfl
  have ky : kOf s.heap y.1 = ⟨m0, m1, m2⟩ := by rw [ey]; show ((s.heap.get? b).map fun o => seqKey o.data).getD default = _; rw [gy]; rfl
  dsimp only at hq
  rw [kx, ky] at hq
  refine lt_of_keyLt (b := !T3.le ⟨m0, m1, m2⟩ ⟨n0, n1, n2⟩) (fun E' Q' hq' => ?_) hk hq
  rw [ex, ey]
  refine kat_lt gx rfl gy rfl ?_
  show KatLex prog w A true false Q' [(.int n0 t0, .int m0 u0), (.int n1 t1, .int m1 u1), (.int n2 t2, .int m2 u2)] 0 s
  refine kat_cons (wpAny_eqBool_int ?_)
  refine kat_go (fun h0 => kat_yes (kat_cons (wpAny_eqBool_int ?_))) (fun h0 => kat_no (oneLt_int ?_))
  · have h0 : n0 = m0 := eq_of_beq h0
    refine kat_go (fun h1 => kat_yes (kat_cons (wpAny_eqBool_int ?_))) (fun h1 => kat_no (kat_one _ _ (lt_int ?_)))
    · have h1 : n1 = m1 := eq_of_beq h1
      refine kat_go (fun h2 => kat_yes (kat_nil ?_)) (fun h2 => kat_no (kat_one _ _ (lt_int ?_)))
      · have h2 : n2 = m2 := eq_of_beq h2
        rw [not_le3 _ _ false (by simp only; simp; omega)] at hq'; exact hq'
      · have h2 : n2 ≠ m2 := by intro h; simp [h] at h2
        rw [not_le3 _ _ (decide (n2 < m2)) (by simp only [decide_eq_true_eq]; omega)] at hq'; exact hq'
    · have h1 : n1 ≠ m1 := by intro h; simp [h] at h1
      rw [not_le3 _ _ (decide (n1 < m1)) (by simp only [decide_eq_true_eq]; omega)] at hq'; exact hq'
  · have h0 : n0 ≠ m0 := by intro h; simp [h] at h0
    rw [not_le3 _ _ (decide (n0 < m0)) (by simp only [decide_eq_true_eq]; omega)] at hq'; exact hq'
end
end Mini

/-! sorted, in the small language's words. -/
set_option autoImplicit false
namespace Mini
open PySem PyProof.Rows PySem.W

section
variable {K : Kx} {A : Around}

theorem RVs.of_all {ρ : List Addr} {h : Heap} {f : Value → V} : ∀ {ws : List Value}, (∀ w ∈ ws, RV K ρ h (f w) w) → RVs K ρ h (ws.map f) ws
  | [], _ => .nil
  | w :: r, hw => .cons (hw w List.mem_cons_self) (RVs.of_all fun x hx => hw x (List.mem_cons_of_mem _ hx))

theorem asInts_inv : ∀ {l : List V} {is : List Int}, asInts l = some is → l = is.map V.int
  | [], is, h => by cases h; rfl
  | v :: r, is, h => by
    cases v with
    | int i =>
      refine Classical.byContradiction fun hnX => ?_
      obtain ⟨js, hj, rfl⟩ := Option.map_eq_some_iff.mp (show (asInts r).map (i :: ·) = some is from h)
      refine hnX ?_
      clear hnX
      rw [asInts_inv hj]; rfl
    | _ => cases h
theorem arg3_inv {l : List V} {p : V × V × V} (h : arg3 l = some p) : l = [p.1, p.2.1, p.2.2] := by
  cases l with
  | nil => cases h
  | cons a r =>
    refine Classical.byContradiction fun hnX => ?_
    obtain ⟨q, hq, rfl⟩ := Option.map_eq_some_iff.mp (show (arg2 r).map _ = some p from h)
    refine hnX ?_
    clear hnX
    rw [arg2_inv hq]
theorem t3Of_inv {v : V} {t : T3} (h : t3Of v = some t) : v = t.v := by
  refine Classical.byContradiction fun hnX => ?_
  obtain ⟨l, h1, h⟩ := Option.bind_eq_some_iff.mp h
  refine hnX ?_
  clear hnX
  refine Classical.byContradiction fun hnX => ?_
  obtain ⟨p, h2, h⟩ := Option.bind_eq_some_iff.mp h
  refine hnX ?_
  clear hnX
  refine Classical.byContradiction fun hnX => ?_
  obtain ⟨a, h3, h⟩ := Option.bind_eq_some_iff.mp h
  refine hnX ?_
  clear hnX
  refine Classical.byContradiction fun hnX => ?_
  obtain ⟨b, h4, h⟩ := Option.bind_eq_some_iff.mp h
  refine hnX ?_
  clear hnX
  refine Classical.byContradiction fun hnX => ?_
  obtain ⟨c, h5, rfl⟩ := Option.map_eq_some_iff.mp h
  refine hnX ?_
  clear hnX
  rw [asTup_inv h1, arg3_inv h2, asInt_inv h3, asInt_inv h4, asInt_inv h5]; rfl
theorem t3s_inv : ∀ {l : List V} {ts : List T3}, t3s l = some ts → l = ts.map T3.v
  | [], ts, h => by cases h; rfl
  | v :: r, ts, h => by
    refine Classical.byContradiction fun hnX => ?_
    obtain ⟨t, h1, h2⟩ := Option.bind_eq_some_iff.mp (show (t3Of v).bind _ = some ts from h)
    refine hnX ?_
    clear hnX
    refine Classical.byContradiction fun hnX => ?_
    obtain ⟨us, hu, rfl⟩ := Option.map_eq_some_iff.mp h2
    refine hnX ?_
    clear hnX
    rw [t3s_inv hu, t3Of_inv h1]; rfl

/-- what the sort hands back, as keys in order -/
theorem out_keys {ws : List Value} {hp : Heap} {r : Array Keyed} (h1 : r.Perm (pairsOf ws)) (h2 : SegS (fun p => kOf hp p.1) r 0 (pairsOf ws).size) :
    (r.map (·.2)).toList.Perm ws ∧ ((r.map (·.2)).toList.map (kOf hp)).Pairwise (fun x y => T3.le x y = true) := by
  have hp1 : r.toList.Perm (ws.zip ws) := by rw [← pairsOf_toList]; exact Array.perm_iff_toList_perm.mp h1
  have e1 : (ws.zip ws).map (·.2) = ws := by rw [List.map_snd_zip]; exact Nat.le_refl _
  have hm := hp1.map (·.2)
  rw [e1] at hm
  have hsame : ∀ p ∈ r.toList, p.1 = p.2 := by
    intro p hpm
    have := hp1.mem_iff.mp hpm
    refine Classical.byContradiction fun hnX => ?_
    obtain ⟨i, hi, rfl⟩ := List.getElem_of_mem this
    refine hnX ?_
    clear hnX
    simp
  rw [Array.toList_map]
  refine ⟨hm, ?_⟩
  have e2 : (r.toList.map (·.2)).map (kOf hp) = r.toList.map fun p => kOf hp p.1 := by
    rw [List.map_map]
    exact List.map_congr_left fun p hpm => by simp only [Function.comp]; rw [hsame p hpm]
  rw [e2, List.pairwise_iff_getElem]
  intro i j hi hj hij
  simp only [List.length_map, Array.length_toList] at hi hj
  have hsz : (pairsOf ws).size = r.size := h1.size_eq.symm
  have := h2 i j (Nat.zero_le _) (Nat.le_of_lt hij) (by exact Lin.lin [(.lt (.v 0) (.v 2)), (.eq (.v 1) (.v 2))] (.lt (.v 0) (.v 1)) (.l [1, 1, 0, 1]) rfl [_, _, _] [] hj hsz)
  rw [KS_get hi, KS_get hj] at this
  simpa using this

theorem sh_new (h : Heap) (ws out : List Value) : ∃ n, (sortedHeap (preHeap h ws) (h.objs.size + 1) ws out.toArray).get? (h.objs.size + 1) = some (listObj out n) := by
  have hsz : ((h.push (seqObj "list" #[] 0)).update h.objs.size (Obj.mapSeq (· ++ ws.toArray))).objs.size = h.objs.size + 1 := by
    rw [Heap.size_update, size_push']
  have hoL : (preHeap h ws).get? (h.objs.size + 1) = some (seqObj "list" ws.toArray 0) := by
    unfold preHeap; rw [← hsz]; exact Heap.get?_push_size _ rfl
  have h1 := get?_update_seq hoL (fun _ => #[])
  obtain ⟨e1, h1⟩ : ∃ e1, ((preHeap h ws).update (h.objs.size + 1) (Obj.mapSeq fun _ => #[])).get? (h.objs.size + 1) = some (seqObj "list" #[] e1) := ⟨_, h1⟩
  have h2 := Heap.get?_push_of_some (seqObj "list" #[] 0) (Heap.get?_push_of_some (seqObj "tuple" ws.toArray 0) h1)
  have h3 := get?_update_seq h2 (fun _ => out.toArray)
  exact ⟨_, h3⟩
theorem sh_keep {h : Heap} {ws : List Value} {out : Array Value} {b : Addr} {o : Obj} (q : h.get? b = some o) : (sortedHeap (preHeap h ws) (h.objs.size + 1) ws out).get? b = some o := by
  have hlt : b < h.objs.size := Heap.lt_size q
  have := mid_keep (vs := ws) q
  unfold sortedHeap
  rw [Heap.get?_update_ne _ _ _ _ (Nat.ne_of_lt (Nat.lt_succ_of_lt hlt))]
  exact this

theorem sort_core {ρ : List Addr} {σ : H} {s : Shared} {a : Addr} {ws : List Value} {n : Nat} {l l' : List V} (hr : HR K ρ σ s.heap) (ho : s.heap.get? a = some (listObj ws n)) (rv : RVs K ρ s.heap l ws) (hl : l.length ≤ lenMax) (hl' : l'.length ≤ lenMax) {κ : SortKind} {f : Value → V}
    (hkk : 2 ≤ ws.length → ∀ s' : Shared, (∀ b o, s.heap.get? b = some o → s'.heap.get? b = some o) → ∀ (Q : SortKind → Shared → Prop) (E : Value → Shared → Prop), Q κ s' → wpAny K.M A.in1.in1 (keyKind' ws.toArray) Q E s')
    (H : ∀ s' : Shared, (∀ b o, s.heap.get? b = some o → s'.heap.get? b = some o) → ∀ E, LtOK K.prog K.w A.in1.in1 E s' κ (pairsOf ws) (fun p => kOf s'.heap p.1))
    (hf : ∀ w ∈ ws, RV K ρ s.heap (f w) w)
    (hout : ∀ (hp : Heap) (out : List Value), (∀ b o, s.heap.get? b = some o → hp.get? b = some o) → out.Perm ws → (out.map (kOf hp)).Pairwise (fun x y => T3.le x y = true) → out.map f = l') :
    TR K A (call (.builtin "sorted") [.ref a]) ρ s (σ ++ [.list l']) fun ρ' cv s' => RV K ρ' s'.heap (.obj σ.length) cv := by
  refine sorted_any (κ := κ) (key := fun p => kOf (midHeap (preHeap s.heap ws) (s.heap.objs.size + 1) ws) p.1) ⟨_, ho, rfl, n, rfl⟩ (list_len rv hl) (fun h2 Q hq => hkk h2 { s with heap := midHeap (preHeap s.heap ws) (s.heap.objs.size + 1) ws } (fun b o (e : s.heap.get? b = some o) => mid_keep (vs := ws) e) Q _ hq) (H { s with heap := midHeap (preHeap s.heap ws) (s.heap.objs.size + 1) ws } (fun b o e => mid_keep (vs := ws) e) _) fun r h1 h2 => ?_
  refine Classical.byContradiction fun hnX => ?_
  obtain ⟨p1, p2⟩ := out_keys h1 h2
  refine hnX ?_
  clear hnX
  have e := hout _ _ (fun b o e => mid_keep (vs := ws) e) p1 p2
  refine Classical.byContradiction fun hnX => ?_
  obtain ⟨m, hm⟩ := sh_new s.heap ws (r.map (·.2)).toList
  refine hnX ?_
  clear hnX
  rw [Array.toArray_toList] at hm
  have hk : ∀ b o, s.heap.get? b = some o → (sortedHeap (preHeap s.heap ws) (s.heap.objs.size + 1) ws (r.map (·.2))).get? b = some o := fun b o q => sh_keep q
  have hnone : s.heap.get? (s.heap.objs.size + 1) = none := by
    cases hg : s.heap.get? (s.heap.objs.size + 1) with
    | none => rfl
    | some o => exact absurd (Heap.lt_size hg) (Nat.not_lt.mpr (Nat.le_succ _))
  have hrv : RVs K ρ s.heap l' (r.map (·.2)).toList := by
    rw [← e]; exact RVs.of_all fun w hw => hf w (p1.mem_iff.mp hw)
  refine ⟨ρ ++ [s.heap.objs.size + 1], Good.alloc (o := .list l') hr hk hnone ⟨_, m, hm, hrv.mono (List.prefix_append _ _) (fun a vs q => hk _ _ q), hl'⟩ s.toks, .obj ?_⟩
  rw [List.getElem?_append_right (by rw [hr.len]; exact Nat.le_refl _), hr.len]; simp

theorem rv_int {ρ : List Addr} {h : Heap} {i : Int} {w : Value} (r : RV K ρ h (.int i) w) : ∃ t, w = .int i t := by
  cases r with
  | int _ t => exact ⟨t, rfl⟩
theorem rv_head {ρ : List Addr} {h : Heap} {v : V} {l : List V} {ws : List Value} (r : RVs K ρ h (v :: l) ws) : ∃ w wr, ws = w :: wr ∧ RV K ρ h v w ∧ RVs K ρ h l wr := by
  cases r with
  | cons a b => exact ⟨_, _, rfl, a, b⟩
theorem rv_nil {ρ : List Addr} {h : Heap} {ws : List Value} (r : RVs K ρ h [] ws) : ws = [] := by
  cases r with
  | nil => rfl
theorem rv_ints {ρ : List Addr} {h : Heap} : ∀ {is : List Int} {ws : List Value}, RVs K ρ h (is.map V.int) ws → (∀ w ∈ ws, ∃ n t, w = .int n t) ∧ ∀ hp, (ws.map (kOf hp)).map (·.a) = is
  | [], ws, r => by rw [rv_nil r]; exact ⟨fun _ h => (nomatch h), fun _ => rfl⟩
  | i :: is, ws, r => by
    refine Classical.byContradiction fun hnX => ?_
    obtain ⟨w, wr, rfl, r0, rs⟩ := rv_head r
    refine hnX ?_
    clear hnX
    refine Classical.byContradiction fun hnX => ?_
    obtain ⟨t, rfl⟩ := rv_int r0
    refine hnX ?_
    clear hnX
    refine Classical.byContradiction fun hnX => ?_
    obtain ⟨h1, h2⟩ := rv_ints rs
    refine hnX ?_
    clear hnX
    refine ⟨fun w hw => ?_, fun hp => ?_⟩
    · rcases List.mem_cons.mp hw with rfl | hw
      · exact ⟨i, t, rfl⟩
      · exact h1 w hw
    · rw [List.map_cons, List.map_cons, h2 hp]; rfl

theorem rv_tup {ρ : List Addr} {h : Heap} {l : List V} {w : Value} (r : RV K ρ h (.tup l) w) : ∃ a vs, w = .ref a ∧ h.get? a = some (tupObj vs) ∧ RVs K ρ h l vs := by
  cases r with
  | tup e rs hl => exact ⟨_, _, rfl, e, rs⟩
theorem rv_three {ρ : List Addr} {h : Heap} {t : T3} {w : Value} (r : RV K ρ h t.v w) : ∃ a t0 t1 t2, w = .ref a ∧ h.get? a = some (tupObj [.int t.a t0, .int t.b t1, .int t.c t2]) := by
  refine Classical.byContradiction fun hnX => ?_
  obtain ⟨a, vs, rfl, e, q0⟩ := rv_tup r
  refine hnX ?_
  clear hnX
  refine Classical.byContradiction fun hnX => ?_
  obtain ⟨w0, y0, rfl, r0, q1⟩ := rv_head q0
  refine hnX ?_
  clear hnX
  refine Classical.byContradiction fun hnX => ?_
  obtain ⟨w1, y1, rfl, r1, q2⟩ := rv_head q1
  refine hnX ?_
  clear hnX
  refine Classical.byContradiction fun hnX => ?_
  obtain ⟨w2, y2, rfl, r2, q3⟩ := rv_head q2
  refine hnX ?_
  clear hnX
  refine Classical.byContradiction fun hnX => ?_
  obtain ⟨t0, rfl⟩ := rv_int r0
  refine hnX ?_
  clear hnX
  refine Classical.byContradiction fun hnX => ?_
  obtain ⟨t1, rfl⟩ := rv_int r1
  refine hnX ?_
  clear hnX
  refine Classical.byContradiction fun hnX => ?_
  obtain ⟨t2, rfl⟩ := rv_int r2
  refine hnX ?_
  clear hnX
  have e0 := rv_nil q3
  subst e0
  exact ⟨a, t0, t1, t2, rfl, e⟩
theorem rv_tups {ρ : List Addr} {h : Heap} : ∀ {ts : List T3} {ws : List Value}, RVs K ρ h (ts.map T3.v) ws → (∀ w ∈ ws, ∃ a n0 n1 n2 t0 t1 t2, w = .ref a ∧ h.get? a = some (tupObj [.int n0 t0, .int n1 t1, .int n2 t2])) ∧ ∀ hp : Heap, (∀ b o, h.get? b = some o → hp.get? b = some o) → ws.map (kOf hp) = ts
  | [], ws, r => by rw [rv_nil r]; exact ⟨fun _ h => (nomatch h), fun _ _ => rfl⟩
  | t :: ts, ws, r => by
    refine Classical.byContradiction fun hnX => ?_
    obtain ⟨w, wr, rfl, r0, rs⟩ := rv_head r
    refine hnX ?_
    clear hnX
    refine Classical.byContradiction fun hnX => ?_
    obtain ⟨h1, h2⟩ := rv_tups rs
    refine hnX ?_
    clear hnX
    refine Classical.byContradiction fun hnX => ?_
    obtain ⟨a, t0, t1, t2, rfl, e⟩ := rv_three r0
    refine hnX ?_
    clear hnX
    refine ⟨fun w hw => ?_, fun hp hk => ?_⟩
    · rcases List.mem_cons.mp hw with rfl | hw
      · exact ⟨a, _, _, _, t0, t1, t2, rfl, e⟩
      · exact h1 w hw
    · rw [List.map_cons, h2 hp hk]
      have : kOf hp (.ref a) = t := by
        show ((hp.get? a).map fun o => seqKey o.data).getD default = _
        rw [hk _ _ e]; rfl
      rw [this]

theorem kat_of {h : Heap} : ∀ {ws : List Value}, (∀ w ∈ ws, ∃ a n0 n1 n2 t0 t1 t2, w = .ref a ∧ h.get? a = some (tupObj [.int n0 t0, .int n1 t1, .int n2 t2])) → ∃ fs : List Value, KatTups h ws fs ∧ fs.length = ws.length ∧ ∀ v ∈ fs, ∃ n t, v = .int n t
  | [], _ => ⟨[], .nil, rfl, fun _ h => (nomatch h)⟩
  | w :: r, hw => by
    refine Classical.byContradiction fun hnX => ?_
    obtain ⟨fs, h1, h2, h3⟩ := kat_of fun x hx => hw x (List.mem_cons_of_mem _ hx)
    refine hnX ?_
    clear hnX
    refine Classical.byContradiction fun hnX => ?_
    obtain ⟨a, n0, n1, n2, t0, t1, t2, rfl, e⟩ := hw w List.mem_cons_self
    refine hnX ?_
    clear hnX
    refine ⟨.int n0 t0 :: fs, .cons e rfl rfl rfl h1, by simp [h2], fun v hv => ?_⟩
    rcases List.mem_cons.mp hv with rfl | hv
    · exact ⟨_, _, rfl⟩
    · exact h3 v hv

theorem sort_ok : SortOK K A := by
  intro σ σ' vs v h ρ s cas hr rvs
  refine Classical.byContradiction fun hnX => ?_
  obtain ⟨v0, h0, h⟩ := Option.bind_eq_some_iff.mp h
  refine hnX ?_
  clear hnX
  refine Classical.byContradiction fun hnX => ?_
  obtain ⟨l', h1, h⟩ := Option.bind_eq_some_iff.mp h
  refine hnX ?_
  clear hnX
  refine Classical.byContradiction fun hnX => ?_
  obtain ⟨l, hl, h1⟩ := Option.bind_eq_some_iff.mp h1
  refine hnX ?_
  clear hnX
  refine Classical.byContradiction fun hnX => ?_
  obtain ⟨hl', e1, e2⟩ := mkList_inv h
  refine hnX ?_
  clear hnX
  subst e1 e2
  rw [arg1_inv h0] at rvs
  cases rvs with
  | cons r0 rs =>
    cases rs
    refine Classical.byContradiction fun hnX => ?_
    obtain ⟨a, ws, n, rfl, ho, rv, hll⟩ := listOf_inv hr hl r0
    refine hnX ?_
    clear hnX
    show TR K A (call (.builtin "sorted") [.ref a]) ρ s _ _
    unfold sortV at h1
    split at h1
    · rename_i is hi
      cases h1
      cases asInts_inv hi
      refine Classical.byContradiction fun hnX => ?_
      obtain ⟨q1, q2⟩ := rv_ints rv
      refine hnX ?_
      clear hnX
      refine sort_core (κ := oneType') (f := fun w => .int (kOf s.heap w).a) hr ho rv hll hl' ?_ (fun s' _ E => intLt q1 _) ?_ ?_
      · intro h2 s' _ Q E hq
        obtain ⟨w1, w2, wr, rfl⟩ : ∃ w1 w2 wr, ws = w1 :: w2 :: wr := by
          match ws, h2 with
          | w1 :: w2 :: wr, _ => exact ⟨w1, w2, wr, rfl⟩
        rw [keyKind_ints (intsAre_map _ q1)]
        exact wpAny_pure hq
      · intro w hw; obtain ⟨n, t, rfl⟩ := q1 w hw; exact .int n t
      · intro hp out hk hperm hpw
        have e0 : ∀ w ∈ out, (kOf s.heap w) = kOf hp w := fun w hw => by obtain ⟨n, t, rfl⟩ := q1 w (hperm.mem_iff.mp hw); rfl
        have e3 : out.map (fun w => V.int (kOf s.heap w).a) = ((out.map (kOf hp)).map (·.a)).map V.int := by
          rw [List.map_map, List.map_map]
          exact List.map_congr_left fun w hw => by simp only [Function.comp]; rw [e0 w hw]
        rw [e3]
        congr 1
        refine List.Perm.eq_of_pairwise (le := fun x y : Int => x ≤ y) (fun a b _ _ h1 h2 => Int.le_antisymm h1 h2) ?_ ?_ ?_
        · rw [List.pairwise_map]
          exact hpw.imp fun {x y} h => by have := (le3_iff x y).mp h; lia
        · have := List.pairwise_mergeSort (le := fun a b : Int => decide (a ≤ b)) (fun a b c h1 h2 => by simp at *; exact Lin.lin [(.zle (.v 0) (.v 2)), (.zle (.v 2) (.v 1))] (.zle (.v 0) (.v 1)) (.l [1, 1, 1]) rfl [] [_, _, _] h1 h2) (fun a b => by simp; exact Lin.lin [] (.or (.zle (.v 0) (.v 1)) (.zle (.v 1) (.v 0))) (.l [1, 1]) rfl [] [_, _]) is
          exact this.imp fun h => by simpa using h
        · have := (hperm.map (kOf hp)).map (·.a)
          rw [q2 hp] at this
          exact this.trans (List.mergeSort_perm _ _).symm
    · split at h1
      · rename_i ts ht
        cases h1
        cases t3s_inv ht
        refine Classical.byContradiction fun hnX => ?_
        obtain ⟨q1, q2⟩ := rv_tups rv
        refine hnX ?_
        clear hnX
        refine sort_core (κ := tuples' true) (f := fun w => (kOf s.heap w).v) hr ho rv hll hl' ?_ (fun s' hk E => tupLt fun w hw => ?_) ?_ ?_
        · intro h2 s' hk Q E hq
          obtain ⟨fs, k1, k2, k3⟩ := kat_of (h := s'.heap) (ws := ws) fun w hw => by
            refine Classical.byContradiction fun hnX => ?_
            obtain ⟨a, n0, n1, n2, t0, t1, t2, e, g⟩ := q1 w hw
            refine hnX ?_
            clear hnX
            exact ⟨a, n0, n1, n2, t0, t1, t2, e, hk _ _ g⟩
          refine kat_kind (T := .type "int") k1 (by exact Lin.lin [(.le (.k 2) (.v 1)), (.eq (.v 0) (.v 1))] (.lt (.k 0) (.v 0)) (.l [1, 1, 0, 1]) rfl [_, _] [] h2 k2) (fun v hv => ?_) rfl hq
          refine Classical.byContradiction fun hnX => ?_
          obtain ⟨n, t, rfl⟩ := k3 v hv
          refine hnX ?_
          clear hnX
          exact Looks.of_pure rfl
        · refine Classical.byContradiction fun hnX => ?_
          obtain ⟨a, n0, n1, n2, t0, t1, t2, e, g⟩ := q1 w hw
          refine hnX ?_
          clear hnX
          exact ⟨a, n0, n1, n2, t0, t1, t2, e, hk _ _ g⟩
        · intro w hw
          refine Classical.byContradiction fun hnX => ?_
          obtain ⟨a, n0, n1, n2, t0, t1, t2, rfl, g⟩ := q1 w hw
          refine hnX ?_
          clear hnX
          have : kOf s.heap (.ref a) = ⟨n0, n1, n2⟩ := by
            show ((s.heap.get? a).map fun o => seqKey o.data).getD default = _
            rw [g]; rfl
          rw [this]
          exact .tup g (.cons (.int _ _) (.cons (.int _ _) (.cons (.int _ _) .nil))) (show 3 ≤ lenMax by decide)
        · intro hp out hk hperm hpw
          have e0 : ∀ w ∈ out, (kOf s.heap w) = kOf hp w := fun w hw => by
            refine Classical.byContradiction fun hnX => ?_
            obtain ⟨a, n0, n1, n2, t0, t1, t2, rfl, g⟩ := q1 w (hperm.mem_iff.mp hw)
            refine hnX ?_
            clear hnX
            show ((s.heap.get? a).map fun o => seqKey o.data).getD default = ((hp.get? a).map fun o => seqKey o.data).getD default
            rw [g, hk _ _ g]
          have e3 : out.map (fun w => (kOf s.heap w).v) = (out.map (kOf hp)).map T3.v := by
            rw [List.map_map]
            exact List.map_congr_left fun w hw => by simp only [Function.comp]; rw [e0 w hw]
          rw [e3]
          congr 1
          refine List.Perm.eq_of_pairwise (le := fun x y : T3 => T3.le x y = true) (fun a b _ _ h1 h2 => le3_antisymm h1 h2) hpw ?_ ?_
          · exact List.pairwise_mergeSort (le := T3.le) (fun a b c => le3_trans) (fun a b => by
              cases h : T3.le a b with
              | true => rfl
              | false => exact le3_total h) ts
          · have := hperm.map (kOf hp)
            rw [q2 hp hk] at this
            exact this.trans (List.mergeSort_perm _ _).symm
      · cases h1
end
end Mini

/-! Derivation rules of the evaluator: small proofs. -/
set_option autoImplicit false
namespace Mini
open PySem

section
variable {C : Cl} {ℓ ℓ' ℓ1 : L} {σ σ' σ1 σ2 σ3 : H} {v x y : V} {a b e : Ex} {as : Es} {vs : List V}
theorem e_lit : evalE C (.lit v) ℓ σ = some (.ok v, σ) := rfl
theorem e_ty {t : Nat} : evalE C (.ty t) ℓ σ = some (.ok (.ty t), σ) := rfl
theorem e_var {i : Nat} (h : ℓ[i]?.join = some v) : evalE C (.var i) ℓ σ = some (.ok v, σ) := by show okX (ℓ[i]?.join) σ = _; rw [h]; rfl
theorem bnd_eq {α β : Type} {p : X α} {f : α → H → X β} {r : α} {s : H} (h : p = some (.ok r, s)) : bnd p f = f r s := by rw [h]; rfl
theorem bndY_eq {α : Type} {p : X α} {f : α → H → Y} {r : α} {s : H} (h : p = some (.ok r, s)) : bndY p ℓ f = f r s := by rw [h]; rfl
theorem e_bin {op : Bop} (ha : evalE C a ℓ σ = some (.ok x, σ1)) (hb : evalE C b ℓ σ1 = some (.ok y, σ2)) (h : binop op x y σ2 = some (v, σ3)) : evalE C (.bin op a b) ℓ σ = some (.ok v, σ3) :=
  (bnd_eq ha).trans ((bnd_eq hb).trans (by show okH (binop op x y σ2) = _; rw [h]; rfl))
theorem e_neg {i : Int} (ha : evalE C a ℓ σ = some (.ok (.int i), σ1)) : evalE C (.neg a) ℓ σ = some (.ok (.int (-i)), σ1) := bnd_eq ha
theorem e_not {p : Bool} (ha : evalE C a ℓ σ = some (.ok (.bool p), σ1)) : evalE C (.not a) ℓ σ = some (.ok (.bool (!p)), σ1) := bnd_eq ha
theorem e_andt (ha : evalE C a ℓ σ = some (.ok (.bool true), σ1)) {r : X V} (hb : evalE C b ℓ σ1 = r) : evalE C (.and a b) ℓ σ = r := (bnd_eq ha).trans hb
theorem e_andf (ha : evalE C a ℓ σ = some (.ok (.bool false), σ1)) : evalE C (.and a b) ℓ σ = some (.ok (.bool false), σ1) := bnd_eq ha
theorem e_ort (ha : evalE C a ℓ σ = some (.ok (.bool true), σ1)) : evalE C (.or a b) ℓ σ = some (.ok (.bool true), σ1) := bnd_eq ha
theorem e_orf (ha : evalE C a ℓ σ = some (.ok (.bool false), σ1)) {r : X V} (hb : evalE C b ℓ σ1 = r) : evalE C (.or a b) ℓ σ = r := (bnd_eq ha).trans hb
theorem e_and {p q : Bool} (ha : evalE C a ℓ σ = some (.ok (.bool p), σ)) (hb : evalE C b ℓ σ = some (.ok (.bool q), σ)) : evalE C (.and a b) ℓ σ = some (.ok (.bool (p && q)), σ) := by
  cases p with
  | true => exact e_andt ha hb
  | false => exact e_andf ha
theorem e_or {p q : Bool} (ha : evalE C a ℓ σ = some (.ok (.bool p), σ)) (hb : evalE C b ℓ σ = some (.ok (.bool q), σ)) : evalE C (.or a b) ℓ σ = some (.ok (.bool (p || q)), σ) := by
  cases p with
  | true => exact e_ort ha
  | false => exact e_orf ha hb
theorem e_cmp {op : Cop} {p : Bool} (ha : evalE C a ℓ σ = some (.ok x, σ1)) (hb : evalE C b ℓ σ1 = some (.ok y, σ2)) (h : cmpop op x y σ2 = some p) : evalE C (.cmp a (.one op b)) ℓ σ = some (.ok (.bool p), σ2) :=
  (bnd_eq ha).trans ((bnd_eq hb).trans (by show okX ((cmpop op x y σ2).map V.bool) σ2 = _; rw [h]; rfl))
theorem e_cmp2 {op op' : Cop} {c : Ex} {z : V} {p q : Bool} (ha : evalE C a ℓ σ = some (.ok x, σ)) (hb : evalE C b ℓ σ = some (.ok y, σ)) (hc : evalE C c ℓ σ = some (.ok z, σ)) (h : cmpop op x y σ = some p) (h' : cmpop op' y z σ = some q) : evalE C (.cmp a (.more op b (.one op' c))) ℓ σ = some (.ok (.bool (p && q)), σ) := by
  refine (bnd_eq ha).trans ((bnd_eq hb).trans ?_)
  show (match cmpop op x y σ with
    | some true => evalCh C y (.one op' c) ℓ σ
    | some false => some (.ok (.bool false), σ)
    | .none => .none) = _
  rw [h]
  cases p with
  | false => rfl
  | true => exact (bnd_eq hc).trans (by show okX ((cmpop op' y z σ).map V.bool) σ = _; rw [h']; rfl)
theorem e_idx (ha : evalE C a ℓ σ = some (.ok x, σ1)) (hb : evalE C b ℓ σ1 = some (.ok y, σ2)) (h : getIdx σ2 x y = some v) : evalE C (.idx a b) ℓ σ = some (.ok v, σ2) :=
  (bnd_eq ha).trans ((bnd_eq hb).trans (by show okX (getIdx σ2 x y) σ2 = _; rw [h]; rfl))
theorem e_tup (hs : evalEs C as ℓ σ = some (.ok vs, σ1)) (hl : Nat.ble vs.length lenMax = true) : evalE C (.tup as) ℓ σ = some (.ok (.tup vs), σ1) := (bnd_eq hs).trans (if_pos (Nat.le_of_ble_eq_true hl))
theorem e_lst (hs : evalEs C as ℓ σ = some (.ok vs, σ1)) (hl : Nat.ble vs.length lenMax = true) : evalE C (.lst as) ℓ σ = some (.ok (.obj σ1.length), σ1 ++ [.list vs]) := (bnd_eq hs).trans (by show okH (mkList σ1 vs) = _; unfold mkList; rw [if_pos (Nat.le_of_ble_eq_true hl)]; rfl)
theorem e_call {f : Nat} {r : X V} (hs : evalEs C as ℓ σ = some (.ok vs, σ1)) (h : C.call f vs σ1 = r) : evalE C (.call f as) ℓ σ = r := (bnd_eq hs).trans h
theorem e_blt {f : Blt} (hs : evalEs C as ℓ σ = some (.ok vs, σ1)) (h : bltV f vs σ1 = some (v, σ2)) : evalE C (.blt f as) ℓ σ = some (.ok v, σ2) := (bnd_eq hs).trans (by show okH (bltV f vs σ1) = _; rw [h]; rfl)
theorem e_mth {m : Mth} (ha : evalE C a ℓ σ = some (.ok x, σ1)) (hs : evalEs C as ℓ σ1 = some (.ok vs, σ2)) (h : mthV m x vs σ2 = some (v, σ3)) : evalE C (.mth m a as) ℓ σ = some (.ok v, σ3) :=
  (bnd_eq ha).trans ((bnd_eq hs).trans (by show okH (mthV m x vs σ2) = _; rw [h]; rfl))
theorem es_nil : evalEs C .nil ℓ σ = some (.ok [], σ) := rfl
theorem es_cons (ha : evalE C a ℓ σ = some (.ok x, σ1)) (hs : evalEs C as ℓ σ1 = some (.ok vs, σ2)) : evalEs C (.cons a as) ℓ σ = some (.ok (x :: vs), σ2) := (bnd_eq ha).trans (bnd_eq hs)
theorem if_nil : evalIfs C .nil ℓ σ = some (.ok true, σ) := rfl
theorem if_one {p : Bool} (ha : evalE C a ℓ σ = some (.ok (.bool p), σ1)) : evalIfs C (.cons a .nil) ℓ σ = some (.ok p, σ1) := (bnd_eq ha).trans (by cases p <;> rfl)

theorem x_asg {i : Nat} (h : evalE C e ℓ σ = some (.ok v, σ1)) (hi : Nat.blt i ℓ.length = true) : exec C (.asg (.one i) e) ℓ σ = some (.next, ℓ.set i (some v), σ1) :=
  (bndY_eq h).trans (by show (setL ℓ i v).map _ = _; unfold setL; rw [if_pos (show i < ℓ.length from Nat.le_of_ble_eq_true hi)]; rfl)
theorem x_expr (h : evalE C e ℓ σ = some (.ok v, σ1)) : exec C (.expr e) ℓ σ = some (.next, ℓ, σ1) := bndY_eq h
theorem x_ret (h : evalE C e ℓ σ = some (.ok v, σ1)) : exec C (.ret e) ℓ σ = some (.ret v, ℓ, σ1) := bndY_eq h
theorem x_ift {s t : Ss} {r : Y} (h : evalE C e ℓ σ = some (.ok (.bool true), σ1)) (hs : execs C s ℓ σ1 = r) : exec C (.ife e s t) ℓ σ = r := (bndY_eq h).trans hs
theorem x_iff {s t : Ss} {r : Y} (h : evalE C e ℓ σ = some (.ok (.bool false), σ1)) (hs : execs C t ℓ σ1 = r) : exec C (.ife e s t) ℓ σ = r := (bndY_eq h).trans hs
theorem xs_nil : execs C .nil ℓ σ = some (.next, ℓ, σ) := rfl
theorem xs_cons {s : St} {t : Ss} {r : Y} (h : exec C s ℓ σ = some (.next, ℓ1, σ1)) (hs : execs C t ℓ1 σ1 = r) : execs C (.cons s t) ℓ σ = r := by
  show seqY (exec C s ℓ σ) _ = r
  rw [h]; exact hs
theorem xs_ret {s : St} {t : Ss} (h : exec C s ℓ σ = some (.ret v, ℓ1, σ1)) : execs C (.cons s t) ℓ σ = some (.ret v, ℓ1, σ1) := by
  show seqY (exec C s ℓ σ) _ = _
  rw [h]; rfl
theorem xs_one {s : St} (h : exec C s ℓ σ = some (.next, ℓ1, σ1)) : execs C (.cons s .nil) ℓ σ = some (.next, ℓ1, σ1) := xs_cons h rfl
theorem xs_brk {s : St} {t : Ss} (h : exec C s ℓ σ = some (.brk, ℓ1, σ1)) : execs C (.cons s t) ℓ σ = some (.brk, ℓ1, σ1) := by
  show seqY (exec C s ℓ σ) _ = _
  rw [h]; rfl
theorem x_brk : exec C .brk ℓ σ = some (.brk, ℓ, σ) := rfl
end

section
variable {i j : Int} {σ : H}
theorem gtT (h : j < i) : cmpop .gt (.int i) (.int j) σ = some true := congrArg some (decide_eq_true h)
theorem gtF (h : ¬ j < i) : cmpop .gt (.int i) (.int j) σ = some false := congrArg some (decide_eq_false h)
theorem clT (h : i < j) : cmpop .lt (.int i) (.int j) σ = some true := congrArg some (decide_eq_true h)
theorem clF (h : ¬ i < j) : cmpop .lt (.int i) (.int j) σ = some false := congrArg some (decide_eq_false h)
theorem leT (h : i ≤ j) : cmpop .le (.int i) (.int j) σ = some true := congrArg some (decide_eq_true h)
theorem leF (h : ¬ i ≤ j) : cmpop .le (.int i) (.int j) σ = some false := congrArg some (decide_eq_false h)
theorem geT (h : j ≤ i) : cmpop .ge (.int i) (.int j) σ = some true := congrArg some (decide_eq_true h)
theorem geF (h : ¬ j ≤ i) : cmpop .ge (.int i) (.int j) σ = some false := congrArg some (decide_eq_false h)
theorem eqT (h : i = j) : cmpop .eq (.int i) (.int j) σ = some true := congrArg some (decide_eq_true h)
theorem eqF (h : ¬ i = j) : cmpop .eq (.int i) (.int j) σ = some false := congrArg some (decide_eq_false h)
theorem neF (h : i = j) : cmpop .ne (.int i) (.int j) σ = some false := congrArg (fun b => some (!b)) (decide_eq_true h)
theorem neT (h : ¬ i = j) : cmpop .ne (.int i) (.int j) σ = some true := congrArg (fun b => some (!b)) (decide_eq_false h)
theorem notT {C : Cl} {a : Ex} {ℓ : L} {σ1 : H} (ha : evalE C a ℓ σ = some (.ok (.bool true), σ1)) : evalE C (.not a) ℓ σ = some (.ok (.bool false), σ1) := e_not ha
theorem notF {C : Cl} {a : Ex} {ℓ : L} {σ1 : H} (ha : evalE C a ℓ σ = some (.ok (.bool false), σ1)) : evalE C (.not a) ℓ σ = some (.ok (.bool true), σ1) := e_not ha
end
end Mini

/-! Plain answers: the evaluator's steps as rewriting rules. -/
set_option autoImplicit false
namespace Mini
open PySem

@[simp] theorem bin_add (x y : Int) (σ : H) : binop .add (.int x) (.int y) σ = some (.int (x + y), σ) := rfl
@[simp] theorem bin_sub (x y : Int) (σ : H) : binop .sub (.int x) (.int y) σ = some (.int (x - y), σ) := rfl
theorem bin_mul {x y : Int} (h : mulOK x y) (σ : H) : binop .mul (.int x) (.int y) σ = some (.int (x * y), σ) := by simp only [binop, asInt, arith, if_pos h, Option.bind_some, Option.map_some]
@[simp] theorem bin_fdiv {x y : Int} (h : y ≠ 0 ∧ y.natAbs < 2 ^ 256) (σ : H) : binop .fdiv (.int x) (.int y) σ = some (.int (x.fdiv y), σ) := by simp only [binop, asInt, arith, if_pos h, Option.bind_some, Option.map_some]
@[simp] theorem bin_mod {x y : Int} (h : y ≠ 0) (σ : H) : binop .mod (.int x) (.int y) σ = some (.int (x.fmod y), σ) := by simp only [binop, asInt, arith, if_pos h, Option.bind_some, Option.map_some]
@[simp] theorem bin_pow {x y : Int} (h : 0 ≤ y ∧ y ≤ 256 ∧ x.natAbs < 2 ^ 64) (σ : H) : binop .pow (.int x) (.int y) σ = some (.int (x ^ y.toNat), σ) := by simp only [binop, asInt, arith, if_pos h, Option.bind_some, Option.map_some]
theorem bin_cat {m n : Nat} {σ : H} {x y : List V} (h1 : listOf σ (.obj m) = some x) (h2 : listOf σ (.obj n) = some y) : binop .add (.obj m) (.obj n) σ = mkList σ (x ++ y) := by simp only [binop, if_pos, catV, h1, h2, Option.bind_some]
@[simp] theorem mkList_ok {l : List V} (h : l.length ≤ lenMax) (σ : H) : mkList σ l = some (.obj σ.length, σ ++ [.list l]) := by simp only [mkList, if_pos h]
theorem listOf_get {n : Nat} {σ : H} {l : List V} (h : σ[n]? = some (.list l)) : listOf σ (.obj n) = some l := by simp only [listOf, h]
theorem items_get {n : Nat} {σ : H} {l : List V} (h : σ[n]? = some (.list l)) : items σ (.obj n) = some l := by simp only [items, h]
theorem getIdx_int (σ : H) (a : V) (k : Int) : getIdx σ a (.int k) = (items σ a).bind fun l => (idxN k l.length).bind fun j => l[j]? := rfl
@[simp] theorem items_tup (σ : H) (l : List V) : items σ (.tup l) = some l := rfl
@[simp] theorem items_frz (σ : H) (l : List Int) : items σ (.frz l) = some (l.map .int) := rfl
@[simp] theorem truth_bool (b : Bool) : truth (.bool b) = some b := rfl
@[simp] theorem truth_none : truth .none = some false := rfl
@[simp] theorem cmp_le (x y : Int) (σ : H) : cmpop .le (.int x) (.int y) σ = some (decide (x ≤ y)) := rfl
@[simp] theorem cmp_lt (x y : Int) (σ : H) : cmpop .lt (.int x) (.int y) σ = some (decide (x < y)) := rfl
@[simp] theorem cmp_gt (x y : Int) (σ : H) : cmpop .gt (.int x) (.int y) σ = some (decide (y < x)) := rfl
@[simp] theorem cmp_ge (x y : Int) (σ : H) : cmpop .ge (.int x) (.int y) σ = some (decide (y ≤ x)) := rfl
@[simp] theorem cmp_eq (x y : Int) (σ : H) : cmpop .eq (.int x) (.int y) σ = some (decide (x = y)) := rfl
@[simp] theorem cmp_ne (x y : Int) (σ : H) : cmpop .ne (.int x) (.int y) σ = some (!decide (x = y)) := rfl
@[simp] theorem cmp_bne (x y : Bool) (σ : H) : cmpop .ne (.bool x) (.bool y) σ = some (!(x == y)) := rfl
@[simp] theorem isi_bool (x : Bool) (σ : H) : isiV σ (.bool x) 1 = some true := rfl
theorem callF_eq {pg : Pg} {d n : Nat} {F : Fn} {as : List V} {ℓ : L} {σ : H} (hF : pg.fn n = some F) (hs : startL F as = some ℓ) : callF pg (d + 1) n as σ = gc F.mode σ (retX (execs ⟨pg, callF pg d⟩ F.body ℓ σ)) := by
  simp only [callF, hF, hs]
theorem gc_pure {σ t : H} {v : V} (h : below σ.length v = true) : gc .pure σ (some (.ok v, σ ++ t)) = some (.ok v, σ) := by simp [gc, h]
theorem gc_pure0 {σ : H} {v : V} (h : below σ.length v = true) : gc .pure σ (some (.ok v, σ)) = some (.ok v, σ) := by simp [gc, h]
@[simp] theorem below_int (n : Nat) (i : Int) : below n (.int i) = true := rfl
@[simp] theorem below_bool (n : Nat) (i : Bool) : below n (.bool i) = true := rfl
@[simp] theorem T3.below_v (n : Nat) (x : T3) : below n x.v = true := rfl
@[simp] theorem len1 : 1 ≤ lenMax := by decide
@[simp] theorem len2 : 2 ≤ lenMax := by decide
@[simp] theorem len3 : 3 ≤ lenMax := by decide
@[simp] theorem len4 : 4 ≤ lenMax := by decide
@[simp] theorem asInt_int (x : Int) : asInt (.int x) = some x := rfl
@[simp] theorem asTup_tup (x : List V) : asTup (.tup x) = some x := rfl
@[simp] theorem asBound_int (x : Int) : asBound (.int x) = some (some x) := rfl
@[simp] theorem asBound_none : asBound .none = some .none := rfl
@[simp] theorem listOf_frz (σ : H) (l : List Int) : listOf σ (.frz l) = some (l.map .int) := rfl
@[simp] theorem arg1_one (x : V) : arg1 [x] = some x := rfl
@[simp] theorem arg2_two (x y : V) : arg2 [x, y] = some (x, y) := rfl
@[simp] theorem tyNo_ty (t : Nat) : tyNo (.ty t) = some t := rfl
@[simp] theorem loN_some (i : Int) (n : Nat) : loN (some i) n = clampS i n := rfl
@[simp] theorem hiN_some (i : Int) (n : Nat) : hiN (some i) n = clampS i n := rfl
@[simp] theorem loN_none (n : Nat) : loN .none n = 0 := rfl
@[simp] theorem hiN_none (n : Nat) : hiN .none n = n := rfl
theorem ev_fn0 {pg : Pg} {d n k : Nat} {ps : List Nat} {B : Ss} {as : List V} {ℓ ℓ' : L} {σ : H} {v : V} (hF : pg.fn n = some ⟨ps, k, B, .pure⟩) (hs : startL ⟨ps, k, B, .pure⟩ as = some ℓ) (h : execs ⟨pg, callF pg d⟩ B ℓ σ = some (.ret v, ℓ', σ)) (hb : below σ.length v = true) : callF pg (d + 1) n as σ = some (.ok v, σ) := by
  rw [callF_eq hF hs]; show gc .pure σ (retX (execs ⟨pg, callF pg d⟩ B ℓ σ)) = _; rw [h]; exact gc_pure0 hb
theorem ev_fn {pg : Pg} {d n k : Nat} {ps : List Nat} {B : Ss} {as : List V} {ℓ ℓ' : L} {σ t : H} {v : V} (hF : pg.fn n = some ⟨ps, k, B, .pure⟩) (hs : startL ⟨ps, k, B, .pure⟩ as = some ℓ) (h : execs ⟨pg, callF pg d⟩ B ℓ σ = some (.ret v, ℓ', σ ++ t)) (hb : below σ.length v = true) : callF pg (d + 1) n as σ = some (.ok v, σ) := by
  rw [callF_eq hF hs]; show gc .pure σ (retX (execs ⟨pg, callF pg d⟩ B ℓ σ)) = _; rw [h]; exact gc_pure hb
theorem ev_law {pg : Pg} {d n k : Nat} {ps : List Nat} {B : Ss} {as : List V} {ℓ ℓ' : L} {t : H} {v : V} (hF : pg.fn n = some ⟨ps, k, B, .pure⟩) (hs : startL ⟨ps, k, B, .pure⟩ as = some ℓ) (h : execs ⟨pg, callF pg d⟩ B ℓ [] = some (.ret v, ℓ', t)) (hb : below 0 v = true) : callF pg (d + 1) n as [] = some (.ok v, []) := ev_fn (σ := []) (t := t) hF hs h hb
theorem ev_fnN {pg : Pg} {d n k : Nat} {ps : List Nat} {B : Ss} {as : List V} {ℓ ℓ' : L} {σ : H} (hF : pg.fn n = some ⟨ps, k, B, .pure⟩) (hs : startL ⟨ps, k, B, .pure⟩ as = some ℓ) (h : execs ⟨pg, callF pg d⟩ B ℓ σ = some (.next, ℓ', σ)) : callF pg (d + 1) n as σ = some (.ok .none, σ) := by
  rw [callF_eq hF hs]; show gc .pure σ (retX (execs ⟨pg, callF pg d⟩ B ℓ σ)) = _; rw [h]; exact gc_pure0 rfl
theorem ev_fnF {pg : Pg} {d n k m : Nat} {ps : List Nat} {B : Ss} {as : List V} {ℓ ℓ' : L} {σ t : H} {l : List V} (hF : pg.fn n = some ⟨ps, k, B, .fresh⟩) (hs : startL ⟨ps, k, B, .fresh⟩ as = some ℓ) (h : execs ⟨pg, callF pg d⟩ B ℓ σ = some (.ret (.obj m), ℓ', σ ++ t)) (hm : σ.length ≤ m) (hb : belows σ.length l = true) (ht : (σ ++ t)[m]? = some (.list l)) : callF pg (d + 1) n as σ = some (.ok (.obj σ.length), σ ++ [.list l]) := by
  have : ¬ m < σ.length := by exact Lin.lin [(.le (.v 1) (.v 0))] (.no (.lt (.v 0) (.v 1))) (.l [1, 1]) rfl [_, _] [] hm
  rw [callF_eq hF hs]; show gc .fresh σ (retX (execs ⟨pg, callF pg d⟩ B ℓ σ)) = _; rw [h]
  simp [gc, hb, ht, this]
/-- meet -/
noncomputable def S0_0 : St := (St.ret (Ex.and (Ex.cmp (Ex.idx (Ex.var 0) (Ex.lit (V.int 0))) (Ch.one Cop.le (Ex.idx (Ex.var 1) (Ex.lit (V.int 1))))) (Ex.cmp (Ex.idx (Ex.var 1) (Ex.lit (V.int 0))) (Ch.one Cop.le (Ex.idx (Ex.var 0) (Ex.lit (V.int 1)))))))
noncomputable def B0 : Ss := .cons S0_0 <| .nil
/-- _law_at -/
noncomputable def S16_0 : St := (St.ret (Ex.idx (Ex.bin Bop.add (Ex.slc (Ex.var 0) (Oe.yes (Ex.var 1)) (Oe.yes (Ex.bin Bop.add (Ex.var 1) (Ex.lit (V.int 1)))) Oe.no) (Ex.lst (Es.cons (Ex.lit (V.int 0)) Es.nil))) (Ex.lit (V.int 0))))
noncomputable def B16 : Ss := .cons S16_0 <| .nil
/-- _law_made -/
noncomputable def S17_0 : St := (St.asg (Tg.one 1) (Ex.bin Bop.sub (Ex.bin Bop.mod (Ex.bin Bop.fdiv (Ex.var 0) (Ex.lit (V.int 4))) (Ex.lit (V.int 61))) (Ex.lit (V.int 30))))
noncomputable def S17_1 : St := (St.ife (Ex.cmp (Ex.bin Bop.mod (Ex.var 0) (Ex.lit (V.int 4))) (Ch.one Cop.eq (Ex.lit (V.int 3)))) (Ss.cons (St.asg (Tg.one 1) (Ex.bin Bop.sub (Ex.bin Bop.mod (Ex.bin Bop.mul (Ex.bin Bop.fdiv (Ex.var 0) (Ex.lit (V.int 4))) (Ex.bin Bop.pow (Ex.lit (V.int 48271)) (Ex.lit (V.int 12)))) (Ex.bin Bop.sub (Ex.bin Bop.mul (Ex.lit (V.int 2)) (Ex.bin Bop.pow (Ex.lit (V.int 10)) (Ex.lit (V.int 60)))) (Ex.lit (V.int 1)))) (Ex.bin Bop.sub (Ex.bin Bop.pow (Ex.lit (V.int 10)) (Ex.lit (V.int 60))) (Ex.lit (V.int 1))))) Ss.nil) Ss.nil)
noncomputable def S17_2 : St := (St.asg (Tg.one 2) (Ex.bin Bop.mod (Ex.bin Bop.fdiv (Ex.var 0) (Ex.lit (V.int 244))) (Ex.lit (V.int 16))))
noncomputable def S17_3 : St := (St.ife (Ex.cmp (Ex.bin Bop.mod (Ex.bin Bop.fdiv (Ex.var 0) (Ex.lit (V.int 3904))) (Ex.lit (V.int 8))) (Ch.one Cop.eq (Ex.lit (V.int 1)))) (Ss.cons (St.asg (Tg.one 2) (Ex.bin Bop.mod (Ex.bin Bop.mul (Ex.bin Bop.fdiv (Ex.var 0) (Ex.lit (V.int 4))) (Ex.bin Bop.pow (Ex.lit (V.int 69621)) (Ex.lit (V.int 12)))) (Ex.bin Bop.pow (Ex.lit (V.int 10)) (Ex.lit (V.int 60))))) Ss.nil) Ss.nil)
noncomputable def S17_4 : St := (St.asg (Tg.one 3) (Ex.bin Bop.sub (Ex.bin Bop.mod (Ex.bin Bop.fdiv (Ex.var 0) (Ex.lit (V.int 31232))) (Ex.lit (V.int 7))) (Ex.lit (V.int 3))))
noncomputable def S17_5 : St := (St.ife (Ex.cmp (Ex.bin Bop.mod (Ex.bin Bop.fdiv (Ex.var 0) (Ex.lit (V.int 218624))) (Ex.lit (V.int 8))) (Ch.one Cop.eq (Ex.lit (V.int 1)))) (Ss.cons (St.asg (Tg.one 3) (Ex.bin Bop.sub (Ex.bin Bop.mod (Ex.bin Bop.mul (Ex.bin Bop.fdiv (Ex.var 0) (Ex.lit (V.int 4))) (Ex.bin Bop.pow (Ex.lit (V.int 16807)) (Ex.lit (V.int 14)))) (Ex.bin Bop.sub (Ex.bin Bop.mul (Ex.lit (V.int 2)) (Ex.bin Bop.pow (Ex.lit (V.int 10)) (Ex.lit (V.int 60)))) (Ex.lit (V.int 1)))) (Ex.bin Bop.sub (Ex.bin Bop.pow (Ex.lit (V.int 10)) (Ex.lit (V.int 60))) (Ex.lit (V.int 1))))) Ss.nil) Ss.nil)
noncomputable def S17_6 : St := (St.ret (Ex.tup (Es.cons (Ex.var 1) (Es.cons (Ex.blt Blt.min (Es.cons (Ex.bin Bop.add (Ex.var 1) (Ex.var 2)) (Es.cons (Ex.bin Bop.sub (Ex.bin Bop.pow (Ex.lit (V.int 10)) (Ex.lit (V.int 60))) (Ex.lit (V.int 1))) Es.nil))) (Es.cons (Ex.var 3) Es.nil)))))
noncomputable def B17 : Ss := .cons S17_0 <| .cons S17_1 <| .cons S17_2 <| .cons S17_3 <| .cons S17_4 <| .cons S17_5 <| .cons S17_6 <| .nil

theorem at_slice (l : List Int) (k : Nat) : ∃ r, ((l.map V.int).take (clampS ((k : Int) + 1) l.length)).drop (clampS (k : Int) l.length) ++ [V.int 0] = V.int (l.getD k 0) :: r ∧ r.length ≤ 1 := by
  have h1 : clampS ((k : Int) + 1) l.length = min (k + 1) l.length := by
    unfold clampS; rw [if_neg (by exact Lin.lin [] (.no (.zlt (.a (.n (.v 0)) (.k 1)) (.k 0))) (.l [1]) rfl [_] [])]; simp
  have h2 : clampS (k : Int) l.length = min k l.length := by
    unfold clampS; rw [if_neg (by exact Lin.lin [] (.no (.zlt (.n (.v 0)) (.k 0))) (.l [1]) rfl [_] [])]; simp
  rw [h1, h2, ← List.map_take, ← List.map_drop]
  rcases Nat.lt_or_ge k l.length with h | h
  · have e1 : min (k + 1) l.length = k + 1 := by exact Lin.lin [(.lt (.v 1) (.v 2)), (.or (.an (.le (.a (.v 1) (.k 1)) (.v 2)) (.eq (.v 0) (.a (.v 1) (.k 1)))) (.an (.le (.v 2) (.a (.v 1) (.k 1))) (.eq (.v 0) (.v 2))))] (.eq (.v 0) (.a (.v 1) (.k 1))) (.s (.s (.l [1, 0, 0, 0, 1]) (.l [1, 1, 0, 0, 1])) (.s (.l [1, 0, 0, 1]) (.l [1, 0, 1, 1]))) rfl [_, _, _] [] h (Lin.min_ax _ _)
    have e2 : min k l.length = k := by exact Lin.lin [(.lt (.v 1) (.v 2)), (.or (.an (.le (.v 1) (.v 2)) (.eq (.v 0) (.v 1))) (.an (.le (.v 2) (.v 1)) (.eq (.v 0) (.v 2))))] (.eq (.v 0) (.v 1)) (.s (.s (.l [1, 0, 0, 0, 1]) (.l [0, 1, 1])) (.s (.l [1, 0, 0, 1]) (.l [0, 1, 1]))) rfl [_, _, _] [] h (Lin.min_ax _ _)
    rw [e1, e2, List.take_add_one, List.getElem?_eq_getElem h]
    have : (l.take k ++ [l[k]]).drop k = [l[k]] := by
      rw [List.drop_append_of_le_length (by simp; exact Lin.lin [(.eq (.v 1) (.v 0))] (.le (.v 0) (.v 1)) (.l [1, 0, 1]) rfl [_, _] [] e2)]; simp
    simp only [Option.toList_some, this]
    exact ⟨[V.int 0], by simp [List.getD_eq_getElem?_getD, List.getElem?_eq_getElem h], by simp⟩
  · have e1 : min (k + 1) l.length = l.length := by exact Lin.lin [(.le (.v 1) (.v 2)), (.or (.an (.le (.a (.v 2) (.k 1)) (.v 1)) (.eq (.v 0) (.a (.v 2) (.k 1)))) (.an (.le (.v 1) (.a (.v 2) (.k 1))) (.eq (.v 0) (.v 1))))] (.eq (.v 0) (.v 1)) (.s (.s (.l [0, 1, 1]) (.l [1, 0, 0, 0, 1])) (.s (.l [0, 1, 1]) (.l [1, 0, 0, 1]))) rfl [_, _, _] [] h (Lin.min_ax _ _)
    have e2 : min k l.length = l.length := by exact Lin.lin [(.le (.v 1) (.v 2)), (.or (.an (.le (.v 2) (.v 1)) (.eq (.v 0) (.v 2))) (.an (.le (.v 1) (.v 2)) (.eq (.v 0) (.v 1))))] (.eq (.v 0) (.v 1)) (.s (.s (.l [1, 1, 0, 0, 1]) (.l [1, 0, 0, 0, 1])) (.s (.l [1, 0, 1, 1]) (.l [1, 0, 0, 1]))) rfl [_, _, _] [] h (Lin.min_ax _ _)
    rw [e1, e2, List.take_length, List.drop_length]
    refine ⟨[], ?_, by simp⟩
    simp [List.getD_eq_getElem?_getD, List.getElem?_eq_none h]

theorem ev_at {pg : Pg} (hF : pg.fn 16 = some ⟨[0, 1], 10, B16, .pure⟩) (d : Nat) (l : List Int) (k : Nat) (σ : H) : callF pg (d + 1) 16 [.frz l, .int (k : Nat)] σ = some (.ok (.int (l.getD k 0)), σ) := by
  refine Classical.byContradiction fun hnX => ?_
  obtain ⟨r, hr, hrl⟩ := at_slice l k
  refine hnX ?_
  clear hnX
  rw [callF_eq hF rfl]
  have hlen : (((l.map V.int).take (clampS ((k : Int) + 1) l.length)).drop (clampS (k : Int) l.length)).length ≤ lenMax := by
    have := congrArg List.length hr
    simp only [List.length_append, List.length_cons, List.length_nil] at this
    unfold lenMax; lia
  generalize hx : ((l.map V.int).take (clampS ((k : Int) + 1) l.length)).drop (clampS (k : Int) l.length) = x at hr hlen
  have e1 : evalE ⟨pg, callF pg d⟩ (Ex.slc (Ex.var 0) (Oe.yes (Ex.var 1)) (Oe.yes (Ex.bin Bop.add (Ex.var 1) (Ex.lit (V.int 1)))) Oe.no) [some (.frz l), some (.int k), none, none, none, none, none, none, none, none] σ = some (.ok (.obj σ.length), σ ++ [.list x]) := by
    simp [evalE, evalOe, okX, sliceV, sliceL, hx, hlen]
  have hl2 : (x ++ [V.int 0]).length ≤ lenMax := by rw [hr]; simp; unfold lenMax; exact Lin.lin [(.le (.v 0) (.k 1))] (.le (.a (.v 0) (.k 1)) (.k 1000000)) (.l [1, 1]) rfl [_] [] hrl
  have e2 : binop .add (.obj σ.length) (.obj (σ.length + 1)) (σ ++ [.list x, .list [.int 0]]) = mkList (σ ++ [.list x, .list [.int 0]]) (x ++ [.int 0]) := bin_cat (listOf_get (by simp)) (listOf_get (by simp))
  have e3 : getIdx (σ ++ [.list x, .list [.int 0], .list (x ++ [.int 0])]) (.obj (σ.length + 2)) (.int 0) = some (.int (l.getD k 0)) := by
    have hi := items_get (σ := σ ++ [O.list x, O.list [V.int 0], O.list (x ++ [V.int 0])]) (n := σ.length + 2) (l := x ++ [.int 0]) (by simp)
    simp only [getIdx, hi, Option.bind_some]
    rw [hr]
    simp [idxN]
  show gc .pure σ (retX (execs ⟨pg, callF pg d⟩ B16 [some (.frz l), some (.int k), none, none, none, none, none, none, none, none] σ)) = _
  have : execs ⟨pg, callF pg d⟩ B16 [some (.frz l), some (.int k), none, none, none, none, none, none, none, none] σ = some (.ret (.int (l.getD k 0)), [some (.frz l), some (.int k), none, none, none, none, none, none, none, none], σ ++ [.list x, .list [.int 0], .list (x ++ [.int 0])]) := by
    have hl2' : x.length + 1 ≤ lenMax := by simpa using hl2
    simp only [B16, S16_0, execs, exec]
    simp only [evalE] at e1 ⊢
    rw [e1]
    simp [evalE, evalEs, e2, hl2', e3]
  rw [this]
  exact gc_pure rfl
end Mini

/-! _law_made, meet -/
set_option autoImplicit false
namespace Mini
open PySem

theorem big_of {a : Int} (h : a.natAbs < 2 ^ 256) : Big a := Nat.lt_of_lt_of_le h (Nat.pow_le_pow_right (by decide) (by unfold bigE; decide))
theorem mulOK_of {a c : Int} (ha : Big a) (hc : c.natAbs < 2 ^ 256) : mulOK a c := .inr (.inr ⟨ha, big_of hc⟩)
theorem natAbs_fdiv (a : Int) (k : Nat) : (a.fdiv (k : Int)).natAbs ≤ a.natAbs := by
  rcases Nat.eq_zero_or_pos k with rfl | hk
  · simp
  · have h1 : a.fdiv (k : Int) = a / (k : Int) := Int.fdiv_eq_ediv_of_nonneg _ (by exact Lin.lin [] (.zle (.k 0) (.n (.v 0))) (.l [1]) rfl [_] [])
    rw [h1]
    exact Int.natAbs_ediv_le_natAbs a k
theorem big_fdiv {a : Int} (h : Big a) (k : Nat) : Big (a.fdiv (k : Int)) := Nat.lt_of_le_of_lt (natAbs_fdiv a k) h

noncomputable def W60 : Int := 10 ^ 60 - 1
noncomputable def lowOf (s : Int) : Int := if s.fmod 4 = 3 then (s.fdiv 4 * 48271 ^ 12).fmod (2 * 10 ^ 60 - 1) - (10 ^ 60 - 1) else (s.fdiv 4).fmod 61 - 30
noncomputable def widOf (s : Int) : Int := if (s.fdiv 3904).fmod 8 = 1 then (s.fdiv 4 * 69621 ^ 12).fmod (10 ^ 60) else (s.fdiv 244).fmod 16
noncomputable def mrkOf (s : Int) : Int := if (s.fdiv 218624).fmod 8 = 1 then (s.fdiv 4 * 16807 ^ 14).fmod (2 * 10 ^ 60 - 1) - (10 ^ 60 - 1) else (s.fdiv 31232).fmod 7 - 3
noncomputable def madeT (s : Int) : T3 := ⟨lowOf s, if 10 ^ 60 - 1 < lowOf s + widOf s then 10 ^ 60 - 1 else lowOf s + widOf s, mrkOf s⟩

theorem ev_made {pg : Pg} (hF : pg.fn 17 = some ⟨[0], 12, B17, .pure⟩) (d : Nat) (s : Int) (σ : H) (hs : Big s) : callF pg (d + 1) 17 [.int s] σ = some (.ok (madeT s).v, σ) := by
  rw [callF_eq hF rfl]
  have hm : ∀ c : Int, c.natAbs < 2 ^ 256 → mulOK (s.fdiv 4) c := fun c hc => mulOK_of (big_fdiv hs 4) hc
  have k1 : ∀ ss, execs ⟨pg, callF pg d⟩ (.cons S17_0 (.cons S17_1 ss)) [some (.int s), none, none, none, none, none, none, none, none, none, none, none] σ = execs ⟨pg, callF pg d⟩ ss [some (.int s), some (.int (lowOf s)), none, none, none, none, none, none, none, none, none, none] σ := by
    intro ss
    by_cases c : s.fmod 4 = 3
    · rw [show lowOf s = _ from if_pos c]
      refine xs_cons (x_asg (σ1 := σ) (v := .int ((s.fdiv 4).fmod 61 - 30)) ?_ rfl) (xs_cons (x_ift (e_cmp (e_bin (e_var rfl) e_lit (bin_mod (by decide) _)) e_lit ?_) (xs_one (x_asg ?_ rfl))) rfl)
      · exact e_bin (e_bin (e_bin (e_var rfl) e_lit (bin_fdiv (by decide) _)) e_lit (bin_mod (by decide) _)) e_lit (bin_sub _ _ _)
      · exact congrArg some (decide_eq_true c)
      · exact e_bin (e_bin (e_bin (e_bin (e_var rfl) e_lit (bin_fdiv (by decide) _)) (e_bin e_lit e_lit (bin_pow (by decide) _)) (bin_mul (hm _ (by decide)) _)) (e_bin (e_bin e_lit (e_bin e_lit e_lit (bin_pow (by decide) _)) (bin_mul (.inl (by decide)) _)) e_lit (bin_sub _ _ _)) (bin_mod (by decide) _)) (e_bin (e_bin e_lit e_lit (bin_pow (by decide) _)) e_lit (bin_sub _ _ _)) (bin_sub _ _ _)
    · rw [show lowOf s = _ from if_neg c]
      refine xs_cons (x_asg (σ1 := σ) (v := .int ((s.fdiv 4).fmod 61 - 30)) ?_ rfl) (xs_cons (x_iff (e_cmp (e_bin (e_var rfl) e_lit (bin_mod (by decide) _)) e_lit ?_) xs_nil) rfl)
      · exact e_bin (e_bin (e_bin (e_var rfl) e_lit (bin_fdiv (by decide) _)) e_lit (bin_mod (by decide) _)) e_lit (bin_sub _ _ _)
      · exact congrArg some (decide_eq_false c)
  have k2 : ∀ ss, execs ⟨pg, callF pg d⟩ (.cons S17_2 (.cons S17_3 ss)) [some (.int s), some (.int (lowOf s)), none, none, none, none, none, none, none, none, none, none] σ = execs ⟨pg, callF pg d⟩ ss [some (.int s), some (.int (lowOf s)), some (.int (widOf s)), none, none, none, none, none, none, none, none, none] σ := by
    intro ss
    by_cases c : (s.fdiv 3904).fmod 8 = 1
    · rw [show widOf s = _ from if_pos c]
      refine xs_cons (x_asg (σ1 := σ) (v := .int ((s.fdiv 244).fmod 16)) ?_ rfl) (xs_cons (x_ift (e_cmp (e_bin (e_bin (e_var rfl) e_lit (bin_fdiv (by decide) _)) e_lit (bin_mod (by decide) _)) e_lit ?_) (xs_one (x_asg ?_ rfl))) rfl)
      · exact e_bin (e_bin (e_var rfl) e_lit (bin_fdiv (by decide) _)) e_lit (bin_mod (by decide) _)
      · exact congrArg some (decide_eq_true c)
      · exact e_bin (e_bin (e_bin (e_var rfl) e_lit (bin_fdiv (by decide) _)) (e_bin e_lit e_lit (bin_pow (by decide) _)) (bin_mul (hm _ (by decide)) _)) (e_bin e_lit e_lit (bin_pow (by decide) _)) (bin_mod (by decide) _)
    · rw [show widOf s = _ from if_neg c]
      refine xs_cons (x_asg (σ1 := σ) (v := .int ((s.fdiv 244).fmod 16)) ?_ rfl) (xs_cons (x_iff (e_cmp (e_bin (e_bin (e_var rfl) e_lit (bin_fdiv (by decide) _)) e_lit (bin_mod (by decide) _)) e_lit ?_) xs_nil) rfl)
      · exact e_bin (e_bin (e_var rfl) e_lit (bin_fdiv (by decide) _)) e_lit (bin_mod (by decide) _)
      · exact congrArg some (decide_eq_false c)
  have k3 : ∀ ss, execs ⟨pg, callF pg d⟩ (.cons S17_4 (.cons S17_5 ss)) [some (.int s), some (.int (lowOf s)), some (.int (widOf s)), none, none, none, none, none, none, none, none, none] σ = execs ⟨pg, callF pg d⟩ ss [some (.int s), some (.int (lowOf s)), some (.int (widOf s)), some (.int (mrkOf s)), none, none, none, none, none, none, none, none] σ := by
    intro ss
    by_cases c : (s.fdiv 218624).fmod 8 = 1
    · rw [show mrkOf s = _ from if_pos c]
      refine xs_cons (x_asg (σ1 := σ) (v := .int ((s.fdiv 31232).fmod 7 - 3)) ?_ rfl) (xs_cons (x_ift (e_cmp (e_bin (e_bin (e_var rfl) e_lit (bin_fdiv (by decide) _)) e_lit (bin_mod (by decide) _)) e_lit ?_) (xs_one (x_asg ?_ rfl))) rfl)
      · exact e_bin (e_bin (e_bin (e_var rfl) e_lit (bin_fdiv (by decide) _)) e_lit (bin_mod (by decide) _)) e_lit (bin_sub _ _ _)
      · exact congrArg some (decide_eq_true c)
      · exact e_bin (e_bin (e_bin (e_bin (e_var rfl) e_lit (bin_fdiv (by decide) _)) (e_bin e_lit e_lit (bin_pow (by decide) _)) (bin_mul (hm _ (by decide)) _)) (e_bin (e_bin e_lit (e_bin e_lit e_lit (bin_pow (by decide) _)) (bin_mul (.inl (by decide)) _)) e_lit (bin_sub _ _ _)) (bin_mod (by decide) _)) (e_bin (e_bin e_lit e_lit (bin_pow (by decide) _)) e_lit (bin_sub _ _ _)) (bin_sub _ _ _)
    · rw [show mrkOf s = _ from if_neg c]
      refine xs_cons (x_asg (σ1 := σ) (v := .int ((s.fdiv 31232).fmod 7 - 3)) ?_ rfl) (xs_cons (x_iff (e_cmp (e_bin (e_bin (e_var rfl) e_lit (bin_fdiv (by decide) _)) e_lit (bin_mod (by decide) _)) e_lit ?_) xs_nil) rfl)
      · exact e_bin (e_bin (e_bin (e_var rfl) e_lit (bin_fdiv (by decide) _)) e_lit (bin_mod (by decide) _)) e_lit (bin_sub _ _ _)
      · exact congrArg some (decide_eq_false c)
  have k4 : exec ⟨pg, callF pg d⟩ S17_6 [some (.int s), some (.int (lowOf s)), some (.int (widOf s)), some (.int (mrkOf s)), none, none, none, none, none, none, none, none] σ = some (.ret (madeT s).v, [some (.int s), some (.int (lowOf s)), some (.int (widOf s)), some (.int (mrkOf s)), none, none, none, none, none, none, none, none], σ) :=
    x_ret (e_tup (es_cons (e_var rfl) (es_cons (e_blt (es_cons (e_bin (e_var rfl) (e_var rfl) (bin_add _ _ _)) (es_cons (e_bin (e_bin e_lit e_lit (bin_pow (by decide) _)) e_lit (bin_sub _ _ _)) es_nil)) rfl) (es_cons (e_var rfl) es_nil))) rfl)
  show gc .pure σ (retX (execs ⟨pg, callF pg d⟩ B17 [some (.int s), none, none, none, none, none, none, none, none, none, none, none] σ)) = _
  rw [B17, k1, k2, k3, xs_ret k4]
  exact gc_pure0 rfl

theorem ev_meet {pg : Pg} (hF : pg.fn 0 = some ⟨[0, 1], 10, B0, .pure⟩) (d : Nat) (x y : T3) (σ : H) : callF pg (d + 1) 0 [x.v, y.v] σ = some (.ok (.bool (decide (x.a ≤ y.b) && decide (y.a ≤ x.b))), σ) := by
  rw [callF_eq hF rfl]
  have key : ∃ ℓ, execs ⟨pg, callF pg d⟩ B0 [some x.v, some y.v, none, none, none, none, none, none, none, none] σ = some (.ret (.bool (decide (x.a ≤ y.b) && decide (y.a ≤ x.b))), ℓ, σ) := by
    by_cases c1 : x.a ≤ y.b <;> simp [B0, S0_0, execs, exec, evalE, evalEs, evalCh, okX, T3.v, getIdx, idxN, c1]
  refine Classical.byContradiction fun hnX => ?_
  obtain ⟨ℓ, key⟩ := key
  refine hnX ?_
  clear hnX
  show gc .pure σ (retX (execs ⟨pg, callF pg d⟩ B0 [some x.v, some y.v, none, none, none, none, none, none, none, none] σ)) = _
  rw [key]
  exact gc_pure0 rfl
end Mini

/-! Bounds of what _law_made draws. -/
set_option autoImplicit false
namespace Mini
open PySem
theorem fmod_lt' (a : Int) {m : Int} (h : 0 < m) : 0 ≤ a.fmod m ∧ a.fmod m < m := by
  rw [Int.fmod_eq_emod_of_nonneg _ (by exact Lin.lin [(.zlt (.k 0) (.v 0))] (.zle (.k 0) (.v 0)) (.l [1, 1]) rfl [] [_] h)]
  exact ⟨Int.emod_nonneg _ (by exact Lin.lin [(.zlt (.k 0) (.v 0))] (.no (.zeq (.v 0) (.k 0))) (.l [1, 0, 1]) rfl [] [_] h), Int.emod_lt_of_pos _ h⟩

theorem lowOf_le (s : Int) : -(10 ^ 60 - 1) ≤ lowOf s ∧ lowOf s ≤ 10 ^ 60 - 1 := by
  unfold lowOf
  split
  · have := fmod_lt' (s.fdiv 4 * 48271 ^ 12) (m := 2 * 10 ^ 60 - 1) (by decide)
    omega
  · have := fmod_lt' (s.fdiv 4) (m := 61) (by decide)
    omega
theorem widOf_nonneg (s : Int) : 0 ≤ widOf s := by
  unfold widOf
  split
  · exact (fmod_lt' _ (by decide)).1
  · exact (fmod_lt' _ (by decide)).1
theorem madeT_ord (s : Int) : (madeT s).a ≤ (madeT s).b := by
  have h1 := lowOf_le s
  have h2 := widOf_nonneg s
  simp only [madeT]
  split <;> omega

theorem big_at {l : List Int} (hb : ∀ x ∈ l, x.natAbs < 2 ^ (2 ^ 20)) (k : Nat) (c : Nat) (hc : c < 65536) : Big (l.getD k 0 * 48271 + c) := by
  have hx : (l.getD k 0).natAbs < 2 ^ (2 ^ 20) := by
    rw [List.getD_eq_getElem?_getD]
    cases h : l[k]? with
    | none => exact Nat.two_pow_pos _
    | some x => exact hb x (List.mem_of_getElem? h)
  generalize l.getD k 0 = x at hx
  generalize hE : 2 ^ 20 = E at hx
  have h1 : (x * 48271 + c).natAbs ≤ x.natAbs * 48271 + c := by
    have := Int.natAbs_add_le (x * 48271) c
    rw [Int.natAbs_mul] at this
    simpa using this
  have h2 : x.natAbs * 48271 + c < 2 ^ (E + 17) := by
    rw [Nat.pow_add]
    have h3 : x.natAbs + 1 ≤ 2 ^ E := hx
    have h4 := Nat.mul_le_mul_right (2 ^ 17) h3
    omega
  refine Nat.lt_of_le_of_lt h1 (Nat.lt_of_lt_of_le h2 (Nat.pow_le_pow_right (by decide) ?_))
  rw [← hE]; decide

end Mini

/-! Plain answers that 03, 04, 05 share. -/
set_option autoImplicit false
namespace Mini
open PySem
/-- need_whole -/
noncomputable def S1_0 : St := (St.ife (Ex.or (Ex.not (Ex.blt Blt.isinstance (Es.cons (Ex.var 0) (Es.cons (Ex.ty 0) Es.nil)))) (Ex.or (Ex.blt Blt.isinstance (Es.cons (Ex.var 0) (Es.cons (Ex.ty 1) Es.nil))) (Ex.not (Ex.cmp (Ex.neg (Ex.bin Bop.pow (Ex.lit (V.int 10)) (Ex.lit (V.int 60)))) (Ch.more Cop.lt (Ex.var 0) (Ch.one Cop.lt (Ex.bin Bop.pow (Ex.lit (V.int 10)) (Ex.lit (V.int 60))))))))) (Ss.cons (St.raise 11) Ss.nil) Ss.nil)
noncomputable def B1 : Ss := .cons S1_0 <| .nil
/-- need_span -/
noncomputable def S2_0 : St := (St.expr (Ex.call 1 (Es.cons (Ex.var 0) Es.nil)))
noncomputable def S2_1 : St := (St.expr (Ex.call 1 (Es.cons (Ex.var 1) Es.nil)))
noncomputable def S2_2 : St := (St.ife (Ex.cmp (Ex.var 0) (Ch.one Cop.gt (Ex.var 1))) (Ss.cons (St.raise 11) Ss.nil) Ss.nil)
noncomputable def B2 : Ss := .cons S2_0 <| .cons S2_1 <| .cons S2_2 <| .nil
/-- _law_is_int -/
noncomputable def S25_0 : St := (St.ret (Ex.and (Ex.blt Blt.isinstance (Es.cons (Ex.var 0) (Es.cons (Ex.ty 0) Es.nil))) (Ex.and (Ex.cmp (Ex.var 0) (Ch.one Cop.isnot (Ex.lit (V.bool true)))) (Ex.cmp (Ex.var 0) (Ch.one Cop.isnot (Ex.lit (V.bool false)))))))
noncomputable def B25 : Ss := .cons S25_0 <| .nil
/-- _law_tuple_is -/
noncomputable def S26_0 : St := (St.ife (Ex.or (Ex.not (Ex.blt Blt.isinstance (Es.cons (Ex.var 0) (Es.cons (Ex.ty 2) Es.nil)))) (Ex.cmp (Ex.var 0) (Ch.one Cop.ne (Ex.var 1)))) (Ss.cons (St.ret (Ex.lit (V.bool false))) Ss.nil) Ss.nil)
noncomputable def S26_1 : St := (St.ret (Ex.cmp (Ex.blt Blt.len (Es.cons (Ex.comp (Ex.var 3) 3 (It.ex (Ex.var 0)) (Es.cons (Ex.call 25 (Es.cons (Ex.var 3) Es.nil)) Es.nil)) Es.nil)) (Ch.one Cop.eq (Ex.blt Blt.len (Es.cons (Ex.var 1) Es.nil)))))
noncomputable def B26 : Ss := .cons S26_0 <| .cons S26_1 <| .nil
/-- _law_list_is -/
noncomputable def S27_0 : St := (St.ife (Ex.or (Ex.not (Ex.blt Blt.isinstance (Es.cons (Ex.var 0) (Es.cons (Ex.ty 3) Es.nil)))) (Ex.cmp (Ex.blt Blt.len (Es.cons (Ex.var 0) Es.nil)) (Ch.one Cop.ne (Ex.blt Blt.len (Es.cons (Ex.var 1) Es.nil))))) (Ss.cons (St.ret (Ex.lit (V.bool false))) Ss.nil) Ss.nil)
noncomputable def S27_1 : St := (St.ret (Ex.cmp (Ex.blt Blt.len (Es.cons (Ex.comp (Ex.var 3) 3 (It.rng1 (Ex.blt Blt.len (Es.cons (Ex.var 1) Es.nil))) (Es.cons (Ex.not (Ex.call 26 (Es.cons (Ex.idx (Ex.var 0) (Ex.var 3)) (Es.cons (Ex.idx (Ex.var 1) (Ex.var 3)) Es.nil)))) Es.nil)) Es.nil)) (Ch.one Cop.eq (Ex.lit (V.int 0)))))
noncomputable def B27 : Ss := .cons S27_0 <| .cons S27_1 <| .nil
/-- _law_row -/
noncomputable def S28_0 : St := (St.asg (Tg.one 2) (Ex.call 16 (Es.cons (Ex.var 0) (Es.cons (Ex.var 1) Es.nil))))
noncomputable def S28_1 : St := (St.asg (Tg.one 3) (Ex.comp (Ex.call 17 (Es.cons (Ex.bin Bop.add (Ex.bin Bop.mul (Ex.call 16 (Es.cons (Ex.var 0) (Es.cons (Ex.bin Bop.add (Ex.bin Bop.add (Ex.var 1) (Ex.lit (V.int 1))) (Ex.var 10)) Es.nil))) (Ex.lit (V.int 48271))) (Ex.bin Bop.mul (Ex.lit (V.int 13)) (Ex.var 10))) Es.nil)) 10 (It.rng1 (Ex.bin Bop.mod (Ex.var 2) (Ex.lit (V.int 7)))) Es.nil))
noncomputable def S28_2 : St := (St.ife (Ex.cmp (Ex.bin Bop.mod (Ex.bin Bop.fdiv (Ex.var 2) (Ex.lit (V.int 7))) (Ex.lit (V.int 3))) (Ch.one Cop.eq (Ex.lit (V.int 0)))) (Ss.cons (St.asg (Tg.one 4) (Ex.bin Bop.add (Ex.bin Bop.mul (Ex.var 2) (Ex.lit (V.int 48271))) (Ex.lit (V.int 17)))) (Ss.cons (St.asg (Tg.one 5) (Ex.bin Bop.sub (Ex.bin Bop.mod (Ex.var 4) (Ex.lit (V.int 41))) (Ex.lit (V.int 20)))) (Ss.cons (St.asg (Tg.one 6) (Ex.bin Bop.mod (Ex.bin Bop.fdiv (Ex.var 4) (Ex.lit (V.int 41))) (Ex.lit (V.int 4)))) (Ss.cons (St.asg (Tg.one 7) (Ex.bin Bop.add (Ex.lit (V.int 1)) (Ex.bin Bop.mod (Ex.bin Bop.fdiv (Ex.var 4) (Ex.lit (V.int 164))) (Ex.lit (V.int 3))))) (Ss.cons (St.asg (Tg.one 8) (Ex.bin Bop.add (Ex.bin Bop.add (Ex.bin Bop.mod (Ex.bin Bop.fdiv (Ex.var 4) (Ex.lit (V.int 492))) (Ex.lit (V.int 25))) (Ex.lit (V.int 6))) (Ex.bin Bop.mul (Ex.lit (V.int 60)) (Ex.blt Blt.int (Es.cons (Ex.cmp (Ex.bin Bop.mod (Ex.bin Bop.fdiv (Ex.var 4) (Ex.lit (V.int 12300))) (Ex.lit (V.int 16))) (Ch.one Cop.eq (Ex.lit (V.int 1)))) Es.nil))))) (Ss.cons (St.asg (Tg.one 3) (Ex.bin Bop.add (Ex.var 3) (Ex.comp (Ex.tup (Es.cons (Ex.bin Bop.add (Ex.var 5) (Ex.bin Bop.mul (Ex.var 6) (Ex.var 10))) (Es.cons (Ex.bin Bop.add (Ex.bin Bop.add (Ex.var 5) (Ex.bin Bop.mul (Ex.var 6) (Ex.var 10))) (Ex.bin Bop.mod (Ex.var 10) (Ex.var 7))) (Es.cons (Ex.bin Bop.mod (Ex.var 10) (Ex.lit (V.int 2))) Es.nil)))) 10 (It.rng1 (Ex.var 8)) Es.nil))) Ss.nil)))))) Ss.nil)
noncomputable def S28_3 : St := (St.ret (Ex.blt Blt.sorted (Es.cons (Ex.var 3) Es.nil)))
noncomputable def B28 : Ss := .cons S28_0 <| .cons S28_1 <| .cons S28_2 <| .cons S28_3 <| .nil
/-- _law_ask -/
noncomputable def S29_0 : St := (St.asg (Tg.one 3) (Ex.call 17 (Es.cons (Ex.bin Bop.add (Ex.bin Bop.mul (Ex.call 16 (Es.cons (Ex.var 0) (Es.cons (Ex.var 1) Es.nil))) (Ex.lit (V.int 48271))) (Ex.lit (V.int 5))) Es.nil)))
noncomputable def S29_1 : St := (St.asg (Tg.one 4) (Ex.idx (Ex.var 3) (Ex.lit (V.int 0))))
noncomputable def S29_2 : St := (St.asg (Tg.one 5) (Ex.idx (Ex.var 3) (Ex.lit (V.int 1))))
noncomputable def S29_3 : St := (St.ife (Ex.and (Ex.cmp (Ex.blt Blt.len (Es.cons (Ex.var 2) Es.nil)) (Ch.one Cop.gt (Ex.lit (V.int 0)))) (Ex.cmp (Ex.bin Bop.mod (Ex.call 16 (Es.cons (Ex.var 0) (Es.cons (Ex.bin Bop.add (Ex.var 1) (Ex.lit (V.int 1))) Es.nil))) (Ex.lit (V.int 3))) (Ch.one Cop.gt (Ex.lit (V.int 0))))) (Ss.cons (St.asg (Tg.one 6) (Ex.idx (Ex.var 2) (Ex.bin Bop.mod (Ex.bin Bop.fdiv (Ex.call 16 (Es.cons (Ex.var 0) (Es.cons (Ex.bin Bop.add (Ex.var 1) (Ex.lit (V.int 1))) Es.nil))) (Ex.lit (V.int 3))) (Ex.blt Blt.len (Es.cons (Ex.var 2) Es.nil))))) (Ss.cons (St.asg (Tg.one 4) (Ex.bin Bop.sub (Ex.bin Bop.add (Ex.idx (Ex.var 6) (Ex.bin Bop.mod (Ex.call 16 (Es.cons (Ex.var 0) (Es.cons (Ex.bin Bop.add (Ex.var 1) (Ex.lit (V.int 2))) Es.nil))) (Ex.lit (V.int 2)))) (Ex.bin Bop.mod (Ex.bin Bop.fdiv (Ex.call 16 (Es.cons (Ex.var 0) (Es.cons (Ex.bin Bop.add (Ex.var 1) (Ex.lit (V.int 2))) Es.nil))) (Ex.lit (V.int 2))) (Ex.lit (V.int 5)))) (Ex.lit (V.int 2)))) (Ss.cons (St.asg (Tg.one 5) (Ex.bin Bop.add (Ex.var 4) (Ex.bin Bop.mod (Ex.bin Bop.fdiv (Ex.call 16 (Es.cons (Ex.var 0) (Es.cons (Ex.bin Bop.add (Ex.var 1) (Ex.lit (V.int 2))) Es.nil))) (Ex.lit (V.int 10))) (Ex.lit (V.int 40))))) Ss.nil))) Ss.nil)
noncomputable def S29_4 : St := (St.asg (Tg.one 4) (Ex.blt Blt.max (Es.cons (Ex.bin Bop.sub (Ex.lit (V.int 1)) (Ex.bin Bop.pow (Ex.lit (V.int 10)) (Ex.lit (V.int 60)))) (Es.cons (Ex.blt Blt.min (Es.cons (Ex.var 4) (Es.cons (Ex.bin Bop.sub (Ex.bin Bop.pow (Ex.lit (V.int 10)) (Ex.lit (V.int 60))) (Ex.lit (V.int 1))) Es.nil))) Es.nil))))
noncomputable def S29_5 : St := (St.ret (Ex.tup (Es.cons (Ex.var 4) (Es.cons (Ex.blt Blt.max (Es.cons (Ex.var 4) (Es.cons (Ex.blt Blt.min (Es.cons (Ex.var 5) (Es.cons (Ex.bin Bop.sub (Ex.bin Bop.pow (Ex.lit (V.int 10)) (Ex.lit (V.int 60))) (Ex.lit (V.int 1))) Es.nil))) Es.nil))) Es.nil))))
noncomputable def B29 : Ss := .cons S29_0 <| .cons S29_1 <| .cons S29_2 <| .cons S29_3 <| .cons S29_4 <| .cons S29_5 <| .nil

/-! general -/
theorem get_app {σ t : H} {n : Nat} {o : O} (h : σ[n]? = some o) : (σ ++ t)[n]? = some o := by
  rw [List.getElem?_append_left]; exact h
  exact (List.getElem?_eq_some_iff.mp h).1
@[simp] theorem listOf_last (σ : H) (l : List V) : listOf (σ ++ [.list l]) (.obj σ.length) = some l := listOf_get (by simp)
@[simp] theorem items_last (σ : H) (l : List V) : items (σ ++ [.list l]) (.obj σ.length) = some l := items_get (by simp)
@[simp] theorem setObj_last (σ : H) (o o' : O) : setObj (σ ++ [o]) σ.length o' = σ ++ [o'] := by simp [setObj]
theorem app_last {l : List V} (h : l.length < lenMax) (σ : H) (x : V) : mthV .append (.obj σ.length) [x] (σ ++ [.list l]) = some (.none, σ ++ [.list (l ++ [x])]) := by
  simp [mthV, objNo, appV, h]
theorem gc_fresh {σ t : H} {l : List V} (h : belows σ.length l = true) (ht : t[0]? = some (.list l)) : gc .fresh σ (some (.ok (.obj σ.length), σ ++ t)) = some (.ok (.obj σ.length), σ ++ [.list l]) := by
  have : (σ ++ t)[σ.length]? = some (.list l) := by rw [List.getElem?_append_right (Nat.le_refl _), Nat.sub_self]; exact ht
  simp [gc, h, this]
theorem gc_fresh' {σ t : H} {l : List V} {m : Nat} (hm : σ.length ≤ m) (h : belows σ.length l = true) (ht : (σ ++ t)[m]? = some (.list l)) : gc .fresh σ (some (.ok (.obj m), σ ++ t)) = some (.ok (.obj σ.length), σ ++ [.list l]) := by
  have : ¬ m < σ.length := by exact Lin.lin [(.le (.v 1) (.v 0))] (.no (.lt (.v 0) (.v 1))) (.l [1, 1]) rfl [_, _] [] hm
  simp [gc, h, ht, this]

theorem compL_map {α : Type} {body : L → H → X (Option V)} {tg : Nat} {keep : H → Prop} {ℓ : L} {σ : H} (g : α → V) (f : α → Option V) (ht : tg < ℓ.length) (hk : keep σ) :
    ∀ (xs : List α) (acc : List V) (ℓ' : L), ℓ'.length = ℓ.length → (∀ v, ℓ'.set tg v = ℓ.set tg v) → acc.length + xs.length ≤ lenMax → (∀ x ∈ xs, body (ℓ.set tg (some (g x))) σ = some (.ok (f x), σ)) →
      compL body tg keep (xs.map g) acc ℓ' σ = some (.ok (acc ++ xs.filterMap f), σ)
  | [], acc, ℓ', _, _, _, _ => by simp [compL]
  | x :: r, acc, ℓ', h1, h2, h3, h4 => by
    simp only [List.map_cons, compL, setL, h1, if_pos ht, h2, h4 x List.mem_cons_self]
    simp only [List.length_cons] at h3
    rw [if_pos ⟨hk, by exact Lin.lin [(.le (.a (.v 0) (.a (.v 2) (.k 1))) (.v 1))] (.lt (.v 0) (.v 1)) (.l [1, 1]) rfl [_, _, _] [] h3⟩]
    cases hf : f x with
    | none => rw [List.filterMap_cons_none hf]; exact compL_map g f ht hk r acc _ (by simp) (by simp) (by exact Lin.lin [(.le (.a (.v 0) (.a (.v 1) (.k 1))) (.v 2))] (.le (.a (.v 0) (.v 1)) (.v 2)) (.l [1, 1]) rfl [_, _, _] [] h3) fun y hy => h4 y (List.mem_cons_of_mem _ hy)
    | some v =>
      rw [List.filterMap_cons_some hf]
      have := compL_map g f ht hk r (acc ++ [v]) (ℓ.set tg (some (g x))) (by simp) (by simp) (by simp; exact Lin.lin [(.le (.a (.v 0) (.a (.v 1) (.k 1))) (.v 2))] (.le (.a (.a (.v 0) (.k 1)) (.v 1)) (.v 2)) (.l [1, 1]) rfl [_, _, _] [] h3) fun y hy => h4 y (List.mem_cons_of_mem _ hy)
      simpa using this

theorem comp_map {α : Type} {C : Cl} {elt : Ex} {tg : Nat} {it : It} {ifs : Es} {ℓ : L} {σ σ1 : H} {keep : H → Prop} {xs : List α} (g : α → V) (f : α → Option V) (hi : evalIt C it ℓ σ = some (.ok ⟨xs.map g, keep⟩, σ1)) (hk : keep σ1) (ht : tg < ℓ.length) (hl : xs.length ≤ lenMax)
    (hb : ∀ x ∈ xs, bnd (evalIfs C ifs (ℓ.set tg (some (g x))) σ1) (fun b σ2 => if b then bnd (evalE C elt (ℓ.set tg (some (g x))) σ2) fun v σ3 => some (.ok (some v), σ3) else some (.ok .none, σ2)) = some (.ok (f x), σ1)) :
    evalE C (.comp elt tg it ifs) ℓ σ = some (.ok (.obj σ1.length), σ1 ++ [.list (xs.filterMap f)]) := by
  simp only [evalE, hi, bnd_ok]
  rw [compL_map g f ht hk xs [] ℓ rfl (fun _ => rfl) (by simpa using hl) hb]
  simp

theorem for_rel {α : Type} {body : L → H → Y} {t : Nat} {keep : H → Prop} (g : α → V) (I : List α → L → H → Prop) (J : L → H → Prop) (h0 : ∀ ℓ σ, I [] ℓ σ → J ℓ σ)
    (hs : ∀ x r ℓ σ, I (x :: r) ℓ σ → t < ℓ.length ∧ ((∃ ℓ2 σ2, body (ℓ.set t (some (g x))) σ = some (.next, ℓ2, σ2) ∧ keep σ2 ∧ I r ℓ2 σ2) ∨ ∃ ℓ2 σ2, body (ℓ.set t (some (g x))) σ = some (.brk, ℓ2, σ2) ∧ J ℓ2 σ2)) :
    ∀ (xs : List α) (ℓ : L) (σ : H), I xs ℓ σ → ∃ ℓ' σ', forL body (.one t) keep (xs.map g) ℓ σ = some (.next, ℓ', σ') ∧ J ℓ' σ'
  | [], ℓ, σ, h => ⟨ℓ, σ, rfl, h0 ℓ σ h⟩
  | x :: r, ℓ, σ, h => by
    obtain ⟨ht, h1 | h1⟩ := hs x r ℓ σ h
    · refine Classical.byContradiction fun hnX => ?_
      obtain ⟨ℓ2, σ2, e, k, i⟩ := h1
      refine hnX ?_
      clear hnX
      refine Classical.byContradiction fun hnX => ?_
      obtain ⟨ℓ', σ', e', j⟩ := for_rel g I J h0 hs r ℓ2 σ2 i
      refine hnX ?_
      clear hnX
      exact ⟨ℓ', σ', by simp only [List.map_cons, forL, setTg, setL, if_pos ht, e, if_pos k, e'], j⟩
    · refine Classical.byContradiction fun hnX => ?_
      obtain ⟨ℓ2, σ2, e, j⟩ := h1
      refine hnX ?_
      clear hnX
      exact ⟨ℓ2, σ2, by simp only [List.map_cons, forL, setTg, setL, if_pos ht, e], j⟩

theorem x_for {C : Cl} {t : Nat} {it : It} {b : Ss} {ℓ : L} {σ σ1 : H} {src : Src} (h : evalIt C it ℓ σ = some (.ok src, σ1)) : exec C (.for_ (.one t) it b) ℓ σ = forL (execs C b) (.one t) src.keep src.vs ℓ σ1 := bndY_eq h
theorem it_obj {C : Cl} {e : Ex} {ℓ : L} {σ σ1 : H} {n : Nat} {l : List V} (he : evalE C e ℓ σ = some (.ok (.obj n), σ1)) (hn : σ1[n]? = some (.list l)) : evalIt C (.ex e) ℓ σ = some (.ok ⟨l, fun σ' => σ'[n]? = some (.list l)⟩, σ1) := by
  simp only [evalIt, he, bnd_ok, hn]
theorem it_rng {C : Cl} {e : Ex} {ℓ : L} {σ σ1 : H} {n : Nat} (he : evalE C e ℓ σ = some (.ok (.int n), σ1)) (hn : n ≤ lenMax) : evalIt C (.rng1 e) ℓ σ = some (.ok ⟨(List.range n).map (fun k => V.int (k : Nat)), fun _ => True⟩, σ1) := by
  simp only [evalIt, he, bnd_ok]
  rw [if_pos (by exact Lin.lin [(.le (.v 1) (.v 0))] (.an (.zle (.g (.n (.v 0))) (.n (.v 1))) (.zle (.n (.v 1)) (.n (.v 0)))) (.s (.l [1]) (.l [1, 1])) rfl [_, _] [] hn)]
  simp [rngL]

/-! ints in tuples -/
theorem toDs_int (f : Nat) (σ : H) : ∀ is : List Int, (is.map V.int).mapM (toD (f + 1) σ) = some (is.map PyData.int)
  | [] => rfl
  | i :: r => by simp only [List.map_cons, List.mapM_cons, toDs_int f σ r]; rfl
theorem toD_tup (f : Nat) (σ : H) (is : List Int) : toD (f + 2) σ (.tup (is.map V.int)) = some (.tuple (is.map PyData.int)) := by
  show ((is.map V.int).mapM (toD (f + 1) σ)).map PyData.tuple = _
  rw [toDs_int]; rfl
theorem eqvAll_int : ∀ is js : List Int, PyData.eqvAll (is.map .int) (js.map .int) = decide (is = js)
  | [], [] => rfl
  | [], _ :: _ => rfl
  | _ :: _, [] => rfl
  | i :: r, j :: s => by
    show ((i == j) && PyData.eqvAll (r.map .int) (s.map .int)) = _
    rw [eqvAll_int r s]
    by_cases c : i = j <;> by_cases c' : r = s <;> simp [c, c']
theorem eqV_tup (σ : H) (is js : List Int) : eqV σ (.tup (is.map .int)) (.tup (js.map .int)) = some (decide (is = js)) := by
  unfold eqV
  rw [toD_tup, toD_tup]
  show some (PyData.eqvAll (is.map .int) (js.map .int)) = _
  rw [eqvAll_int]

theorem ev_isint {pg : Pg} (hF : pg.fn 25 = some ⟨[0], 9, B25, .pure⟩) (d : Nat) (i : Int) (σ : H) : callF pg (d + 1) 25 [.int i] σ = some (.ok (.bool true), σ) := by
  exact ev_fn0 hF rfl (xs_ret (x_ret (e_andt (e_blt (es_cons (e_var rfl) (es_cons e_ty es_nil)) rfl) (e_andt (e_cmp (e_var rfl) e_lit rfl) (e_cmp (e_var rfl) e_lit rfl))))) rfl

theorem if_call {C : Cl} {f : Nat} {as : Es} {ℓ : L} {σ σ1 : H} {p : Bool} (ha : evalE C (.call f as) ℓ σ = some (.ok (.bool p), σ1)) : evalIfs C (.cons (.call f as) .nil) ℓ σ = some (.ok p, σ1) := if_one ha
theorem cb_t {α : Type} {C : Cl} {elt : Ex} {ifs : Es} {ℓ : L} {σ : H} {v : V} (h : evalIfs C ifs ℓ σ = some (.ok true, σ)) (he : evalE C elt ℓ σ = some (.ok v, σ)) :
    bnd (evalIfs C ifs ℓ σ) (fun b σ2 => if b then bnd (evalE C elt ℓ σ2) fun v σ3 => some (.ok (some v), σ3) else some (.ok .none, σ2)) = some (.ok (some v), σ) := (bnd_eq h).trans (bnd_eq he)
theorem cb_f {C : Cl} {elt : Ex} {ifs : Es} {ℓ : L} {σ : H} (h : evalIfs C ifs ℓ σ = some (.ok false, σ)) :
    bnd (evalIfs C ifs ℓ σ) (fun b σ2 => if b then bnd (evalE C elt ℓ σ2) fun v σ3 => some (.ok (some v), σ3) else some (.ok .none, σ2)) = some (.ok none, σ) := bnd_eq h
theorem cb_p {C : Cl} {elt : Ex} {ifs : Es} {ℓ : L} {σ : H} {v : V} {p : Bool} (h : evalIfs C ifs ℓ σ = some (.ok p, σ)) (he : evalE C elt ℓ σ = some (.ok v, σ)) :
    bnd (evalIfs C ifs ℓ σ) (fun b σ2 => if b then bnd (evalE C elt ℓ σ2) fun v σ3 => some (.ok (some v), σ3) else some (.ok .none, σ2)) = some (.ok (if p then some v else none), σ) := by
  cases p with
  | true => exact (bnd_eq h).trans (bnd_eq he)
  | false => exact bnd_eq h

theorem ev_tupis {pg : Pg} (h25 : pg.fn 25 = some ⟨[0], 9, B25, .pure⟩) (hF : pg.fn 26 = some ⟨[0, 1], 10, B26, .pure⟩) (d : Nat) (is : List Int) (hl : is.length ≤ lenMax) (σ : H) : callF pg (d + 2) 26 [.tup (is.map .int), .tup (is.map .int)] σ = some (.ok (.bool true), σ) := by
  have hne : cmpop .ne (.tup (is.map .int)) (.tup (is.map .int)) σ = some false := by show (eqV σ _ _).map _ = _; rw [eqV_tup]; simp
  have ec : evalE ⟨pg, callF pg (d + 1)⟩ (Ex.comp (Ex.var 3) 3 (It.ex (Ex.var 0)) (Es.cons (Ex.call 25 (Es.cons (Ex.var 3) Es.nil)) Es.nil)) [some (.tup (is.map .int)), some (.tup (is.map .int)), none, none, none, none, none, none, none, none] σ = some (.ok (.obj σ.length), σ ++ [.list (is.filterMap fun i => some (V.int i))]) :=
    comp_map (keep := fun _ => True) (V.int) (fun i => some (V.int i)) rfl trivial (by simp) hl fun i _ => cb_t (α := Unit) (if_one (e_call (es_cons (e_var rfl) es_nil) (ev_isint h25 d i σ))) (e_var rfl)
  have hlen : (is.filterMap fun i => some (V.int i)).length = is.length := by simp
  have hln : bltV .len [.obj σ.length] (σ ++ [.list (is.filterMap fun i => some (V.int i))]) = some (.int is.length, σ ++ [.list (is.filterMap fun i => some (V.int i))]) := by
    show (items _ _).map _ = _; rw [items_last, ← hlen]; rfl
  have hln2 : bltV .len [.tup (is.map .int)] (σ ++ [.list (is.filterMap fun i => some (V.int i))]) = some (.int is.length, σ ++ [.list (is.filterMap fun i => some (V.int i))]) := by
    show some (V.int ((is.map V.int).length : Nat), _) = _; rw [List.length_map]
  exact ev_fn hF rfl (xs_cons (x_iff (e_orf (notT (e_blt (es_cons (e_var rfl) (es_cons e_ty es_nil)) rfl)) (e_cmp (e_var rfl) (e_var rfl) hne)) xs_nil) (xs_ret (x_ret (e_cmp (e_blt (es_cons ec es_nil) hln) (e_blt (es_cons (e_var rfl) es_nil) hln2) (eqT rfl))))) rfl
end Mini

/-! The row, the ask. -/
set_option autoImplicit false
namespace Mini
open PySem

noncomputable def nth (l : List Int) (k : Nat) : Int := l.getD k 0
theorem ev_nth {pg : Pg} (hF : pg.fn 16 = some ⟨[0, 1], 10, B16, .pure⟩) (d : Nat) (l : List Int) (k : Nat) {i : Int} (hi : i = k) (σ : H) : callF pg (d + 1) 16 [.frz l, .int i] σ = some (.ok (.int (nth l k)), σ) := by
  subst hi; exact ev_at hF d l k σ
theorem big_nth {l : List Int} (hb : ∀ x ∈ l, x.natAbs < 2 ^ (2 ^ 20)) (k : Nat) (c : Nat) (hc : c < 65536) : Big (nth l k * 48271 + c) := big_at hb k c hc
/-- a list object of tuples of ints -/
noncomputable def tupsV (ll : List (List Int)) : List V := ll.map fun is => V.tup (is.map .int)

theorem getIdx_at {σ : H} {n : Nat} {l : List V} (h : σ[n]? = some (.list l)) {k : Nat} (hk : k < l.length) : getIdx σ (.obj n) (.int k) = some l[k] := by
  simp only [getIdx, asInt_int, Option.bind_some, items_get h, idxN]
  rw [if_pos (by exact Lin.lin [] (.zle (.k 0) (.n (.v 0))) (.l [1]) rfl [_] []), if_pos (by exact Lin.lin [(.lt (.v 0) (.v 1))] (.zlt (.n (.v 0)) (.n (.v 1))) (.l [1, 1]) rfl [_, _] [] hk)]
  simp [hk]

theorem ev_listis {pg : Pg} (h25 : pg.fn 25 = some ⟨[0], 9, B25, .pure⟩) (h26 : pg.fn 26 = some ⟨[0, 1], 10, B26, .pure⟩) (hF : pg.fn 27 = some ⟨[0, 1], 10, B27, .pure⟩) (d : Nat) (ll : List (List Int)) (hl : ∀ is ∈ ll, is.length ≤ lenMax) (hL : ll.length ≤ lenMax) (σ : H) (m n : Nat)
    (hm : σ[m]? = some (.list (tupsV ll))) (hn : σ[n]? = some (.list (tupsV ll))) : callF pg (d + 3) 27 [.obj m, .obj n] σ = some (.ok (.bool true), σ) := by
  have hlen : (tupsV ll).length = ll.length := by simp [tupsV]
  have l1 : bltV .len [.obj m] σ = some (.int ll.length, σ) := by show (items σ (.obj m)).map _ = _; rw [items_get hm, ← hlen]; rfl
  have l2 : bltV .len [.obj n] σ = some (.int ll.length, σ) := by show (items σ (.obj n)).map _ = _; rw [items_get hn, ← hlen]; rfl
  have ki : bltV .isinstance [.obj m, .ty 3] σ = some (.bool true, σ) := by
    show (isiV σ (.obj m) 3).map _ = _
    have : kindNo σ (.obj m) = some 3 := by simp only [kindNo, hm]
    unfold isiV; rw [this]; rfl
  have ec := comp_map (C := ⟨pg, callF pg (d + 2)⟩) (elt := Ex.var 3) (tg := 3) (it := It.rng1 (Ex.blt Blt.len (Es.cons (Ex.var 1) Es.nil))) (ifs := Es.cons (Ex.not (Ex.call 26 (Es.cons (Ex.idx (Ex.var 0) (Ex.var 3)) (Es.cons (Ex.idx (Ex.var 1) (Ex.var 3)) Es.nil)))) Es.nil) (ℓ := [some (.obj m), some (.obj n), none, none, none, none, none, none, none, none]) (σ := σ) (σ1 := σ)
    (keep := fun _ => True) (fun k : Nat => V.int k) (fun _ : Nat => none) (it_rng (n := ll.length) (e_blt (es_cons (e_var rfl) es_nil) l2) hL) trivial (by simp) (by simpa using hL) fun k hk => by
      have hk : k < ll.length := by simpa using hk
      have e : (tupsV ll)[k]'(by exact Lin.lin [(.eq (.v 1) (.v 2)), (.lt (.v 0) (.v 2))] (.lt (.v 0) (.v 1)) (.l [1, 0, 1, 1]) rfl [_, _, _] [] hlen hk) = V.tup (ll[k].map .int) := by simp [tupsV]
      have g1 := getIdx_at hm (k := k) (by exact Lin.lin [(.eq (.v 1) (.v 2)), (.lt (.v 0) (.v 2))] (.lt (.v 0) (.v 1)) (.l [1, 0, 1, 1]) rfl [_, _, _] [] hlen hk)
      have g2 := getIdx_at hn (k := k) (by exact Lin.lin [(.eq (.v 1) (.v 2)), (.lt (.v 0) (.v 2))] (.lt (.v 0) (.v 1)) (.l [1, 0, 1, 1]) rfl [_, _, _] [] hlen hk)
      rw [e] at g1 g2
      exact cb_f (if_one (notT (e_call (es_cons (e_idx (e_var rfl) (e_var rfl) g1) (es_cons (e_idx (e_var rfl) (e_var rfl) g2) es_nil)) (ev_tupis h25 h26 d ll[k] (hl _ (List.getElem_mem hk)) σ))))
  have e : ((List.range ll.length).filterMap fun _ => (none : Option V)) = [] := by simp
  rw [e] at ec
  have l3 : bltV .len [.obj σ.length] (σ ++ [.list []]) = some (.int 0, σ ++ [.list []]) := by show (items _ _).map _ = _; rw [items_last]; rfl
  exact ev_fn hF rfl (xs_cons (x_iff (e_orf (notT (e_blt (es_cons (e_var rfl) (es_cons e_ty es_nil)) ki)) (e_cmp (e_blt (es_cons (e_var rfl) es_nil) l1) (e_blt (es_cons (e_var rfl) es_nil) l2) (neF rfl))) xs_nil) (xs_ret (x_ret (e_cmp (e_blt (es_cons ec es_nil) l3) e_lit (eqT rfl))))) rfl

@[simp] theorem getIdx_v0 (σ : H) (x : T3) : getIdx σ x.v (.int 0) = some (.int x.a) := rfl
@[simp] theorem getIdx_v1 (σ : H) (x : T3) : getIdx σ x.v (.int 1) = some (.int x.b) := rfl
@[simp] theorem getIdx_v2 (σ : H) (x : T3) : getIdx σ x.v (.int 2) = some (.int x.c) := rfl
@[simp] theorem getIdx_p0 (σ : H) (x y : V) : getIdx σ (.tup [x, y]) (.int 0) = some x := rfl
@[simp] theorem getIdx_p1 (σ : H) (x y : V) : getIdx σ (.tup [x, y]) (.int 1) = some y := rfl
theorem T3.v_tups (ts : List T3) : ts.map T3.v = tupsV (ts.map fun t => [t.a, t.b, t.c]) := by simp [tupsV, T3.v]
theorem belows_t3 (n : Nat) : ∀ ts : List T3, belows n (ts.map T3.v) = true
  | [] => rfl
  | t :: r => by simp only [List.map_cons, belows, T3.below_v, belows_t3 n r, Bool.and_self]
theorem belows_is (n : Nat) : ∀ is : List Int, belows n (is.map V.int) = true
  | [] => rfl
  | t :: r => by simp only [List.map_cons, belows, below_int, belows_is n r, Bool.and_self]
theorem belows_tups (n : Nat) : ∀ ll : List (List Int), belows n (tupsV ll) = true
  | [] => rfl
  | t :: r => by
    have := belows_tups n r
    simp only [tupsV, List.map_cons, belows, below, belows_is n t] at this ⊢
    simp [this]

theorem t3s_v : ∀ ts : List T3, t3s (ts.map T3.v) = some ts
  | [] => rfl
  | t :: r => by
    show (t3s (r.map T3.v)).map (t :: ·) = _
    rw [t3s_v r]; rfl
theorem sortV_t3 (ts : List T3) : sortV (ts.map T3.v) = some ((ts.mergeSort T3.le).map T3.v) := by
  cases ts with
  | nil => simp [sortV, asInts]
  | cons t r =>
    have h1 : asInts ((t :: r).map T3.v) = none := rfl
    have h2 := t3s_v (t :: r)
    simp only [sortV, h1, h2]

/-- the raw row -/
noncomputable def seedR (h : Int) : Int := h * 48271 + 17
noncomputable def manyR (h : Int) : Int := ((seedR h).fdiv 492).fmod 25 + 6 + 60 * (if ((seedR h).fdiv 12300).fmod 16 = 1 then 1 else 0)
noncomputable def runT (h : Int) (k : Nat) : T3 := ⟨(seedR h).fmod 41 - 20 + ((seedR h).fdiv 41).fmod 4 * k, (seedR h).fmod 41 - 20 + ((seedR h).fdiv 41).fmod 4 * k + (k : Int).fmod (1 + ((seedR h).fdiv 164).fmod 3), (k : Int).fmod 2⟩
noncomputable def rawRow (l : List Int) (p : Nat) : List T3 := (List.range ((nth l p).fmod 7).toNat).map (fun k => madeT (nth l (p + 1 + k) * 48271 + 13 * k)) ++ (if ((nth l p).fdiv 7).fmod 3 = 0 then (List.range (manyR (nth l p)).toNat).map (runT (nth l p)) else [])
noncomputable def rowOf (l : List Int) (p : Nat) : List T3 := (rawRow l p).mergeSort T3.le

theorem manyR_le (h : Int) : 0 ≤ manyR h ∧ manyR h ≤ 90 := by
  have := fmod_lt' ((seedR h).fdiv 492) (m := 25) (by decide)
  unfold manyR; split <;> omega
theorem rawRow_len (l : List Int) (p : Nat) : (rawRow l p).length ≤ 96 := by
  have h1 := fmod_lt' (nth l p) (m := 7) (by decide)
  have h2 := manyR_le (nth l p)
  unfold rawRow
  split <;> simp <;> omega
theorem rowOf_len (l : List Int) (p : Nat) : (rowOf l p).length ≤ 96 := by unfold rowOf; rw [List.length_mergeSort]; exact rawRow_len l p
theorem rawRow_ord (l : List Int) (p : Nat) : ∀ x ∈ rawRow l p, x.a ≤ x.b := by
  intro x hx
  unfold rawRow at hx
  rcases List.mem_append.mp hx with h | h
  · refine Classical.byContradiction fun hnX => ?_
    obtain ⟨k, _, rfl⟩ := List.mem_map.mp h
    refine hnX ?_
    clear hnX
    exact madeT_ord _
  · split at h
    · refine Classical.byContradiction fun hnX => ?_
      obtain ⟨k, _, rfl⟩ := List.mem_map.mp h
      refine hnX ?_
      clear hnX
      have h1 := fmod_lt' ((seedR (nth l p)).fdiv 164) (m := 3) (by decide)
      have h2 := fmod_lt' (k : Int) (m := 1 + ((seedR (nth l p)).fdiv 164).fmod 3) (by exact Lin.lin [(.an (.zle (.k 0) (.v 0)) (.zlt (.v 0) (.k 3)))] (.zlt (.k 0) (.a (.k 1) (.v 0))) (.l [1, 1]) rfl [] [_] h1)
      simp only [runT]; omega
    · cases h
theorem rowOf_ord (l : List Int) (p : Nat) : ∀ x ∈ rowOf l p, x.a ≤ x.b := fun x hx => rawRow_ord l p x ((List.mergeSort_perm _ _).mem_iff.mp hx)

theorem ev_row {pg : Pg} (h16 : pg.fn 16 = some ⟨[0, 1], 10, B16, .pure⟩) (h17 : pg.fn 17 = some ⟨[0], 12, B17, .pure⟩) (hF : pg.fn 28 = some ⟨[0, 1], 17, B28, .fresh⟩) (d : Nat) (l : List Int) (hb : ∀ x ∈ l, x.natAbs < 2 ^ (2 ^ 20)) (p : Nat) (σ : H) :
    callF pg (d + 2) 28 [.frz l, .int (p : Nat)] σ = some (.ok (.obj σ.length), σ ++ [.list ((rowOf l p).map T3.v)]) := by
  have hr := fmod_lt' (nth l p) (m := 7) (by decide)
  obtain ⟨n, hn⟩ : ∃ n : Nat, (nth l p).fmod 7 = n := ⟨_, (Int.toNat_of_nonneg hr.1).symm⟩
  have ec := comp_map (C := ⟨pg, callF pg (d + 1)⟩) (elt := Ex.call 17 (Es.cons (Ex.bin Bop.add (Ex.bin Bop.mul (Ex.call 16 (Es.cons (Ex.var 0) (Es.cons (Ex.bin Bop.add (Ex.bin Bop.add (Ex.var 1) (Ex.lit (V.int 1))) (Ex.var 10)) Es.nil))) (Ex.lit (V.int 48271))) (Ex.bin Bop.mul (Ex.lit (V.int 13)) (Ex.var 10))) Es.nil)) (tg := 10) (it := It.rng1 (Ex.bin Bop.mod (Ex.var 2) (Ex.lit (V.int 7)))) (ifs := Es.nil)
      (ℓ := [some (.frz l), some (.int p), some (.int (nth l p)), none, none, none, none, none, none, none, none, none, none, none, none, none, none]) (σ := σ) (σ1 := σ)
      (keep := fun _ => True) (fun k : Nat => V.int k) (fun k : Nat => some (madeT (nth l (p + 1 + k) * 48271 + 13 * k)).v) (it_rng (n := n) (by rw [← hn]; exact e_bin (e_var rfl) e_lit (bin_mod (by decide) _)) (by unfold lenMax; exact Lin.lin [(.an (.zle (.k 0) (.v 0)) (.zlt (.v 0) (.k 7))), (.zeq (.v 0) (.n (.v 0)))] (.le (.v 0) (.k 1000000)) (.l [1, 0, 1, 0, 1]) rfl [_] [_] hr hn)) trivial (by simp) (by simp; unfold lenMax; exact Lin.lin [(.an (.zle (.k 0) (.v 0)) (.zlt (.v 0) (.k 7))), (.zeq (.v 0) (.n (.v 0)))] (.le (.v 0) (.k 1000000)) (.l [1, 0, 1, 0, 1]) rfl [_] [_] hr hn) fun k hk => by
        have hk : k < n := by simpa using hk
        exact cb_t (α := Unit) if_nil (e_call (es_cons (e_bin (e_bin (e_call (es_cons (e_var rfl) (es_cons (e_bin (e_bin (e_var rfl) e_lit (bin_add _ _ _)) (e_var rfl) (bin_add _ _ _)) es_nil)) (ev_nth h16 d l (p + 1 + k) (by exact Lin.lin [] (.zeq (.a (.a (.n (.v 0)) (.k 1)) (.n (.v 1))) (.n (.a (.a (.v 0) (.k 1)) (.v 1)))) (.s (.l [1]) (.l [1])) rfl [_, _] []) σ)) e_lit (bin_mul (.inr (.inl (by decide))) _)) (e_bin e_lit (e_var rfl) (bin_mul (.inl (by decide)) _)) (bin_add _ _ _)) es_nil)
          (ev_made h17 d (nth l (p + 1 + k) * 48271 + 13 * k) σ (by have := big_nth hb (p + 1 + k) (13 * k) (by exact Lin.lin [(.an (.zle (.k 0) (.v 0)) (.zlt (.v 0) (.k 7))), (.zeq (.v 0) (.n (.v 1))), (.lt (.v 0) (.v 1))] (.lt (.m 13 (.v 0)) (.k 65536)) (.l [1, 0, 13, 0, 13, 13]) rfl [_, _] [_] hr hn hk); simpa using this)))
  have hA : (List.range n).filterMap (fun k => some (madeT (nth l (p + 1 + k) * 48271 + 13 * k)).v) = ((List.range n).map (fun k : Nat => madeT (nth l (p + 1 + k) * 48271 + 13 * k))).map T3.v := by simp
  rw [hA] at ec
  have hraw : rawRow l p = (List.range n).map (fun k : Nat => madeT (nth l (p + 1 + k) * 48271 + 13 * k)) ++ (if ((nth l p).fdiv 7).fmod 3 = 0 then (List.range (manyR (nth l p)).toNat).map (runT (nth l p)) else []) := by
    unfold rawRow; rw [hn]; simp
  have hlen := rawRow_len l p
  have hh := ev_nth h16 d l p rfl σ
  generalize (List.range n).map (fun k : Nat => madeT (nth l (p + 1 + k) * 48271 + 13 * k)) = As at *
  generalize nth l p = h at *
  have e2 : ∃ ℓ t m, exec ⟨pg, callF pg (d + 1)⟩ S28_2 [some (.frz l), some (.int p), some (.int h), some (.obj σ.length), none, none, none, none, none, none, none, none, none, none, none, none, none] (σ ++ [.list (As.map T3.v)]) = some (.next, ℓ, σ ++ t) ∧ ℓ[3]? = some (some (.obj m)) ∧ (σ ++ t)[m]? = some (.list ((rawRow l p).map T3.v)) := by
    by_cases c : (h.fdiv 7).fmod 3 = 0
    · rw [if_pos c] at hraw
      have hs := fmod_lt' ((seedR h).fdiv 41) (m := 4) (by decide)
      have hz := fmod_lt' ((seedR h).fdiv 164) (m := 3) (by decide)
      have hm := manyR_le h
      obtain ⟨mn, hmn⟩ : ∃ mn : Nat, manyR h = mn := ⟨_, (Int.toNat_of_nonneg hm.1).symm⟩
      have b3 : ∀ (c : Int) (σ : H), binop .mul (.int (((seedR h).fdiv 41).fmod 4)) (.int c) σ = some (.int (((seedR h).fdiv 41).fmod 4 * c), σ) := fun c σ => bin_mul (.inl (by omega)) σ
      have hz0 : (1 + ((seedR h).fdiv 164).fmod 3) ≠ 0 := by exact Lin.lin [(.an (.zle (.k 0) (.v 0)) (.zlt (.v 0) (.k 3)))] (.no (.zeq (.a (.k 1) (.v 0)) (.k 0))) (.l [1, 0, 1]) rfl [] [_] hz
      have ec2 := comp_map (C := ⟨pg, callF pg (d + 1)⟩) (elt := Ex.tup (Es.cons (Ex.bin Bop.add (Ex.var 5) (Ex.bin Bop.mul (Ex.var 6) (Ex.var 10))) (Es.cons (Ex.bin Bop.add (Ex.bin Bop.add (Ex.var 5) (Ex.bin Bop.mul (Ex.var 6) (Ex.var 10))) (Ex.bin Bop.mod (Ex.var 10) (Ex.var 7))) (Es.cons (Ex.bin Bop.mod (Ex.var 10) (Ex.lit (V.int 2))) Es.nil)))) (tg := 10) (it := It.rng1 (Ex.var 8)) (ifs := Es.nil)
        (ℓ := [some (.frz l), some (.int p), some (.int h), some (.obj σ.length), some (.int (seedR h)), some (.int ((seedR h).fmod 41 - 20)), some (.int (((seedR h).fdiv 41).fmod 4)), some (.int (1 + ((seedR h).fdiv 164).fmod 3)), some (.int (manyR h)), none, none, none, none, none, none, none, none]) (σ := σ ++ [.list (As.map T3.v)]) (σ1 := σ ++ [.list (As.map T3.v)])
        (keep := fun _ => True) (fun k : Nat => V.int k) (fun k : Nat => some (runT h k).v) (it_rng (n := mn) (by rw [← hmn]; exact e_var rfl) (by unfold lenMax; exact Lin.lin [(.an (.zle (.k 0) (.v 0)) (.zle (.v 0) (.k 90))), (.zeq (.v 0) (.n (.v 0)))] (.le (.v 0) (.k 1000000)) (.l [1, 0, 1, 0, 1]) rfl [_] [_] hm hmn)) trivial (by simp) (by simp; unfold lenMax; exact Lin.lin [(.an (.zle (.k 0) (.v 0)) (.zle (.v 0) (.k 90))), (.zeq (.v 0) (.n (.v 0)))] (.le (.v 0) (.k 1000000)) (.l [1, 0, 1, 0, 1]) rfl [_] [_] hm hmn) fun k hk =>
          cb_t (α := Unit) if_nil (e_tup (es_cons (e_bin (e_var rfl) (e_bin (e_var rfl) (e_var rfl) (b3 _ _)) (bin_add _ _ _)) (es_cons (e_bin (e_bin (e_var rfl) (e_bin (e_var rfl) (e_var rfl) (b3 _ _)) (bin_add _ _ _)) (e_bin (e_var rfl) (e_var rfl) (bin_mod hz0 _)) (bin_add _ _ _)) (es_cons (e_bin (e_var rfl) e_lit (bin_mod (by decide) _)) es_nil))) rfl)
      have e : (List.range mn).filterMap (fun k : Nat => some (runT h k).v) = ((List.range mn).map (runT h)).map T3.v := by simp
      rw [e] at ec2
      have hmn' : (manyR h).toNat = mn := by exact Lin.lin [(.zeq (.v 0) (.n (.v 1))), (.or (.an (.zle (.k 0) (.v 0)) (.zeq (.n (.v 0)) (.v 0))) (.an (.zle (.v 0) (.k 0)) (.eq (.v 0) (.k 0))))] (.eq (.v 0) (.v 1)) (.s (.s (.l [1, 0, 1, 0, 0, 1]) (.l [1, 0, 1, 1, 0, 1])) (.s (.l [1, 1, 0, 0, 1]) (.l [1, 0, 0, 0, 1]))) rfl [_, _] [_] hmn (Lin.nat_ax _)
      rw [hmn'] at hraw
      have hBl : (As.map T3.v ++ ((List.range mn).map (runT h)).map T3.v).length ≤ lenMax := by
        rw [← List.map_append, ← hraw, List.length_map]; unfold lenMax; exact Lin.lin [(.le (.v 0) (.k 96))] (.le (.v 0) (.k 1000000)) (.l [1, 1]) rfl [_] [] hlen
      have hcat : binop .add (.obj σ.length) (.obj (σ ++ [O.list (As.map T3.v)]).length) (σ ++ [.list (As.map T3.v)] ++ [.list (((List.range mn).map (runT h)).map T3.v)]) = some (.obj (σ ++ [O.list (As.map T3.v)] ++ [O.list (((List.range mn).map (runT h)).map T3.v)]).length, σ ++ [.list (As.map T3.v)] ++ [.list (((List.range mn).map (runT h)).map T3.v)] ++ [.list ((rawRow l p).map T3.v)]) := by
        rw [bin_cat (x := As.map T3.v) (y := ((List.range mn).map (runT h)).map T3.v) (listOf_get (by simp)) (listOf_get (by simp)), mkList_ok hBl, hraw, List.map_append]
      generalize ((List.range mn).map (runT h)).map T3.v = Bs at *
      have hint : ∀ (b : Bool) (σ : H), bltV .int [.bool b] σ = some (.int (if b then 1 else 0), σ) := fun _ _ => rfl
      have hmd : ((seedR h).fdiv 492).fmod 25 + 6 + 60 * (if decide (((seedR h).fdiv 12300).fmod 16 = 1) = true then 1 else 0) = manyR h := by unfold manyR; simp only [decide_eq_true_eq]
      have D8 : evalE ⟨pg, callF pg (d + 1)⟩ (Ex.bin Bop.add (Ex.bin Bop.add (Ex.bin Bop.mod (Ex.bin Bop.fdiv (Ex.var 4) (Ex.lit (V.int 492))) (Ex.lit (V.int 25))) (Ex.lit (V.int 6))) (Ex.bin Bop.mul (Ex.lit (V.int 60)) (Ex.blt Blt.int (Es.cons (Ex.cmp (Ex.bin Bop.mod (Ex.bin Bop.fdiv (Ex.var 4) (Ex.lit (V.int 12300))) (Ex.lit (V.int 16))) (Ch.one Cop.eq (Ex.lit (V.int 1)))) Es.nil))))
          [some (.frz l), some (.int p), some (.int h), some (.obj σ.length), some (.int (seedR h)), some (.int ((seedR h).fmod 41 - 20)), some (.int (((seedR h).fdiv 41).fmod 4)), some (.int (1 + ((seedR h).fdiv 164).fmod 3)), none, none, none, none, none, none, none, none, none] (σ ++ [.list (As.map T3.v)]) = some (.ok (.int (manyR h)), σ ++ [.list (As.map T3.v)]) := by
        rw [← hmd]
        exact e_bin (e_bin (e_bin (e_bin (e_var rfl) e_lit (bin_fdiv (by decide) _)) e_lit (bin_mod (by decide) _)) e_lit (bin_add _ _ _)) (e_bin e_lit (e_blt (es_cons (e_cmp (e_bin (e_bin (e_var rfl) e_lit (bin_fdiv (by decide) _)) e_lit (bin_mod (by decide) _)) e_lit (cmp_eq _ _ _)) es_nil) (hint _ _)) (bin_mul (.inl (by decide)) _)) (bin_add _ _ _)
      refine ⟨[some (.frz l), some (.int p), some (.int h), some (.obj (σ ++ [O.list (As.map T3.v)] ++ [O.list Bs]).length), some (.int (seedR h)), some (.int ((seedR h).fmod 41 - 20)), some (.int (((seedR h).fdiv 41).fmod 4)), some (.int (1 + ((seedR h).fdiv 164).fmod 3)), some (.int (manyR h)), none, none, none, none, none, none, none, none], [.list (As.map T3.v), .list Bs, .list ((rawRow l p).map T3.v)], (σ ++ [O.list (As.map T3.v)] ++ [O.list Bs]).length, ?_, rfl, by simp⟩
      · have hσ : σ ++ [O.list (As.map T3.v), .list Bs, .list ((rawRow l p).map T3.v)] = σ ++ [.list (As.map T3.v)] ++ [.list Bs] ++ [.list ((rawRow l p).map T3.v)] := by simp
        rw [hσ]
        exact x_ift (e_cmp (e_bin (e_bin (e_var rfl) e_lit (bin_fdiv (by decide) _)) e_lit (bin_mod (by decide) _)) e_lit (eqT c))
          (xs_cons (x_asg (v := .int (seedR h)) (e_bin (e_bin (e_var rfl) e_lit (bin_mul (.inr (.inl (by decide))) _)) e_lit (bin_add _ _ _)) rfl)
          (xs_cons (x_asg (v := .int ((seedR h).fmod 41 - 20)) (e_bin (e_bin (e_var rfl) e_lit (bin_mod (by decide) _)) e_lit (bin_sub _ _ _)) rfl)
          (xs_cons (x_asg (v := .int (((seedR h).fdiv 41).fmod 4)) (e_bin (e_bin (e_var rfl) e_lit (bin_fdiv (by decide) _)) e_lit (bin_mod (by decide) _)) rfl)
          (xs_cons (x_asg (v := .int (1 + ((seedR h).fdiv 164).fmod 3)) (e_bin e_lit (e_bin (e_bin (e_var rfl) e_lit (bin_fdiv (by decide) _)) e_lit (bin_mod (by decide) _)) (bin_add _ _ _)) rfl)
          (xs_cons (x_asg D8 rfl) (xs_one (x_asg (e_bin (e_var rfl) ec2 hcat) rfl)))))))
    · rw [if_neg c] at hraw
      refine ⟨_, [.list (As.map T3.v)], σ.length, x_iff (e_cmp (e_bin (e_bin (e_var rfl) e_lit (bin_fdiv (by decide) _)) e_lit (bin_mod (by decide) _)) e_lit (eqF c)) xs_nil, rfl, ?_⟩
      rw [hraw]; simp
  refine Classical.byContradiction fun hnX => ?_
  obtain ⟨ℓ, t, m, e2, h3, hm⟩ := e2
  refine hnX ?_
  clear hnX
  have h3' : ℓ[3]?.join = some (.obj m) := by rw [h3]; rfl
  have hl2 : ((rowOf l p).map T3.v).length ≤ lenMax := by rw [List.length_map]; exact Nat.le_trans (rowOf_len l p) (by decide)
  have hso : bltV .sorted [.obj m] (σ ++ t) = some (.obj (σ ++ t).length, σ ++ t ++ [.list ((rowOf l p).map T3.v)]) := by
    show ((listOf (σ ++ t) (.obj m)).bind sortV).bind (mkList (σ ++ t)) = _
    rw [listOf_get hm]
    show (sortV ((rawRow l p).map T3.v)).bind (mkList (σ ++ t)) = _
    rw [sortV_t3]
    exact mkList_ok hl2 _
  have key : execs ⟨pg, callF pg (d + 1)⟩ B28 [some (.frz l), some (.int p), none, none, none, none, none, none, none, none, none, none, none, none, none, none, none] σ = some (.ret (.obj (σ ++ t).length), ℓ, σ ++ (t ++ [.list ((rowOf l p).map T3.v)])) := by
    rw [← List.append_assoc]
    exact xs_cons (x_asg (e_call (es_cons (e_var rfl) (es_cons (e_var rfl) es_nil)) hh) rfl) (xs_cons (x_asg ec rfl) (xs_cons e2 (xs_ret (x_ret (e_blt (es_cons (e_var h3') es_nil) hso)))))
  exact ev_fnF hF rfl key (by simp) (belows_t3 _ _) (by rw [← List.append_assoc]; simp)

theorem ev_whole {pg : Pg} (hF : pg.fn 1 = some ⟨[0], 9, B1, .pure⟩) (d : Nat) (i : Int) (h1 : -10 ^ 60 < i) (h2 : i < 10 ^ 60) (σ : H) : callF pg (d + 1) 1 [.int i] σ = some (.ok .none, σ) := by
  have hc : (decide (-10 ^ 60 < i) && decide (i < 10 ^ 60)) = true := by rw [decide_eq_true h1, decide_eq_true h2]; rfl
  have hc' : evalE ⟨pg, callF pg d⟩ (Ex.cmp (Ex.neg (Ex.bin Bop.pow (Ex.lit (V.int 10)) (Ex.lit (V.int 60)))) (Ch.more Cop.lt (Ex.var 0) (Ch.one Cop.lt (Ex.bin Bop.pow (Ex.lit (V.int 10)) (Ex.lit (V.int 60)))))) [some (.int i), none, none, none, none, none, none, none, none] σ = some (.ok (.bool true), σ) := by
    rw [← hc]
    exact e_cmp2 (e_neg (e_bin e_lit e_lit (bin_pow (by decide) _))) (e_var rfl) (e_bin e_lit e_lit (bin_pow (by decide) _)) rfl rfl
  exact ev_fnN hF rfl (xs_one (x_iff (e_orf (notT (e_blt (es_cons (e_var rfl) (es_cons e_ty es_nil)) rfl)) (e_orf (e_blt (es_cons (e_var rfl) (es_cons e_ty es_nil)) rfl) (notT hc'))) xs_nil))
theorem ev_span {pg : Pg} (h1 : pg.fn 1 = some ⟨[0], 9, B1, .pure⟩) (hF : pg.fn 2 = some ⟨[0, 1], 10, B2, .pure⟩) (d : Nat) (lo hi : Int) (hl : -10 ^ 60 < lo) (hle : lo ≤ hi) (hh : hi < 10 ^ 60) (σ : H) : callF pg (d + 2) 2 [.int lo, .int hi] σ = some (.ok .none, σ) := by
  exact ev_fnN hF rfl (xs_cons (x_expr (e_call (es_cons (e_var rfl) es_nil) (ev_whole h1 d lo hl (by exact Lin.lin [(.zle (.v 0) (.v 2)), (.zlt (.v 2) (.v 1))] (.zlt (.v 0) (.v 1)) (.l [1, 1, 1]) rfl [] [_, _, _] hle hh) σ))) (xs_cons (x_expr (e_call (es_cons (e_var rfl) es_nil) (ev_whole h1 d hi (by exact Lin.lin [(.zlt (.g (.v 0)) (.v 2)), (.zle (.v 2) (.v 1))] (.zlt (.g (.v 0)) (.v 1)) (.l [1, 1, 1]) rfl [] [_, _, _] hl hle) hh σ))) (xs_one (x_iff (e_cmp (e_var rfl) (e_var rfl) (gtF (by exact Lin.lin [(.zle (.v 1) (.v 0))] (.no (.zlt (.v 0) (.v 1))) (.l [1, 1]) rfl [] [_, _] hle))) xs_nil))))

theorem ev_ask {pg : Pg} (h16 : pg.fn 16 = some ⟨[0, 1], 10, B16, .pure⟩) (h17 : pg.fn 17 = some ⟨[0], 12, B17, .pure⟩) (hF : pg.fn 29 = some ⟨[0, 1, 2], 15, B29, .pure⟩) (d : Nat) (l : List Int) (hb : ∀ x ∈ l, x.natAbs < 2 ^ (2 ^ 20)) (p : Nat) (σ : H) (r : Nat) (ts : List T3) (hr : σ[r]? = some (.list (ts.map T3.v))) :
    ∃ lo hi : Int, -10 ^ 60 < lo ∧ lo ≤ hi ∧ hi < 10 ^ 60 ∧ callF pg (d + 2) 29 [.frz l, .int (p : Nat), .obj r] σ = some (.ok (.tup [.int lo, .int hi]), σ) := by
  have a0 := ev_nth h16 d l p rfl σ
  have a1 := ev_nth h16 d l (p + 1) (i := (p : Int) + 1) (by exact Lin.lin [] (.zeq (.a (.n (.v 0)) (.k 1)) (.n (.a (.v 0) (.k 1)))) (.s (.l [1]) (.l [1])) rfl [_] []) σ
  have a2 := ev_nth h16 d l (p + 2) (i := (p : Int) + 2) (by exact Lin.lin [] (.zeq (.a (.n (.v 0)) (.k 2)) (.n (.a (.v 0) (.k 2)))) (.s (.l [1]) (.l [1])) rfl [_] []) σ
  have m0 := ev_made h17 d (nth l p * 48271 + 5) σ (big_nth hb p 5 (by decide))
  have b1 : ∀ (c : Int) (σ : H), binop .mul (.int c) (.int 48271) σ = some (.int (c * 48271), σ) := fun c σ => bin_mul (.inr (.inl (by decide))) σ
  generalize madeT (nth l p * 48271 + 5) = M at *
  generalize nth l (p + 1) = t1 at *
  generalize nth l (p + 2) = t2 at *
  have hlen : bltV .len [.obj r] σ = some (.int ts.length, σ) := by show (items σ (.obj r)).map _ = _; rw [items_get hr]; show some (V.int ((ts.map T3.v).length : Nat), σ) = _; rw [List.length_map]
  have E1 : ∀ o1 o2 o3 o4 : Option V, evalE ⟨pg, callF pg (d + 1)⟩ (Ex.call 16 (Es.cons (Ex.var 0) (Es.cons (Ex.bin Bop.add (Ex.var 1) (Ex.lit (V.int 1))) Es.nil))) [some (.frz l), some (.int p), some (.obj r), o1, o2, o3, o4, none, none, none, none, none, none, none, none] σ = some (.ok (.int t1), σ) := fun _ _ _ _ => e_call (es_cons (e_var rfl) (es_cons (e_bin (e_var rfl) e_lit (bin_add _ _ _)) es_nil)) a1
  have E2 : ∀ o1 o2 o3 o4 : Option V, evalE ⟨pg, callF pg (d + 1)⟩ (Ex.call 16 (Es.cons (Ex.var 0) (Es.cons (Ex.bin Bop.add (Ex.var 1) (Ex.lit (V.int 2))) Es.nil))) [some (.frz l), some (.int p), some (.obj r), o1, o2, o3, o4, none, none, none, none, none, none, none, none] σ = some (.ok (.int t2), σ) := fun _ _ _ _ => e_call (es_cons (e_var rfl) (es_cons (e_bin (e_var rfl) e_lit (bin_add _ _ _)) es_nil)) a2
  have e03 : ∃ lo hi x, exec ⟨pg, callF pg (d + 1)⟩ S29_3 [some (.frz l), some (.int p), some (.obj r), some M.v, some (.int M.a), some (.int M.b), none, none, none, none, none, none, none, none, none] σ = some (.next, [some (.frz l), some (.int p), some (.obj r), some M.v, some (.int lo), some (.int hi), x, none, none, none, none, none, none, none, none], σ) := by
    by_cases c1 : 0 < ts.length
    · by_cases c2 : 0 < t1.fmod 3
      · have hx := fmod_lt' (t1.fdiv 3) (m := ts.length) (by exact Lin.lin [(.lt (.k 0) (.v 0))] (.zlt (.k 0) (.n (.v 0))) (.l [1, 1]) rfl [_] [] c1)
        obtain ⟨k, hk⟩ : ∃ k : Nat, (t1.fdiv 3).fmod ts.length = k := ⟨_, (Int.toNat_of_nonneg hx.1).symm⟩
        have hk' : k < ts.length := by exact Lin.lin [(.an (.zle (.k 0) (.v 0)) (.zlt (.v 0) (.n (.v 1)))), (.zeq (.v 0) (.n (.v 0)))] (.lt (.v 0) (.v 1)) (.l [1, 0, 1, 0, 1]) rfl [_, _] [_] hx hk
        have gi := getIdx_at hr (k := k) (by simpa using hk')
        have e : (ts.map T3.v)[k]'(by simpa using hk') = ts[k].v := by simp
        rw [e] at gi
        generalize ts[k] = u at *
        have h0 : (ts.length : Int) ≠ 0 := by exact Lin.lin [(.lt (.k 0) (.v 0))] (.no (.zeq (.n (.v 0)) (.k 0))) (.l [1, 0, 1]) rfl [_] [] c1
        have bm : binop .mod (.int (t1.fdiv 3)) (.int ts.length) σ = some (.int k, σ) := by rw [bin_mod h0, hk]
        have hy := fmod_lt' t2 (m := 2) (by decide)
        have hg : ∃ w : Int, getIdx σ u.v (.int (t2.fmod 2)) = some (.int w) := by
          rcases (by exact Lin.lin [(.an (.zle (.k 0) (.v 0)) (.zlt (.v 0) (.k 2)))] (.or (.zeq (.v 0) (.k 0)) (.zeq (.v 0) (.k 1))) (.s (.s (.l [1, 0, 1]) (.l [1, 1])) (.s (.l [1, 1]) (.l [0, 1, 0, 1]))) rfl [] [_] hy : t2.fmod 2 = 0 ∨ t2.fmod 2 = 1) with h2 | h2 <;> rw [h2]
          · exact ⟨_, rfl⟩
          · exact ⟨_, rfl⟩
        refine Classical.byContradiction fun hnX => ?_
        obtain ⟨w, hg⟩ := hg
        refine hnX ?_
        clear hnX
        refine ⟨w + (t2.fdiv 2).fmod 5 - 2, w + (t2.fdiv 2).fmod 5 - 2 + (t2.fdiv 10).fmod 40, some u.v, ?_⟩
        exact x_ift (e_andt (e_cmp (e_blt (es_cons (e_var rfl) es_nil) hlen) e_lit (gtT (by exact Lin.lin [(.lt (.k 0) (.v 0))] (.zlt (.k 0) (.n (.v 0))) (.l [1, 1]) rfl [_] [] c1))) (e_cmp (e_bin (E1 _ _ _ _) e_lit (bin_mod (by decide) _)) e_lit (gtT c2)))
          (xs_cons (x_asg (e_idx (e_var rfl) (e_bin (e_bin (E1 _ _ _ _) e_lit (bin_fdiv (by decide) _)) (e_blt (es_cons (e_var rfl) es_nil) hlen) bm) gi) rfl)
          (xs_cons (x_asg (e_bin (e_bin (e_idx (e_var rfl) (e_bin (E2 _ _ _ _) e_lit (bin_mod (by decide) _)) hg) (e_bin (e_bin (E2 _ _ _ _) e_lit (bin_fdiv (by decide) _)) e_lit (bin_mod (by decide) _)) (bin_add _ _ _)) e_lit (bin_sub _ _ _)) rfl)
          (xs_one (x_asg (e_bin (e_var rfl) (e_bin (e_bin (E2 _ _ _ _) e_lit (bin_fdiv (by decide) _)) e_lit (bin_mod (by decide) _)) (bin_add _ _ _)) rfl))))
      · exact ⟨M.a, M.b, none, x_iff (e_andt (e_cmp (e_blt (es_cons (e_var rfl) es_nil) hlen) e_lit (gtT (by exact Lin.lin [(.lt (.k 0) (.v 0))] (.zlt (.k 0) (.n (.v 0))) (.l [1, 1]) rfl [_] [] c1))) (e_cmp (e_bin (E1 _ _ _ _) e_lit (bin_mod (by decide) _)) e_lit (gtF c2))) xs_nil⟩
    · exact ⟨M.a, M.b, none, x_iff (e_andf (e_cmp (e_blt (es_cons (e_var rfl) es_nil) hlen) e_lit (gtF (by exact Lin.lin [(.no (.lt (.k 0) (.v 0)))] (.no (.zlt (.k 0) (.n (.v 0)))) (.l [1, 1]) rfl [_] [] c1)))) xs_nil⟩
  refine Classical.byContradiction fun hnX => ?_
  obtain ⟨lo, hi, x, e03⟩ := e03
  refine hnX ?_
  clear hnX
  have mx : ∀ (x y : Int) (σ : H), bltV .max [.int x, .int y] σ = some (.int (max x y), σ) := fun x y σ => by
    show some (V.int (if x < y then y else x), σ) = _; rw [show (if x < y then y else x) = max x y by omega]
  have mn : ∀ (x y : Int) (σ : H), bltV .min [.int x, .int y] σ = some (.int (min x y), σ) := fun x y σ => by
    show some (V.int (if y < x then y else x), σ) = _; rw [show (if y < x then y else x) = min x y by omega]
  refine ⟨max (1 - 10 ^ 60) (min lo (10 ^ 60 - 1)), max (max (1 - 10 ^ 60) (min lo (10 ^ 60 - 1))) (min hi (10 ^ 60 - 1)), by omega, by omega, by omega, ?_⟩
  exact ev_fn0 hF rfl (xs_cons (x_asg (e_call (es_cons (e_bin (e_bin (e_call (es_cons (e_var rfl) (es_cons (e_var rfl) es_nil)) a0) e_lit (bin_mul (.inr (.inl (by decide))) _)) e_lit (bin_add _ _ _)) es_nil) m0) rfl)
    (xs_cons (x_asg (e_idx (e_var rfl) e_lit (getIdx_v0 _ _)) rfl) (xs_cons (x_asg (e_idx (e_var rfl) e_lit (getIdx_v1 _ _)) rfl) (xs_cons e03
    (xs_cons (x_asg (e_blt (es_cons (e_bin e_lit (e_bin e_lit e_lit (bin_pow (by decide) _)) (bin_sub _ _ _)) (es_cons (e_blt (es_cons (e_var rfl) (es_cons (e_bin (e_bin e_lit e_lit (bin_pow (by decide) _)) e_lit (bin_sub _ _ _)) es_nil)) (mn _ _ _)) es_nil)) (mx _ _ _)) rfl)
    (xs_ret (x_ret (e_tup (es_cons (e_var rfl) (es_cons (e_blt (es_cons (e_var rfl) (es_cons (e_blt (es_cons (e_var rfl) (es_cons (e_bin (e_bin e_lit e_lit (bin_pow (by decide) _)) e_lit (bin_sub _ _ _)) es_nil)) (mn _ _ _)) es_nil)) (mx _ _ _)) es_nil)) rfl)))))))) rfl
theorem asInts_map : ∀ l : List Int, asInts (l.map V.int) = some l
  | [] => rfl
  | x :: r => by show (asInts (r.map V.int)).map (_ :: ·) = _; rw [asInts_map r]; rfl
theorem filterMap_if {α : Type} (p : α → Bool) (g : α → V) : ∀ l : List α, l.filterMap (fun x => if p x then some (g x) else none) = (l.filter p).map g
  | [] => rfl
  | x :: r => by
    by_cases c : p x = true
    · rw [List.filterMap_cons_some (b := g x) (by rw [if_pos c]), List.filter_cons_of_pos c, List.map_cons, filterMap_if p g r]
    · rw [List.filterMap_cons_none (by rw [if_neg c]), List.filter_cons_of_neg c, filterMap_if p g r]

theorem v_mk (a b c : Int) : V.tup [.int a, .int b, .int c] = (⟨a, b, c⟩ : T3).v := rfl
end Mini

/-! The law 04. -/
set_option autoImplicit false
namespace Mini
open PySem
/-- clumps_of -/
noncomputable def S5_0 : St := (St.asg (Tg.one 1) (Ex.lst Es.nil))
noncomputable def S5_1 : St := (St.for_ (Tg.one 2) (It.ex (Ex.var 0)) (Ss.cons (St.ife (Ex.and (Ex.cmp (Ex.blt Blt.len (Es.cons (Ex.var 1) Es.nil)) (Ch.one Cop.gt (Ex.lit (V.int 0)))) (Ex.cmp (Ex.idx (Ex.var 2) (Ex.lit (V.int 0))) (Ch.one Cop.le (Ex.idx (Ex.idx (Ex.var 1) (Ex.neg (Ex.lit (V.int 1)))) (Ex.lit (V.int 1)))))) (Ss.cons (St.asg (Tg.one 3) (Ex.mth Mth.pop (Ex.var 1) Es.nil)) (Ss.cons (St.expr (Ex.mth Mth.append (Ex.var 1) (Es.cons (Ex.tup (Es.cons (Ex.idx (Ex.var 3) (Ex.lit (V.int 0))) (Es.cons (Ex.blt Blt.max (Es.cons (Ex.idx (Ex.var 3) (Ex.lit (V.int 1))) (Es.cons (Ex.idx (Ex.var 2) (Ex.lit (V.int 1))) Es.nil))) (Es.cons (Ex.bin Bop.add (Ex.idx (Ex.var 3) (Ex.lit (V.int 2))) (Ex.lit (V.int 1))) Es.nil)))) Es.nil))) Ss.nil)) (Ss.cons (St.expr (Ex.mth Mth.append (Ex.var 1) (Es.cons (Ex.tup (Es.cons (Ex.idx (Ex.var 2) (Ex.lit (V.int 0))) (Es.cons (Ex.idx (Ex.var 2) (Ex.lit (V.int 1))) (Es.cons (Ex.lit (V.int 1)) Es.nil)))) Es.nil))) Ss.nil)) Ss.nil))
noncomputable def S5_2 : St := (St.ret (Ex.var 1))
noncomputable def B5 : Ss := .cons S5_0 <| .cons S5_1 <| .cons S5_2 <| .nil
/-- _law_clump -/
noncomputable def S31_0 : St := (St.asg (Tg.one 3) (Ex.comp (Ex.var 6) 6 (It.ex (Ex.var 1)) (Es.cons (Ex.and (Ex.cmp (Ex.idx (Ex.var 0) (Ex.lit (V.int 0))) (Ch.one Cop.le (Ex.idx (Ex.var 6) (Ex.lit (V.int 0))))) (Ex.cmp (Ex.idx (Ex.var 6) (Ex.lit (V.int 1))) (Ch.one Cop.le (Ex.idx (Ex.var 0) (Ex.lit (V.int 1)))))) Es.nil)))
noncomputable def S31_1 : St := (St.ife (Ex.or (Ex.cmp (Ex.blt Blt.len (Es.cons (Ex.var 3) Es.nil)) (Ch.one Cop.eq (Ex.lit (V.int 0)))) (Ex.cmp (Ex.blt Blt.len (Es.cons (Ex.var 3) Es.nil)) (Ch.one Cop.ne (Ex.idx (Ex.var 0) (Ex.lit (V.int 2)))))) (Ss.cons (St.ret (Ex.lit (V.bool false))) Ss.nil) Ss.nil)
noncomputable def S31_2 : St := (St.ife (Ex.or (Ex.cmp (Ex.blt Blt.min (Es.cons (Ex.comp (Ex.idx (Ex.var 6) (Ex.lit (V.int 0))) 6 (It.ex (Ex.var 3)) Es.nil) Es.nil)) (Ch.one Cop.ne (Ex.idx (Ex.var 0) (Ex.lit (V.int 0))))) (Ex.cmp (Ex.blt Blt.max (Es.cons (Ex.comp (Ex.idx (Ex.var 6) (Ex.lit (V.int 1))) 6 (It.ex (Ex.var 3)) Es.nil) Es.nil)) (Ch.one Cop.ne (Ex.idx (Ex.var 0) (Ex.lit (V.int 1)))))) (Ss.cons (St.ret (Ex.lit (V.bool false))) Ss.nil) Ss.nil)
noncomputable def S31_3 : St := (St.for_ (Tg.one 2) (It.ex (Ex.var 3)) (Ss.cons (St.asg (Tg.one 4) (Ex.comp (Ex.var 6) 6 (It.ex (Ex.var 3)) (Es.cons (Ex.cmp (Ex.idx (Ex.var 6) (Ex.lit (V.int 0))) (Ch.more Cop.le (Ex.idx (Ex.var 2) (Ex.lit (V.int 1))) (Ch.one Cop.lt (Ex.idx (Ex.var 6) (Ex.lit (V.int 1)))))) Es.nil))) (Ss.cons (St.ife (Ex.and (Ex.cmp (Ex.idx (Ex.var 2) (Ex.lit (V.int 1))) (Ch.one Cop.lt (Ex.idx (Ex.var 0) (Ex.lit (V.int 1))))) (Ex.cmp (Ex.blt Blt.len (Es.cons (Ex.var 4) Es.nil)) (Ch.one Cop.eq (Ex.lit (V.int 0))))) (Ss.cons (St.ret (Ex.lit (V.bool false))) Ss.nil) Ss.nil) Ss.nil)))
noncomputable def S31_4 : St := (St.ret (Ex.lit (V.bool true)))
noncomputable def B31 : Ss := .cons S31_0 <| .cons S31_1 <| .cons S31_2 <| .cons S31_3 <| .cons S31_4 <| .nil
/-- _law_triple -/
noncomputable def S32_0 : St := (St.ife (Ex.or (Ex.not (Ex.blt Blt.isinstance (Es.cons (Ex.var 0) (Es.cons (Ex.ty 2) Es.nil)))) (Ex.cmp (Ex.blt Blt.len (Es.cons (Ex.var 0) Es.nil)) (Ch.one Cop.ne (Ex.lit (V.int 3))))) (Ss.cons (St.ret (Ex.lit (V.bool false))) Ss.nil) Ss.nil)
noncomputable def S32_1 : St := (St.ret (Ex.and (Ex.call 25 (Es.cons (Ex.idx (Ex.var 0) (Ex.lit (V.int 0))) Es.nil)) (Ex.and (Ex.call 25 (Es.cons (Ex.idx (Ex.var 0) (Ex.lit (V.int 1))) Es.nil)) (Ex.call 25 (Es.cons (Ex.idx (Ex.var 0) (Ex.lit (V.int 2))) Es.nil)))))
noncomputable def B32 : Ss := .cons S32_0 <| .cons S32_1 <| .nil
/-- law -/
noncomputable def S60d_0 : St := (St.asg (Tg.one 1) (Ex.call 28 (Es.cons (Ex.var 0) (Es.cons (Ex.lit (V.int 0)) Es.nil))))
noncomputable def S60d_1 : St := (St.asg (Tg.one 2) (Ex.blt Blt.list (Es.cons (Ex.var 1) Es.nil)))
noncomputable def S60d_2 : St := (St.asg (Tg.one 3) (Ex.call 5 (Es.cons (Ex.var 2) Es.nil)))
noncomputable def S60d_3 : St := (St.ife (Ex.or (Ex.not (Ex.blt Blt.isinstance (Es.cons (Ex.var 3) (Es.cons (Ex.ty 3) Es.nil)))) (Ex.not (Ex.call 27 (Es.cons (Ex.var 2) (Es.cons (Ex.var 1) Es.nil))))) (Ss.cons (St.ret (Ex.lit (V.bool false))) Ss.nil) Ss.nil)
noncomputable def S60d_4 : St := (St.asg (Tg.one 4) (Ex.lit (V.int 0)))
noncomputable def S60d_5 : St := (St.for_ (Tg.one 5) (It.rng1 (Ex.blt Blt.len (Es.cons (Ex.var 3) Es.nil))) (Ss.cons (St.ife (Ex.or (Ex.not (Ex.call 32 (Es.cons (Ex.idx (Ex.var 3) (Ex.var 5)) Es.nil))) (Ex.not (Ex.call 31 (Es.cons (Ex.idx (Ex.var 3) (Ex.var 5)) (Es.cons (Ex.var 1) Es.nil))))) (Ss.cons (St.ret (Ex.lit (V.bool false))) Ss.nil) Ss.nil) (Ss.cons (St.ife (Ex.and (Ex.cmp (Ex.var 5) (Ch.one Cop.gt (Ex.lit (V.int 0)))) (Ex.cmp (Ex.idx (Ex.idx (Ex.var 3) (Ex.bin Bop.sub (Ex.var 5) (Ex.lit (V.int 1)))) (Ex.lit (V.int 1))) (Ch.one Cop.ge (Ex.idx (Ex.idx (Ex.var 3) (Ex.var 5)) (Ex.lit (V.int 0)))))) (Ss.cons (St.ret (Ex.lit (V.bool false))) Ss.nil) Ss.nil) (Ss.cons (St.asg (Tg.one 4) (Ex.bin Bop.add (Ex.var 4) (Ex.idx (Ex.idx (Ex.var 3) (Ex.var 5)) (Ex.lit (V.int 2))))) Ss.nil))))
noncomputable def S60d_6 : St := (St.asg (Tg.one 6) (Ex.blt Blt.list (Es.cons (Ex.var 3) Es.nil)))
noncomputable def S60d_7 : St := (St.expr (Ex.mth Mth.append (Ex.var 3) (Es.cons (Ex.tup (Es.cons (Ex.lit (V.int 0)) (Es.cons (Ex.lit (V.int 0)) (Es.cons (Ex.lit (V.int 0)) Es.nil)))) Es.nil)))
noncomputable def S60d_8 : St := (St.ret (Ex.and (Ex.cmp (Ex.var 4) (Ch.one Cop.eq (Ex.blt Blt.len (Es.cons (Ex.var 1) Es.nil)))) (Ex.cmp (Ex.call 5 (Es.cons (Ex.var 2) Es.nil)) (Ch.one Cop.eq (Ex.var 6)))))
noncomputable def B60d : Ss := .cons S60d_0 <| .cons S60d_1 <| .cons S60d_2 <| .cons S60d_3 <| .cons S60d_4 <| .cons S60d_5 <| .cons S60d_6 <| .cons S60d_7 <| .cons S60d_8 <| .nil

/-- the walk of clumps_of -/
noncomputable def clmp : List T3 → T3 → List T3
  | [], c => [c]
  | x :: r, c => if x.a ≤ c.b then clmp r ⟨c.a, max c.b x.b, c.c + 1⟩ else c :: clmp r ⟨x.a, x.b, 1⟩
noncomputable def clumps : List T3 → List T3
  | [] => []
  | x :: r => clmp r ⟨x.a, x.b, 1⟩

/-- a group of the row that makes one clump -/
structure Grp (g : List T3) (c : T3) : Prop where
  ne : g ≠ []
  cnt : c.c = g.length
  lo : ∀ x ∈ g, c.a ≤ x.a
  hi : ∀ x ∈ g, x.b ≤ c.b
  lo1 : ∃ x ∈ g, x.a = c.a
  hi1 : ∃ x ∈ g, x.b = c.b
  chain : ∀ x ∈ g, x.b < c.b → ∃ y ∈ g, y.a ≤ x.b ∧ x.b < y.b

/-- clumps in a row, each with its group; each behind the one ahead -/
inductive Cls : List T3 → List T3 → Prop
  | nil : Cls [] []
  | cons {g row : List T3} {c : T3} {cs : List T3} : Grp g c → (∀ x ∈ row, c.b < x.a) → (∀ c' ∈ cs, c.b < c'.a) → Cls row cs → Cls (g ++ row) (c :: cs)

theorem Grp.snoc {g : List T3} {c x : T3} (h : Grp g c) (hx : x.a ≤ c.b) (ho : x.a ≤ x.b) (hs : ∀ y ∈ g, y.a ≤ x.a) : Grp (g ++ [x]) ⟨c.a, max c.b x.b, c.c + 1⟩ := by
  refine Classical.byContradiction fun hnX => ?_
  obtain ⟨m, hm, hma⟩ := h.lo1
  refine hnX ?_
  clear hnX
  refine Classical.byContradiction fun hnX => ?_
  obtain ⟨n, hn, hnb⟩ := h.hi1
  refine hnX ?_
  clear hnX
  refine ⟨by simp, by simp [h.cnt], ?_, ?_, ⟨m, List.mem_append_left _ hm, hma⟩, ?_, ?_⟩
  · intro y hy
    rcases List.mem_append.mp hy with hy | hy
    · exact h.lo y hy
    · rw [List.mem_singleton.mp hy]; have := hs m hm; simp only; lia
  · intro y hy
    rcases List.mem_append.mp hy with hy | hy
    · have := h.hi y hy; simp only; lia
    · rw [List.mem_singleton.mp hy]; simp only; lia
  · simp only
    rcases Int.lt_or_le c.b x.b with h1 | h1
    · exact ⟨x, by simp, by lia⟩
    · exact ⟨n, List.mem_append_left _ hn, by lia⟩
  · intro y hy hlt
    simp only at hlt
    rcases List.mem_append.mp hy with hy | hy
    · rcases Int.lt_or_le y.b c.b with h1 | h1
      · refine Classical.byContradiction fun hnX => ?_
        obtain ⟨z, hz, e⟩ := h.chain y hy h1
        refine hnX ?_
        clear hnX
        exact ⟨z, List.mem_append_left _ hz, e⟩
      · have := h.hi y hy
        exact ⟨x, by simp, by exact Lin.lin [(.zle (.v 0) (.v 2)), (.zle (.v 2) (.v 1))] (.zle (.v 0) (.v 1)) (.l [1, 1, 1]) rfl [] [_, _, _] hx h1, by lia⟩
    · rw [List.mem_singleton.mp hy] at hlt ⊢
      have := hs n hn
      exact ⟨n, List.mem_append_left _ hn, by exact Lin.lin [(.zle (.v 2) (.v 1)), (.zle (.v 0) (.v 2))] (.zle (.v 0) (.v 1)) (.l [1, 1, 1]) rfl [] [_, _, _] ho this, by lia⟩
theorem Grp.one {x : T3} : Grp [x] ⟨x.a, x.b, 1⟩ := ⟨by simp, rfl, by simp, by simp, ⟨x, by simp⟩, ⟨x, by simp⟩, by simp⟩

theorem clmp_cls : ∀ (r g : List T3) (c : T3), Grp g c → (∀ x ∈ g, ∀ y ∈ r, x.a ≤ y.a) → r.Pairwise (fun x y => x.a ≤ y.a) → (∀ x ∈ r, x.a ≤ x.b) → Cls (g ++ r) (clmp r c) ∧ ∀ c' ∈ clmp r c, c.a ≤ c'.a
  | [], g, c, hg, _, _, _ => by
    refine ⟨.cons hg (by simp) (by simp) .nil, ?_⟩
    simp [clmp]
  | x :: r, g, c, hg, h1, h2, h3 => by
    have h2' := List.pairwise_cons.mp h2
    have hx : x ∈ x :: r := List.mem_cons_self
    simp only [clmp]
    split
    · rename_i hle
      have := clmp_cls r (g ++ [x]) _ (hg.snoc hle (h3 x hx) fun y hy => h1 y hy x hx) (fun y hy z hz => by
        rcases List.mem_append.mp hy with hy | hy
        · exact h1 y hy z (List.mem_cons_of_mem _ hz)
        · rw [List.mem_singleton.mp hy]; exact h2'.1 z hz) h2'.2 fun y hy => h3 y (List.mem_cons_of_mem _ hy)
      rw [List.append_assoc] at this
      exact this
    · rename_i hle
      refine Classical.byContradiction fun hnX => ?_
      obtain ⟨q1, q2⟩ := clmp_cls r [x] ⟨x.a, x.b, 1⟩ Grp.one (fun y hy z hz => by rw [List.mem_singleton.mp hy]; exact h2'.1 z hz) h2'.2 fun y hy => h3 y (List.mem_cons_of_mem _ hy)
      refine hnX ?_
      clear hnX
      simp only at q2
      refine Classical.byContradiction fun hnX => ?_
      obtain ⟨m, hm, hma⟩ := hg.lo1
      refine hnX ?_
      clear hnX
      have hmx := h1 m hm x hx
      refine ⟨.cons hg ?_ ?_ q1, ?_⟩
      · intro y hy
        rcases List.mem_cons.mp hy with rfl | hy
        · exact Lin.lin [(.no (.zle (.v 1) (.v 0)))] (.zlt (.v 0) (.v 1)) (.l [1, 1]) rfl [] [_, _] hle
        · have := h2'.1 y hy; lia
      · intro c' hc'; have := q2 c' hc'; lia
      · intro c' hc'
        rcases List.mem_cons.mp hc' with rfl | hc'
        · exact Int.le_refl _
        · have := q2 c' hc'; lia
theorem clumps_cls (ts : List T3) (h1 : ts.Pairwise (fun x y => x.a ≤ y.a)) (h2 : ∀ x ∈ ts, x.a ≤ x.b) : Cls ts (clumps ts) := by
  cases ts with
  | nil => exact .nil
  | cons x r =>
    have h1' := List.pairwise_cons.mp h1
    exact (clmp_cls r [x] ⟨x.a, x.b, 1⟩ Grp.one (fun y hy z hz => by rw [List.mem_singleton.mp hy]; exact h1'.1 z hz) h1'.2 fun y hy => h2 y (List.mem_cons_of_mem _ hy)).1

noncomputable def inC (c x : T3) : Bool := decide (c.a ≤ x.a) && decide (x.b ≤ c.b)
theorem Cls.own {row cs : List T3} (h : Cls row cs) : (∀ x ∈ row, x.a ≤ x.b) → ∀ c ∈ cs, Grp (row.filter (inC c)) c := by
  induction h with
  | nil => intro _ c hc; cases hc
  | @cons g row c cs hg h1 h2 _ ih =>
    intro ho c' hc'
    rw [List.filter_append]
    rcases List.mem_cons.mp hc' with rfl | hc'
    · have e1 : g.filter (inC c') = g := List.filter_eq_self.mpr fun x hx => by have := hg.lo x hx; have := hg.hi x hx; simp [inC, *]
      have e2 : row.filter (inC c') = [] := List.filter_eq_nil_iff.mpr fun x hx => by
        have := h1 x hx; have := ho x (List.mem_append_right _ hx)
        simp only [inC, Bool.and_eq_true, decide_eq_true_eq]; lia
      rw [e1, e2, List.append_nil]; exact hg
    · have e1 : g.filter (inC c') = [] := List.filter_eq_nil_iff.mpr fun x hx => by
        have := hg.hi x hx; have := h2 c' hc'; have := ho x (List.mem_append_left _ hx)
        simp only [inC, Bool.and_eq_true, decide_eq_true_eq]; lia
      rw [e1, List.nil_append]
      exact ih (fun x hx => ho x (List.mem_append_right _ hx)) c' hc'
theorem Cls.sum {row cs : List T3} (h : Cls row cs) : (cs.map (·.c)).sum = row.length := by
  induction h with
  | nil => rfl
  | cons hg _ _ _ ih => simp only [List.map_cons, List.sum_cons, ih, hg.cnt, List.length_append]; exact Lin.lin [] (.zeq (.a (.n (.v 0)) (.n (.v 1))) (.n (.a (.v 0) (.v 1)))) (.s (.l [1]) (.l [1])) rfl [_, _] []
theorem Cls.apart {row cs : List T3} (h : Cls row cs) : cs.Pairwise fun c c' => c.b < c'.a := by
  induction h with
  | nil => exact .nil
  | cons _ _ h2 _ ih => exact List.pairwise_cons.mpr ⟨h2, ih⟩
theorem Cls.len {row cs : List T3} (h : Cls row cs) : cs.length ≤ row.length := by
  induction h with
  | nil => exact Nat.le_refl _
  | cons hg _ _ _ ih =>
    have := List.length_pos_iff.mpr hg.ne
    simp only [List.length_cons, List.length_append]; lia

theorem maxI_le : ∀ (r : List Int) (x m : Int), x ≤ m → (∀ y ∈ r, y ≤ m) → maxI r x ≤ m
  | [], x, m, h, _ => h
  | y :: r, x, m, h, h' => by
    have := h' y List.mem_cons_self
    simp only [maxI]
    exact maxI_le r _ m (by split <;> lia) fun z hz => h' z (List.mem_cons_of_mem _ hz)
theorem le_maxI : ∀ (r : List Int) (x m : Int), (m ≤ x ∨ ∃ y ∈ r, m ≤ y) → m ≤ maxI r x
  | [], x, m, h => by simpa [maxI] using h
  | y :: r, x, m, h => by
    simp only [maxI]
    refine le_maxI r _ m ?_
    rcases h with h | ⟨z, hz, h⟩
    · left; split <;> lia
    · rcases List.mem_cons.mp hz with rfl | hz
      · left; split <;> lia
      · exact .inr ⟨z, hz, h⟩
theorem minI_ge : ∀ (r : List Int) (x m : Int), m ≤ x → (∀ y ∈ r, m ≤ y) → m ≤ minI r x
  | [], x, m, h, _ => h
  | y :: r, x, m, h, h' => by
    have := h' y List.mem_cons_self
    simp only [minI]
    exact minI_ge r _ m (by split <;> lia) fun z hz => h' z (List.mem_cons_of_mem _ hz)
theorem minI_le : ∀ (r : List Int) (x m : Int), (x ≤ m ∨ ∃ y ∈ r, y ≤ m) → minI r x ≤ m
  | [], x, m, h => by simpa [minI] using h
  | y :: r, x, m, h => by
    simp only [minI]
    refine minI_le r _ m ?_
    rcases h with h | ⟨z, hz, h⟩
    · left; split <;> lia
    · rcases List.mem_cons.mp hz with rfl | hz
      · left; split <;> lia
      · exact .inr ⟨z, hz, h⟩
theorem ev_max1 {σ : H} {n : Nat} {l : List Int} {m : Int} (h : σ[n]? = some (.list (l.map V.int))) (h1 : ∀ y ∈ l, y ≤ m) (h2 : m ∈ l) : bltV .max [.obj n] σ = some (.int m, σ) := by
  cases l with
  | nil => cases h2
  | cons x r =>
    have : maxI r x = m := by
      have a1 := maxI_le r x m (h1 x List.mem_cons_self) fun y hy => h1 y (List.mem_cons_of_mem _ hy)
      have a2 := le_maxI r x m (by rcases List.mem_cons.mp h2 with rfl | h2; exact .inl (Int.le_refl _); exact .inr ⟨m, h2, Int.le_refl _⟩)
      lia
    have hb : bestV maxI σ [.obj n] = some (.int m, σ) := by
      simp only [bestV, arg1_one, Option.bind_some, listOf_get h, asInts_map]; rw [this]
    exact hb
theorem ev_min1 {σ : H} {n : Nat} {l : List Int} {m : Int} (h : σ[n]? = some (.list (l.map V.int))) (h1 : ∀ y ∈ l, m ≤ y) (h2 : m ∈ l) : bltV .min [.obj n] σ = some (.int m, σ) := by
  cases l with
  | nil => cases h2
  | cons x r =>
    have : minI r x = m := by
      have a1 := minI_ge r x m (h1 x List.mem_cons_self) fun y hy => h1 y (List.mem_cons_of_mem _ hy)
      have a2 := minI_le r x m (by rcases List.mem_cons.mp h2 with rfl | h2; exact .inl (Int.le_refl _); exact .inr ⟨m, h2, Int.le_refl _⟩)
      lia
    have hb : bestV minI σ [.obj n] = some (.int m, σ) := by
      simp only [bestV, arg1_one, Option.bind_some, listOf_get h, asInts_map]; rw [this]
    exact hb

theorem ev_triple {pg : Pg} (h25 : pg.fn 25 = some ⟨[0], 9, B25, .pure⟩) (hF : pg.fn 32 = some ⟨[0], 9, B32, .pure⟩) (d : Nat) (x : T3) (σ : H) : callF pg (d + 2) 32 [x.v] σ = some (.ok (.bool true), σ) :=
  ev_fn0 hF rfl (xs_cons (x_iff (e_orf (notT (e_blt (es_cons (e_var rfl) (es_cons e_ty es_nil)) rfl)) (e_cmp (e_blt (es_cons (e_var rfl) es_nil) rfl) e_lit (neF rfl))) xs_nil)
    (xs_ret (x_ret (e_andt (e_call (es_cons (e_idx (e_var rfl) e_lit (getIdx_v0 _ _)) es_nil) (ev_isint h25 d _ σ)) (e_andt (e_call (es_cons (e_idx (e_var rfl) e_lit (getIdx_v1 _ _)) es_nil) (ev_isint h25 d _ σ)) (e_call (es_cons (e_idx (e_var rfl) e_lit (getIdx_v2 _ _)) es_nil) (ev_isint h25 d _ σ))))))) rfl
theorem len_obj {σ : H} {r : Nat} {l : List V} (h : σ[r]? = some (.list l)) : bltV .len [.obj r] σ = some (.int l.length, σ) := by show (items σ (.obj r)).map _ = _; rw [items_get h]; rfl

theorem ev_clump {pg : Pg} (hF : pg.fn 31 = some ⟨[0, 1], 13, B31, .pure⟩) (d : Nat) (c : T3) (σ : H) (r : Nat) (ts : List T3) (hr : σ[r]? = some (.list (ts.map T3.v))) (hl : ts.length ≤ 1000) (hg : Grp (ts.filter (inC c)) c) : callF pg (d + 1) 31 [c.v, .obj r] σ = some (.ok (.bool true), σ) := by
  have hol : (ts.filter (inC c)).length ≤ 1000 := Nat.le_trans (List.length_filter_le _ _) hl
  have ec0 := comp_map (C := ⟨pg, callF pg d⟩) (elt := Ex.var 6) (tg := 6) (it := It.ex (Ex.var 1)) (ifs := Es.cons (Ex.and (Ex.cmp (Ex.idx (Ex.var 0) (Ex.lit (V.int 0))) (Ch.one Cop.le (Ex.idx (Ex.var 6) (Ex.lit (V.int 0))))) (Ex.cmp (Ex.idx (Ex.var 6) (Ex.lit (V.int 1))) (Ch.one Cop.le (Ex.idx (Ex.var 0) (Ex.lit (V.int 1)))))) Es.nil)
      (ℓ := [some c.v, some (.obj r), none, none, none, none, none, none, none, none, none, none, none]) (σ := σ) (σ1 := σ) T3.v (fun x => if inC c x then some x.v else none) (it_obj (n := r) (e_var rfl) hr) hr (by simp) (by unfold lenMax; exact Lin.lin [(.le (.v 0) (.k 1000))] (.le (.v 0) (.k 1000000)) (.l [1, 1]) rfl [_] [] hl) fun x _ =>
        cb_p (p := inC c x) (if_one (e_and (e_cmp (e_idx (e_var rfl) e_lit (getIdx_v0 _ _)) (e_idx (e_var rfl) e_lit (getIdx_v0 _ _)) (cmp_le _ _ _)) (e_cmp (e_idx (e_var rfl) e_lit (getIdx_v1 _ _)) (e_idx (e_var rfl) e_lit (getIdx_v1 _ _)) (cmp_le _ _ _)))) (e_var rfl)
  rw [filterMap_if] at ec0
  generalize ts.filter (inC c) = g at *
  have hpos := List.length_pos_iff.mpr hg.ne
  have hgl : ∀ t : H, (σ ++ O.list (g.map T3.v) :: t)[σ.length]? = some (.list (g.map T3.v)) := fun t => by simp
  have hlg : bltV .len [.obj σ.length] (σ ++ [.list (g.map T3.v)]) = some (.int g.length, σ ++ [.list (g.map T3.v)]) := by have := len_obj (hgl []); rw [List.length_map] at this; exact this
  have ec1 := comp_map (C := ⟨pg, callF pg d⟩) (elt := Ex.idx (Ex.var 6) (Ex.lit (V.int 0))) (tg := 6) (it := It.ex (Ex.var 3)) (ifs := Es.nil)
      (ℓ := [some c.v, some (.obj r), none, some (.obj σ.length), none, none, none, none, none, none, none, none, none]) (σ := σ ++ [.list (g.map T3.v)]) (σ1 := σ ++ [.list (g.map T3.v)]) T3.v (fun x => some (V.int x.a)) (it_obj (n := σ.length) (e_var rfl) (hgl [])) (hgl []) (by simp) (by unfold lenMax; exact Lin.lin [(.le (.v 0) (.k 1000))] (.le (.v 0) (.k 1000000)) (.l [1, 1]) rfl [_] [] hol) fun x _ => cb_t (α := Unit) if_nil (e_idx (e_var rfl) e_lit (getIdx_v0 _ _))
  rw [show g.filterMap (fun x => some (V.int x.a)) = (g.map (·.a)).map .int by simp] at ec1
  have ec2 := comp_map (C := ⟨pg, callF pg d⟩) (elt := Ex.idx (Ex.var 6) (Ex.lit (V.int 1))) (tg := 6) (it := It.ex (Ex.var 3)) (ifs := Es.nil)
      (ℓ := [some c.v, some (.obj r), none, some (.obj σ.length), none, none, none, none, none, none, none, none, none]) (σ := σ ++ [.list (g.map T3.v)] ++ [.list ((g.map (·.a)).map .int)]) (σ1 := σ ++ [.list (g.map T3.v)] ++ [.list ((g.map (·.a)).map .int)]) T3.v (fun x => some (V.int x.b)) (it_obj (n := σ.length) (e_var rfl) (get_app (hgl []))) (get_app (hgl [])) (by simp) (by unfold lenMax; exact Lin.lin [(.le (.v 0) (.k 1000))] (.le (.v 0) (.k 1000000)) (.l [1, 1]) rfl [_] [] hol) fun x _ => cb_t (α := Unit) if_nil (e_idx (e_var rfl) e_lit (getIdx_v1 _ _))
  rw [show g.filterMap (fun x => some (V.int x.b)) = (g.map (·.b)).map .int by simp] at ec2
  refine Classical.byContradiction fun hnX => ?_
  obtain ⟨m, hm, hma⟩ := hg.lo1
  refine hnX ?_
  clear hnX
  refine Classical.byContradiction fun hnX => ?_
  obtain ⟨k, hk, hkb⟩ := hg.hi1
  refine hnX ?_
  clear hnX
  have m1 := ev_min1 (σ := σ ++ [.list (g.map T3.v)] ++ [.list ((g.map (·.a)).map .int)]) (n := (σ ++ [O.list (g.map T3.v)]).length) (l := g.map (·.a)) (m := c.a) (by simp) (by intro y hy; obtain ⟨x, hx, rfl⟩ := List.mem_map.mp hy; exact hg.lo x hx) (List.mem_map.mpr ⟨m, hm, hma⟩)
  have m2 := ev_max1 (σ := σ ++ [.list (g.map T3.v)] ++ [.list ((g.map (·.a)).map .int)] ++ [.list ((g.map (·.b)).map .int)]) (n := (σ ++ [O.list (g.map T3.v)] ++ [O.list ((g.map (·.a)).map .int)]).length) (l := g.map (·.b)) (m := c.b) (by simp) (by intro y hy; obtain ⟨x, hx, rfl⟩ := List.mem_map.mp hy; exact hg.hi x hx) (List.mem_map.mpr ⟨k, hk, hkb⟩)
  have e3 : ∃ ℓ σ', exec ⟨pg, callF pg d⟩ S31_3 [some c.v, some (.obj r), none, some (.obj σ.length), none, none, none, none, none, none, none, none, none] (σ ++ [.list (g.map T3.v)] ++ [.list ((g.map (·.a)).map .int)] ++ [.list ((g.map (·.b)).map .int)]) = some (.next, ℓ, σ') ∧ ∃ t, σ' = σ ++ .list (g.map T3.v) :: t := by
    rw [S31_3, x_for (it_obj (n := σ.length) (e_var rfl) (get_app (get_app (hgl []))))]
    refine for_rel T3.v (fun xs ℓ σ' => (∀ x ∈ xs, x ∈ g) ∧ ∃ t o1 o2, ℓ = [some c.v, some (.obj r), o1, some (.obj σ.length), o2, none, none, none, none, none, none, none, none] ∧ σ' = σ ++ .list (g.map T3.v) :: t) _ ?_ ?_ g _ _ ⟨fun _ h => h, [.list ((g.map (·.a)).map .int), .list ((g.map (·.b)).map .int)], none, none, rfl, by simp⟩
    · rintro ℓ σ' ⟨_, t, _, _, _, h⟩; exact ⟨t, h⟩
    · intro x xs ℓ σ' hX4
      refine Classical.byContradiction fun hnX => ?_
      obtain ⟨hsub, t, o1, o2, rfl, rfl⟩ := hX4
      refine hnX ?_
      clear hnX
      have hx := hsub x List.mem_cons_self
      refine ⟨by simp, .inl ?_⟩
      have ec := comp_map (C := ⟨pg, callF pg d⟩) (elt := Ex.var 6) (tg := 6) (it := It.ex (Ex.var 3)) (ifs := Es.cons (Ex.cmp (Ex.idx (Ex.var 6) (Ex.lit (V.int 0))) (Ch.more Cop.le (Ex.idx (Ex.var 2) (Ex.lit (V.int 1))) (Ch.one Cop.lt (Ex.idx (Ex.var 6) (Ex.lit (V.int 1)))))) Es.nil)
        (ℓ := [some c.v, some (.obj r), some x.v, some (.obj σ.length), o2, none, none, none, none, none, none, none, none]) (σ := σ ++ .list (g.map T3.v) :: t) (σ1 := σ ++ .list (g.map T3.v) :: t) T3.v (fun y => if (decide (y.a ≤ x.b) && decide (x.b < y.b)) then some y.v else none) (it_obj (n := σ.length) (e_var rfl) (hgl _)) (hgl _) (by simp) (by unfold lenMax; exact Lin.lin [(.le (.v 0) (.k 1000))] (.le (.v 0) (.k 1000000)) (.l [1, 1]) rfl [_] [] hol) fun y _ =>
          cb_p (if_one (e_cmp2 (e_idx (e_var rfl) e_lit (getIdx_v0 _ _)) (e_idx (e_var rfl) e_lit (getIdx_v1 _ _)) (e_idx (e_var rfl) e_lit (getIdx_v1 _ _)) rfl rfl)) (e_var rfl)
      rw [filterMap_if] at ec
      have hov : x.b < c.b → ¬ ((g.filter fun y => decide (y.a ≤ x.b) && decide (x.b < y.b)).length : Int) = 0 := by
        intro h1 h2
        refine Classical.byContradiction fun hnX => ?_
        obtain ⟨y, hy, e⟩ := hg.chain x hx h1
        refine hnX ?_
        clear hnX
        have h2' : (g.filter fun y => decide (y.a ≤ x.b) && decide (x.b < y.b)) = [] := List.length_eq_zero_iff.mp (by exact Lin.lin [(.zeq (.n (.v 0)) (.k 0))] (.eq (.v 0) (.k 0)) (.s (.l [1, 0, 1]) (.l [1, 1])) rfl [_] [] h2)
        exact (List.filter_eq_nil_iff.mp h2') y hy (by simp [e])
      generalize (g.filter fun y => decide (y.a ≤ x.b) && decide (x.b < y.b)) = ov at *
      have hlo : bltV .len [.obj (σ ++ .list (g.map T3.v) :: t).length] (σ ++ .list (g.map T3.v) :: t ++ [.list (ov.map T3.v)]) = some (.int ov.length, σ ++ .list (g.map T3.v) :: t ++ [.list (ov.map T3.v)]) := by
        have := len_obj (σ := σ ++ .list (g.map T3.v) :: t ++ [.list (ov.map T3.v)]) (r := (σ ++ .list (g.map T3.v) :: t).length) (l := ov.map T3.v) (by simp)
        rw [List.length_map] at this; exact this
      refine ⟨_, σ ++ .list (g.map T3.v) :: t ++ [.list (ov.map T3.v)], xs_cons (x_asg ec rfl) (xs_one (x_iff ?_ xs_nil)), by rw [List.append_assoc, List.cons_append]; exact hgl _, fun y hy => hsub y (List.mem_cons_of_mem _ hy), t ++ [.list (ov.map T3.v)], some x.v, _, rfl, by simp⟩
      by_cases c1 : x.b < c.b
      · exact e_andt (e_cmp (e_idx (e_var rfl) e_lit (getIdx_v1 _ _)) (e_idx (e_var rfl) e_lit (getIdx_v1 _ _)) (clT c1)) (e_cmp (e_blt (es_cons (e_var rfl) es_nil) hlo) e_lit (eqF (hov c1)))
      · exact e_andf (e_cmp (e_idx (e_var rfl) e_lit (getIdx_v1 _ _)) (e_idx (e_var rfl) e_lit (getIdx_v1 _ _)) (clF c1))
  refine Classical.byContradiction fun hnX => ?_
  obtain ⟨ℓ, _, e3, t, rfl⟩ := e3
  refine hnX ?_
  clear hnX
  exact ev_fn hF rfl (xs_cons (x_asg ec0 rfl)
    (xs_cons (x_iff (e_orf (e_cmp (e_blt (es_cons (e_var rfl) es_nil) hlg) e_lit (eqF (by exact Lin.lin [(.lt (.k 0) (.v 0))] (.no (.zeq (.n (.v 0)) (.k 0))) (.l [1, 0, 1]) rfl [_] [] hpos))) (e_cmp (e_blt (es_cons (e_var rfl) es_nil) hlg) (e_idx (e_var rfl) e_lit (getIdx_v2 _ _)) (neF hg.cnt.symm))) xs_nil)
    (xs_cons (x_iff (e_orf (e_cmp (e_blt (es_cons ec1 es_nil) m1) (e_idx (e_var rfl) e_lit (getIdx_v0 _ _)) (neF rfl)) (e_cmp (e_blt (es_cons ec2 es_nil) m2) (e_idx (e_var rfl) e_lit (getIdx_v1 _ _)) (neF rfl))) xs_nil)
    (xs_cons e3 (xs_ret (x_ret e_lit)))))) rfl

theorem getIdx_neg1 {σ : H} {n : Nat} {l : List V} {x : V} (h : σ[n]? = some (.list (l ++ [x]))) : getIdx σ (.obj n) (.int (-1)) = some x := by
  simp only [getIdx, asInt_int, Option.bind_some, items_get h, idxN]
  rw [if_neg (by decide), if_pos (by simp; exact Lin.lin [] (.zle (.k 0) (.a (.g (.k 1)) (.a (.n (.v 0)) (.k 1)))) (.l [1]) rfl [_] [])]
  have : ((-1 : Int) + ((l ++ [x]).length : Nat)).toNat = l.length := by simp; exact Lin.lin [(.or (.an (.zle (.k 0) (.a (.g (.k 1)) (.a (.n (.v 1)) (.k 1)))) (.zeq (.n (.v 0)) (.a (.g (.k 1)) (.a (.n (.v 1)) (.k 1))))) (.an (.zle (.a (.g (.k 1)) (.a (.n (.v 1)) (.k 1))) (.k 0)) (.eq (.v 0) (.k 0))))] (.eq (.v 0) (.v 1)) (.s (.s (.l [1, 0, 0, 1]) (.l [1, 1, 0, 1])) (.s (.l [1, 0, 1]) (.l [1, 0, 1]))) rfl [_, _] [] (Lin.nat_ax _)
  rw [this]; simp
theorem pop_last {l : List V} {x : V} (σ : H) : mthV .pop (.obj σ.length) [] (σ ++ [.list (l ++ [x])]) = some (x, σ ++ [.list l]) := by
  simp [mthV, objNo, popV]

theorem clmp_len : ∀ (r : List T3) (c : T3), (clmp r c).length ≤ r.length + 1
  | [], c => by simp [clmp]
  | x :: r, c => by
    simp only [clmp]
    split
    · exact Nat.le_trans (clmp_len r _) (by simp)
    · have := clmp_len r ⟨x.a, x.b, 1⟩; simp; exact Lin.lin [(.le (.v 0) (.a (.v 1) (.k 1)))] (.le (.v 0) (.a (.v 1) (.k 1))) (.l [1, 1]) rfl [_, _] [] this

theorem app_t3 {acc : List T3} (h : acc.length < lenMax) (σ : H) (x : T3) : mthV .append (.obj σ.length) [x.v] (σ ++ [.list (acc.map T3.v)]) = some (.none, σ ++ [.list ((acc ++ [x]).map T3.v)]) := by
  rw [app_last (by rw [List.length_map]; exact h)]; simp
theorem ev_clumps {pg : Pg} (hF : pg.fn 5 = some ⟨[0], 12, B5, .fresh⟩) (d : Nat) (σ : H) (r : Nat) (ts : List T3) (hr : σ[r]? = some (.list (ts.map T3.v))) (hl : ts.length ≤ 1000) :
    callF pg (d + 1) 5 [.obj r] σ = some (.ok (.obj σ.length), σ ++ [.list ((clumps ts).map T3.v)]) := by
  have hk : ∀ acc, (σ ++ [O.list acc])[r]? = some (.list (ts.map T3.v)) := fun acc => get_app hr
  have e1 : ∃ ℓ σ', exec ⟨pg, callF pg d⟩ S5_1 [some (.obj r), some (.obj σ.length), none, none, none, none, none, none, none, none, none, none] (σ ++ [.list ([].map T3.v)]) = some (.next, ℓ, σ') ∧ ∃ o1 o2, ℓ = [some (.obj r), some (.obj σ.length), o1, o2, none, none, none, none, none, none, none, none] ∧ σ' = σ ++ [.list ((clumps ts).map T3.v)] := by
    rw [S5_1, x_for (it_obj (n := r) (e_var rfl) (hk _))]
    refine for_rel T3.v (fun xs ℓ σ' => ∃ o1 o2 A, ℓ = [some (.obj r), some (.obj σ.length), o1, o2, none, none, none, none, none, none, none, none] ∧ σ' = σ ++ [.list (A.map T3.v)] ∧ A.length + xs.length ≤ 1000 ∧ ((A = [] ∧ clumps xs = clumps ts) ∨ ∃ acc c, A = acc ++ [c] ∧ acc ++ clmp xs c = clumps ts)) _ ?_ ?_ ts _ _ ⟨none, none, [], rfl, rfl, by simpa using hl, .inl ⟨rfl, rfl⟩⟩
    · rintro ℓ σ' ⟨o1, o2, A, h1, h2, _, ⟨rfl, h3⟩ | ⟨acc, c, rfl, h3⟩⟩
      · exact ⟨o1, o2, h1, by rw [← h3]; exact h2⟩
      · exact ⟨o1, o2, h1, by rw [← h3]; exact h2⟩
    · intro x xs ℓ σ' hX4
      refine Classical.byContradiction fun hnX => ?_
      obtain ⟨o1, o2, A, rfl, rfl, hA, h3⟩ := hX4
      refine hnX ?_
      clear hnX
      simp only [List.length_cons] at hA
      have hap := fun y => app_t3 (acc := A) (by unfold lenMax; exact Lin.lin [(.le (.a (.v 0) (.a (.v 1) (.k 1))) (.k 1000))] (.lt (.v 0) (.k 1000000)) (.l [1, 1]) rfl [_, _] [] hA) σ y
      have hla : bltV .len [.obj σ.length] (σ ++ [.list (A.map T3.v)]) = some (.int A.length, σ ++ [.list (A.map T3.v)]) := by
        have := len_obj (σ := σ ++ [.list (A.map T3.v)]) (r := σ.length) (l := A.map T3.v) (by simp)
        rw [List.length_map] at this; exact this
      refine ⟨by simp, .inl ?_⟩
      rcases h3 with ⟨rfl, h3⟩ | ⟨acc, c, rfl, h3⟩
      · exact ⟨_, _, xs_one (x_iff (e_andf (e_cmp (e_blt (es_cons (e_var rfl) es_nil) hla) e_lit (gtF (by simp)))) (xs_one (x_expr (e_mth (e_var rfl) (es_cons (e_tup (es_cons (e_idx (e_var rfl) e_lit (getIdx_v0 _ _)) (es_cons (e_idx (e_var rfl) e_lit (getIdx_v1 _ _)) (es_cons e_lit es_nil))) rfl) es_nil) (hap ⟨x.a, x.b, 1⟩))))), hk _, _, _, _, rfl, rfl, by simp; exact Lin.lin [(.le (.a (.v 1) (.a (.v 0) (.k 1))) (.k 1000))] (.le (.a (.k 1) (.v 0)) (.k 1000)) (.l [1, 1]) rfl [_, _] [] hA, .inr ⟨[], _, rfl, by simpa [clumps] using h3⟩⟩
      · have hlast : (σ ++ [O.list ((acc ++ [c]).map T3.v)])[σ.length]? = some (.list (acc.map T3.v ++ [c.v])) := by simp
        have hgi := getIdx_neg1 hlast
        have hpop : mthV .pop (.obj σ.length) [] (σ ++ [.list ((acc ++ [c]).map T3.v)]) = some (c.v, σ ++ [.list (acc.map T3.v)]) := by rw [List.map_append]; exact pop_last σ
        have hap2 := fun y => app_t3 (acc := acc) (by simp at hA; unfold lenMax; exact Lin.lin [(.le (.a (.a (.v 0) (.k 1)) (.a (.v 1) (.k 1))) (.k 1000))] (.lt (.v 0) (.k 1000000)) (.l [1, 1]) rfl [_, _] [] hA) σ y
        have h0 : (0 : Int) < ((acc ++ [c]).length : Nat) := by rw [List.length_append]; simp only [List.length_cons, List.length_nil]; exact Lin.lin [] (.zlt (.k 0) (.n (.a (.v 0) (.a (.k 0) (.k 1))))) (.l [1]) rfl [_] []
        have h3 : acc ++ (if x.a ≤ c.b then clmp xs ⟨c.a, max c.b x.b, c.c + 1⟩ else c :: clmp xs ⟨x.a, x.b, 1⟩) = clumps ts := h3
        have hcnd : ∀ p, cmpop .le (.int x.a) (.int c.b) (σ ++ [.list ((acc ++ [c]).map T3.v)]) = some p → evalE ⟨pg, callF pg d⟩ (Ex.and (Ex.cmp (Ex.blt Blt.len (Es.cons (Ex.var 1) Es.nil)) (Ch.one Cop.gt (Ex.lit (V.int 0)))) (Ex.cmp (Ex.idx (Ex.var 2) (Ex.lit (V.int 0))) (Ch.one Cop.le (Ex.idx (Ex.idx (Ex.var 1) (Ex.neg (Ex.lit (V.int 1)))) (Ex.lit (V.int 1)))))) [some (.obj r), some (.obj σ.length), some x.v, o2, none, none, none, none, none, none, none, none] (σ ++ [.list ((acc ++ [c]).map T3.v)]) = some (.ok (.bool p), σ ++ [.list ((acc ++ [c]).map T3.v)]) := fun p hp =>
          e_andt (e_cmp (e_blt (es_cons (e_var rfl) es_nil) hla) e_lit (gtT h0)) (e_cmp (e_idx (e_var rfl) e_lit (getIdx_v0 _ _)) (e_idx (e_idx (e_var rfl) (e_neg e_lit) hgi) e_lit (getIdx_v1 _ _)) hp)
        by_cases c1 : x.a ≤ c.b
        · rw [if_pos c1] at h3
          have mx : bltV .max [.int c.b, .int x.b] (σ ++ [.list (acc.map T3.v)]) = some (.int (max c.b x.b), σ ++ [.list (acc.map T3.v)]) := by
            show some (V.int (if c.b < x.b then x.b else c.b), _) = _; rw [show (if c.b < x.b then x.b else c.b) = max c.b x.b by lia]
          exact ⟨_, _, xs_one (x_ift (hcnd true (leT c1)) (xs_cons (x_asg (e_mth (e_var rfl) es_nil hpop) rfl) (xs_one (x_expr (e_mth (e_var rfl) (es_cons (e_tup (es_cons (e_idx (e_var rfl) e_lit (getIdx_v0 _ _)) (es_cons (e_blt (es_cons (e_idx (e_var rfl) e_lit (getIdx_v1 _ _)) (es_cons (e_idx (e_var rfl) e_lit (getIdx_v1 _ _)) es_nil)) mx) (es_cons (e_bin (e_idx (e_var rfl) e_lit (getIdx_v2 _ _)) e_lit (bin_add _ _ _)) es_nil))) rfl) es_nil) (hap2 ⟨c.a, max c.b x.b, c.c + 1⟩)))))), hk _, _, _, _, rfl, rfl, by simp at hA ⊢; exact Lin.lin [(.le (.a (.a (.v 0) (.k 1)) (.a (.v 1) (.k 1))) (.k 1000))] (.le (.a (.a (.v 0) (.k 1)) (.v 1)) (.k 1000)) (.l [1, 1]) rfl [_, _] [] hA, .inr ⟨acc, _, rfl, h3⟩⟩
        · rw [if_neg c1] at h3
          exact ⟨_, _, xs_one (x_iff (hcnd false (leF c1)) (xs_one (x_expr (e_mth (e_var rfl) (es_cons (e_tup (es_cons (e_idx (e_var rfl) e_lit (getIdx_v0 _ _)) (es_cons (e_idx (e_var rfl) e_lit (getIdx_v1 _ _)) (es_cons e_lit es_nil))) rfl) es_nil) (hap ⟨x.a, x.b, 1⟩))))), hk _, _, _, _, rfl, rfl, by simp at hA ⊢; exact Lin.lin [(.le (.a (.a (.v 0) (.k 1)) (.a (.v 1) (.k 1))) (.k 1000))] (.le (.a (.a (.v 0) (.k 2)) (.v 1)) (.k 1000)) (.l [1, 1]) rfl [_, _] [] hA, .inr ⟨acc ++ [c], _, rfl, by simpa using h3⟩⟩
  refine Classical.byContradiction fun hnX => ?_
  obtain ⟨_, _, e1, o1, o2, rfl, rfl⟩ := e1
  refine hnX ?_
  clear hnX
  exact ev_fnF hF rfl (xs_cons (x_asg (e_lst es_nil rfl) rfl) (xs_cons e1 (xs_ret (x_ret (e_var rfl))))) (Nat.le_refl _) (belows_t3 _ _) (by simp)

theorem toDs_tups (f : Nat) (σ : H) : ∀ ll : List (List Int), (tupsV ll).mapM (toD (f + 2) σ) = some (ll.map fun is => PyData.tuple (is.map .int))
  | [] => rfl
  | is :: r => by
    show ((V.tup (is.map .int)) :: tupsV r).mapM (toD (f + 2) σ) = _
    rw [List.mapM_cons, toD_tup, toDs_tups f σ r]; rfl
theorem eqvAll_tups : ∀ ll : List (List Int), PyData.eqvAll (ll.map fun is => PyData.tuple (is.map .int)) (ll.map fun is => PyData.tuple (is.map .int)) = true
  | [] => rfl
  | is :: r => by
    show (PyData.eqvAll (is.map .int) (is.map .int) && PyData.eqvAll (r.map fun is => PyData.tuple (is.map .int)) (r.map fun is => PyData.tuple (is.map .int))) = true
    rw [eqvAll_int, eqvAll_tups r]; simp
theorem toD_lst (f : Nat) {σ : H} {n : Nat} {ll : List (List Int)} (h : σ[n]? = some (.list (tupsV ll))) : toD (f + 3) σ (.obj n) = some (.list (ll.map fun is => PyData.tuple (is.map .int))) := by
  show (match σ[n]? with
    | some (.list l) => (l.mapM (toD (f + 2) σ)).map PyData.list
    | _ => none) = _
  rw [h]
  show ((tupsV ll).mapM (toD (f + 2) σ)).map PyData.list = _
  rw [toDs_tups]; rfl
theorem eqV_lst {σ : H} {m n : Nat} {ll : List (List Int)} (hm : σ[m]? = some (.list (tupsV ll))) (hn : σ[n]? = some (.list (tupsV ll))) : cmpop .eq (.obj m) (.obj n) σ = some true := by
  show eqV σ (.obj m) (.obj n) = some true
  unfold eqV
  rw [toD_lst 3 hm, toD_lst 3 hn]
  show some (PyData.eqvAll _ _) = _
  rw [eqvAll_tups]

theorem le_a {x y : T3} (h : T3.le x y = true) : x.a ≤ y.a := by
  simp only [T3.le, Bool.or_eq_true, Bool.and_eq_true, decide_eq_true_eq] at h
  exact Lin.lin [(.or (.zlt (.v 0) (.v 1)) (.an (.zeq (.v 0) (.v 1)) (.or (.zlt (.v 2) (.v 3)) (.an (.zeq (.v 2) (.v 3)) (.zle (.v 4) (.v 5))))))] (.zle (.v 0) (.v 1)) (.s (.l [1, 1]) (.s (.l [1, 1]) (.l [1, 1]))) rfl [] [_, _, _, _, _, _] h
theorem rowOf_sorted (l : List Int) (p : Nat) : (rowOf l p).Pairwise (fun x y => x.a ≤ y.a) := by
  have := List.pairwise_mergeSort (le := T3.le) (fun a b c => le3_trans) (fun a b => by
    cases h : T3.le a b with
    | true => rfl
    | false => exact le3_total h) (rawRow l p)
  exact this.imp fun h => le_a h

set_option maxHeartbeats 1000000 in
theorem law04 {pg : Pg} (h5 : pg.fn 5 = some ⟨[0], 12, B5, .fresh⟩) (h16 : pg.fn 16 = some ⟨[0, 1], 10, B16, .pure⟩) (h17 : pg.fn 17 = some ⟨[0], 12, B17, .pure⟩)
    (h25 : pg.fn 25 = some ⟨[0], 9, B25, .pure⟩) (h26 : pg.fn 26 = some ⟨[0, 1], 10, B26, .pure⟩) (h27 : pg.fn 27 = some ⟨[0, 1], 10, B27, .pure⟩) (h28 : pg.fn 28 = some ⟨[0, 1], 17, B28, .fresh⟩) (h31 : pg.fn 31 = some ⟨[0, 1], 13, B31, .pure⟩) (h32 : pg.fn 32 = some ⟨[0], 9, B32, .pure⟩) (h60 : pg.fn 60 = some ⟨[0], 15, B60d, .pure⟩)
    (d : Nat) (l : List Int) (hb : ∀ x ∈ l, x.natAbs < 2 ^ (2 ^ 20)) : callF pg (d + 4) 60 [.frz l] [] = some (.ok (.bool true), []) := by
  have r0 : callF pg (d + 3) 28 [.frz l, .int 0] [] = some (.ok (.obj 0), [.list ((rowOf l 0).map T3.v)]) := ev_row h16 h17 h28 (d + 1) l hb 0 []
  have hlen := rowOf_len l 0
  have hcl := clumps_cls (rowOf l 0) (rowOf_sorted l 0) (rowOf_ord l 0)
  have hord := rowOf_ord l 0
  generalize rowOf l 0 = ts at *
  have hc1 : callF pg (d + 3) 5 [.obj 1] [.list (ts.map T3.v), .list (ts.map T3.v)] = some (.ok (.obj 2), [.list (ts.map T3.v), .list (ts.map T3.v), .list ((clumps ts).map T3.v)]) := ev_clumps h5 (d + 2) [.list (ts.map T3.v), .list (ts.map T3.v)] 1 ts rfl (by exact Lin.lin [(.le (.v 0) (.k 96))] (.le (.v 0) (.k 1000)) (.l [1, 1]) rfl [_] [] hlen)
  have hc2 : callF pg (d + 3) 5 [.obj 1] [.list (ts.map T3.v), .list (ts.map T3.v), .list ((clumps ts).map T3.v ++ [(⟨0, 0, 0⟩ : T3).v]), .list ((clumps ts).map T3.v)] = some (.ok (.obj 4), [.list (ts.map T3.v), .list (ts.map T3.v), .list ((clumps ts).map T3.v ++ [(⟨0, 0, 0⟩ : T3).v]), .list ((clumps ts).map T3.v), .list ((clumps ts).map T3.v)]) := ev_clumps h5 (d + 2) [.list (ts.map T3.v), .list (ts.map T3.v), .list ((clumps ts).map T3.v ++ [(⟨0, 0, 0⟩ : T3).v]), .list ((clumps ts).map T3.v)] 1 ts rfl (by exact Lin.lin [(.le (.v 0) (.k 96))] (.le (.v 0) (.k 1000)) (.l [1, 1]) rfl [_] [] hlen)
  generalize clumps ts = cs at *
  have hown := hcl.own hord
  have hsum := hcl.sum
  have hap' := hcl.apart
  have hcs := hcl.len
  have hi3 : callF pg (d + 3) 27 [.obj 1, .obj 0] [.list (ts.map T3.v), .list (ts.map T3.v), .list (cs.map T3.v)] = some (.ok (.bool true), [.list (ts.map T3.v), .list (ts.map T3.v), .list (cs.map T3.v)]) := ev_listis h25 h26 h27 d (ts.map fun t => [t.a, t.b, t.c]) (by intro is h; obtain ⟨p, _, rfl⟩ := List.mem_map.mp h; exact len3) (by simp; unfold lenMax; exact Lin.lin [(.le (.v 0) (.k 96))] (.le (.v 0) (.k 1000000)) (.l [1, 1]) rfl [_] [] hlen) [.list (ts.map T3.v), .list (ts.map T3.v), .list (cs.map T3.v)] 1 0 (by rw [← T3.v_tups]; rfl) (by rw [← T3.v_tups]; rfl)
  have hap : mthV .append (.obj 2) [(⟨0, 0, 0⟩ : T3).v] [.list (ts.map T3.v), .list (ts.map T3.v), .list (cs.map T3.v), .list (cs.map T3.v)] = some (.none, [.list (ts.map T3.v), .list (ts.map T3.v), .list (cs.map T3.v ++ [(⟨0, 0, 0⟩ : T3).v]), .list (cs.map T3.v)]) := by
    have : cs.length < lenMax := by unfold lenMax; exact Lin.lin [(.le (.v 1) (.k 96)), (.le (.v 0) (.v 1))] (.lt (.v 0) (.k 1000000)) (.l [1, 1, 1]) rfl [_, _] [] hlen hcs
    simp [mthV, objNo, listOf, appV, setObj, this]
  have hml : bltV .list [.obj 0] [.list (ts.map T3.v)] = some (.obj 1, [.list (ts.map T3.v), .list (ts.map T3.v)]) := mkList_ok (l := ts.map T3.v) (by rw [List.length_map]; unfold lenMax; exact Lin.lin [(.le (.v 0) (.k 96))] (.le (.v 0) (.k 1000000)) (.l [1, 1]) rfl [_] [] hlen) _
  have hml2 : bltV .list [.obj 2] [.list (ts.map T3.v), .list (ts.map T3.v), .list (cs.map T3.v)] = some (.obj 3, [.list (ts.map T3.v), .list (ts.map T3.v), .list (cs.map T3.v), .list (cs.map T3.v)]) := mkList_ok (l := cs.map T3.v) (by rw [List.length_map]; unfold lenMax; exact Lin.lin [(.le (.v 1) (.k 96)), (.le (.v 0) (.v 1))] (.le (.v 0) (.k 1000000)) (.l [1, 1, 1]) rfl [_, _] [] hlen hcs) _
  have heq : cmpop .eq (.obj 4) (.obj 3) [.list (ts.map T3.v), .list (ts.map T3.v), .list (cs.map T3.v ++ [(⟨0, 0, 0⟩ : T3).v]), .list (cs.map T3.v), .list (cs.map T3.v)] = some true := eqV_lst (ll := cs.map fun t => [t.a, t.b, t.c]) (by rw [← T3.v_tups]; rfl) (by rw [← T3.v_tups]; rfl)
  have hl2 : bltV .len [.obj 2] [.list (ts.map T3.v), .list (ts.map T3.v), .list (cs.map T3.v)] = some (.int cs.length, [.list (ts.map T3.v), .list (ts.map T3.v), .list (cs.map T3.v)]) := by
    have := len_obj (σ := [.list (ts.map T3.v), .list (ts.map T3.v), .list (cs.map T3.v)]) (r := 2) (l := cs.map T3.v) rfl
    rw [List.length_map] at this; exact this
  have hl0 : bltV .len [.obj 0] [.list (ts.map T3.v), .list (ts.map T3.v), .list (cs.map T3.v ++ [(⟨0, 0, 0⟩ : T3).v]), .list (cs.map T3.v)] = some (.int ts.length, [.list (ts.map T3.v), .list (ts.map T3.v), .list (cs.map T3.v ++ [(⟨0, 0, 0⟩ : T3).v]), .list (cs.map T3.v)]) := by
    have := len_obj (σ := [.list (ts.map T3.v), .list (ts.map T3.v), .list (cs.map T3.v ++ [(⟨0, 0, 0⟩ : T3).v]), .list (cs.map T3.v)]) (r := 0) (l := ts.map T3.v) rfl
    rw [List.length_map] at this; exact this
  have eB : ∃ ℓ σ', exec ⟨pg, callF pg (d + 3)⟩ S60d_5 [some (.frz l), some (.obj 0), some (.obj 1), some (.obj 2), some (.int 0), none, none, none, none, none, none, none, none, none, none] [.list (ts.map T3.v), .list (ts.map T3.v), .list (cs.map T3.v)] = some (.next, ℓ, σ') ∧ ∃ o, ℓ = [some (.frz l), some (.obj 0), some (.obj 1), some (.obj 2), some (.int ts.length), o, none, none, none, none, none, none, none, none, none] ∧ σ' = [.list (ts.map T3.v), .list (ts.map T3.v), .list (cs.map T3.v)] := by
    rw [S60d_5, x_for (it_rng (n := cs.length) (e_blt (es_cons (e_var rfl) es_nil) hl2) (by unfold lenMax; exact Lin.lin [(.le (.v 1) (.k 96)), (.le (.v 0) (.v 1))] (.le (.v 0) (.k 1000000)) (.l [1, 1, 1]) rfl [_, _] [] hlen hcs))]
    refine for_rel (fun k : Nat => V.int k) (fun xs ℓ σ' => ∃ j o, xs = List.range' j (cs.length - j) ∧ j ≤ cs.length ∧ ℓ = [some (.frz l), some (.obj 0), some (.obj 1), some (.obj 2), some (.int ((cs.take j).map (·.c)).sum), o, none, none, none, none, none, none, none, none, none] ∧ σ' = [.list (ts.map T3.v), .list (ts.map T3.v), .list (cs.map T3.v)]) _ ?_ ?_ (List.range cs.length) _ _ ⟨0, none, by simp [List.range_eq_range'], by exact Lin.lin [] (.le (.k 0) (.v 0)) (.l [1]) rfl [_] [], by simp, rfl⟩
    · intro ℓ σ' hX2
      refine Classical.byContradiction fun hnX => ?_
      obtain ⟨j, o, h1, h2, rfl, rfl⟩ := hX2
      refine hnX ?_
      clear hnX
      have : j = cs.length := by
        have := congrArg List.length h1
        simp at this; lia
      subst this
      exact ⟨o, by rw [List.take_length, hsum], rfl⟩
    · intro k xs ℓ σ' hX4
      refine Classical.byContradiction fun hnX => ?_
      obtain ⟨j, o, h1, h2, rfl, rfl⟩ := hX4
      refine hnX ?_
      clear hnX
      refine ⟨by simp, .inl ?_⟩
      have hj : j < cs.length := by
        rcases Nat.lt_or_ge j cs.length with h | h
        · exact h
        · rw [(by exact Lin.lin [(.le (.v 1) (.v 2)), (.or (.an (.le (.v 2) (.v 1)) (.eq (.a (.v 0) (.v 2)) (.v 1))) (.an (.le (.v 1) (.v 2)) (.eq (.v 0) (.k 0))))] (.eq (.v 0) (.k 0)) (.s (.s (.l [1, 0, 1, 0, 1]) (.l [1, 0, 0, 0, 1])) (.s (.l [1, 1, 0, 1]) (.l [1, 0, 0, 1]))) rfl [_, _, _] [] h (Lin.sub_ax _ _) : cs.length - j = 0)] at h1; simp at h1
      obtain ⟨m, hm⟩ : ∃ m, cs.length - j = m + 1 := ⟨cs.length - j - 1, by exact Lin.lin [(.lt (.v 2) (.v 3)), (.or (.an (.le (.k 1) (.v 0)) (.eq (.a (.v 1) (.k 1)) (.v 0))) (.an (.le (.v 0) (.k 1)) (.eq (.v 1) (.k 0)))), (.or (.an (.le (.v 2) (.v 3)) (.eq (.a (.v 0) (.v 2)) (.v 3))) (.an (.le (.v 3) (.v 2)) (.eq (.v 0) (.k 0))))] (.eq (.v 0) (.a (.v 1) (.k 1))) (.s (.s (.s (.l [1, 0, 0, 1]) (.l [1, 0, 0, 1])) (.s (.l [1, 1, 0, 1, 0, 0, 0, 1]) (.l [0, 1, 0, 0, 0, 1]))) (.s (.s (.l [1, 0, 0, 0, 1]) (.l [1, 0, 0, 0, 1])) (.s (.l [1, 0, 1, 0, 1]) (.l [1, 0, 1, 0, 1])))) rfl [_, _, _, _] [] hj (Lin.sub_ax _ _) (Lin.sub_ax _ _)⟩
      rw [hm, List.range'_succ] at h1
      injection h1 with h1 h1'
      subst h1
      have g1 := getIdx_at (σ := [.list (ts.map T3.v), .list (ts.map T3.v), .list (cs.map T3.v)]) (n := 2) (l := cs.map T3.v) rfl (k := k) (by simpa using hj)
      have e : (cs.map T3.v)[k]'(by simpa using hj) = cs[k].v := by simp
      rw [e] at g1
      have ht := ev_triple h25 h32 (d + 1) cs[k] [.list (ts.map T3.v), .list (ts.map T3.v), .list (cs.map T3.v)]
      have hcc := ev_clump h31 (d + 2) cs[k] [.list (ts.map T3.v), .list (ts.map T3.v), .list (cs.map T3.v)] 0 ts rfl (by exact Lin.lin [(.le (.v 0) (.k 96))] (.le (.v 0) (.k 1000)) (.l [1, 1]) rfl [_] [] hlen) (hown _ (List.getElem_mem hj))
      have hs : ((cs.take (k + 1)).map (·.c)).sum = ((cs.take k).map (·.c)).sum + cs[k].c := by
        rw [List.take_add_one, List.getElem?_eq_getElem hj, List.map_append, List.sum_append]; simp only [Option.toList_some, List.map_cons, List.map_nil, List.sum_cons, List.sum_nil, Int.add_zero]
      have hend : ∀ o : Option V, execs ⟨pg, callF pg (d + 3)⟩ (Ss.cons (St.asg (Tg.one 4) (Ex.bin Bop.add (Ex.var 4) (Ex.idx (Ex.idx (Ex.var 3) (Ex.var 5)) (Ex.lit (V.int 2))))) Ss.nil) [some (.frz l), some (.obj 0), some (.obj 1), some (.obj 2), some (.int ((cs.take k).map (·.c)).sum), some (.int k), none, none, none, none, none, none, none, none, none] [.list (ts.map T3.v), .list (ts.map T3.v), .list (cs.map T3.v)] = some (.next, [some (.frz l), some (.obj 0), some (.obj 1), some (.obj 2), some (.int ((cs.take (k + 1)).map (·.c)).sum), some (.int k), none, none, none, none, none, none, none, none, none], [.list (ts.map T3.v), .list (ts.map T3.v), .list (cs.map T3.v)]) := fun _ => by
        rw [hs]; exact xs_one (x_asg (e_bin (e_var rfl) (e_idx (e_idx (e_var rfl) (e_var rfl) g1) e_lit (getIdx_v2 _ _)) (bin_add _ _ _)) rfl)
      have hc1 := x_iff (C := ⟨pg, callF pg (d + 3)⟩) (s := (Ss.cons (St.ret (Ex.lit (V.bool false))) Ss.nil)) (t := Ss.nil) (ℓ := [some (.frz l), some (.obj 0), some (.obj 1), some (.obj 2), some (.int ((cs.take k).map (·.c)).sum), some (.int k), none, none, none, none, none, none, none, none, none]) (e_orf (notT (e_call (es_cons (e_idx (e_var (i := 3) rfl) (e_var (i := 5) rfl) g1) es_nil) ht)) (notT (e_call (es_cons (e_idx (e_var (i := 3) rfl) (e_var (i := 5) rfl) g1) (es_cons (e_var (i := 1) rfl) es_nil)) hcc))) xs_nil
      refine ⟨_, _, xs_cons hc1 (xs_cons (x_iff (σ1 := [.list (ts.map T3.v), .list (ts.map T3.v), .list (cs.map T3.v)]) ?_ xs_nil) (hend none)), trivial, k + 1, _, by rw [h1', (by exact Lin.lin [(.eq (.v 2) (.a (.v 1) (.k 1))), (.or (.an (.le (.v 3) (.v 4)) (.eq (.a (.v 2) (.v 3)) (.v 4))) (.an (.le (.v 4) (.v 3)) (.eq (.v 2) (.k 0)))), (.or (.an (.le (.a (.v 3) (.k 1)) (.v 4)) (.eq (.a (.v 0) (.a (.v 3) (.k 1))) (.v 4))) (.an (.le (.v 4) (.a (.v 3) (.k 1))) (.eq (.v 0) (.k 0))))] (.eq (.v 0) (.v 1)) (.s (.s (.s (.l [1, 0, 1, 0, 1, 0, 0, 0, 1]) (.l [1, 0, 1, 0, 1, 0, 1, 0, 1])) (.s (.l [0, 0, 0, 1, 0, 0, 1]) (.l [1, 0, 1, 0, 1, 0, 0, 0, 1]))) (.s (.s (.l [1, 1, 0, 0, 0, 1, 0, 1]) (.l [1, 0, 0, 0, 0, 0, 0, 1])) (.s (.l [0, 0, 0, 1, 0, 0, 1]) (.l [0, 0, 1, 0, 1])))) rfl [_, _, _, _, _] [] hm (Lin.sub_ax _ _) (Lin.sub_ax _ _) : cs.length - (k + 1) = m)], by exact Lin.lin [(.lt (.v 0) (.v 1))] (.le (.a (.v 0) (.k 1)) (.v 1)) (.l [1, 1]) rfl [_, _] [] hj, rfl, rfl⟩
      by_cases c0 : 0 < k
      · obtain ⟨k', rfl⟩ : ∃ k', k = k' + 1 := ⟨k - 1, by exact Lin.lin [(.lt (.k 0) (.v 0)), (.or (.an (.le (.k 1) (.v 0)) (.eq (.a (.v 1) (.k 1)) (.v 0))) (.an (.le (.v 0) (.k 1)) (.eq (.v 1) (.k 0))))] (.eq (.v 0) (.a (.v 1) (.k 1))) (.s (.s (.l [1, 0, 0, 1]) (.l [1, 1, 0, 1])) (.s (.l [1, 0, 0, 0, 1]) (.l [1, 0, 1, 0, 1]))) rfl [_, _] [] c0 (Lin.sub_ax _ _)⟩
        have g2 := getIdx_at (σ := [.list (ts.map T3.v), .list (ts.map T3.v), .list (cs.map T3.v)]) (n := 2) (l := cs.map T3.v) rfl (k := k') (by simp; exact Lin.lin [(.le (.a (.v 0) (.k 1)) (.v 1))] (.lt (.v 0) (.v 1)) (.l [1, 1]) rfl [_, _] [] h2)
        have e2 : (cs.map T3.v)[k']'(by simp; lia) = (cs[k']'(by lia)).v := by simp
        rw [e2] at g2
        have hlt : ¬ cs[k' + 1].a ≤ (cs[k']'(by exact Lin.lin [(.le (.a (.v 0) (.k 1)) (.v 1))] (.lt (.v 0) (.v 1)) (.l [1, 1]) rfl [_, _] [] h2)).b := by
          have := List.pairwise_iff_getElem.mp hap' k' (k' + 1) (by exact Lin.lin [(.le (.a (.v 0) (.k 1)) (.v 1))] (.lt (.v 0) (.v 1)) (.l [1, 1]) rfl [_, _] [] h2) hj (by exact Lin.lin [] (.lt (.v 0) (.a (.v 0) (.k 1))) (.l [1]) rfl [_] [])
          lia
        have hsb : ∀ σ, binop .sub (.int ((k' + 1 : Nat) : Int)) (.int 1) σ = some (.int k', σ) := fun σ => by rw [bin_sub, show ((k' + 1 : Nat) : Int) - 1 = k' by exact Lin.lin [] (.zeq (.s (.n (.a (.v 0) (.k 1))) (.k 1)) (.n (.v 0))) (.s (.l [1]) (.l [1])) rfl [_] []]
        exact e_andt (e_cmp (e_var rfl) e_lit (gtT (by exact Lin.lin [] (.zlt (.k 0) (.n (.a (.v 0) (.k 1)))) (.l [1]) rfl [_] []))) (e_cmp (e_idx (e_idx (e_var rfl) (e_bin (e_var rfl) e_lit (hsb _)) g2) e_lit (getIdx_v1 _ _)) (e_idx (e_idx (e_var rfl) (e_var rfl) g1) e_lit (getIdx_v0 _ _)) (geF hlt))
      · exact e_andf (e_cmp (e_var rfl) e_lit (gtF (by exact Lin.lin [(.no (.lt (.k 0) (.v 0)))] (.no (.zlt (.k 0) (.n (.v 0)))) (.l [1, 1]) rfl [_] [] c0)))
  refine Classical.byContradiction fun hnX => ?_
  obtain ⟨_, _, eB, o, rfl, rfl⟩ := eB
  refine hnX ?_
  clear hnX
  exact ev_law h60 rfl (xs_cons (x_asg (e_call (es_cons (e_var rfl) (es_cons e_lit es_nil)) r0) rfl)
    (xs_cons (x_asg (e_blt (es_cons (e_var rfl) es_nil) hml) rfl)
    (xs_cons (x_asg (e_call (es_cons (e_var rfl) es_nil) hc1) rfl)
    (xs_cons (x_iff (e_orf (notT (e_blt (es_cons (e_var rfl) (es_cons e_ty es_nil)) rfl)) (notT (e_call (es_cons (e_var rfl) (es_cons (e_var rfl) es_nil)) hi3))) xs_nil)
    (xs_cons (x_asg e_lit rfl)
    (xs_cons eB
    (xs_cons (x_asg (e_blt (es_cons (e_var rfl) es_nil) hml2) rfl)
    (xs_cons (x_expr (e_mth (e_var rfl) (es_cons (e_tup (es_cons e_lit (es_cons e_lit (es_cons e_lit es_nil))) rfl) es_nil) hap))
    (xs_ret (x_ret (e_andt (e_cmp (e_var rfl) (e_blt (es_cons (e_var rfl) es_nil) hl0) (eqT rfl)) (e_cmp (e_call (es_cons (e_var rfl) es_nil) hc2) (e_var rfl) heq))))))))))) ) rfl
end Mini

open PySem PySem.W PyProof.Rows
set_option Elab.async false
namespace Mini
noncomputable def md1 : Nat → Mode := fun n => if n = 5 ∨ n = 28 then .fresh else .pure
noncomputable def noAsg : Stmt → Bool
  | .Assign .. => false
  | _ => true
/-- the text without the rows that set its name -/
noncomputable def vw : Program := { PySem.Challenge.pw_uf060001_04 with main := { PySem.Challenge.pw_uf060001_04.main with body := PySem.Challenge.pw_uf060001_04.main.body.filter noAsg } }
set_option maxRecDepth 100000 in
theorem left_ok : LeftO PySem.Challenge.pw_uf060001_04 vw [] (fun s => xlAt vw [] s && recOk [] s) (Hook.obs Hook.none) (Hook.val Hook.none) 4000 := by
  intro w
  kernel_rfl
end Mini
set_option maxRecDepth 100000 in
set_option maxHeartbeats 8000000 in
theorem PySem.Challenge.cw_uf060001_04_holds : PySem.Challenge.rw_uf060001_04.Holds := by
  w_on
  refine holds_law (by decide +kernel) fun said => ?_
  refine holds_open (q := Mini.vw) (loose := []) (Xt := fun s => xlAt Mini.vw [] s && recOk [] s) (XP := XL Mini.vw []) (Yf := Hook.obs Hook.none) (Ya := Hook.val Hook.none) (YP := Hook.says Hook.none) (N := 4000) Mini.left_ok (Hook.of Hook.none) (Hook.keeps Hook.none) (fun s e => xl_of s (Bool.and_eq_true_iff.mp e).1) XL.keeps (by rfl) (by rfl) (by rfl) (fun s e => recFacts_of (Bool.and_eq_true_iff.mp e).2) (by rfl) said (by decide +kernel) ⟨rfl, rfl, rfl, rfl, rfl, by decide +kernel⟩ ?hw ?hc
  case hw => w_witness2
  intro w s₀ s₁ mg mb G Y fa o pm cd doc dV kV ho hd hcd hD hmg hg args vals as hpre hlay hrd hwl hlo
  refine Ground.open G ?_
  intro T B D TE TW
  wrow_args hpre hlay hrd hwl hlo
  rename_i scr hs hlay0 hLay hr1 hl2 wa4 wa3 ax vs wa0 hL ra w1 r0 hI hr hc1 hc0
  clear hd hcd hD ho Y
  obtain ⟨vs', hx, hv⟩ := Mini.well_ints (K := ⟨_, w, s₁.heap, Mini.tyOf, Mini.fnaOf mg⟩) (h' := s₁.heap) w1
  refine Mini.law_end (σ' := []) (bl := Mini.bltNames) (md := Mini.md1) (d := 60) (n := 60) (x := Str.ofString "law") (fun _ _ h => h) T _ w ?q1 ?q2 Mini.rm_caller (fun _ _ _ => Mini.sort_ok) rfl hx hv ?q3 rfl hmg ?q4 ?q5
  case q1 => decide +kernel
  case q2 => decide +kernel
  case q3 => have : scr.length ≤ 63 := by omega
             exact Nat.le_trans this (by decide)
  case q4 => exact Mini.law04 rfl rfl rfl rfl rfl rfl rfl rfl rfl rfl 56 scr (Mini.script_small hLay)
  case q5 =>
    intro s' k1 k2 k3
    exact GoodW.toG ⟨.inl ⟨_, .bool true, [], rfl, fun _ => rfl, .bool _, by wrow_post, fun _ => ⟨List.nodup_nil, nofun⟩⟩, k1, k2, k3.trans hg⟩

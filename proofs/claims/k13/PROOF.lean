import PyProof.Rows.All
import Wide.All
import OpenK.AllK
import Wide.FinOn
import HandS.ForMost
import HandS.IsInst
import HandS.Conv
import HandS.Style
import HandS.TupAny
import HandS.Evl
import HandS.NoneIn
import PySem.Challenge.RW_cutlinked_k13_whole_papers_of_reachings
set_option Elab.async false
set_option linter.all false
namespace K13

/-! ### sums over a range -/
def sumF (n : Nat) (f : Nat → Nat) : Nat := ((List.range n).map f).sum
theorem sumF_succ (n : Nat) (f : Nat → Nat) : sumF (n + 1) f = sumF n f + f n := by
  simp [sumF, List.range_succ, List.sum_append]
theorem sumF_congr {n : Nat} {f g : Nat → Nat} (h : ∀ i, i < n → f i = g i) : sumF n f = sumF n g := by
  induction n with
  | zero => rfl
  | succ n ih => rw [sumF_succ, sumF_succ, ih (fun i hi => h i (by omega)), h n (by omega)]
theorem sumF_le {n : Nat} {f g : Nat → Nat} (h : ∀ i, i < n → f i ≤ g i) : sumF n f ≤ sumF n g := by
  induction n with
  | zero => exact Nat.le_refl _
  | succ n ih =>
    rw [sumF_succ, sumF_succ]
    have := ih (fun i hi => h i (by omega))
    have := h n (by omega)
    omega
theorem sumF_add (n : Nat) (f g : Nat → Nat) : sumF n (fun i => f i + g i) = sumF n f + sumF n g := by
  induction n with
  | zero => rfl
  | succ n ih => rw [sumF_succ, sumF_succ, sumF_succ, ih]; omega
theorem sumF_one (n : Nat) : sumF n (fun _ => 1) = n := by
  induction n with
  | zero => rfl
  | succ n ih => rw [sumF_succ, ih]
theorem sumF_zero (n : Nat) : sumF n (fun _ => 0) = 0 := by
  induction n with
  | zero => rfl
  | succ n ih => rw [sumF_succ, ih]
/-- the sum of a function that differs at one place -/
theorem sumF_at {n a : Nat} {f g : Nat → Nat} (ha : a < n) (h : ∀ i, i < n → i ≠ a → f i = g i) : sumF n f + g a = sumF n g + f a := by
  induction n with
  | zero => omega
  | succ n ih =>
    rw [sumF_succ, sumF_succ]
    by_cases e : a = n
    · subst e
      rw [sumF_congr (n := a) (f := f) (g := g) (fun i hi => h i (by omega) (by omega))]; omega
    · have := ih (by omega) (fun i hi hne => h i (by omega) hne)
      have := h n (by omega) (fun q => e q.symm)
      omega
theorem sumF_swap (n m : Nat) (f : Nat → Nat → Nat) : sumF n (fun i => sumF m (f i)) = sumF m (fun j => sumF n (fun i => f i j)) := by
  induction n with
  | zero => exact (sumF_zero m).symm
  | succ n ih =>
    rw [sumF_succ, ih, ← sumF_add]
    exact sumF_congr (fun j _ => (sumF_succ n _).symm)
/-- one at most, by whether it is there -/
theorem sumF_single {n : Nat} {f : Nat → Nat} {a : Nat} (ha : a < n) (h : ∀ i, i < n → i ≠ a → f i = 0) : sumF n f = f a := by
  have := sumF_at (n := n) (a := a) (f := f) (g := fun _ => 0) ha h
  rw [sumF_zero] at this; omega

/-! ### forests by their ups -/
abbrev Upf := Nat → Option Nat
def Acyc (U : Upf) : Prop := ∃ m : Nat → Nat, ∀ c p, U c = some p → m p < m c
/-- no house from n on is there -/
structure Cl (n : Nat) (U : Upf) : Prop where
  below : ∀ c p, U c = some p → p < n
  out : ∀ c, n ≤ c → U c = none
inductive Anc (U : Upf) : Nat → Nat → Prop where
  | refl (g : Nat) : Anc U g g
  | step {g p h : Nat} : U g = some p → Anc U p h → Anc U g h
theorem Anc.trans {U : Upf} {a b c : Nat} (h : Anc U a b) (k : Anc U b c) : Anc U a c := by
  induction h with
  | refl => exact k
  | step e _ ih => exact .step e (ih k)
theorem Anc.inv {U : Upf} {g h : Nat} (k : Anc U g h) (ne : g ≠ h) : ∃ p, U g = some p ∧ Anc U p h := by
  cases k with
  | refl => exact absurd rfl ne
  | step e r => exact ⟨_, e, r⟩
theorem Anc.cases' {U : Upf} {g h p : Nat} (k : Anc U g h) (e : U g = some p) : g = h ∨ Anc U p h := by
  cases k with
  | refl => exact .inl rfl
  | step e' r => rw [e] at e'; cases e'; exact .inr r
theorem Anc.none {U : Upf} {g h : Nat} (k : Anc U g h) (e : U g = none) : g = h := by
  cases k with
  | refl => rfl
  | step e' r => rw [e] at e'; cases e'
theorem Anc.le {U : Upf} {m : Nat → Nat} (hm : ∀ c p, U c = some p → m p < m c) {g h : Nat} (k : Anc U g h) : g = h ∨ m h < m g := by
  induction k with
  | refl => exact .inl rfl
  | step e r ih => have := hm _ _ e; rcases ih with rfl | ih <;> omega
theorem Anc.anti {U : Upf} (ac : Acyc U) {g h : Nat} (k : Anc U g h) (r : Anc U h g) : g = h := by
  obtain ⟨m, hm⟩ := ac
  rcases k.le hm with e | e
  · exact e
  · rcases r.le hm with e' | e'
    · exact e'.symm
    · omega
theorem Anc.belowN {U : Upf} {n : Nat} (cl : Cl n U) {g h : Nat} (k : Anc U g h) (hg : g < n) : h < n := by
  induction k with
  | refl => exact hg
  | step e r ih => exact ih (cl.below _ _ e)
theorem Anc.start {U : Upf} {n : Nat} (cl : Cl n U) {g h : Nat} (k : Anc U g h) (hh : h < n) : g < n := by
  cases k with
  | refl => exact hh
  | step e r => exact Nat.lt_of_not_le (fun q => by rw [cl.out _ q] at e; cases e)
/-- two ways up from one house lie on one another -/
theorem Anc.line {U : Upf} {g a b : Nat} (k : Anc U g a) (r : Anc U g b) : Anc U a b ∨ Anc U b a := by
  induction k with
  | refl => exact .inl r
  | step e k' ih =>
    rcases r.cases' e with rfl | r'
    · exact .inr (.step e k')
    · exact ih r'
theorem up_ne {U : Upf} (ac : Acyc U) {c p : Nat} (e : U c = some p) : p ≠ c := by
  obtain ⟨m, hm⟩ := ac
  intro q; subst q; exact Nat.lt_irrefl _ (hm _ _ e)
theorem not_down {U : Upf} (ac : Acyc U) {c p : Nat} (e : U c = some p) : ¬ Anc U p c := fun k =>
  up_ne ac e (Anc.anti ac k (.step e (.refl _)))
/-- two sons of one house have nothing in common -/
theorem apart {U : Upf} (ac : Acyc U) {a b p g : Nat} (ea : U a = some p) (eb : U b = some p) (ne : a ≠ b) (ka : Anc U g a) (kb : Anc U g b) : False := by
  rcases ka.line kb with h | h
  · rcases h.cases' ea with e | h
    · exact ne e
    · exact not_down ac eb h
  · rcases h.cases' eb with e | h
    · exact ne e.symm
    · exact not_down ac ea h

open Classical in
noncomputable def ind (p : Prop) : Nat := if p then 1 else 0
theorem ind_true {p : Prop} (h : p) : ind p = 1 := by unfold ind; rw [if_pos h]
theorem ind_false {p : Prop} (h : ¬ p) : ind p = 0 := by unfold ind; rw [if_neg h]
theorem ind_le {p q : Prop} (h : p → q) : ind p ≤ ind q := by
  by_cases hp : p
  · rw [ind_true hp, ind_true (h hp)]; exact Nat.le_refl _
  · rw [ind_false hp]; exact Nat.zero_le _
theorem ind_one (p : Prop) : ind p ≤ 1 := by
  by_cases hp : p
  · rw [ind_true hp]; exact Nat.le_refl _
  · rw [ind_false hp]; exact Nat.zero_le _
theorem ind_congr {p q : Prop} (h : p ↔ q) : ind p = ind q := by rw [propext h]
/-- the weight of a house -/
noncomputable def wt (n : Nat) (U : Upf) (h : Nat) : Nat := sumF n (fun g => ind (Anc U g h))
theorem wt_le (n : Nat) (U : Upf) (h : Nat) : wt n U h ≤ n := by
  have := sumF_le (n := n) (f := fun g => ind (Anc U g h)) (g := fun _ => 1) (fun i _ => ind_one _)
  rw [sumF_one] at this; exact this
theorem wt_pos {n : Nat} {U : Upf} {h : Nat} (hh : h < n) : 1 ≤ wt n U h := by
  have := sumF_le (n := n) (f := fun g => if g = h then 1 else 0) (g := fun g => ind (Anc U g h)) (fun i _ => by
    by_cases e : i = h
    · subst e; rw [ind_true (.refl _), if_pos rfl]; exact Nat.le_refl _
    · rw [if_neg e]; exact Nat.zero_le _)
  rw [sumF_single (a := h) hh (fun i _ ne => if_neg ne), if_pos rfl] at this
  exact this
/-- the weights of two sons and their up -/
theorem wt_sons {n : Nat} {U : Upf} (ac : Acyc U) {a b p : Nat} (ea : U a = some p) (eb : U b = some p) (ne : a ≠ b) (hp : p < n) : wt n U a + wt n U b + 1 ≤ wt n U p := by
  have h : sumF n (fun g => ind (Anc U g a) + ind (Anc U g b) + (if g = p then 1 else 0)) ≤ wt n U p := sumF_le (fun g _ => by
    by_cases ka : Anc U g a
    · have kb : ¬ Anc U g b := fun kb => apart ac ea eb ne ka kb
      have np : g ≠ p := fun e => by subst e; exact not_down ac ea ka
      rw [ind_true ka, ind_false kb, ind_true (ka.trans (.step ea (.refl _))), if_neg np]; exact Nat.le_refl _
    · by_cases kb : Anc U g b
      · have np : g ≠ p := fun e => by subst e; exact not_down ac eb kb
        rw [ind_false ka, ind_true kb, ind_true (kb.trans (.step eb (.refl _))), if_neg np]; exact Nat.le_refl _
      · rw [ind_false ka, ind_false kb]
        by_cases e : g = p
        · subst e; rw [ind_true (.refl _), if_pos rfl]; exact Nat.le_refl _
        · rw [if_neg e]; omega)
  rw [sumF_add, sumF_add, sumF_single (n := n) (a := p) (f := fun g => if g = p then 1 else 0) hp (fun i _ ne => if_neg ne), if_pos rfl] at h
  exact h
theorem wt_up {n : Nat} {U : Upf} (ac : Acyc U) {a p : Nat} (ea : U a = some p) (hp : p < n) : wt n U a + 1 ≤ wt n U p := by
  have h : sumF n (fun g => ind (Anc U g a) + (if g = p then 1 else 0)) ≤ wt n U p := sumF_le (fun g _ => by
    by_cases ka : Anc U g a
    · have np : g ≠ p := fun e => by subst e; exact not_down ac ea ka
      rw [ind_true ka, ind_true (ka.trans (.step ea (.refl _))), if_neg np]; exact Nat.le_refl _
    · rw [ind_false ka]
      by_cases e : g = p
      · subst e; rw [ind_true (.refl _), if_pos rfl]; exact Nat.le_refl _
      · rw [if_neg e]; omega)
  rw [sumF_add, sumF_single (n := n) (a := p) (f := fun g => if g = p then 1 else 0) hp (fun i _ ne => if_neg ne), if_pos rfl] at h
  exact h

/-! ### a turn, by the ups -/
structure Rot (U U' : Upf) (x p : Nat) (m : Option Nat) : Prop where
  up : U x = some p
  up' : U' p = some x
  top : U' x = U p
  ne : x ≠ p
  mid : ∀ c, m = some c → U c = some x ∧ U' c = some p ∧ c ≠ x ∧ c ≠ p
  other : ∀ i, i ≠ x → i ≠ p → m ≠ some i → U' i = U i
theorem Rot.symm {U U' : Upf} {x p : Nat} {m : Option Nat} (R : Rot U U' x p m) : Rot U' U p x m where
  up := R.up'
  up' := R.up
  top := R.top.symm
  ne := R.ne.symm
  mid := fun c e => let ⟨a, b, c, d⟩ := R.mid c e; ⟨b, a, d, c⟩
  other := fun i h1 h2 h3 => (R.other i h2 h1 h3).symm
theorem Rot.anc1 {U U' : Upf} {x p : Nat} {m : Option Nat} (R : Rot U U' x p m) {g h : Nat} (k : Anc U g h) (hx : h ≠ x) (hp : h ≠ p) : Anc U' g h := by
  induction k with
  | refl => exact .refl _
  | @step g q h e k ih =>
    have ih2 := ih hx hp
    clear ih
    by_cases gx : g = x
    · subst gx
      rw [R.up] at e; cases e
      rcases ih2.cases' R.up' with e | r
      · exact absurd e.symm hp
      · exact r
    · by_cases gp : g = p
      · subst gp
        exact .step R.up' (.step (R.top.trans e) ih2)
      · by_cases gm : m = some g
        · obtain ⟨a, b, _, _⟩ := R.mid g gm
          rw [a] at e; cases e
          exact .step b (.step R.up' ih2)
        · exact .step ((R.other g gx gp gm).trans e) ih2
theorem Rot.anc {U U' : Upf} {x p : Nat} {m : Option Nat} (R : Rot U U' x p m) {g h : Nat} (hx : h ≠ x) (hp : h ≠ p) : Anc U' g h ↔ Anc U g h :=
  ⟨fun k => R.symm.anc1 k hp hx, fun k => R.anc1 k hx hp⟩
theorem Rot.top1 {U U' : Upf} {x p : Nat} {m : Option Nat} (R : Rot U U' x p m) {g h : Nat} (k : Anc U g h) (e : h = p) : Anc U' g x := by
  induction k with
  | refl => subst e; exact .step R.up' (.refl _)
  | @step g q h e' k ih =>
    have ih2 := ih e
    clear ih
    by_cases gx : g = x
    · subst gx; exact .refl _
    · by_cases gp : g = p
      · subst gp; exact .step R.up' (.refl _)
      · by_cases gm : m = some g
        · obtain ⟨a, b, _, _⟩ := R.mid g gm
          exact .step b (.step R.up' (.refl _))
        · exact .step ((R.other g gx gp gm).trans e') ih2
theorem Rot.ancTop {U U' : Upf} {x p : Nat} {m : Option Nat} (R : Rot U U' x p m) {g : Nat} : Anc U' g x ↔ Anc U g p :=
  ⟨fun k => R.symm.top1 k rfl, fun k => R.top1 k rfl⟩
theorem Rot.wt {U U' : Upf} {x p : Nat} {m : Option Nat} (R : Rot U U' x p m) (n : Nat) {h : Nat} (hx : h ≠ x) (hp : h ≠ p) : wt n U' h = wt n U h :=
  sumF_congr (fun g _ => ind_congr (R.anc hx hp))
theorem Rot.wtTop {U U' : Upf} {x p : Nat} {m : Option Nat} (R : Rot U U' x p m) (n : Nat) : K13.wt n U' x = K13.wt n U p :=
  sumF_congr (fun g _ => ind_congr R.ancTop)
theorem Rot.acyc {U U' : Upf} {x p : Nat} {m : Option Nat} (R : Rot U U' x p m) (ac : Acyc U) : Acyc U' := by
  obtain ⟨μ, hm⟩ := ac
  refine ⟨fun i => if i = x then 2 * μ p else if i = p then 2 * μ p + 1 else 2 * μ i, fun c q e => ?_⟩
  have xp := hm _ _ R.up
  by_cases cx : c = x
  · subst cx
    rw [R.top] at e
    have := hm _ _ e
    have qp : q ≠ p := fun z => by subst z; omega
    have qx : q ≠ c := fun z => by subst z; omega
    simp only [if_pos, if_neg qx, if_neg qp]; omega
  · by_cases cp : c = p
    · subst cp
      rw [R.up'] at e; cases e
      simp only [if_pos, if_neg cx]; omega
    · by_cases cm : m = some c
      · obtain ⟨a, b, _, _⟩ := R.mid c cm
        rw [b] at e; cases e
        have := hm _ _ a
        simp only [if_pos, if_neg cx, if_neg cp, if_neg R.ne.symm]; omega
      · rw [R.other c cx cp cm] at e
        have := hm _ _ e
        simp only [if_neg cx, if_neg cp]
        by_cases qx : q = x
        · subst qx; simp only [if_pos]; omega
        · by_cases qp : q = p
          · subst qp; simp only [if_pos, if_neg qx]; omega
          · simp only [if_neg qx, if_neg qp]; omega
theorem Rot.cl {U U' : Upf} {x p : Nat} {m : Option Nat} (R : Rot U U' x p m) {n : Nat} (cl : Cl n U) : Cl n U' := by
  have hp : p < n := cl.below _ _ R.up
  have hx : x < n := Nat.lt_of_not_le (fun q => by have := cl.out _ q; rw [R.up] at this; cases this)
  refine ⟨fun c q e => ?_, fun c hc => ?_⟩
  · by_cases cx : c = x
    · subst cx; rw [R.top] at e; exact cl.below _ _ e
    · by_cases cp : c = p
      · subst cp; rw [R.up'] at e; cases e; exact hx
      · by_cases cm : m = some c
        · rw [(R.mid c cm).2.1] at e; cases e; exact hp
        · rw [R.other c cx cp cm] at e; exact cl.below _ _ e
  · have cx : c ≠ x := by omega
    have cp : c ≠ p := by omega
    have cm : m ≠ some c := fun e => by
      have := (R.mid c e).1
      rw [cl.out c hc] at this; cases this
    rw [R.other c cx cp cm]; exact cl.out c hc

/-! ### ranks -/
def lg (k : Nat) : Nat := k.log2
theorem lg_mono {a b : Nat} (h : a ≤ b) : lg a ≤ lg b := by
  unfold lg
  by_cases ha : a = 0
  · subst ha; simp
  · have hb : b ≠ 0 := by omega
    exact (Nat.le_log2 hb).mpr (Nat.le_trans (Nat.log2_self_le ha) h)
theorem lg_two {a b c r : Nat} (ha : a ≠ 0) (hb : b ≠ 0) (h : a + b ≤ c) (e1 : lg a = r) (e2 : lg b = r) (e3 : lg c ≤ r) : False := by
  unfold lg at *
  have h1 := Nat.log2_self_le ha
  have h2 := Nat.log2_self_le hb
  have hc : c ≠ 0 := by omega
  have h3 : c < 2 ^ (r + 1) := (Nat.log2_lt hc).mp (by omega)
  rw [e1] at h1
  rw [e2] at h2
  rw [Nat.pow_succ] at h3
  omega
noncomputable def Phi (n : Nat) (U : Upf) : Nat := sumF n (fun h => lg (wt n U h))
theorem Rot.phi {U U' : Upf} {x p : Nat} {m : Option Nat} (R : Rot U U' x p m) {n : Nat} (cl : Cl n U) : Phi n U' + lg (K13.wt n U x) = Phi n U + lg (K13.wt n U' p) := by
  have hp : p < n := cl.below _ _ R.up
  have hx : x < n := Nat.lt_of_not_le (fun q => by have := cl.out _ q; rw [R.up] at this; cases this)
  let f : Nat → Nat := fun h => lg (K13.wt n U h)
  let f' : Nat → Nat := fun h => lg (K13.wt n U' h)
  let g : Nat → Nat := fun h => if h = p then f' h else f h
  have a1 := sumF_at (n := n) (a := p) (f := f) (g := g) hp (fun i _ ne => (if_neg ne).symm)
  have a2 := sumF_at (n := n) (a := x) (f := f') (g := g) hx (fun i _ ne => by
    show f' i = if i = p then f' i else f i
    by_cases e : i = p
    · rw [if_pos e]
    · rw [if_neg e]; show lg (K13.wt n U' i) = lg (K13.wt n U i); rw [R.wt n ne e])
  have gp : g p = f' p := if_pos rfl
  have gx : g x = f x := if_neg R.ne
  have fx : f' x = f p := by show lg _ = lg _; rw [R.wtTop n]
  rw [gp] at a1
  rw [gx] at a2
  show sumF n f' + f x = sumF n f + f' p
  omega
/-- a step of one turn -/
theorem zig {n : Nat} {U U' : Upf} {x p : Nat} {m : Option Nat} (R : Rot U U' x p m) (cl : Cl n U) (ac : Acyc U) : (Phi n U' : Int) + lg (wt n U x) ≤ Phi n U + lg (wt n U' x) ∧ wt n U x < wt n U' x := by
  have h := R.phi cl
  have hp : p < n := cl.below _ _ R.up
  have hx : x < n := Nat.lt_of_not_le (fun q => by have := cl.out _ q; rw [R.up] at this; cases this)
  have h1 := wt_up (n := n) (R.acyc ac) R.up' hx
  have h2 := wt_up (n := n) ac R.up hp
  have h3 := R.wtTop n
  have h4 := lg_mono (show wt n U' p ≤ wt n U' x by omega)
  omega
/-- x, p, g: the one ahead turned up first, then x -/
theorem zigzig {n : Nat} {U U1 U2 : Upf} {x p g : Nat} {m1 m2 : Option Nat} (R1 : Rot U U1 p g m1) (R2 : Rot U1 U2 x p m2) (cl : Cl n U) (ac : Acyc U) (hx : U x = some p) (mx : m1 ≠ some x) :
    (Phi n U2 : Int) + 1 + 3 * lg (wt n U x) ≤ Phi n U + 3 * lg (wt n U2 x) ∧ wt n U x < wt n U2 x := by
  have cl1 := R1.cl cl
  have ac1 := R1.acyc ac
  have ac2 := R2.acyc ac1
  have hg : g < n := cl.below _ _ R1.up
  have hp : p < n := cl.below _ _ hx
  have hxn : x < n := Nat.lt_of_not_le (fun q => by have := cl.out _ q; rw [hx] at this; cases this)
  have xp : x ≠ p := R2.ne
  have xg : x ≠ g := fun e => by subst e; exact not_down ac hx (.step R1.up (.refl _))
  have f1 := R1.phi cl
  have f2 := R2.phi cl1
  have w1x : wt n U1 x = wt n U x := R1.wt n xp xg
  have w1p : wt n U1 p = wt n U g := R1.wtTop n
  have w2x : wt n U2 x = wt n U1 p := R2.wtTop n
  have u1x : U1 x = some p := R2.up
  have s1 := wt_sons (n := n) ac1 u1x R1.up' xg hp
  have s2 := wt_up (n := n) ac2 R2.up' hxn
  have s3 := wt_up (n := n) ac hx hp
  have s4 := wt_up (n := n) ac R1.up hg
  have l1 := lg_mono (show wt n U2 p ≤ wt n U2 x by omega)
  have l2 := lg_mono (show wt n U x ≤ wt n U p by omega)
  have l3 := lg_mono (show wt n U p ≤ wt n U2 x by omega)
  have l4 := lg_mono (show wt n U1 g ≤ wt n U2 x by omega)
  have p1 := wt_pos (n := n) (U := U) hxn
  have p2 := wt_pos (n := n) (U := U1) hg
  refine ⟨?_, by omega⟩
  by_cases d : lg (wt n U2 x) = lg (wt n U x)
  · have : lg (wt n U1 g) ≠ lg (wt n U2 x) := fun e => lg_two (a := wt n U1 g) (b := wt n U x) (c := wt n U2 x) (by omega) (by omega) (by omega) e d.symm (Nat.le_refl _)
    rw [w1x] at f2
    omega
  · rw [w1x] at f2
    omega
/-- x, p, g: x turned up twice -/
theorem zigzag {n : Nat} {U U1 U2 : Upf} {x p g : Nat} {m1 m2 : Option Nat} (R1 : Rot U U1 x p m1) (R2 : Rot U1 U2 x g m2) (cl : Cl n U) (ac : Acyc U) (hp' : U p = some g) (mp : m2 ≠ some p) :
    (Phi n U2 : Int) + 1 + 3 * lg (wt n U x) ≤ Phi n U + 3 * lg (wt n U2 x) ∧ wt n U x < wt n U2 x := by
  have cl1 := R1.cl cl
  have ac1 := R1.acyc ac
  have ac2 := R2.acyc ac1
  have hg : g < n := cl.below _ _ hp'
  have hp : p < n := cl.below _ _ R1.up
  have hxn : x < n := Nat.lt_of_not_le (fun q => by have := cl.out _ q; rw [R1.up] at this; cases this)
  have xp : x ≠ p := R1.ne
  have xg : x ≠ g := R2.ne
  have pg : p ≠ g := (up_ne ac hp').symm
  have f1 := R1.phi cl
  have f2 := R2.phi cl1
  have w1x : wt n U1 x = wt n U p := R1.wtTop n
  have w1g : wt n U1 g = wt n U g := R1.wt n xg.symm pg.symm
  have w2x : wt n U2 x = wt n U1 g := R2.wtTop n
  have w2p : wt n U2 p = wt n U1 p := R2.wt n xp.symm pg
  have u2p : U2 p = some x := (R2.other p xp.symm pg mp).trans R1.up'
  have s1 := wt_sons (n := n) ac2 u2p R2.up' pg hxn
  have s3 := wt_up (n := n) ac R1.up hp
  have s4 := wt_up (n := n) ac hp' hg
  have l2 := lg_mono (show wt n U x ≤ wt n U p by omega)
  have l3 := lg_mono (show wt n U p ≤ wt n U2 x by omega)
  have l4 := lg_mono (show wt n U2 p ≤ wt n U2 x by omega)
  have l5 := lg_mono (show wt n U2 g ≤ wt n U2 x by omega)
  have p1 := wt_pos (n := n) (U := U2) hp
  have p2 := wt_pos (n := n) (U := U2) hg
  refine ⟨?_, by omega⟩
  have : lg (wt n U2 p) ≠ lg (wt n U2 x) ∨ lg (wt n U2 g) ≠ lg (wt n U2 x) := Classical.byContradiction fun h => by
    have h1 : lg (wt n U2 p) = lg (wt n U2 x) := Classical.byContradiction fun q => h (.inl q)
    have h2 : lg (wt n U2 g) = lg (wt n U2 x) := Classical.byContradiction fun q => h (.inr q)
    exact lg_two (a := wt n U2 p) (b := wt n U2 g) (c := wt n U2 x) (by omega) (by omega) (by omega) h1 h2 (Nat.le_refl _)
  rw [w1x] at f2
  rw [w2p] at *
  by_cases d : lg (wt n U2 x) = lg (wt n U x)
  · omega
  · omega
end K13
namespace K13

/-! ### shapes -/
structure Nd where
  up : Option Nat
  l : Option Nat
  r : Option Nat
  t : Bool
  a : Int
  v : Int
deriving DecidableEq
abbrev Sh := Nat → Nd
def blank : Nd := ⟨none, none, none, false, 0, 0⟩
def put (s : Sh) (h : Nat) (d : Nd) : Sh := fun i => if i = h then d else s i
theorem put_same (s : Sh) (h : Nat) (d : Nd) : put s h d h = d := if_pos rfl
theorem put_ne {s : Sh} {h i : Nat} {d : Nd} (e : i ≠ h) : put s h d i = s i := if_neg e
def U (s : Sh) : Upf := fun i => (s i).up
structure Ok (n : Nat) (s : Sh) : Prop where
  cl : Cl n (U s)
  ac : Acyc (U s)
  ll : ∀ i c, (s i).l = some c → (s c).up = some i
  rr : ∀ i c, (s i).r = some c → (s c).up = some i
  lr : ∀ i c, (s i).l = some c → (s i).r ≠ some c
theorem Ok.lt {n : Nat} {s : Sh} (k : Ok n s) {i p : Nat} (e : (s i).up = some p) : i < n ∧ p < n :=
  ⟨Nat.lt_of_not_le (fun q => by have := k.cl.out _ q; unfold U at this; rw [e] at this; cases this), k.cl.below _ _ e⟩

/-! ### handing on -/
/-- what waits is handed to a son -/
def give (s : Sh) (c : Option Nat) (t : Bool) (k : Int) : Sh := fun i => if c = some i then { s i with t := (s i).t != t, a := (s i).a + k, v := (s i).v + k } else s i
def hand (s : Sh) (h : Nat) : Sh := fun i =>
  if i = h then ⟨(s h).up, if (s h).t then (s h).r else (s h).l, if (s h).t then (s h).l else (s h).r, false, 0, (s h).v⟩
  else if (s h).l = some i ∨ (s h).r = some i then { s i with t := (s i).t != (s h).t, a := (s i).a + (s h).a, v := (s i).v + (s h).a }
  else s i
theorem hand_up (s : Sh) (h i : Nat) : (hand s h i).up = (s i).up := by
  unfold hand
  by_cases e : i = h
  · rw [if_pos e]; subst e; rfl
  · rw [if_neg e]
    by_cases e2 : (s h).l = some i ∨ (s h).r = some i
    · rw [if_pos e2]
    · rw [if_neg e2]
theorem hand_U (s : Sh) (h : Nat) : U (hand s h) = U s := funext fun i => hand_up s h i
theorem hand_l (s : Sh) (h i : Nat) : (hand s h i).l = if i = h ∧ (s h).t = true then (s h).r else (s i).l := by
  unfold hand
  by_cases e : i = h
  · subst e; by_cases t : (s i).t = true
    · simp [t]
    · simp [t]
  · by_cases e2 : (s h).l = some i ∨ (s h).r = some i
    · simp [e, e2]
    · simp [e, e2]
theorem hand_r (s : Sh) (h i : Nat) : (hand s h i).r = if i = h ∧ (s h).t = true then (s h).l else (s i).r := by
  unfold hand
  by_cases e : i = h
  · subst e; by_cases t : (s i).t = true
    · simp [t]
    · simp [t]
  · by_cases e2 : (s h).l = some i ∨ (s h).r = some i
    · simp [e, e2]
    · simp [e, e2]
theorem hand_ok {n : Nat} {s : Sh} (k : Ok n s) (h : Nat) : Ok n (hand s h) where
  cl := by rw [hand_U]; exact k.cl
  ac := by rw [hand_U]; exact k.ac
  ll := fun i c e => by
    rw [hand_up]; rw [hand_l] at e
    split at e
    · next q => rw [q.1]; exact k.rr _ _ e
    · exact k.ll _ _ e
  rr := fun i c e => by
    rw [hand_up]; rw [hand_r] at e
    split at e
    · next q => rw [q.1]; exact k.ll _ _ e
    · exact k.rr _ _ e
  lr := fun i c e => by
    rw [hand_r]; rw [hand_l] at e
    split at e
    · next q => rw [if_pos q]; exact fun z => k.lr _ _ z e
    · next q => rw [if_neg q]; exact k.lr _ _ e
/-- nothing waits -/
def Clean (d : Nd) : Prop := d.t = false ∧ d.a = 0
theorem hand_clean (s : Sh) (h : Nat) : Clean (hand s h h) := by unfold hand Clean; rw [if_pos rfl]; exact ⟨rfl, rfl⟩
theorem hand_id {s : Sh} {h : Nat} (c : Clean (s h)) : hand s h = s := by
  obtain ⟨c1, c2⟩ := c
  funext i
  unfold hand
  rw [c1, c2]
  by_cases e : i = h
  · subst e; rw [if_pos rfl, ← c2]; revert c1 c2; cases s i; simp; intro a b; simp [a]
  · rw [if_neg e]; split
    · cases s i; simp
    · rfl
/-- a house that is no son keeps all, if it is not this one -/
def isSon (s : Sh) (x : Nat) : Bool := match (s x).up with
  | none => false
  | some p => (s p).l == some x || (s p).r == some x
theorem isSon_iff {s : Sh} {x : Nat} : isSon s x = true ↔ ∃ p, (s x).up = some p ∧ ((s p).l = some x ∨ (s p).r = some x) := by
  unfold isSon
  cases e : (s x).up with
  | none => simp
  | some p => simp
theorem isSon_of {n : Nat} {s : Sh} (k : Ok n s) {p x : Nat} (h : (s p).l = some x ∨ (s p).r = some x) : isSon s x = true :=
  isSon_iff.mpr ⟨p, h.elim (k.ll p x) (k.rr p x), h⟩
theorem isSon_at {s : Sh} {p x : Nat} (e : (s x).up = some p) : isSon s x = ((s p).l == some x || (s p).r == some x) := by
  unfold isSon; rw [e]
theorem hand_isSon (s : Sh) (h i : Nat) : isSon (hand s h) i = isSon s i := by
  unfold isSon
  rw [hand_up]
  cases e : (s i).up with
  | none => rfl
  | some p =>
    show ((hand s h p).l == some i || (hand s h p).r == some i) = ((s p).l == some i || (s p).r == some i)
    rw [hand_l, hand_r]
    by_cases q : p = h ∧ (s h).t = true
    · rw [if_pos q, if_pos q, q.1, Bool.or_comm]
    · rw [if_neg q, if_neg q]
theorem hand_frame {n : Nat} {s : Sh} (k : Ok n s) {h i : Nat} (ne : i ≠ h) (ns : isSon s i = false) : hand s h i = s i := by
  unfold hand
  rw [if_neg ne, if_neg]
  intro q
  rw [isSon_of k q] at ns; cases ns

/-! ### a turn -/
def turnAt (s1 : Sh) (x p : Nat) (q m : Option Nat) (rt : Bool) : Sh := fun i =>
  if i = x then { s1 x with up := q, l := if rt then some p else (s1 x).l, r := if rt then (s1 x).r else some p }
  else if i = p then { s1 p with up := some x, l := if rt then (s1 p).l else m, r := if rt then m else (s1 p).r }
  else if q = some i then { s1 i with l := if (s1 i).l = some p then some x else (s1 i).l, r := if (s1 i).r = some p then some x else (s1 i).r }
  else if m = some i then { s1 i with up := some p }
  else s1 i
def turnP (s : Sh) (x p : Nat) : Sh :=
  let s1 := hand (hand s p) x
  let rt := (s1 p).r == some x
  turnAt s1 x p (s1 p).up (if rt then (s1 x).l else (s1 x).r) rt
def turn (s : Sh) (x : Nat) : Sh := match (s x).up with
  | none => s
  | some p => turnP s x p
structure TurnOf (n : Nat) (s s' : Sh) (x p : Nat) (m : Option Nat) : Prop where
  rot : Rot (U s) (U s') x p m
  ok : Ok n s'
  son : ∀ i, i ≠ x → i ≠ p → isSon s' i = isSon s i
  sonp : isSon s' p = true
  sonx : isSon s' x = isSon s p
  clean : Clean (s' x)
  frame : ∀ i, i ≠ x → i ≠ p → (s p).up ≠ some i → isSon s i = false → s' i = s i
  whole : Clean (s x) → Clean (s p) → s' = turnAt s x p (s p).up m ((s p).r == some x) ∧ m = if ((s p).r == some x) = true then (s x).l else (s x).r
theorem turnAt_of {n : Nat} {s1 : Sh} (k : Ok n s1) {x p : Nat} (e1 : (s1 x).up = some p) {q m : Option Nat} {rt : Bool} (eq : (s1 p).up = q) (ert : rt = ((s1 p).r == some x)) (em : m = if rt then (s1 x).l else (s1 x).r)
    (hs : (s1 p).l = some x ∨ (s1 p).r = some x) (cx : Clean (s1 x)) : TurnOf n s1 (turnAt s1 x p q m rt) x p m := by
  have ac1 : ∀ i q, (s1 i).up = some q → q ≠ i := fun i q h => up_ne k.ac h
  have xp : x ≠ p := (ac1 _ _ e1).symm
  have px : (s1 p).up ≠ some x := fun h => not_down k.ac (show U s1 x = some p from e1) (.step h (.refl _))
  have mx : ∀ c, m = some c → (s1 c).up = some x := fun c h => by
    rw [em] at h
    cases rt with
    | true => exact k.ll _ _ h
    | false => exact k.rr _ _ h
  have mq : ∀ c, m = some c → q ≠ some c := fun c h h2 => by
    refine not_down k.ac (show U s1 x = some p from e1) (.step (p := c) (eq.trans h2) (.step (mx c h) (.refl _)))
  have mp : m ≠ some p := fun h => px (mx p h)
  have mnx : m ≠ some x := fun h => ac1 _ _ (mx x h) rfl
  have qx : q ≠ some x := fun h => px (eq.trans h)
  have qp : q ≠ some p := fun h => ac1 _ _ (eq.trans h) rfl
  have ll := k.ll
  have rr := k.rr
  have lr := k.lr
  have hu : ∀ i, (turnAt s1 x p q m rt i).up = if i = x then q else if i = p then some x else if m = some i then some p else (s1 i).up := fun i => by
    unfold turnAt; grind
  have hl : ∀ i, (turnAt s1 x p q m rt i).l = if i = x then (if rt then some p else (s1 x).l) else if i = p then (if rt then (s1 p).l else m) else if q = some i then (if (s1 i).l = some p then some x else (s1 i).l) else (s1 i).l := fun i => by
    unfold turnAt; grind
  have hr : ∀ i, (turnAt s1 x p q m rt i).r = if i = x then (if rt then (s1 x).r else some p) else if i = p then (if rt then m else (s1 p).r) else if q = some i then (if (s1 i).r = some p then some x else (s1 i).r) else (s1 i).r := fun i => by
    unfold turnAt; grind
  have R : Rot (U s1) (U (turnAt s1 x p q m rt)) x p m := by
    refine ⟨e1, ?_, ?_, xp, fun c h => ⟨mx c h, ?_, ?_, ?_⟩, fun i h1 h2 h3 => ?_⟩
    · show (turnAt s1 x p q m rt p).up = _; rw [hu, if_neg xp.symm, if_pos rfl]
    · show (turnAt s1 x p q m rt x).up = (s1 p).up; rw [hu, if_pos rfl, eq]
    · show (turnAt s1 x p q m rt c).up = _
      rw [hu, if_neg (fun z => mnx (by rw [← z]; exact h)), if_neg (fun z => mp (by rw [← z]; exact h)), if_pos h]
    · exact fun z => mnx (by rw [← z]; exact h)
    · exact fun z => mp (by rw [← z]; exact h)
    · show (turnAt s1 x p q m rt i).up = (s1 i).up; rw [hu, if_neg h1, if_neg h2, if_neg h3]
  have hrt : rt = true → (s1 p).r = some x := fun h => by rw [h] at ert; exact eq_of_beq ert.symm
  have hrf : rt = false → (s1 p).l = some x := fun h => by
    rcases hs with h2 | h2
    · exact h2
    · rw [h2] at ert; simp at ert; rw [h] at ert; cases ert
  have O : Ok n (turnAt s1 x p q m rt) := by
    refine ⟨R.cl k.cl, R.acyc k.ac, fun i c e => ?_, fun i c e => ?_, fun i c e z => ?_⟩
    · rw [hl] at e; rw [hu]; clear hu hl hr R
      cases rt <;> grind
    · rw [hr] at e; rw [hu]; clear hu hl hr R
      cases rt <;> grind
    · rw [hl] at e; rw [hr] at z; clear hu hl hr R
      cases rt <;> grind
  refine ⟨R, O, fun i h1 h2 => ?_, ?_, ?_, ?_, fun i h1 h2 h3 h4 => ?_, fun _ _ => by rw [eq, ← ert]; exact ⟨rfl, em⟩⟩
  · have q1 : isSon (turnAt s1 x p q m rt) i = true ↔ isSon s1 i = true := by
      rw [isSon_iff, isSon_iff]
      constructor
      · rintro ⟨g, a, b⟩
        rw [hu] at a; rw [hl, hr] at b; clear hu hl hr R O
        cases rt <;> grind
      · rintro ⟨g, a, b⟩
        by_cases mi : m = some i
        · refine ⟨p, ?_, ?_⟩
          · rw [hu, if_neg h1, if_neg h2, if_pos mi]
          · rw [hl, hr, if_neg xp.symm, if_neg xp.symm, if_pos rfl, if_pos rfl]
            cases rt
            · exact .inl mi
            · exact .inr mi
        · refine ⟨g, ?_, ?_⟩
          · rw [hu, if_neg h1, if_neg h2, if_neg mi]; exact a
          · rw [hl, hr]; clear hu hl hr R O
            cases rt <;> grind
    exact Bool.eq_iff_iff.mpr q1
  · refine isSon_iff.mpr ⟨x, ?_, ?_⟩
    · rw [hu, if_neg xp.symm, if_pos rfl]
    · rw [hl, hr, if_pos rfl, if_pos rfl]
      cases rt
      · exact .inr rfl
      · exact .inl rfl
  · have q1 : isSon (turnAt s1 x p q m rt) x = true ↔ isSon s1 p = true := by
      rw [isSon_iff, isSon_iff]
      constructor
      · rintro ⟨g, a, b⟩
        rw [hu] at a; rw [hl, hr] at b; clear hu hl hr R O
        refine ⟨g, ?_, ?_⟩
        · grind
        · grind
      · rintro ⟨g, a, b⟩
        refine ⟨g, ?_, ?_⟩
        · rw [hu, if_pos rfl]; grind
        · rw [hl, hr]; clear hu hl hr R O
          grind
    exact Bool.eq_iff_iff.mpr q1
  · unfold turnAt; rw [if_pos rfl]; exact cx
  · unfold turnAt
    rw [if_neg h1, if_neg h2, if_neg (by rw [← eq]; exact h3), if_neg]
    intro h
    have : isSon s1 i = true := by
      rw [em] at h
      cases rt
      · exact isSon_of k (.inr h)
      · exact isSon_of k (.inl h)
    rw [h4] at this; cases this
theorem turn_of {n : Nat} {s : Sh} (k : Ok n s) {x p : Nat} (e : (s x).up = some p) (hs : isSon s x = true) : ∃ m, TurnOf n s (turn s x) x p m := by
  unfold turn
  rw [e]
  show ∃ m, TurnOf n s (turnP s x p) x p m
  have k1 : Ok n (hand (hand s p) x) := hand_ok (hand_ok k p) x
  have u1 : U (hand (hand s p) x) = U s := by rw [hand_U, hand_U]
  have so1 : ∀ i, isSon (hand (hand s p) x) i = isSon s i := fun i => by rw [hand_isSon, hand_isSon]
  have cx : Clean (hand (hand s p) x x) := hand_clean _ _
  have fr : ∀ i, i ≠ x → i ≠ p → isSon s i = false → hand (hand s p) x i = s i := fun i h1 h2 h3 => by
    rw [hand_frame (hand_ok k p) h1 (by rw [hand_isSon]; exact h3), hand_frame k h2 h3]
  have wh : Clean (s x) → Clean (s p) → hand (hand s p) x = s := fun c1 c2 => by rw [hand_id c2, hand_id c1]
  unfold turnP
  generalize hand (hand s p) x = s1 at k1 u1 so1 cx fr wh
  have e1 : (s1 x).up = some p := (congrFun u1 x).trans e
  have hs1 : isSon s1 x = true := (so1 x).trans hs
  rw [isSon_at e1] at hs1
  have T := turnAt_of k1 e1 (q := (s1 p).up) (m := if ((s1 p).r == some x) then (s1 x).l else (s1 x).r) (rt := ((s1 p).r == some x)) rfl rfl rfl (by simpa using hs1) cx
  show ∃ m, TurnOf n s (turnAt s1 x p (s1 p).up (if ((s1 p).r == some x) then (s1 x).l else (s1 x).r) ((s1 p).r == some x)) x p m
  refine ⟨_, ⟨by rw [← u1]; exact T.rot, T.ok, fun i h1 h2 => (T.son i h1 h2).trans (so1 i), T.sonp, T.sonx.trans (so1 p), T.clean, fun i h1 h2 h3 h4 => ?_, fun c1 c2 => by rw [wh c1 c2]; exact ⟨rfl, rfl⟩⟩⟩
  exact (T.frame i h1 h2 (by rw [show (s1 p).up = (s p).up from congrFun u1 p]; exact h3) ((so1 i).trans h4)).trans (fr i h1 h2 h4)
theorem turnAt_clean {s : Sh} {x p : Nat} {q m : Option Nat} {rt : Bool} {i : Nat} (c : Clean (s i)) : Clean (turnAt s x p q m rt i) := by
  unfold turnAt Clean at *; grind
theorem TurnOf.cleans {n : Nat} {s s' : Sh} {x p : Nat} {m : Option Nat} (T : TurnOf n s s' x p m) (cx : Clean (s x)) (cp : Clean (s p)) {i : Nat} (c : Clean (s i)) : Clean (s' i) := by
  rw [(T.whole cx cp).1]; exact turnAt_clean c
end K13
namespace K13

/-! ### steps -/
def sideR (s : Sh) (x : Nat) : Bool := match (s x).up with
  | none => false
  | some p => (s p).r == some x
theorem sideR_at {s : Sh} {x p : Nat} (e : (s x).up = some p) : sideR s x = ((s p).r == some x) := by unfold sideR; rw [e]
def step (s : Sh) (x : Nat) : Sh := match (s x).up with
  | none => s
  | some p => if isSon s p = true then turn (turn s (if sideR s p == sideR s x then p else x)) x else turn s x
def steps : Nat → Sh → Nat → Sh × Nat
  | 0, s, _ => (s, 0)
  | f + 1, s, x => if isSon s x = true then ((steps f (step s x) x).1, (steps f (step s x) x).2 + 1) else (s, 0)
theorem steps_son {f : Nat} {s : Sh} {x : Nat} (h : isSon s x = true) : steps (f + 1) s x = ((steps f (step s x) x).1, (steps f (step s x) x).2 + 1) := by
  rw [steps, if_pos h]
theorem steps_top {f : Nat} {s : Sh} {x : Nat} (h : isSon s x = false) : steps f s x = (s, 0) := by
  cases f with
  | zero => rfl
  | succ f => rw [steps, if_neg (by rw [h]; exact Bool.false_ne_true)]
/-- the row above a house, where nothing waits -/
inductive RD (s : Sh) : Nat → Nat → Prop where
  | top {x : Nat} : Clean (s x) → isSon s x = false → RD s x 0
  | son {x p d : Nat} : Clean (s x) → isSon s x = true → (s x).up = some p → RD s p d → RD s x (d + 1)
theorem RD.clean {s : Sh} {x d : Nat} (R : RD s x d) : Clean (s x) := by
  cases R with
  | top c _ => exact c
  | son c _ _ _ => exact c
noncomputable abbrev W (n : Nat) (s : Sh) (x : Nat) : Nat := wt n (U s) x
theorem W_up {n : Nat} {s : Sh} (k : Ok n s) {x p : Nat} (e : (s x).up = some p) : W n s x + 1 ≤ W n s p := wt_up k.ac e (k.lt e).2
theorem son_up {s : Sh} {x : Nat} (h : isSon s x = true) : ∃ p, (s x).up = some p := let ⟨p, e, _⟩ := isSon_iff.mp h; ⟨p, e⟩
/-- what a turn leaves above -/
theorem TurnOf.up {n : Nat} {s s' : Sh} {x p : Nat} {m : Option Nat} (T : TurnOf n s s' x p m) {i : Nat} (h1 : i ≠ x) (h2 : i ≠ p) (h3 : m ≠ some i) : (s' i).up = (s i).up := T.rot.other i h1 h2 h3
theorem TurnOf.mid {n : Nat} {s s' : Sh} {x p : Nat} {m : Option Nat} (T : TurnOf n s s' x p m) (k : Ok n s) {i : Nat} (h : W n s x < W n s i) : m ≠ some i := fun e => by
  have := W_up k (T.rot.mid i e).1
  omega
theorem TurnOf.rd {n : Nat} {s s' : Sh} {x p : Nat} {m : Option Nat} (T : TurnOf n s s' x p m) (k : Ok n s) (cx : Clean (s x)) (cp : Clean (s p)) {i d : Nat} (R : RD s i d) (h : W n s p < W n s i) : RD s' i d := by
  have hxp := W_up k T.rot.up
  induction R with
  | @top i c ns =>
    have h1 : i ≠ x := fun e => by subst e; omega
    have h2 : i ≠ p := fun e => by subst e; omega
    exact .top (T.cleans cx cp c) ((T.son i h1 h2).trans ns)
  | @son i q d c hs e R ih =>
    have h1 : i ≠ x := fun e => by subst e; omega
    have h2 : i ≠ p := fun e => by subst e; omega
    have h3 := T.mid k (i := i) (by omega)
    have := W_up k e
    exact .son (T.cleans cx cp c) ((T.son i h1 h2).trans hs) ((T.up h1 h2 h3).trans e) (ih (by omega))
theorem TurnOf.rdx {n : Nat} {s s' : Sh} {x p : Nat} {m : Option Nat} (T : TurnOf n s s' x p m) (k : Ok n s) (cx : Clean (s x)) {d : Nat} (R : RD s p d) : RD s' x d := by
  have cp := R.clean
  cases R with
  | top c ns => exact .top T.clean (T.sonx.trans ns)
  | @son _ q d c hs e R => exact .son T.clean (T.sonx.trans hs) (T.rot.top.trans e) (T.rd k cx cp R (W_up k e))

/-! ### what a step does: x is a son -/
structure StepOf (n : Nat) (s s' : Sh) (x : Nat) : Prop where
  ok : Ok n s'
  clean : Clean (s' x)
  rise : W n s x < W n s' x
  frame : ∀ i, W n s i < W n s x → isSon s i = false → s' i = s i ∧ isSon s' i = false ∧ W n s' i = W n s i
theorem TurnOf.frm {n : Nat} {s s' : Sh} {x p : Nat} {m : Option Nat} (T : TurnOf n s s' x p m) (k : Ok n s) {i : Nat} (h : W n s i < W n s x) (ns : isSon s i = false) : s' i = s i ∧ isSon s' i = false ∧ W n s' i = W n s i := by
  have hp := W_up k T.rot.up
  have h1 : i ≠ x := fun e => by subst e; omega
  have h2 : i ≠ p := fun e => by subst e; omega
  refine ⟨T.frame i h1 h2 (fun e => ?_) ns, (T.son i h1 h2).trans ns, T.rot.wt n h1 h2⟩
  have := W_up k e
  omega
/-- a step of a son whose up is a top -/
theorem step_one {n : Nat} {s : Sh} (k : Ok n s) {x p : Nat} (e : (s x).up = some p) (hs : isSon s x = true) (hp : isSon s p = false) :
    StepOf n s (step s x) x ∧ isSon (step s x) x = false ∧ (Phi n (U (step s x)) : Int) + lg (W n s x) ≤ Phi n (U s) + lg (W n (step s x) x) := by
  have est : step s x = turn s x := by unfold step; rw [e]; show (if isSon s p = true then _ else _) = _; rw [hp, if_neg Bool.false_ne_true]
  rw [est]
  obtain ⟨m, T⟩ := turn_of k e hs
  have z := zig T.rot k.cl k.ac
  exact ⟨⟨T.ok, T.clean, z.2, fun i h ns => T.frm k h ns⟩, T.sonx.trans hp, z.1⟩
/-- a step of two turns -/
theorem step_two {n : Nat} {s : Sh} (k : Ok n s) {x p g d : Nat} (e : (s x).up = some p) (hs : isSon s x = true) (cx : Clean (s x)) (e2 : (s p).up = some g) (hp : isSon s p = true) (cp : Clean (s p)) (R : RD s g d) :
    StepOf n s (step s x) x ∧ RD (step s x) x d ∧ (Phi n (U (step s x)) : Int) + 1 + 3 * lg (W n s x) ≤ Phi n (U s) + 3 * lg (W n (step s x) x) := by
  have est : step s x = turn (turn s (if sideR s p == sideR s x then p else x)) x := by unfold step; rw [e]; show (if isSon s p = true then _ else _) = _; rw [if_pos hp]
  have wxp := W_up k e
  have wpg := W_up k e2
  have xp : x ≠ p := fun z => by subst z; omega
  have xg : x ≠ g := fun z => by subst z; omega
  have pg : p ≠ g := fun z => by subst z; omega
  have cg := R.clean
  rw [isSon_at e] at hs
  rw [isSon_at e2] at hp
  rw [est, sideR_at e, sideR_at e2]
  by_cases sd : (((s g).r == some p) == ((s p).r == some x)) = true
  · rw [if_pos sd]
    obtain ⟨m1, T1⟩ := turn_of k e2 (by rw [isSon_at e2]; exact hp)
    have mx : m1 ≠ some x := by
      have h1 := (T1.whole cp cg).2
      have h2 := k.lr p x
      intro z
      rw [z] at h1
      clear T1
      grind
    have ux : (turn s p x).up = some p := (T1.up xp xg mx).trans e
    have sx : isSon (turn s p) x = true := (T1.son x xp xg).trans (by rw [isSon_at e]; exact hs)
    obtain ⟨m2, T2⟩ := turn_of T1.ok ux sx
    have z := zigzig T1.rot T2.rot k.cl k.ac e mx
    refine ⟨⟨T2.ok, T2.clean, z.2, fun i h ns => ?_⟩, T2.rdx T1.ok (T1.cleans cp cg cx) (T1.rdx k cp R), z.1⟩
    obtain ⟨a1, a2, a3⟩ := T1.frm k (i := i) (by omega) ns
    have w1x : W n (turn s p) x = W n s x := T1.rot.wt n xp xg
    obtain ⟨b1, b2, b3⟩ := T2.frm T1.ok (i := i) (by omega) a2
    exact ⟨b1.trans a1, b2, b3.trans a3⟩
  · rw [if_neg sd]
    obtain ⟨m1, T1⟩ := turn_of k e (by rw [isSon_at e]; exact hs)
    have ux : (turn s x x).up = some g := T1.rot.top.trans e2
    have sx : isSon (turn s x) x = true := T1.sonx.trans (by rw [isSon_at e2]; exact hp)
    obtain ⟨m2, T2⟩ := turn_of T1.ok ux sx
    have mp : m2 ≠ some p := by
      have h1 := (T2.whole T1.clean (T1.cleans cx cp cg)).2
      intro z
      rw [z, (T1.whole cx cp).1, e2] at h1
      have a1 := k.ll x p
      have a2 := k.rr x p
      have a3 := k.rr g x
      unfold turnAt at h1
      rw [if_neg xg.symm, if_neg pg.symm, if_pos rfl] at h1
      simp only [if_pos] at h1
      grind
    have z := zigzag T1.rot T2.rot k.cl k.ac e2 mp
    refine ⟨⟨T2.ok, T2.clean, z.2, fun i h ns => ?_⟩, T2.rdx T1.ok T1.clean (T1.rd k cx cp R wpg), z.1⟩
    obtain ⟨a1, a2, a3⟩ := T1.frm k (i := i) h ns
    have w1x : W n (turn s x) x = W n s p := T1.rot.wtTop n
    obtain ⟨b1, b2, b3⟩ := T2.frm T1.ok (i := i) (by omega) a2
    exact ⟨b1.trans a1, b2, b3.trans a3⟩

/-! ### steps until the house is a top -/
structure StepsOf (n : Nat) (s s' : Sh) (x k d : Nat) : Prop where
  ok : Ok n s'
  clean : Clean (s' x)
  top : isSon s' x = false
  rise : W n s x ≤ W n s' x
  frame : ∀ i, W n s i < W n s x → isSon s i = false → s' i = s i ∧ isSon s' i = false ∧ W n s' i = W n s i
  many : k = (d + 1) / 2
  once : 5 * (Phi n (U s') : Int) + k + 15 * lg (W n s x) ≤ 5 * Phi n (U s) + 15 * lg (W n s' x) + 1
  five : 5 * (Phi n (U s') : Int) + 5 * k + 15 * lg (W n s x) ≤ 5 * Phi n (U s) + 15 * lg (W n s' x) + 5
theorem steps_of {n : Nat} : ∀ (f : Nat) {s : Sh} (_ : Ok n s) {x d : Nat} (_ : RD s x d) (_ : d < 2 * f + 1), StepsOf n s (steps f s x).1 x (steps f s x).2 d
  | f, s, k, x, 0, R, h => by
    cases R with
    | top c ns =>
      rw [steps_top ns]
      show StepsOf n s s x 0 0
      exact ⟨k, c, ns, Nat.le_refl _, fun i _ h2 => ⟨rfl, h2, rfl⟩, rfl, by omega, by omega⟩
  | 0, s, k, x, d + 1, R, h => by omega
  | f + 1, s, k, x, 1, R, h => by
    cases R with
    | @son _ p _ c hs e R =>
      cases R with
      | top c2 ns =>
        obtain ⟨S, t, b⟩ := step_one k e hs ns
        rw [steps_son hs, steps_top t]
        show StepsOf n s (step s x) x 1 1
        have := lg_mono (Nat.le_of_lt S.rise)
        exact ⟨S.ok, S.clean, t, Nat.le_of_lt S.rise, S.frame, rfl, by omega, by omega⟩
  | f + 1, s, k, x, d + 2, R, h => by
    cases R with
    | @son _ p _ c hs e R =>
      cases R with
      | @son _ g _ c2 hs2 e2 R =>
        obtain ⟨S, R', b⟩ := step_two k e hs c e2 hs2 c2 R
        have ih := steps_of f S.ok R' (by omega)
        rw [steps_son hs]
        show StepsOf n s (steps f (step s x) x).1 x ((steps f (step s x) x).2 + 1) (d + 2)
        generalize (steps f (step s x) x).1 = s2 at ih
        generalize (steps f (step s x) x).2 = j at ih
        have r1 := ih.rise
        have r2 := S.rise
        have r3 := ih.once
        have r4 := ih.five
        have r5 := ih.many
        refine ⟨ih.ok, ih.clean, ih.top, by omega, fun i h1 h2 => ?_, by omega, by omega, by omega⟩
        obtain ⟨a1, a2, a3⟩ := S.frame i h1 h2
        obtain ⟨b1, b2, b3⟩ := ih.frame i (by omega) a2
        exact ⟨b1.trans a1, b2, b3.trans a3⟩
end K13
namespace K13

/-! ### handing on from the top of a row down -/
def chain : Nat → Sh → Nat → List Nat
  | 0, _, x => [x]
  | f + 1, s, x => match (s x).up with
    | none => [x]
    | some p => if isSon s x = true then x :: chain f s p else [x]
def dh : Nat → Sh → Nat → Sh
  | 0, s, x => hand s x
  | f + 1, s, x => match (s x).up with
    | none => hand s x
    | some p => if isSon s x = true then hand (dh f s p) x else hand s x
theorem chain_son {f : Nat} {s : Sh} {x p : Nat} (e : (s x).up = some p) (h : isSon s x = true) : chain (f + 1) s x = x :: chain f s p := by
  rw [chain, e]; show (if isSon s x = true then _ else _) = _; rw [if_pos h]
theorem chain_top {f : Nat} {s : Sh} {x : Nat} (h : isSon s x = false) : chain f s x = [x] := by
  cases f with
  | zero => rfl
  | succ f =>
    rw [chain]
    cases (s x).up with
    | none => rfl
    | some p => show (if isSon s x = true then _ else _) = _; rw [if_neg (by rw [h]; exact Bool.false_ne_true)]
theorem dh_son {f : Nat} {s : Sh} {x p : Nat} (e : (s x).up = some p) (h : isSon s x = true) : dh (f + 1) s x = hand (dh f s p) x := by
  rw [dh, e]; show (if isSon s x = true then _ else _) = _; rw [if_pos h]
theorem dh_top {f : Nat} {s : Sh} {x : Nat} (h : isSon s x = false) : dh f s x = hand s x := by
  cases f with
  | zero => rfl
  | succ f =>
    rw [dh]
    cases (s x).up with
    | none => rfl
    | some p => show (if isSon s x = true then _ else _) = _; rw [if_neg (by rw [h]; exact Bool.false_ne_true)]
theorem dh_chain : ∀ (f : Nat) (s : Sh) (x : Nat), (chain f s x).reverse.foldl hand s = dh f s x
  | 0, s, x => rfl
  | f + 1, s, x => by
    by_cases h : isSon s x = true
    · obtain ⟨p, e⟩ := son_up h
      rw [chain_son e h, dh_son e h, List.reverse_cons, List.foldl_append, dh_chain f s p]; rfl
    · have h : isSon s x = false := by simpa using h
      rw [chain_top h, dh_top h]; rfl
theorem W_le (n : Nat) (s : Sh) (x : Nat) : W n s x ≤ n := wt_le n (U s) x
theorem W_pos {n : Nat} {s : Sh} {x : Nat} (h : x < n) : 1 ≤ W n s x := wt_pos h
theorem hand_above {n : Nat} {s : Sh} (k : Ok n s) {x i : Nat} (h : W n s x < W n s i) : hand s x i = s i := by
  unfold hand
  rw [if_neg (fun e => by subst e; omega), if_neg]
  intro q
  have : (s i).up = some x := q.elim (k.ll _ _) (k.rr _ _)
  have := W_up k this
  omega
theorem hand_rd {n : Nat} {s : Sh} (k : Ok n s) {x i d : Nat} (R : RD s i d) (h : W n s x < W n s i) : RD (hand s x) i d := by
  induction R with
  | @top i c ns => exact .top (by rw [hand_above k h]; exact c) (by rw [hand_isSon]; exact ns)
  | @son i p d c hs e R ih =>
    have := W_up k e
    exact .son (by rw [hand_above k h]; exact c) (by rw [hand_isSon]; exact hs) (by rw [hand_up]; exact e) (ih (by omega))
structure DownOf (n : Nat) (s s' : Sh) (x d : Nat) : Prop where
  ok : Ok n s'
  up : U s' = U s
  son : ∀ i, isSon s' i = isSon s i
  rd : RD s' x d
  frame : ∀ i, W n s i < W n s x → isSon s i = false → s' i = s i
theorem dh_of {n : Nat} : ∀ (f : Nat) {s : Sh} (_ : Ok n s) {x : Nat} (_ : n ≤ f + W n s x), ∃ d, d + W n s x ≤ n ∧ DownOf n s (dh f s x) x d
  | f, s, k, x, h => by
    by_cases hs : isSon s x = true
    · obtain ⟨p, e⟩ := son_up hs
      have w := W_up k e
      have wn := W_le n s p
      cases f with
      | zero => omega
      | succ f =>
        obtain ⟨d, hd, D⟩ := dh_of f k (x := p) (by omega)
        rw [dh_son e hs]
        have eU : U (hand (dh f s p) x) = U s := (hand_U _ _).trans D.up
        have hw : ∀ i, W n (dh f s p) i = W n s i := fun i => by show wt n _ i = wt n _ i; rw [D.up]
        refine ⟨d + 1, by omega, hand_ok D.ok x, eU, fun i => (hand_isSon _ _ _).trans (D.son i), .son (hand_clean _ _) (by rw [hand_isSon, D.son]; exact hs) (by rw [hand_up]; exact (congrFun D.up x).trans e)
          (hand_rd D.ok D.rd (by rw [hw, hw]; omega)), fun i h1 h2 => ?_⟩
        rw [hand_frame D.ok (fun z => by subst z; omega) (by rw [D.son]; exact h2)]
        exact D.frame i (by omega) h2
    · have hs : isSon s x = false := by simpa using hs
      rw [dh_top hs]
      exact ⟨0, by have := W_le n s x; omega, hand_ok k x, hand_U _ _, fun i => hand_isSon _ _ _, .top (hand_clean _ _) (by rw [hand_isSon]; exact hs), fun i h1 h2 => hand_frame k (fun z => by subst z; omega) h2⟩
theorem dh_id : ∀ (f : Nat) {s : Sh} {x d : Nat} (_ : RD s x d), dh f s x = s
  | 0, s, x, d, R => hand_id R.clean
  | f + 1, s, x, d, R => by
    have c := R.clean
    cases R with
    | top _ ns => rw [dh_top ns]; exact hand_id c
    | son _ hs e R => rw [dh_son e hs, dh_id f R]; exact hand_id c

/-! ### to the top of the row -/
def toTop (n : Nat) (s : Sh) (x : Nat) : Sh × Nat := steps n (dh n s x) x
structure TopOf (n : Nat) (s s' : Sh) (x k : Nat) : Prop where
  ok : Ok n s'
  clean : Clean (s' x)
  top : isSon s' x = false
  rise : W n s x ≤ W n s' x
  frame : ∀ i, W n s i < W n s x → isSon s i = false → s' i = s i ∧ isSon s' i = false ∧ W n s' i = W n s i
  once : 5 * (Phi n (U s') : Int) + k + 15 * lg (W n s x) ≤ 5 * Phi n (U s) + 15 * lg (W n s' x) + 1
theorem toTop_of {n : Nat} {s : Sh} (k : Ok n s) {x : Nat} : TopOf n s (toTop n s x).1 x (toTop n s x).2 := by
  obtain ⟨d, hd, D⟩ := dh_of n k (x := x) (by omega)
  have S := steps_of n D.ok D.rd (by omega)
  unfold toTop
  generalize (steps n (dh n s x) x).1 = s2 at S
  generalize (steps n (dh n s x) x).2 = j at S
  generalize dh n s x = s1 at D S
  have hw : ∀ i, W n s1 i = W n s i := fun i => by show wt n _ i = wt n _ i; rw [D.up]
  have ho := S.once
  have hr := S.rise
  rw [D.up, hw] at ho
  rw [hw] at hr
  refine ⟨S.ok, S.clean, S.top, hr, fun i h1 h2 => ?_, ho⟩
  obtain ⟨b1, b2, b3⟩ := S.frame i (by rw [hw, hw]; exact h1) (by rw [D.son]; exact h2)
  exact ⟨b1.trans (D.frame i h1 h2), b2, b3.trans (hw i)⟩

/-! ### pass 1 -/
def mets (n : Nat) : Nat → Sh → Nat → Sh × List Nat × Nat
  | 0, s, _ => (s, [], 0)
  | f + 1, s, x => match ((toTop n s x).1 x).up with
    | none => ((toTop n s x).1, [x], (toTop n s x).2)
    | some y => ((mets n f (toTop n s x).1 y).1, x :: (mets n f (toTop n s x).1 y).2.1, (toTop n s x).2 + (mets n f (toTop n s x).1 y).2.2)
theorem mets_end {n f : Nat} {s : Sh} {x : Nat} (e : ((toTop n s x).1 x).up = none) : mets n (f + 1) s x = ((toTop n s x).1, [x], (toTop n s x).2) := by rw [mets, e]
theorem mets_on {n f : Nat} {s : Sh} {x y : Nat} (e : ((toTop n s x).1 x).up = some y) : mets n (f + 1) s x = ((mets n f (toTop n s x).1 y).1, x :: (mets n f (toTop n s x).1 y).2.1, (toTop n s x).2 + (mets n f (toTop n s x).1 y).2.2) := by rw [mets, e]
inductive Met (s : Sh) : Nat → List Nat → Prop where
  | last {x : Nat} : Clean (s x) → isSon s x = false → (s x).up = none → Met s x [x]
  | on {x y : Nat} {l : List Nat} : Clean (s x) → isSon s x = false → (s x).up = some y → Met s y l → Met s x (x :: l)
structure MetsOf (n : Nat) (s s' : Sh) (x : Nat) (l : List Nat) (k : Nat) : Prop where
  ok : Ok n s'
  met : Met s' x l
  frame : ∀ i, W n s i < W n s x → isSon s i = false → s' i = s i ∧ isSon s' i = false
  cost : 5 * (Phi n (U s') : Int) + k + 15 * lg (W n s x) ≤ 5 * Phi n (U s) + 15 * lg n + l.length
theorem mets_of {n : Nat} : ∀ (f : Nat) {s : Sh} (_ : Ok n s) {x : Nat} (_ : n + 1 ≤ f + W n s x), MetsOf n s (mets n f s x).1 x (mets n f s x).2.1 (mets n f s x).2.2
  | 0, s, k, x, h => by have := W_le n s x; omega
  | f + 1, s, k, x, h => by
    have T := toTop_of k (x := x)
    cases e : ((toTop n s x).1 x).up with
    | none =>
      rw [mets_end e]
      show MetsOf n s (toTop n s x).1 x [x] (toTop n s x).2
      have hl := lg_mono (W_le n (toTop n s x).1 x)
      have ho := T.once
      refine ⟨T.ok, .last T.clean T.top e, fun i h1 h2 => let ⟨a, b, _⟩ := T.frame i h1 h2; ⟨a, b⟩, ?_⟩
      show _ ≤ 5 * (Phi n (U s) : Int) + 15 * lg n + 1
      omega
    | some y =>
      rw [mets_on e]
      generalize (toTop n s x).1 = s1 at T e
      generalize (toTop n s x).2 = j at T
      have w := W_up T.ok e
      have r := T.rise
      have ih := mets_of f T.ok (x := y) (by omega)
      show MetsOf n s (mets n f s1 y).1 x (x :: (mets n f s1 y).2.1) (j + (mets n f s1 y).2.2)
      generalize (mets n f s1 y).1 = s2 at ih
      generalize (mets n f s1 y).2.1 = l at ih
      generalize (mets n f s1 y).2.2 = j2 at ih
      obtain ⟨f1, f2⟩ := ih.frame x (by omega) T.top
      refine ⟨ih.ok, .on (by rw [f1]; exact T.clean) f2 (by rw [f1]; exact e) ih.met, fun i h1 h2 => ?_, ?_⟩
      · obtain ⟨a1, a2, a3⟩ := T.frame i h1 h2
        obtain ⟨b1, b2⟩ := ih.frame i (by omega) a2
        exact ⟨b1.trans a1, b2⟩
      · have h1 := ih.cost
        have h2 := T.once
        have h3 := lg_mono (show W n s1 x ≤ W n s1 y by omega)
        rw [List.length_cons]
        omega

/-! ### pass 2 -/
def splice : Sh → Option Nat → List Nat → Sh
  | s, _, [] => s
  | s, a, x :: l => splice (put s x { s x with r := a }) (some x) l
structure SpliceOf (n : Nat) (s s' : Sh) (a : Option Nat) (x : Nat) (l : List Nat) : Prop where
  ok : Ok n s'
  up : U s' = U s
  frame : ∀ i, W n s i < W n s x → s' i = s i
  son : ∀ b, a = some b → isSon s' b = true
  rd : RD s' x (l.length - 1)
theorem splice_of {n : Nat} : ∀ (l : List Nat) {s : Sh} (_ : Ok n s) {x : Nat} (_ : Met s x l) {a : Option Nat} (_ : ∀ b, a = some b → (s b).up = some x ∧ isSon s b = false), SpliceOf n s (splice s a l) a x l := by
  have K : ∀ {s : Sh} (_ : Ok n s) {x : Nat} {a : Option Nat} (_ : ∀ b, a = some b → (s b).up = some x ∧ isSon s b = false),
      Ok n (put s x { s x with r := a }) ∧ U (put s x { s x with r := a }) = U s ∧ (∀ b, a = some b → isSon (put s x { s x with r := a }) b = true) ∧ (∀ i, a ≠ some i → isSon s i = false → isSon (put s x { s x with r := a }) i = false) ∧
        (∀ i, Clean (s i) → Clean (put s x { s x with r := a } i)) := by
    intro s k x a ha
    have hu : ∀ i, (put s x { s x with r := a } i).up = (s i).up := fun i => by unfold put; split <;> simp_all
    have hl : ∀ i, (put s x { s x with r := a } i).l = (s i).l := fun i => by unfold put; split <;> simp_all
    have hr : ∀ i, (put s x { s x with r := a } i).r = if i = x then a else (s i).r := fun i => by unfold put; split <;> simp_all
    have eU : U (put s x { s x with r := a }) = U s := funext hu
    refine ⟨⟨by rw [eU]; exact k.cl, by rw [eU]; exact k.ac, fun i c e => ?_, fun i c e => ?_, fun i c e z => ?_⟩, eU, fun b e => ?_, fun i h1 h2 => ?_, fun i c => ?_⟩
    · rw [hl] at e; rw [hu]; exact k.ll _ _ e
    · rw [hr] at e; rw [hu]; split at e
      · next q => rw [q]; exact (ha c e).1
      · exact k.rr _ _ e
    · rw [hl] at e; rw [hr] at z; split at z
      · next q =>
        have := (ha c z).2
        rw [isSon_of k (.inl e)] at this; cases this
      · exact k.lr _ _ e z
    · refine isSon_iff.mpr ⟨x, by rw [hu]; exact (ha b e).1, .inr ?_⟩
      rw [hr, if_pos rfl]; exact e
    · cases q : isSon (put s x { s x with r := a }) i with
      | false => rfl
      | true =>
        obtain ⟨p, e, h⟩ := isSon_iff.mp q
        rw [hu] at e; rw [hl, hr] at h
        rw [← h2]
        refine (isSon_of k (p := p) ?_).symm
        rcases h with h | h
        · exact .inl h
        · split at h
          · exact absurd h h1
          · exact .inr h
    · unfold put Clean at *; split
      · next q => subst q; exact c
      · exact c
  have MM : ∀ {s s1 : Sh} (_ : Ok n s) (_ : U s1 = U s) (_ : ∀ i, Clean (s i) → Clean (s1 i)) {y : Nat} {l : List Nat} (_ : Met s y l) (_ : ∀ i, W n s y ≤ W n s i → isSon s i = false → isSon s1 i = false), Met s1 y l := by
    intro s s1 k eU hc y l M
    induction M with
    | @last y c ns e => intro h; exact .last (hc _ c) (h y (Nat.le_refl _) ns) ((congrFun eU y).trans e)
    | @on y z l c ns e M ih =>
      intro h
      have := W_up k e
      exact .on (hc _ c) (h y (Nat.le_refl _) ns) ((congrFun eU y).trans e) (ih (fun i h1 h2 => h i (by omega) h2))
  intro l
  induction l with
  | nil => intro s k x M; cases M
  | cons x0 l ih =>
    intro s k x M a ha
    obtain ⟨k1, u1, s1, n1, c1⟩ := K k ha
    have hw : ∀ i, W n (put s x { s x with r := a }) i = W n s i := fun i => by show wt n _ i = wt n _ i; rw [u1]
    have ex : x = x0 := by cases M <;> rfl
    subst ex
    cases M with
    | last c ns e =>
      show SpliceOf n s (put s x { s x with r := a }) a x [x]
      refine ⟨k1, u1, fun i h => put_ne (fun z => by subst z; omega), s1, .top (c1 _ c) ?_⟩
      have : (put s x { s x with r := a } x).up = none := (congrFun u1 x).trans e
      unfold isSon; rw [this]
    | @on _ y _ c ns e M =>
      show SpliceOf n s (splice (put s x { s x with r := a }) (some x) l) a x (x :: l)
      have wxy := W_up k e
      have M1 : Met (put s x { s x with r := a }) y l := MM k u1 c1 M (fun i h1 h2 => n1 i (fun z => by
        have := W_up k (ha i z).1
        omega) h2)
      have S := ih k1 M1 (a := some x) (fun b z => by cases z; exact ⟨(congrFun u1 x).trans e, n1 x (fun z => by
        have := W_up k (ha x z).1
        omega) ns⟩)
      have hy : ∀ i, W n s i ≤ W n s x → splice (put s x { s x with r := a }) (some x) l i = put s x { s x with r := a } i := fun i h => S.frame i (by rw [hw, hw]; omega)
      have lp : l.length ≠ 0 := by cases M <;> simp
      refine ⟨S.ok, S.up.trans u1, fun i h => (hy i (by omega)).trans (put_ne (fun z => by subst z; omega)), fun b z => ?_, ?_⟩
      · have := W_up k (ha b z).1
        refine isSon_iff.mpr ⟨x, (congrFun (S.up.trans u1) b).trans (ha b z).1, .inr ?_⟩
        rw [hy x (Nat.le_refl _), put_same]; exact z
      · have e2 : (x :: l).length - 1 = (l.length - 1) + 1 := by rw [List.length_cons]; omega
        rw [e2]
        exact .son (by rw [hy x (Nat.le_refl _)]; exact c1 _ c) (S.son x rfl) ((congrFun (S.up.trans u1) x).trans e) S.rd

/-! ### reaching -/
structure Paper where
  first : Nat
  met : Nat
  last : Nat
def reachS (n : Nat) (s : Sh) (x : Nat) : Sh := splice (mets n n s x).1 none (mets n n s x).2.1
def reach (n : Nat) (s : Sh) (x : Nat) : Sh := (steps n (reachS n s x) x).1
def paperOf (n : Nat) (s : Sh) (x : Nat) : Paper := ⟨(mets n n s x).2.2, (mets n n s x).2.1.length, (steps n (reachS n s x) x).2⟩
structure ReachOf (n : Nat) (s : Sh) (x : Nat) : Prop where
  ok : Ok n (reach n s x)
  okS : Ok n (reachS n s x)
  same : toTop n (reachS n s x) x = steps n (reachS n s x) x
  one : 1 ≤ (paperOf n s x).met
  half : (paperOf n s x).last = (paperOf n s x).met / 2
  fact : ((paperOf n s x).first : Int) + (paperOf n s x).met + (paperOf n s x).last + 5 * ((Phi n (U (reach n s x)) : Int) - Phi n (U s)) ≤ 30 * lg n + 7
theorem reach_of {n : Nat} {s : Sh} (k : Ok n s) {x : Nat} (hx : x < n) : ReachOf n s x := by
  have M := mets_of n k (x := x) (by have := W_pos (n := n) (s := s) hx; omega)
  have S := splice_of _ M.ok M.met (a := none) (fun b z => by cases z)
  have ml : 1 ≤ (mets n n s x).2.1.length := by
    have := M.met
    generalize (mets n n s x).2.1 = l at this
    cases this <;> simp
  have dl : (mets n n s x).2.1.length - 1 < 2 * n + 1 := by
    -- the row above is no longer than the houses
    have R := S.rd
    generalize (mets n n s x).2.1.length - 1 = d at R
    have : ∀ {s : Sh} (_ : Ok n s) {i d : Nat} (_ : RD s i d), d + W n s i ≤ n := by
      intro s k i d R
      induction R with
      | @top i _ _ => have := W_le n s i; omega
      | son _ _ e _ ih => have := W_up k e; omega
    have := this S.ok R
    omega
  have T := steps_of n S.ok S.rd dl
  have hs : toTop n (reachS n s x) x = steps n (reachS n s x) x := by
    show steps n (dh n (reachS n s x) x) x = _
    rw [dh_id n (s := reachS n s x) S.rd]
  have u : U (reachS n s x) = U (mets n n s x).1 := S.up
  have hw : W n (reachS n s x) x = W n (mets n n s x).1 x := by show wt n _ x = wt n _ x; rw [u]
  have t1 := T.five
  have t2 := M.cost
  have t3 := T.many
  have t4 := lg_mono (W_le n (steps n (reachS n s x) x).1 x)
  have hh : (paperOf n s x).last = (paperOf n s x).met / 2 := by
    show (steps n (reachS n s x) x).2 = (mets n n s x).2.1.length / 2
    rw [show (steps n (reachS n s x) x).2 = ((mets n n s x).2.1.length - 1 + 1) / 2 from t3]
    congr 1; omega
  refine ⟨T.ok, S.ok, hs, ml, hh, ?_⟩
  have hm : (paperOf n s x).met = (mets n n s x).2.1.length := rfl
  have hf : (paperOf n s x).first = (mets n n s x).2.2 := rfl
  have hL : (paperOf n s x).last = (steps n (reachS n s x) x).2 := rfl
  change 5 * (Phi n (U (reach n s x)) : Int) + 5 * ((steps n (reachS n s x) x).2 : Int) + 15 * lg (W n (reachS n s x) x) ≤ 5 * Phi n (U (reachS n s x)) + 15 * lg (W n (reach n s x) x) + 5 at t1
  rw [u, ← hL] at t1
  rw [← hm, ← hf] at t2
  change lg (W n (reach n s x) x) ≤ lg n at t4
  omega
end K13
namespace K13

/-! ### the turn by single stores -/
def setS (d : Nd) (right : Bool) (v : Option Nat) : Nd := if right = true then { d with r := v } else { d with l := v }
def getS (d : Nd) (right : Bool) : Option Nat := if right = true then d.r else d.l
/-- what is handed to a son -/
def given1 (s : Sh) (c : Nat) (d : Nd) : Sh := put s c { s c with t := (s c).t != d.t, a := (s c).a + d.a, v := (s c).v + d.a }
def givenO (s : Sh) (c : Option Nat) (d : Nd) : Sh := match c with
  | none => s
  | some c => given1 s c d
def handed (d : Nd) : Nd := ⟨d.up, if d.t then d.r else d.l, if d.t then d.l else d.r, false, 0, d.v⟩
theorem hand_puts {n : Nat} {s : Sh} (k : Ok n s) (h : Nat) : put (givenO (givenO s (s h).l (s h)) (s h).r (s h)) h (handed (s h)) = hand s h := by
  have ll := k.ll h
  have rr := k.rr h
  have lr := k.lr h
  have ac1 : ∀ i q, (s i).up = some q → q ≠ i := fun i q h => up_ne k.ac h
  funext i
  unfold hand givenO given1 handed put
  cases el : (s h).l with
  | none => cases er : (s h).r <;> grind
  | some a => cases er : (s h).r <;> grind
/-- the last stores of a turn, from behind the handing on -/
def midPut (s3 : Sh) (m : Option Nat) (p : Nat) : Sh := match m with
  | none => s3
  | some c => put s3 c { s3 c with up := some p }
def turnFin (s4 : Sh) (x p : Nat) (q : Option Nat) (rt : Bool) : Sh :=
  let s5 := put s4 x (setS (s4 x) (!rt) (some p))
  let s6 := put s5 p { s5 p with up := some x }
  put s6 x { s6 x with up := q }
theorem put_comm {s : Sh} {i j : Nat} {a b : Nd} (h : i ≠ j) : put (put s i a) j b = put (put s j b) i a := by
  funext k
  unfold put
  by_cases h1 : k = j
  · by_cases h2 : k = i
    · omega
    · simp [h1, Ne.symm h]
  · by_cases h2 : k = i
    · simp [h2, h]
    · simp [h1, h2]
theorem turnFin_comm {s4 : Sh} {x p : Nat} {q : Option Nat} {rt : Bool} (h : p ≠ x) :
    turnFin s4 x p q rt = put (put (put s4 x (setS (s4 x) (!rt) (some p))) x { (put s4 x (setS (s4 x) (!rt) (some p))) x with up := q }) p { (put s4 x (setS (s4 x) (!rt) (some p))) p with up := some x } := by
  unfold turnFin
  dsimp only
  generalize put s4 x (setS (s4 x) (!rt) (some p)) = s5
  rw [put_ne (s := s5) (h := p) h.symm, put_comm h]
def turnLow (s2 : Sh) (x p : Nat) (q : Option Nat) (rt : Bool) : Sh :=
  let m := getS (s2 x) (!rt)
  let s3 := put s2 p (setS (s2 p) rt m)
  turnFin (midPut s3 m p) x p q rt
def turnG (s1 : Sh) (x p : Nat) (q : Option Nat) : Sh := match q with
  | none => s1
  | some g => if isSon s1 p = true then put s1 g (setS (s1 g) ((s1 g).r == some p) (some x)) else s1
def turnPuts (s1 : Sh) (x p : Nat) (q : Option Nat) : Sh := turnLow (turnG s1 x p q) x p q ((s1 p).r == some x)
theorem turn_puts {n : Nat} {s1 : Sh} (k : Ok n s1) {x p : Nat} (e1 : (s1 x).up = some p) (hs : isSon s1 x = true) :
    turnPuts s1 x p (s1 p).up = turnAt s1 x p (s1 p).up (if ((s1 p).r == some x) = true then (s1 x).l else (s1 x).r) ((s1 p).r == some x) := by
  have ac1 : ∀ i q, (s1 i).up = some q → q ≠ i := fun i q h => up_ne k.ac h
  have xp : x ≠ p := (ac1 _ _ e1).symm
  have px : (s1 p).up ≠ some x := fun h => not_down k.ac (show U s1 x = some p from e1) (.step h (.refl _))
  have ll := k.ll
  have rr := k.rr
  have lr := k.lr
  have gx : (s1 p).up ≠ some x := px
  have gp : (s1 p).up ≠ some p := fun z => ac1 _ _ z rfl
  have gm : ∀ c, (s1 c).up = some x → (s1 p).up ≠ some c := fun c h z =>
    not_down k.ac (show U s1 x = some p from e1) (.step (p := c) z (.step h (.refl _)))
  have G : ∀ i, turnG s1 x p (s1 p).up i = if (s1 p).up = some i then { s1 i with l := if (s1 i).l = some p then some x else (s1 i).l, r := if (s1 i).r = some p then some x else (s1 i).r } else s1 i := by
    intro i
    unfold turnG
    cases eq : (s1 p).up with
    | none => simp
    | some g =>
      show (if isSon s1 p = true then put s1 g (setS (s1 g) ((s1 g).r == some p) (some x)) else s1) i = _
      rw [isSon_at eq]
      have a1 := ll g p
      have a2 := rr g p
      have a3 := lr g p
      clear ll rr lr gm gx gp ac1 px
      by_cases hg : g = i
      · subst hg
        rw [if_pos rfl]
        split
        · rw [put_same]; unfold setS; cases h1 : s1 g; grind
        · cases h1 : s1 g; grind
      · rw [if_neg (fun z => hg (Option.some.inj z))]
        split
        · rw [put_ne (fun z => hg z.symm)]
        · rfl
  rw [isSon_at e1] at hs
  have G1 := G x
  have G2 := G p
  rw [if_neg gx] at G1
  rw [if_neg gp] at G2
  unfold turnPuts
  have a1 := ll x
  have a2 := rr x
  clear ll rr
  generalize turnG s1 x p (s1 p).up = s2 at *
  unfold turnLow turnFin turnAt midPut
  funext i
  cases ert : ((s1 p).r == some x) with
  | true =>
    simp only [getS, setS, Bool.not_true, Bool.false_eq_true, if_false, if_true]
    rw [G1, G2]
    cases em : (s1 x).l with
    | none =>
      simp only [put]
      grind
    | some c =>
      have b1 := gm c (a1 c em)
      have b2 := ac1 _ _ (a1 c em)
      have b3 : c ≠ p := fun z => by subst z; exact px (a1 _ em)
      simp only [put]
      grind
  | false =>
    simp only [getS, setS, Bool.not_false, if_true, Bool.false_eq_true, if_false]
    rw [G1, G2]
    cases em : (s1 x).r with
    | none =>
      simp only [put]
      grind
    | some c =>
      have b1 := gm c (a2 c em)
      have b2 := ac1 _ _ (a2 c em)
      have b3 : c ≠ p := fun z => by subst z; exact px (a2 _ em)
      simp only [put]
      grind
end K13
namespace K13

/-! ### weights, counted -/
theorem Anc.lastStep {U : Upf} {g h : Nat} (k : Anc U g h) (ne : g ≠ h) : ∃ c, U c = some h ∧ Anc U g c := by
  induction k with
  | refl => exact absurd rfl ne
  | @step g p h e k ih =>
    by_cases ph : p = h
    · subst ph; exact ⟨g, e, .refl _⟩
    · obtain ⟨c, e1, k1⟩ := ih ph
      exact ⟨c, e1, .step e k1⟩
theorem wt_sum {n : Nat} {U : Upf} (cl : Cl n U) (ac : Acyc U) {h : Nat} (hh : h < n) : wt n U h = 1 + sumF n (fun c => if U c = some h then wt n U c else 0) := by
  have e1 : sumF n (fun c => if U c = some h then wt n U c else 0) = sumF n (fun g => sumF n (fun c => if U c = some h then ind (Anc U g c) else 0)) := by
    rw [sumF_swap]
    refine sumF_congr fun c _ => ?_
    by_cases e : U c = some h
    · rw [if_pos e]; exact sumF_congr fun g _ => (if_pos e).symm
    · rw [if_neg e, sumF_congr (g := fun _ => 0) (fun g _ => if_neg e), sumF_zero]
  have e2 : wt n U h = sumF n (fun g => (if g = h then 1 else 0) + sumF n (fun c => if U c = some h then ind (Anc U g c) else 0)) := by
    refine sumF_congr fun g hg => ?_
    by_cases gh : g = h
    · subst gh
      rw [ind_true (.refl _), if_pos rfl, sumF_congr (g := fun _ => 0) (fun c _ => ?_), sumF_zero]
      by_cases e : U c = some g
      · rw [if_pos e, ind_false (not_down ac e)]
      · rw [if_neg e]
    · rw [if_neg gh, Nat.zero_add]
      by_cases k : Anc U g h
      · obtain ⟨c, e, kc⟩ := k.lastStep gh
        rw [ind_true k, sumF_single (a := c) (kc.belowN cl hg) (fun i _ ne => ?_), if_pos e, ind_true kc]
        by_cases ei : U i = some h
        · rw [if_pos ei, ind_false (fun ki => apart ac e ei (Ne.symm ne) kc ki)]
        · rw [if_neg ei]
      · rw [ind_false k, sumF_congr (g := fun _ => 0) (fun c _ => ?_), sumF_zero]
        by_cases e : U c = some h
        · rw [if_pos e, ind_false (fun kc => k (kc.trans (.step e (.refl _))))]
        · rw [if_neg e]
  rw [e1, e2, sumF_add, sumF_single (a := h) (f := fun g => if g = h then 1 else 0) hh (fun i _ ne => if_neg ne), if_pos rfl]
/-- one step up -/
theorem ind_up {U : Upf} (ac : Acyc U) (o h : Nat) : ind (Anc U o h) = (if h = o then 1 else 0) + (match U o with | some p => ind (Anc U p h) | none => 0) := by
  cases e : U o with
  | none =>
    show _ = _ + 0
    by_cases ho : h = o
    · subst ho; rw [ind_true (.refl _), if_pos rfl]
    · rw [if_neg ho, ind_false (fun k => ho (k.none e).symm)]
  | some p =>
    show _ = _ + ind (Anc U p h)
    by_cases ho : h = o
    · subst ho; rw [ind_true (.refl _), if_pos rfl, ind_false (not_down ac e)]
    · rw [if_neg ho, Nat.zero_add]
      refine ind_congr ⟨fun k => ?_, fun k => .step e k⟩
      rcases k.cases' e with z | z
      · exact absurd z.symm ho
      · exact z

/-! ### weights by peeling -/
structure Peel (n : Nat) (U : Upf) (dn : Nat → Bool) (fs ls : Nat → Nat) (rs : List Nat) : Prop where
  fnd : ∀ h, h < n → fs h = 1 + sumF n (fun c => if U c = some h ∧ dn c = true then wt n U c else 0)
  lft : ∀ h, h < n → ls h = sumF n (fun c => if U c = some h ∧ dn c = false then 1 else 0)
  nd : rs.Nodup
  rdy : ∀ h, h ∈ rs ↔ h < n ∧ dn h = false ∧ ls h = 0
  don : ∀ h, h < n → dn h = true → ls h = 0
/-- how many are not done -/
def toDo (n : Nat) (dn : Nat → Bool) : Nat := sumF n (fun c => if dn c = false then 1 else 0)
theorem sumF_eq_zero {n : Nat} {f : Nat → Nat} (h : sumF n f = 0) : ∀ i, i < n → f i = 0 := by
  induction n with
  | zero => intro i hi; omega
  | succ n ih =>
    rw [sumF_succ] at h
    intro i hi
    by_cases e : i = n
    · subst e; omega
    · exact ih (by omega) i (by omega)
theorem Peel.start {n : Nat} {U : Upf} {ls : Nat → Nat} (hl : ∀ h, h < n → ls h = sumF n (fun c => if U c = some h then 1 else 0)) :
    Peel n U (fun _ => false) (fun _ => 1) ls ((List.range n).filter fun h => ls h == 0) where
  fnd := fun h _ => by rw [sumF_congr (g := fun _ => 0) (fun c _ => if_neg (fun z => by cases z.2)), sumF_zero]
  lft := fun h hh => by rw [hl h hh]; exact sumF_congr fun c _ => by simp
  nd := List.nodup_range.filter _
  rdy := fun h => by simp
  don := fun h _ z => by cases z
theorem Peel.here {n : Nat} {U : Upf} {dn : Nat → Bool} {fs ls : Nat → Nat} {rs : List Nat} (P : Peel n U dn fs ls rs) (cl : Cl n U) (ac : Acyc U) {x : Nat} (hx : x < n) (h0 : ls x = 0) : fs x = wt n U x := by
  rw [P.fnd x hx, wt_sum cl ac hx]
  congr 1
  refine sumF_congr fun c hc => ?_
  have z := P.lft x hx
  rw [h0] at z
  have := sumF_eq_zero z.symm c hc
  by_cases e : U c = some x
  · cases d : dn c with
    | true => rw [if_pos ⟨e, rfl⟩, if_pos e]
    | false => rw [if_pos ⟨e, d⟩] at this; cases this
  · rw [if_neg (fun z => e z.1), if_neg e]
theorem toDo_step {n : Nat} {dn : Nat → Bool} {x : Nat} (hx : x < n) (d : dn x = false) : toDo n (fun i => if i = x then true else dn i) + 1 = toDo n dn := by
  have := sumF_at (n := n) (a := x) (f := fun c => if (if c = x then true else dn c) = false then 1 else 0) (g := fun c => if dn c = false then 1 else 0) hx (fun i _ ne => by simp only [if_neg ne])
  simp only [if_pos, d] at this
  unfold toDo
  simpa using this
theorem Peel.stepNone {n : Nat} {U : Upf} {dn : Nat → Bool} {fs ls : Nat → Nat} {rs : List Nat} {x : Nat} (P : Peel n U dn fs ls (rs ++ [x])) (e : U x = none) : Peel n U (fun i => if i = x then true else dn i) fs ls rs := by
  obtain ⟨xn, xd, xl⟩ := (P.rdy x).mp (by simp)
  have nx : x ∉ rs := fun h => by
    have := P.nd
    rw [List.nodup_append] at this
    exact this.2.2 x h x (by simp) rfl
  refine ⟨fun h hh => ?_, fun h hh => ?_, (List.nodup_append.mp P.nd).1, fun h => ?_, fun h hh z => ?_⟩
  · rw [P.fnd h hh]; congr 1
    refine sumF_congr fun c _ => ?_
    by_cases cx : c = x
    · subst cx; rw [if_neg (by rw [e]; simp), if_neg (by rw [e]; simp)]
    · simp only [if_neg cx]
  · rw [P.lft h hh]
    refine sumF_congr fun c _ => ?_
    by_cases cx : c = x
    · subst cx; rw [if_neg (by rw [e]; simp), if_neg (by rw [e]; simp)]
    · simp only [if_neg cx]
  · have := P.rdy h
    rw [List.mem_append, List.mem_singleton] at this
    by_cases hx : h = x
    · subst hx
      simp [nx]
    · simp only [if_neg hx]
      rw [← this]; simp [hx]
  · by_cases hx : h = x
    · subst hx; exact xl
    · rw [if_neg hx] at z; exact P.don h hh z
theorem Peel.stepSome {n : Nat} {U : Upf} {dn : Nat → Bool} {fs ls : Nat → Nat} {rs : List Nat} {x p : Nat} (P : Peel n U dn fs ls (rs ++ [x])) (cl : Cl n U) (ac : Acyc U) (e : U x = some p) :
    1 ≤ ls p ∧ Peel n U (fun i => if i = x then true else dn i) (fun i => if i = p then fs p + fs x else fs i) (fun i => if i = p then ls p - 1 else ls i) (if ls p - 1 = 0 then rs ++ [p] else rs) := by
  obtain ⟨xn, xd, xl⟩ := (P.rdy x).mp (by simp)
  have hp : p < n := cl.below _ _ e
  have px : p ≠ x := up_ne ac e
  have nx : x ∉ rs := fun h => by
    have := P.nd
    rw [List.nodup_append] at this
    exact this.2.2 x h x (by simp) rfl
  have fx := P.here cl ac xn xl
  have a1 := sumF_at (n := n) (a := x) (f := fun c => if U c = some p ∧ dn c = true then wt n U c else 0) (g := fun c => if U c = some p ∧ (if c = x then true else dn c) = true then wt n U c else 0) xn (fun i _ ne => by simp only [if_neg ne])
  have a2 := sumF_at (n := n) (a := x) (f := fun c => if U c = some p ∧ dn c = false then 1 else 0) (g := fun c => if U c = some p ∧ (if c = x then true else dn c) = false then 1 else 0) xn (fun i _ ne => by simp only [if_neg ne])
  simp only [if_pos, e, xd, true_and, Bool.false_eq_true, if_false, Bool.true_eq_false] at a1 a2
  have f1 := P.fnd p hp
  have f2 := P.lft p hp
  have lp : 1 ≤ ls p := by omega
  have np : p ∉ rs := fun h => by
    have := (P.rdy p).mp (by simp [h])
    omega
  have pd : dn p = false := by
    cases d : dn p with
    | false => rfl
    | true => have := P.don p hp d; omega
  refine ⟨lp, ⟨fun h hh => ?_, fun h hh => ?_, ?_, fun h => ?_, fun h hh z => ?_⟩⟩
  · by_cases hx : h = p
    · subst hx; rw [if_pos rfl]; omega
    · rw [if_neg hx, P.fnd h hh]; congr 1
      refine sumF_congr fun c _ => ?_
      by_cases cx : c = x
      · subst cx
        have : ¬ some p = some h := fun z => hx (Option.some.inj z).symm
        rw [if_neg (by rw [e]; exact fun z => this z.1), if_neg (by rw [e]; exact fun z => this z.1)]
      · simp only [if_neg cx]
  · by_cases hx : h = p
    · subst hx; rw [if_pos rfl]; omega
    · rw [if_neg hx, P.lft h hh]
      refine sumF_congr fun c _ => ?_
      by_cases cx : c = x
      · subst cx
        have : ¬ some p = some h := fun z => hx (Option.some.inj z).symm
        rw [if_neg (by rw [e]; exact fun z => this z.1), if_neg (by rw [e]; exact fun z => this z.1)]
      · simp only [if_neg cx]
  · have nd := (List.nodup_append.mp P.nd).1
    split
    · rw [List.nodup_append]
      exact ⟨nd, by simp, fun a ha b hb z => by simp at hb; subst hb; subst z; exact np ha⟩
    · exact nd
  · have := P.rdy h
    rw [List.mem_append, List.mem_singleton] at this
    by_cases hx : h = x
    · subst hx
      simp only [if_pos]
      constructor
      · intro z
        split at z
        · rw [List.mem_append, List.mem_singleton] at z
          rcases z with z | z
          · exact absurd z nx
          · exact absurd z px.symm
        · exact absurd z nx
      · rintro ⟨_, z, _⟩; cases z
    · simp only [if_neg hx]
      by_cases hq : h = p
      · subst hq
        simp only [if_pos]
        by_cases l0 : ls h - 1 = 0
        · rw [if_pos l0]; simp [hp, pd, l0]
        · rw [if_neg l0]; simp [np, l0]
      · simp only [if_neg hq]
        rw [← show (h ∈ rs ∨ h = x ↔ h < n ∧ dn h = false ∧ ls h = 0) from this]
        split
        · simp [hq, hx]
        · simp [hx]
  · by_cases hx : h = x
    · subst hx; rw [if_neg px.symm]; exact xl
    · rw [if_neg hx] at z
      have := P.don h hh z
      by_cases hq : h = p
      · subst hq; omega
      · rw [if_neg hq]; exact this
theorem Peel.done {n : Nat} {U : Upf} {dn : Nat → Bool} {fs ls : Nat → Nat} (P : Peel n U dn fs ls []) (cl : Cl n U) (ac : Acyc U) : ∀ h, h < n → fs h = wt n U h := by
  have all : ∀ (m h : Nat), wt n U h ≤ m → h < n → dn h = true := by
    intro m
    induction m with
    | zero => intro h hw hh; have := wt_pos (n := n) (U := U) hh; omega
    | succ m ih =>
      intro h hw hh
      cases d : dn h with
      | true => rfl
      | false =>
        exfalso
        have l0 : ls h = 0 := by
          rw [P.lft h hh, sumF_congr (g := fun _ => 0) (fun c hc => ?_), sumF_zero]
          by_cases e : U c = some h
          · have := wt_up (n := n) ac e hh
            rw [if_neg]
            intro z
            rw [ih c (by omega) hc] at z; cases z.2
          · rw [if_neg (fun z => e z.1)]
        have := (P.rdy h).mpr ⟨hh, d, l0⟩
        cases this
  intro h hh
  exact P.here cl ac hh (P.don h hh (all _ h (Nat.le_refl _) hh))
theorem lg_half {k : Nat} (h : 1 < k) : lg k = lg (k / 2) + 1 := by
  unfold lg
  rw [Nat.log2_def, if_pos (by omega)]
theorem lg_low {k : Nat} (h : k ≤ 1) : lg k = 0 := by
  unfold lg
  rw [Nat.log2_def, if_neg (by omega)]
end K13
namespace K13
theorem nodup_le : ∀ (n : Nat) (l : List Nat), l.Nodup → (∀ x ∈ l, x < n) → l.length ≤ n
  | 0, [], _, _ => Nat.le_refl _
  | 0, x :: l, _, h => by have := h x (by simp); omega
  | n + 1, l, nd, h => by
    by_cases hn : n ∈ l
    · have h1 := List.length_erase_of_mem hn
      have h2 := nodup_le n (l.erase n) (nd.erase n) (fun x hx => by
        rw [nd.mem_erase_iff] at hx
        have := h x hx.2
        omega)
      omega
    · have := nodup_le n l nd (fun x hx => by
        have := h x hx
        have : x ≠ n := fun z => by subst z; exact hn hx
        omega)
      omega
end K13
namespace K13

/-! ### one deep tree -/
def steepNd (n kind i : Nat) (t : Bool) (a v : Int) : Nd :=
  ⟨if i = 0 then none else some (i - 1), if kind = 1 then (if i + 1 < n then some (i + 1) else none) else none, if kind = 2 then (if i + 1 < n then some (i + 1) else none) else none, t, a, v⟩
/-- the first j houses of such a tree -/
structure Steep (n kind j : Nat) (s : Sh) : Prop where
  nd : ∀ i, i < j → ∃ t a v, s i = steepNd n kind i t a v
  out : ∀ i, j ≤ i → s i = blank
theorem Steep.start (n kind : Nat) : Steep n kind 0 (fun _ => blank) := ⟨fun i h => by omega, fun i _ => rfl⟩
theorem Steep.next {n kind j : Nat} {s : Sh} (S : Steep n kind j s) (t : Bool) (a v : Int) : Steep n kind (j + 1) (put s j (steepNd n kind j t a v)) where
  nd := fun i h => by
    by_cases e : i = j
    · subst e; exact ⟨t, a, v, put_same _ _ _⟩
    · rw [put_ne e]; exact S.nd i (by omega)
  out := fun i h => by rw [put_ne (by omega)]; exact S.out i (by omega)
theorem Steep.ok {n kind : Nat} {s : Sh} (S : Steep n kind n s) : Ok n s := by
  have hu : ∀ i, (s i).up = if i < n ∧ i ≠ 0 then some (i - 1) else none := fun i => by
    by_cases h : i < n
    · obtain ⟨t, a, v, e⟩ := S.nd i h
      rw [e]; unfold steepNd; by_cases z : i = 0 <;> simp [h, z]
    · rw [S.out i (by omega)]; simp [h, blank]
  have hl : ∀ i, (s i).l = if i < n ∧ kind = 1 ∧ i + 1 < n then some (i + 1) else none := fun i => by
    by_cases h : i < n
    · obtain ⟨t, a, v, e⟩ := S.nd i h
      rw [e]; unfold steepNd
      by_cases k : kind = 1
      · by_cases z : i + 1 < n <;> simp [h, k, z]
      · simp [h, k]
    · rw [S.out i (by omega)]; simp [h, blank]
  have hr : ∀ i, (s i).r = if i < n ∧ kind = 2 ∧ i + 1 < n then some (i + 1) else none := fun i => by
    by_cases h : i < n
    · obtain ⟨t, a, v, e⟩ := S.nd i h
      rw [e]; unfold steepNd
      by_cases k : kind = 2
      · by_cases z : i + 1 < n <;> simp [h, k, z]
      · simp [h, k]
    · rw [S.out i (by omega)]; simp [h, blank]
  refine ⟨⟨fun c p e => ?_, fun c h => ?_⟩, ⟨fun i => i, fun c p e => ?_⟩, fun i c e => ?_, fun i c e => ?_, fun i c e => ?_⟩
  · have e : (s c).up = some p := e
    rw [hu] at e; split at e
    · cases e; omega
    · cases e
  · show (s c).up = none
    rw [hu, if_neg (by omega)]
  · have e : (s c).up = some p := e
    rw [hu] at e; split at e
    · cases e; show c - 1 < c; omega
    · cases e
  · rw [hl] at e; split at e
    · cases e; rw [hu, if_pos (by omega)]; simp
    · cases e
  · rw [hr] at e; split at e
    · cases e; rw [hu, if_pos (by omega)]; simp
    · cases e
  · rw [hl] at e; rw [hr]; split at e
    · rw [if_neg (by omega)]; simp
    · cases e

/-! ### rows cut off and hung elsewhere -/
theorem cut_ok {n : Nat} {s : Sh} (k : Ok n s) {x : Nat} (ns : isSon s x = false) : Ok n (put s x { s x with up := none }) := by
  have hu : ∀ i, (put s x { s x with up := none } i).up = if i = x then none else (s i).up := fun i => by unfold put; split <;> simp_all
  have hl : ∀ i, (put s x { s x with up := none } i).l = (s i).l := fun i => by unfold put; split <;> simp_all
  have hr : ∀ i, (put s x { s x with up := none } i).r = (s i).r := fun i => by unfold put; split <;> simp_all
  obtain ⟨m, hm⟩ := k.ac
  refine ⟨⟨fun c p e => ?_, fun c h => ?_⟩, ⟨m, fun c p e => ?_⟩, fun i c e => ?_, fun i c e => ?_, fun i c e => ?_⟩
  · have e : (put s x { s x with up := none } c).up = some p := e
    rw [hu] at e; split at e
    · cases e
    · exact k.cl.below _ _ e
  · show (put s x { s x with up := none } c).up = none
    rw [hu]; split
    · rfl
    · exact k.cl.out c h
  · have e : (put s x { s x with up := none } c).up = some p := e
    rw [hu] at e; split at e
    · cases e
    · exact hm _ _ e
  · rw [hl] at e
    have cx : c ≠ x := fun z => by subst z; rw [isSon_of k (.inl e)] at ns; cases ns
    rw [hu, if_neg cx]; exact k.ll _ _ e
  · rw [hr] at e
    have cx : c ≠ x := fun z => by subst z; rw [isSon_of k (.inr e)] at ns; cases ns
    rw [hu, if_neg cx]; exact k.rr _ _ e
  · rw [hl] at e; rw [hr]; exact k.lr _ _ e
theorem hang_ok {n : Nat} {s : Sh} (k : Ok n s) {x o : Nat} (ux : (s x).up = none) (hx : x < n) (ho : o < n) (na : ¬ Anc (U s) o x) : Ok n (put s x { s x with up := some o }) := by
  have hu : ∀ i, (put s x { s x with up := some o } i).up = if i = x then some o else (s i).up := fun i => by unfold put; split <;> simp_all
  have hl : ∀ i, (put s x { s x with up := some o } i).l = (s i).l := fun i => by unfold put; split <;> simp_all
  have hr : ∀ i, (put s x { s x with up := some o } i).r = (s i).r := fun i => by unfold put; split <;> simp_all
  have ns : ∀ i, (s i).l ≠ some x ∧ (s i).r ≠ some x := fun i => ⟨fun e => (by have := k.ll _ _ e; rw [ux] at this; cases this), fun e => (by have := k.rr _ _ e; rw [ux] at this; cases this)⟩
  obtain ⟨m, hm⟩ := k.ac
  refine ⟨⟨fun c p e => ?_, fun c h => ?_⟩, ⟨fun i => m i + ind (Anc (U s) i x) * (m o + 1), fun c p e => ?_⟩, fun i c e => ?_, fun i c e => ?_, fun i c e => ?_⟩
  · have e : (put s x { s x with up := some o } c).up = some p := e
    rw [hu] at e; split at e
    · cases e; exact ho
    · exact k.cl.below _ _ e
  · show (put s x { s x with up := some o } c).up = none
    rw [hu, if_neg (by omega)]; exact k.cl.out c h
  · have e : (put s x { s x with up := some o } c).up = some p := e
    rw [hu] at e; split at e
    · next z =>
      cases e
      subst z
      show m o + ind (Anc (U s) o c) * (m o + 1) < m c + ind (Anc (U s) c c) * (m o + 1)
      rw [ind_false na, ind_true (.refl _)]; omega
    · next z =>
      have h1 := hm _ _ e
      show m p + ind (Anc (U s) p x) * (m o + 1) < m c + ind (Anc (U s) c x) * (m o + 1)
      have : ind (Anc (U s) p x) = ind (Anc (U s) c x) := ind_congr ⟨fun q => .step e q, fun q => by
        rcases q.cases' e with w | w
        · exact absurd w z
        · exact w⟩
      rw [this]; omega
  · rw [hl] at e
    rw [hu, if_neg (fun z => (ns i).1 (by rw [e, z]))]; exact k.ll _ _ e
  · rw [hr] at e
    rw [hu, if_neg (fun z => (ns i).2 (by rw [e, z]))]; exact k.rr _ _ e
  · rw [hl] at e; rw [hr]; exact k.lr _ _ e
/-- where one comes to by going up so often -/
def climb (U : Upf) : Nat → Nat → Nat
  | 0, o => o
  | t + 1, o => match U (climb U t o) with
    | none => climb U t o
    | some p => p
theorem climb_anc {U : Upf} {o x : Nat} (k : Anc U o x) (ux : U x = none) : ∀ t, Anc U (climb U t o) x
  | 0 => k
  | t + 1 => by
    have ih := climb_anc k ux t
    show Anc U (match U (climb U t o) with | none => climb U t o | some p => p) x
    cases e : U (climb U t o) with
    | none => exact ih
    | some p =>
      rcases ih.cases' e with z | z
      · rw [z, ux] at e; cases e
      · exact z
theorem climb_lt {n : Nat} {U : Upf} (cl : Cl n U) {o : Nat} (ho : o < n) : ∀ t, climb U t o < n
  | 0 => ho
  | t + 1 => by
    show (match U (climb U t o) with | none => climb U t o | some p => p) < n
    cases e : U (climb U t o) with
    | none => exact climb_lt cl ho t
    | some p => exact cl.below _ _ e
theorem climb_wt {n : Nat} {U : Upf} (cl : Cl n U) (ac : Acyc U) {o : Nat} (ho : o < n) : ∀ t, U (climb U t o) = none ∨ t + 1 ≤ wt n U (climb U t o)
  | 0 => .inr (wt_pos ho)
  | t + 1 => by
    have ih := climb_wt cl ac ho t
    show U (match U (climb U t o) with | none => climb U t o | some p => p) = none ∨ _ ≤ wt n U (match U (climb U t o) with | none => climb U t o | some p => p)
    cases e : U (climb U t o) with
    | none => exact .inl e
    | some p =>
      rw [e] at ih
      rcases ih with z | z
      · cases z
      · have := wt_up (n := n) ac e (cl.below _ _ e)
        exact .inr (by show t + 1 + 1 ≤ wt n U p; omega)
theorem climb_root {n : Nat} {U : Upf} (cl : Cl n U) (ac : Acyc U) {o x : Nat} (ho : o < n) (ux : U x = none) (ne : climb U n o ≠ x) : ¬ Anc U o x := fun k => by
  have h1 := climb_anc k ux n
  rcases climb_wt cl ac ho n with z | z
  · exact ne (h1.none z)
  · have := wt_le n U (climb U n o)
    omega

/-! ### a part of a row laid as a tree of turns -/
structure Planted (s s' : Sh) (part : List Nat) (u r : Option Nat) : Prop where
  out : ∀ i, i ∉ part → s' i = s i
  nil : part = [] → r = none
  top : part ≠ [] → ∃ x, x ∈ part ∧ r = some x ∧ (s' x).up = u
  sons : ∀ i, i ∈ part → ∀ c, ((s' i).l = some c ∨ (s' i).r = some c) → c ∈ part ∧ (s' c).up = some i
  lr : ∀ i, i ∈ part → ∀ c, (s' i).l = some c → (s' i).r ≠ some c
  ups : ∃ dep : Nat → Nat, ∀ i, i ∈ part → dep i < part.length ∧ (r = some i ∨ ∃ j, j ∈ part ∧ (s' i).up = some j ∧ dep j < dep i)
theorem Planted.none (s : Sh) (u : Option Nat) : Planted s s [] u none := ⟨fun _ _ => rfl, fun _ => rfl, fun h => absurd rfl h, fun i h => by simp at h, fun i h => by simp at h, ⟨fun _ => 0, fun i h => by simp at h⟩⟩
theorem Planted.mem {s s' : Sh} {l1 l2 : List Nat} {u r : Option Nat} (P : Planted s s' l1 u r) (h : ∀ i, i ∈ l1 ↔ i ∈ l2) (hl : l1.length = l2.length) : Planted s s' l2 u r where
  out := fun i hi => P.out i (fun z => hi ((h i).mp z))
  nil := fun e => P.nil (by subst e; exact List.eq_nil_of_length_eq_zero hl)
  top := fun e => by
    obtain ⟨x, a, b⟩ := P.top (fun z => e (by subst z; exact List.eq_nil_of_length_eq_zero hl.symm))
    exact ⟨x, (h x).mp a, b⟩
  sons := fun i hi c e => let ⟨a, b⟩ := P.sons i ((h i).mpr hi) c e; ⟨(h c).mp a, b⟩
  lr := fun i hi => P.lr i ((h i).mpr hi)
  ups := by
    obtain ⟨dep, hd⟩ := P.ups
    refine ⟨dep, fun i hi => ?_⟩
    obtain ⟨a, b⟩ := hd i ((h i).mpr hi)
    refine ⟨by omega, b.imp id fun ⟨j, c, d⟩ => ⟨j, (h j).mp c, d⟩⟩
theorem Planted.node {s s1 s2 : Sh} {l1 l2 : List Nat} {x : Nat} {u r1 r2 : Option Nat} {t : Bool} {a v : Int} (nd : (l1 ++ x :: l2).Nodup) (P1 : Planted s s1 l1 (some x) r1) (P2 : Planted s1 s2 l2 (some x) r2) :
    Planted s (put s2 x ⟨u, r1, r2, t, a, v⟩) (l1 ++ x :: l2) u (some x) := by
  obtain ⟨nd1, nd2, dj⟩ := List.nodup_append.mp nd
  have x2 : x ∉ l2 := (List.nodup_cons.mp nd2).1
  have x1 : x ∉ l1 := fun h => dj x h x (by simp) rfl
  have d12 : ∀ i, i ∈ l1 → i ∉ l2 := fun i h1 h2 => dj i h1 i (by simp [h2]) rfl
  have e1 : ∀ i, i ∈ l1 → put s2 x ⟨u, r1, r2, t, a, v⟩ i = s1 i := fun i h => by rw [put_ne (fun z => x1 (by rw [← z]; exact h))]; exact P2.out i (d12 i h)
  have e2 : ∀ i, i ∈ l2 → put s2 x ⟨u, r1, r2, t, a, v⟩ i = s2 i := fun i h => put_ne (fun z => x2 (by rw [← z]; exact h))
  have r1m : ∀ c, r1 = some c → c ∈ l1 ∧ (s1 c).up = some x := fun c e => by
    by_cases z : l1 = []
    · rw [P1.nil z] at e; cases e
    · obtain ⟨y, a, b, d⟩ := P1.top z
      rw [b] at e; cases e
      exact ⟨a, d⟩
  have r2m : ∀ c, r2 = some c → c ∈ l2 ∧ (s2 c).up = some x := fun c e => by
    by_cases z : l2 = []
    · rw [P2.nil z] at e; cases e
    · obtain ⟨y, a, b, d⟩ := P2.top z
      rw [b] at e; cases e
      exact ⟨a, d⟩
  obtain ⟨d1, h1⟩ := P1.ups
  obtain ⟨d2, h2⟩ := P2.ups
  refine ⟨fun i h => ?_, fun h => by simp at h, fun _ => ⟨x, by simp, rfl, by rw [put_same]⟩, fun i h c e => ?_, fun i h c e => ?_, ⟨fun i => if i = x then 0 else if i ∈ l1 then d1 i + 1 else d2 i + 1, fun i h => ?_⟩⟩
  · simp only [List.mem_append, List.mem_cons, not_or] at h
    rw [put_ne h.2.1, P2.out i h.2.2, P1.out i h.1]
  · rcases List.mem_append.mp h with h | h
    · rw [e1 i h] at e
      obtain ⟨a, b⟩ := P1.sons i h c e
      exact ⟨by simp [a], by rw [e1 c a]; exact b⟩
    · rcases List.mem_cons.mp h with h | h
      · subst h
        rw [put_same] at e
        rcases e with e | e
        · obtain ⟨a, b⟩ := r1m c e
          exact ⟨by simp [a], by rw [e1 c a]; exact b⟩
        · obtain ⟨a, b⟩ := r2m c e
          exact ⟨by simp [a], by rw [e2 c a]; exact b⟩
      · rw [e2 i h] at e
        obtain ⟨a, b⟩ := P2.sons i h c e
        exact ⟨by simp [a], by rw [e2 c a]; exact b⟩
  · rcases List.mem_append.mp h with h | h
    · rw [e1 i h] at e ⊢; exact P1.lr i h c e
    · rcases List.mem_cons.mp h with h | h
      · subst h
        rw [put_same] at e ⊢
        intro z
        exact d12 c (r1m c e).1 (r2m c z).1
      · rw [e2 i h] at e ⊢; exact P2.lr i h c e
  · rw [List.length_append, List.length_cons]
    rcases List.mem_append.mp h with h | h
    · have ix : i ≠ x := fun z => x1 (by rw [← z]; exact h)
      obtain ⟨b1, b2⟩ := h1 i h
      dsimp only
      rw [if_neg ix, if_pos h]
      refine ⟨by omega, .inr ?_⟩
      rcases b2 with b2 | ⟨j, c1, c2, c3⟩
      · exact ⟨x, by simp, by rw [e1 i h]; exact (r1m i b2).2, by rw [if_pos rfl]; omega⟩
      · have jx : j ≠ x := fun z => x1 (by rw [← z]; exact c1)
        exact ⟨j, by simp [c1], by rw [e1 i h]; exact c2, by rw [if_neg jx, if_pos c1]; omega⟩
    · rcases List.mem_cons.mp h with h | h
      · subst h
        dsimp only
        rw [if_pos rfl]; exact ⟨by omega, .inl rfl⟩
      · have ix : i ≠ x := fun z => x2 (by rw [← z]; exact h)
        have i1 : i ∉ l1 := fun z => d12 i z h
        obtain ⟨b1, b2⟩ := h2 i h
        dsimp only
        rw [if_neg ix, if_neg i1]
        refine ⟨by omega, .inr ?_⟩
        rcases b2 with b2 | ⟨j, c1, c2, c3⟩
        · exact ⟨x, by simp, by rw [e2 i h]; exact (r2m i b2).2, by rw [if_pos rfl]; omega⟩
        · have jx : j ≠ x := fun z => x2 (by rw [← z]; exact c1)
          have j1 : j ∉ l1 := fun z => d12 j z c1
          exact ⟨j, by simp [c1], by rw [e2 i h]; exact c2, by rw [if_neg jx, if_neg j1]; omega⟩
end K13
namespace K13

/-! ### a forest's houses in rows -/
structure RowsOf (n : Nat) (Par : Nat → Option Nat) (rows : List (List Nat)) : Prop where
  ne : ∀ l ∈ rows, ∃ t, l[0]? = some t
  nd : ∀ l ∈ rows, l.Nodup
  lt : ∀ l ∈ rows, ∀ i ∈ l, i < n
  asc : ∀ M : Nat → Nat, (∀ c p, Par c = some p → M p < M c) → ∀ l ∈ rows, ∀ t, l[0]? = some t → ∀ x ∈ l, M t ≤ M x
  dj : ∀ (i j : Nat) (l l' : List Nat), rows[i]? = some l → rows[j]? = some l' → (∃ x, x ∈ l ∧ x ∈ l') → i = j
  all : ∀ x, x < n → ∃ l ∈ rows, x ∈ l
theorem Planted.here {s0 s s' : Sh} {l : List Nat} {u r : Option Nat} (P : Planted s0 s l u r) (e : ∀ i ∈ l, s' i = s i) : Planted s' s' l u r where
  out := fun _ _ => rfl
  nil := P.nil
  top := fun h => by
    obtain ⟨x, a, b, c⟩ := P.top h
    exact ⟨x, a, b, by rw [e x a]; exact c⟩
  sons := fun i hi c h => by
    rw [e i hi] at h
    obtain ⟨a, b⟩ := P.sons i hi c h
    exact ⟨a, by rw [e c a]; exact b⟩
  lr := fun i hi c h => by rw [e i hi] at h ⊢; exact P.lr i hi c h
  ups := by
    obtain ⟨dep, hd⟩ := P.ups
    refine ⟨dep, fun i hi => ?_⟩
    obtain ⟨a, b⟩ := hd i hi
    refine ⟨a, b.imp id fun ⟨j, h1, h2, h3⟩ => ⟨j, h1, by rw [e i hi]; exact h2, h3⟩⟩
theorem rows_ok {n : Nat} {Par : Nat → Option Nat} {rows : List (List Nat)} {s : Sh} (cl : Cl n Par) (ac : Acyc Par) (R : RowsOf n Par rows) (P : ∀ l ∈ rows, ∀ t, l[0]? = some t → ∃ r, Planted s s l (Par t) r) (B : ∀ i, n ≤ i → s i = blank) : Ok n s := by
  obtain ⟨M, hM⟩ := ac
  -- whose row, and how deep
  have each : ∀ x, x < n → ∃ (l : List Nat) (t : Nat) (r : Option Nat), l ∈ rows ∧ x ∈ l ∧ l[0]? = some t ∧ Planted s s l (Par t) r := fun x hx => by
    obtain ⟨l, hl, hxl⟩ := R.all x hx
    obtain ⟨t, ht⟩ := R.ne l hl
    obtain ⟨r, hp⟩ := P l hl t ht
    exact ⟨l, t, r, hl, hxl, ht, hp⟩
  have same : ∀ {l l' : List Nat} {x : Nat}, l ∈ rows → l' ∈ rows → x ∈ l → x ∈ l' → l = l' := fun {l l' x} h1 h2 h3 h4 => by
    obtain ⟨i, hi, e1⟩ := List.getElem_of_mem h1
    obtain ⟨j, hj, e2⟩ := List.getElem_of_mem h2
    have := R.dj i j l l' (by rw [List.getElem?_eq_getElem hi, e1]) (by rw [List.getElem?_eq_getElem hj, e2]) ⟨x, h3, h4⟩
    subst this
    rw [← e1, ← e2]
  -- the top of the row of a house
  let tp : Nat → Nat := fun x => Classical.epsilon fun t => ∃ l ∈ rows, x ∈ l ∧ l[0]? = some t
  have tpe : ∀ (l : List Nat) (x t : Nat), l ∈ rows → x ∈ l → l[0]? = some t → tp x = t := fun l x t h1 h2 h3 => by
    have z : ∃ l ∈ rows, x ∈ l ∧ l[0]? = some (tp x) := Classical.epsilon_spec (p := fun t => ∃ l ∈ rows, x ∈ l ∧ l[0]? = some t) ⟨t, l, h1, h2, h3⟩
    obtain ⟨l', h1', h2', h3'⟩ := z
    have := same h1 h1' h2 h2'
    subst this
    rw [h3] at h3'; exact (Option.some.inj h3').symm
  -- how deep
  let dp : Nat → Nat := fun x => Classical.epsilon fun d => ∃ (l : List Nat) (t : Nat) (f : Nat → Nat), l ∈ rows ∧ x ∈ l ∧ l[0]? = some t ∧ f = Classical.epsilon (fun f : Nat → Nat => ∃ r, (∀ y, r = some y → y ∈ l ∧ (s y).up = Par t) ∧ ∀ i, i ∈ l → f i < l.length ∧ (r = some i ∨ ∃ j, j ∈ l ∧ (s i).up = some j ∧ f j < f i)) ∧ d = f x
  have dpe : ∀ (l : List Nat) (t : Nat), l ∈ rows → l[0]? = some t → (∃ r : Option Nat, (∀ y, r = some y → y ∈ l ∧ (s y).up = Par t) ∧ ∀ i, i ∈ l → dp i < l.length ∧ (r = some i ∨ ∃ j, j ∈ l ∧ (s i).up = some j ∧ dp j < dp i)) := fun l t hl ht => by
    have z : ∃ f : Nat → Nat, ∃ r, (∀ y, r = some y → y ∈ l ∧ (s y).up = Par t) ∧ ∀ i, i ∈ l → f i < l.length ∧ (r = some i ∨ ∃ j, j ∈ l ∧ (s i).up = some j ∧ f j < f i) := by
      obtain ⟨r, hp⟩ := P l hl t ht
      obtain ⟨f, hf⟩ := hp.ups
      have hne : l ≠ [] := fun z => by rw [z] at ht; cases ht
      obtain ⟨y, a, b, c⟩ := hp.top hne
      exact ⟨f, r, fun y' e => (by rw [b] at e; cases e; exact ⟨a, c⟩), hf⟩
    have z2 := Classical.epsilon_spec z
    generalize hF : Classical.epsilon (fun f : Nat → Nat => ∃ r, (∀ y, r = some y → y ∈ l ∧ (s y).up = Par t) ∧ ∀ i, i ∈ l → f i < l.length ∧ (r = some i ∨ ∃ j, j ∈ l ∧ (s i).up = some j ∧ f j < f i)) = F at z2
    have de : ∀ i ∈ l, dp i = F i := fun i hi => by
      have w : ∃ (l : List Nat) (t : Nat) (f : Nat → Nat), l ∈ rows ∧ i ∈ l ∧ l[0]? = some t ∧ f = Classical.epsilon (fun f : Nat → Nat => ∃ r, (∀ y, r = some y → y ∈ l ∧ (s y).up = Par t) ∧ ∀ i, i ∈ l → f i < l.length ∧ (r = some i ∨ ∃ j, j ∈ l ∧ (s i).up = some j ∧ f j < f i)) ∧ dp i = f i :=
        Classical.epsilon_spec (p := fun d => ∃ (l : List Nat) (t : Nat) (f : Nat → Nat), l ∈ rows ∧ i ∈ l ∧ l[0]? = some t ∧ f = Classical.epsilon (fun f : Nat → Nat => ∃ r, (∀ y, r = some y → y ∈ l ∧ (s y).up = Par t) ∧ ∀ i, i ∈ l → f i < l.length ∧ (r = some i ∨ ∃ j, j ∈ l ∧ (s i).up = some j ∧ f j < f i)) ∧ d = f i) ⟨F i, l, t, F, hl, hi, ht, hF.symm, rfl⟩
      obtain ⟨l', t', f', h1, h2, h3, h4, h5⟩ := w
      have := same hl h1 hi h2
      subst this
      rw [ht] at h3; cases h3
      rw [hF] at h4
      rw [h5, h4]
    obtain ⟨r, h2, h3⟩ := z2
    refine ⟨r, h2, fun i hi => ?_⟩
    obtain ⟨a, b⟩ := h3 i hi
    rw [de i hi]
    refine ⟨a, b.imp id fun ⟨j, u1, u2, u3⟩ => ⟨j, u1, u2, by rw [de j u1]; exact u3⟩⟩
  have lenle : ∀ l ∈ rows, l.length ≤ n := fun l hl => nodup_le n l (R.nd l hl) (R.lt l hl)
  -- where one comes to
  have up : ∀ x q, (s x).up = some q → x < n ∧ q < n ∧ tp q * 0 = 0 ∧ M (tp q) * (n + 1) + dp q < M (tp x) * (n + 1) + dp x := fun x q e => by
    have hx : x < n := Nat.lt_of_not_le fun z => by rw [B x z] at e; cases e
    obtain ⟨l, t, r, hl, hxl, ht, hp⟩ := each x hx
    obtain ⟨r', h1, h2⟩ := dpe l t hl ht
    have e1 := tpe l x t hl hxl ht
    obtain ⟨a, b⟩ := h2 x hxl
    rcases b with b | ⟨j, c1, c2, c3⟩
    · obtain ⟨_, c⟩ := h1 x b
      rw [e] at c
      have hq := cl.below _ _ c.symm
      obtain ⟨l', t', r2, hl', hql, ht', hp'⟩ := each q hq
      have e2 := tpe l' q t' hl' hql ht'
      obtain ⟨_, _, h3⟩ := dpe l' t' hl' ht'
      have h4 := (h3 q hql).1
      have h5 := lenle l' hl'
      have h6 := R.asc M hM l' hl' t' ht' q hql
      have h7 := hM _ _ c.symm
      refine ⟨hx, hq, rfl, ?_⟩
      rw [e1, e2]
      have h8 : (M t' + 1) * (n + 1) ≤ M t * (n + 1) := Nat.mul_le_mul_right _ (by omega)
      rw [Nat.add_mul, Nat.one_mul] at h8
      omega
    · rw [e] at c2; cases c2
      have e2 := tpe l q t hl c1 ht
      refine ⟨hx, R.lt l hl q c1, rfl, ?_⟩
      rw [e1, e2]; omega
  refine ⟨⟨fun c p e => (up c p e).2.1, fun c hc => by show (s c).up = none; rw [B c hc]; rfl⟩, ⟨fun x => M (tp x) * (n + 1) + dp x, fun c p e => (up c p e).2.2.2⟩, fun i c e => ?_, fun i c e => ?_, fun i c e => ?_⟩
  · have hi : i < n := Nat.lt_of_not_le fun z => by rw [B i z] at e; cases e
    obtain ⟨l, t, r, hl, hil, ht, hp⟩ := each i hi
    exact (hp.sons i hil c (.inl e)).2
  · have hi : i < n := Nat.lt_of_not_le fun z => by rw [B i z] at e; cases e
    obtain ⟨l, t, r, hl, hil, ht, hp⟩ := each i hi
    exact (hp.sons i hil c (.inr e)).2
  · have hi : i < n := Nat.lt_of_not_le fun z => by rw [B i z] at e; cases e
    obtain ⟨l, t, r, hl, hil, ht, hp⟩ := each i hi
    exact hp.lr i hil c e

/-! ### the rows that the program finds -/
structure RowOf (G : Nat → Option Nat) (t : Nat) (l : List Nat) : Prop where
  hd : l[0]? = some t
  st : ∀ i y, l[i + 1]? = some y → ∃ x, l[i]? = some x ∧ G x = some y
def Full (G : Nat → Option Nat) (l : List Nat) : Prop := ∀ x, l[l.length - 1]? = some x → G x = none
def Top (Par G : Nat → Option Nat) (t : Nat) : Prop := ∀ q, Par t = some q → G q ≠ some t
theorem RowOf.one (G : Nat → Option Nat) (t : Nat) : RowOf G t [t] := ⟨rfl, fun i y e => by simp at e⟩
theorem RowOf.more {G : Nat → Option Nat} {t x y : Nat} {l : List Nat} (R : RowOf G t (l ++ [x])) (e : G x = some y) : RowOf G t (l ++ [x] ++ [y]) := by
  refine ⟨?_, fun i z ez => ?_⟩
  · rw [List.getElem?_append_left (by simp)]; exact R.hd
  · by_cases h : i + 1 < (l ++ [x]).length
    · rw [List.getElem?_append_left h] at ez
      obtain ⟨w, a, b⟩ := R.st i z ez
      exact ⟨w, by rw [List.getElem?_append_left (by omega)]; exact a, b⟩
    · have hl : (l ++ [x]).length = l.length + 1 := by simp
      rw [List.getElem?_append_right (by omega)] at ez
      have z0 : i + 1 - (l ++ [x]).length = 0 := by
        have := (List.getElem?_eq_some_iff.mp ez).1
        simp at this; omega
      rw [z0] at ez
      cases ez
      have hi : i = l.length := by omega
      subst hi
      refine ⟨x, by rw [List.getElem?_append_left (by omega), List.getElem?_append_right (by omega)]; simp, e⟩
section
variable {n : Nat} {Par G : Nat → Option Nat}
theorem RowOf.up {M : Nat → Nat} (hM : ∀ c p, Par c = some p → M p < M c) (gp : ∀ q h, G q = some h → Par h = some q) {t : Nat} {l : List Nat} (R : RowOf G t l) : ∀ d i x y, l[i]? = some x → l[i + d + 1]? = some y → M x < M y
  | 0, i, x, y, e1, e2 => by
    obtain ⟨z, a, b⟩ := R.st _ _ e2
    rw [e1] at a; cases a
    exact hM _ _ (gp _ _ b)
  | d + 1, i, x, y, e1, e2 => by
    obtain ⟨z, a, b⟩ := R.st _ _ e2
    have h1 := R.up hM gp d i x z e1 (by rw [← a]; congr 1)
    have h2 := hM _ _ (gp _ _ b)
    omega
theorem RowOf.nodup (ac : Acyc Par) (gp : ∀ q h, G q = some h → Par h = some q) {t : Nat} {l : List Nat} (R : RowOf G t l) : l.Nodup := by
  obtain ⟨M, hM⟩ := ac
  refine List.nodup_iff_pairwise_ne.mpr ?_
  rw [List.pairwise_iff_getElem]
  intro i j hi hj ij z
  have e1 : l[i]? = some l[i] := List.getElem?_eq_getElem hi
  have e2 : l[i + (j - i - 1) + 1]? = some l[i] := by rw [show i + (j - i - 1) + 1 = j from by omega, List.getElem?_eq_getElem hj, z]
  have := R.up hM gp _ _ _ _ e1 e2
  omega
theorem RowOf.lt (cl : Cl n Par) (gp : ∀ q h, G q = some h → Par h = some q) {t : Nat} {l : List Nat} (R : RowOf G t l) (ht : t < n) : ∀ x ∈ l, x < n := fun x hx => by
  obtain ⟨i, hi, e⟩ := List.getElem_of_mem hx
  have e : l[i]? = some x := by rw [List.getElem?_eq_getElem hi, e]
  cases i with
  | zero => rw [R.hd] at e; cases e; exact ht
  | succ i =>
    obtain ⟨y, a, b⟩ := R.st i x e
    refine Nat.lt_of_not_le fun z => ?_
    have := cl.out x z
    rw [gp _ _ b] at this; cases this
theorem RowOf.full (cl : Cl n Par) (ac : Acyc Par) (gp : ∀ q h, G q = some h → Par h = some q) {t : Nat} {l : List Nat} (R : RowOf G t l) (ht : t < n) (h : Full G l ∨ l.length = n + 1) : Full G l := by
  rcases h with h | h
  · exact h
  · have := nodup_le n l (R.nodup ac gp) (R.lt cl gp ht)
    omega
theorem RowOf.back (gp : ∀ q h, G q = some h → Par h = some q) {t t' : Nat} {l l' : List Nat} (R : RowOf G t l) (R' : RowOf G t' l') (T : Top Par G t) (T' : Top Par G t') : ∀ a b x : Nat, l[a]? = some x → l'[b]? = some x → t = t'
  | 0, 0, x, e1, e2 => by rw [R.hd] at e1; rw [R'.hd] at e2; cases e1; cases e2; rfl
  | 0, b + 1, x, e1, e2 => by
    rw [R.hd] at e1; cases e1
    obtain ⟨y, _, h⟩ := R'.st b t e2
    exact absurd h (T y (gp _ _ h))
  | a + 1, 0, x, e1, e2 => by
    rw [R'.hd] at e2; cases e2
    obtain ⟨y, _, h⟩ := R.st a t' e1
    exact absurd h (T' y (gp _ _ h))
  | a + 1, b + 1, x, e1, e2 => by
    obtain ⟨y, h1, h2⟩ := R.st a x e1
    obtain ⟨y', h1', h2'⟩ := R'.st b x e2
    have := gp _ _ h2
    rw [gp _ _ h2'] at this; cases this
    exact R.back gp R' T T' a b y h1 h1'
structure RowsG (n : Nat) (Par G : Nat → Option Nat) (j : Nat) (rows : List (List Nat)) : Prop where
  row : ∀ l ∈ rows, ∃ t, t < j ∧ t < n ∧ Top Par G t ∧ RowOf G t l ∧ Full G l
  has : ∀ t, t < j → Top Par G t → ∃ l ∈ rows, l[0]? = some t
  one : ∀ (i k : Nat) (l l' : List Nat), rows[i]? = some l → rows[k]? = some l' → l[0]? = l'[0]? → i = k
theorem RowsG.start : RowsG n Par G 0 [] := ⟨fun l h => by simp at h, fun t h => by omega, fun i k l l' h => by simp at h⟩
theorem RowsG.skip {j : Nat} {rows : List (List Nat)} (R : RowsG n Par G j rows) (h : ¬ Top Par G j) : RowsG n Par G (j + 1) rows where
  row := fun l hl => let ⟨t, a, b⟩ := R.row l hl; ⟨t, by omega, b⟩
  has := fun t ht T => by
    by_cases e : t = j
    · subst e; exact absurd T h
    · exact R.has t (by omega) T
  one := R.one
theorem RowsG.more {j : Nat} {rows : List (List Nat)} {l : List Nat} (R : RowsG n Par G j rows) (hj : j < n) (T : Top Par G j) (Rl : RowOf G j l) (F : Full G l) : RowsG n Par G (j + 1) (rows ++ [l]) := by
  have hd : ∀ (i : Nat) (l' : List Nat), rows[i]? = some l' → l'[0]? ≠ some j := fun i l' e z => by
    obtain ⟨t, h1, _, _, h2, _⟩ := R.row l' (List.mem_of_getElem? e)
    rw [h2.hd] at z; cases z; omega
  have at' : ∀ (i : Nat) (l' : List Nat), (rows ++ [l])[i]? = some l' → (rows[i]? = some l' ∨ (i = rows.length ∧ l' = l)) := fun i l' e => by
    by_cases h : i < rows.length
    · rw [List.getElem?_append_left h] at e; exact .inl e
    · rw [List.getElem?_append_right (by omega)] at e
      have z0 : i - rows.length = 0 := by
        have := (List.getElem?_eq_some_iff.mp e).1
        simp at this; omega
      rw [z0] at e; cases e
      exact .inr ⟨by omega, rfl⟩
  refine ⟨fun l' hl => ?_, fun t ht Tt => ?_, fun i k l1 l2 e1 e2 e => ?_⟩
  · rcases List.mem_append.mp hl with hl | hl
    · obtain ⟨t, a, b⟩ := R.row l' hl; exact ⟨t, by omega, b⟩
    · rw [List.mem_singleton.mp hl]; exact ⟨j, by omega, hj, T, Rl, F⟩
  · by_cases e : t = j
    · subst e; exact ⟨l, by simp, Rl.hd⟩
    · obtain ⟨l', a, b⟩ := R.has t (by omega) Tt; exact ⟨l', by simp [a], b⟩
  · rcases at' i l1 e1 with h1 | ⟨h1, rfl⟩
    · rcases at' k l2 e2 with h2 | ⟨h2, rfl⟩
      · exact R.one i k l1 l2 h1 h2 e
      · rw [Rl.hd] at e; exact absurd e (hd i l1 h1)
    · rcases at' k l2 e2 with h2 | ⟨h2, _⟩
      · rw [Rl.hd] at e; exact absurd e.symm (hd k l2 h2)
      · omega
theorem RowsG.done {rows : List (List Nat)} (cl : Cl n Par) (ac : Acyc Par) (gp : ∀ q h, G q = some h → Par h = some q) (R : RowsG n Par G n rows) : RowsOf n Par rows where
  ne := fun l hl => let ⟨t, _, _, _, h, _⟩ := R.row l hl; ⟨t, h.hd⟩
  nd := fun l hl => let ⟨t, _, _, _, h, _⟩ := R.row l hl; h.nodup ac gp
  lt := fun l hl => let ⟨t, _, ht, _, h, _⟩ := R.row l hl; h.lt cl gp ht
  asc := fun M hM l hl t ht x hx => by
    obtain ⟨t', _, _, _, h, _⟩ := R.row l hl
    obtain ⟨i, hi, e⟩ := List.getElem_of_mem hx
    have e : l[i]? = some x := by rw [List.getElem?_eq_getElem hi, e]
    cases i with
    | zero => rw [ht] at e; cases e; exact Nat.le_refl _
    | succ i =>
      have := h.up hM gp i 0 t x ht (by rw [← e]; congr 1; omega)
      omega
  dj := fun i j l l' e1 e2 ⟨x, h1, h2⟩ => by
    obtain ⟨t, _, _, T, h, _⟩ := R.row l (List.mem_of_getElem? e1)
    obtain ⟨t', _, _, T', h', _⟩ := R.row l' (List.mem_of_getElem? e2)
    obtain ⟨a, ha, ea⟩ := List.getElem_of_mem h1
    obtain ⟨b, hb, eb⟩ := List.getElem_of_mem h2
    have := h.back gp h' T T' a b x (by rw [List.getElem?_eq_getElem ha, ea]) (by rw [List.getElem?_eq_getElem hb, eb])
    subst this
    exact R.one i j l l' e1 e2 (by rw [h.hd, h'.hd])
  all := by
    obtain ⟨M, hM⟩ := ac
    have : ∀ (k x : Nat), M x < k → x < n → ∃ l ∈ rows, x ∈ l := by
      intro k
      induction k with
      | zero => intro x h; omega
      | succ k ih =>
        intro x hk hx
        by_cases T : Top Par G x
        · obtain ⟨l, a, b⟩ := R.has x hx T
          exact ⟨l, a, List.mem_of_getElem? b⟩
        · have : ∃ q, Par x = some q ∧ G q = some x := Classical.byContradiction fun z => T fun q e1 e2 => z ⟨q, e1, e2⟩
          obtain ⟨q, e1, e2⟩ := this
          have hq := cl.below _ _ e1
          have := hM _ _ e1
          obtain ⟨l, a, b⟩ := ih q (by omega) hq
          obtain ⟨t, _, _, _, h, F⟩ := R.row l a
          obtain ⟨i, hi, e⟩ := List.getElem_of_mem b
          have e : l[i]? = some q := by rw [List.getElem?_eq_getElem hi, e]
          by_cases z : i + 1 < l.length
          · obtain ⟨y, u1, u2⟩ := h.st i l[i + 1] (List.getElem?_eq_getElem z)
            rw [e] at u1; cases u1
            rw [e2] at u2
            have := Option.some.inj u2
            exact ⟨l, a, by rw [this]; exact List.getElem_mem z⟩
          · have : i = l.length - 1 := by omega
            have := F q (by rw [← this]; exact e)
            rw [e2] at this; cases this
    exact fun x hx => this (M x + 1) x (by omega) hx
end
end K13
set_option maxRecDepth 100000
set_option maxHeartbeats 2000000
namespace K13
open PySem PySem.Spec PyProof.Rows L2
/-! ### the text -/
def topS (i : Nat) : Stmt := PySem.Challenge.pw_cutlinked_k13_whole_papers_of_reachings.main.body.getD i (.Pass ⟨0, 0, 0, 0⟩)
abbrev st_is_integer : Stmt := topS 7
abbrev st_is_within : Stmt := topS 8
abbrev st_is_number : Stmt := topS 9
abbrev st_is_below : Stmt := topS 10
abbrev st_is_sized : Stmt := topS 11
abbrev st_check_within : Stmt := topS 12
abbrev st_replaced : Stmt := topS 13
abbrev st_check_house : Stmt := topS 15
abbrev st_is_place : Stmt := topS 24
abbrev st_is_part : Stmt := topS 25
abbrev st_sons_of : Stmt := topS 26
abbrev st_comes_out : Stmt := topS 27
abbrev st_is_right_shape : Stmt := topS 28
abbrev st_check_shape : Stmt := topS 29
abbrev st_is_son : Stmt := topS 30
abbrev st_rank_of : Stmt := topS 31
abbrev st_all_weights : Stmt := topS 32
abbrev st_sum_of_ranks : Stmt := topS 33
abbrev st_changed : Stmt := topS 34
abbrev st_with_more : Stmt := topS 35
abbrev st_after_handing : Stmt := topS 36
abbrev st_side_of : Stmt := topS 37
abbrev st_after_turn : Stmt := topS 38
abbrev st_down_to : Stmt := topS 43
abbrev st_after_step : Stmt := topS 44
abbrev st_to_top : Stmt := topS 45
abbrev st_met_from : Stmt := topS 46
abbrev st_spliced : Stmt := topS 47
abbrev st_after_reaching : Stmt := topS 48
abbrev st_reached : Stmt := topS 49
abbrev st_most_of : Stmt := topS 50
abbrev st_is_paper : Stmt := topS 51
abbrev st_q_hand : Stmt := topS 53
abbrev st_q_draw : Stmt := topS 54
abbrev st_q_some : Stmt := topS 55
abbrev st_q_shuffled : Stmt := topS 56
abbrev st_q_is : Stmt := topS 57
abbrev st_q_trees : Stmt := topS 58
abbrev st_q_rows_of : Stmt := topS 59
abbrev st_q_planted : Stmt := topS 60
abbrev st_q_laid : Stmt := topS 61
abbrev st_q_shape : Stmt := topS 62
abbrev st_q_is_son : Stmt := topS 63
abbrev st_q_hand_on : Stmt := topS 64
abbrev st_q_turn_up : Stmt := topS 65
abbrev st_q_side : Stmt := topS 66
abbrev st_q_step_up : Stmt := topS 67
abbrev st_q_weights : Stmt := topS 68
abbrev st_q_rank : Stmt := topS 69
abbrev st_q_potential : Stmt := topS 70
abbrev st_q_down_to : Stmt := topS 71
abbrev st_q_reach : Stmt := topS 72
abbrev st_q_steep : Stmt := topS 73
abbrev st_q_moved_off : Stmt := topS 74
abbrev st_q_deepest : Stmt := topS 75
abbrev st_law : Stmt := topS 76
abbrev ns_is_integer : List Str := ["thing"]
theorem sc_is_integer : FnScope ns_is_integer ["thing"] (defScope st_is_integer) := ⟨rfl, rfl, rfl, by decide +kernel, rfl, by decide +kernel, by decide +kernel⟩
abbrev ns_is_within : List Str := ["thing", "least", "most"]
theorem sc_is_within : FnScope ns_is_within ["thing", "least", "most"] (defScope st_is_within) := ⟨rfl, rfl, rfl, by decide +kernel, rfl, by decide +kernel, by decide +kernel⟩
abbrev ns_is_number : List Str := ["thing"]
theorem sc_is_number : FnScope ns_is_number ["thing"] (defScope st_is_number) := ⟨rfl, rfl, rfl, by decide +kernel, rfl, by decide +kernel, by decide +kernel⟩
abbrev ns_is_below : List Str := ["thing", "many"]
theorem sc_is_below : FnScope ns_is_below ["thing", "many"] (defScope st_is_below) := ⟨rfl, rfl, rfl, by decide +kernel, rfl, by decide +kernel, by decide +kernel⟩
abbrev ns_is_sized : List Str := ["thing", "least", "most"]
theorem sc_is_sized : FnScope ns_is_sized ["thing", "least", "most"] (defScope st_is_sized) := ⟨rfl, rfl, rfl, by decide +kernel, rfl, by decide +kernel, by decide +kernel⟩
abbrev ns_check_within : List Str := ["thing", "least", "most"]
theorem sc_check_within : FnScope ns_check_within ["thing", "least", "most"] (defScope st_check_within) := ⟨rfl, rfl, rfl, by decide +kernel, rfl, by decide +kernel, by decide +kernel⟩
abbrev ns_replaced : List Str := ["items", "number", "item"]
theorem sc_replaced : FnScope ns_replaced ["items", "number", "item"] (defScope st_replaced) := ⟨rfl, rfl, rfl, by decide +kernel, rfl, by decide +kernel, by decide +kernel⟩
abbrev ns_check_house : List Str := ["many", "thing"]
theorem sc_check_house : FnScope ns_check_house ["many", "thing"] (defScope st_check_house) := ⟨rfl, rfl, rfl, by decide +kernel, rfl, by decide +kernel, by decide +kernel⟩
abbrev ns_is_place : List Str := ["many", "thing"]
theorem sc_is_place : FnScope ns_is_place ["many", "thing"] (defScope st_is_place) := ⟨rfl, rfl, rfl, by decide +kernel, rfl, by decide +kernel, by decide +kernel⟩
abbrev ns_is_part : List Str := ["many", "thing", "item"]
theorem sc_is_part : FnScope ns_is_part ["many", "thing"] (defScope st_is_part) := ⟨rfl, rfl, rfl, by decide +kernel, rfl, by decide +kernel, by decide +kernel⟩
abbrev ns_sons_of : List Str := ["shape", "house", "son"]
theorem sc_sons_of : FnScope ns_sons_of ["shape", "house"] (defScope st_sons_of) := ⟨rfl, rfl, rfl, by decide +kernel, rfl, by decide +kernel, by decide +kernel⟩
abbrev ns_comes_out : List Str := ["shape", "house", "here", "turn"]
theorem sc_comes_out : FnScope ns_comes_out ["shape", "house"] (defScope st_comes_out) := ⟨rfl, rfl, rfl, by decide +kernel, rfl, by decide +kernel, by decide +kernel⟩
abbrev ns_is_right_shape : List Str := ["thing", "house", "part", "son"]
theorem sc_is_right_shape : FnScope ns_is_right_shape ["thing"] (defScope st_is_right_shape) := ⟨rfl, rfl, rfl, by decide +kernel, rfl, by decide +kernel, by decide +kernel⟩
abbrev ns_check_shape : List Str := ["thing"]
theorem sc_check_shape : FnScope ns_check_shape ["thing"] (defScope st_check_shape) := ⟨rfl, rfl, rfl, by decide +kernel, rfl, by decide +kernel, by decide +kernel⟩
abbrev ns_is_son : List Str := ["shape", "house", "up"]
theorem sc_is_son : FnScope ns_is_son ["shape", "house"] (defScope st_is_son) := ⟨rfl, rfl, rfl, by decide +kernel, rfl, by decide +kernel, by decide +kernel⟩
abbrev ns_rank_of : List Str := ["number", "found"]
theorem sc_rank_of : FnScope ns_rank_of ["number"] (defScope st_rank_of) := ⟨rfl, rfl, rfl, by decide +kernel, rfl, by decide +kernel, by decide +kernel⟩
abbrev ns_all_weights : List Str := ["shape", "found", "left", "part", "ready", "here", "up", "house", "many"]
theorem sc_all_weights : FnScope ns_all_weights ["shape"] (defScope st_all_weights) := ⟨rfl, rfl, rfl, by decide +kernel, rfl, by decide +kernel, by decide +kernel⟩
abbrev ns_sum_of_ranks : List Str := ["shape", "weight"]
theorem sc_sum_of_ranks : FnScope ns_sum_of_ranks ["shape"] (defScope st_sum_of_ranks) := ⟨rfl, rfl, rfl, by decide +kernel, rfl, by decide +kernel, by decide +kernel⟩
abbrev ns_changed : List Str := ["shape", "house", "part", "thing"]
theorem sc_changed : FnScope ns_changed ["shape", "house", "part", "thing"] (defScope st_changed) := ⟨rfl, rfl, rfl, by decide +kernel, rfl, by decide +kernel, by decide +kernel⟩
abbrev ns_with_more : List Str := ["part", "number"]
theorem sc_with_more : FnScope ns_with_more ["part", "number"] (defScope st_with_more) := ⟨rfl, rfl, rfl, by decide +kernel, rfl, by decide +kernel, by decide +kernel⟩
abbrev ns_after_handing : List Str := ["shape", "house", "up", "left", "right", "is_turned", "added", "value", "found", "son"]
theorem sc_after_handing : FnScope ns_after_handing ["shape", "house"] (defScope st_after_handing) := ⟨rfl, rfl, rfl, by decide +kernel, rfl, by decide +kernel, by decide +kernel⟩
abbrev ns_side_of : List Str := ["shape", "house"]
theorem sc_side_of : FnScope ns_side_of ["shape", "house"] (defScope st_side_of) := ⟨rfl, rfl, rfl, by decide +kernel, rfl, by decide +kernel, by decide +kernel⟩
abbrev ns_after_turn : List Str := ["shape", "house", "one", "found", "side", "other_side", "up", "between"]
theorem sc_after_turn : FnScope ns_after_turn ["shape", "house"] (defScope st_after_turn) := ⟨rfl, rfl, rfl, by decide +kernel, rfl, by decide +kernel, by decide +kernel⟩
abbrev ns_down_to : List Str := ["shape", "house", "chain", "found", "here"]
theorem sc_down_to : FnScope ns_down_to ["shape", "house"] (defScope st_down_to) := ⟨rfl, rfl, rfl, by decide +kernel, rfl, by decide +kernel, by decide +kernel⟩
abbrev ns_after_step : List Str := ["shape", "house", "up", "first"]
theorem sc_after_step : FnScope ns_after_step ["shape", "house"] (defScope st_after_step) := ⟨rfl, rfl, rfl, by decide +kernel, rfl, by decide +kernel, by decide +kernel⟩
abbrev ns_to_top : List Str := ["shape", "house", "found", "steps"]
theorem sc_to_top : FnScope ns_to_top ["shape", "house"] (defScope st_to_top) := ⟨rfl, rfl, rfl, by decide +kernel, rfl, by decide +kernel, by decide +kernel⟩
abbrev ns_met_from : List Str := ["shape", "house", "found", "met", "steps", "here", "more"]
theorem sc_met_from : FnScope ns_met_from ["shape", "house"] (defScope st_met_from) := ⟨rfl, rfl, rfl, by decide +kernel, rfl, by decide +kernel, by decide +kernel⟩
abbrev ns_spliced : List Str := ["shape", "met", "found", "ahead", "here"]
theorem sc_spliced : FnScope ns_spliced ["shape", "met"] (defScope st_spliced) := ⟨rfl, rfl, rfl, by decide +kernel, rfl, by decide +kernel, by decide +kernel⟩
abbrev ns_after_reaching : List Str := ["shape", "house", "before", "there", "met", "first", "found", "last", "change"]
theorem sc_after_reaching : FnScope ns_after_reaching ["shape", "house", "before"] (defScope st_after_reaching) := ⟨rfl, rfl, rfl, by decide +kernel, rfl, by decide +kernel, by decide +kernel⟩
abbrev ns_reached : List Str := ["shape", "house", "found", "met", "paper"]
theorem sc_reached : FnScope ns_reached ["shape", "house"] (defScope st_reached) := ⟨rfl, rfl, rfl, by decide +kernel, rfl, by decide +kernel, by decide +kernel⟩
abbrev ns_most_of : List Str := ["many"]
theorem sc_most_of : FnScope ns_most_of ["many"] (defScope st_most_of) := ⟨rfl, rfl, rfl, by decide +kernel, rfl, by decide +kernel, by decide +kernel⟩
abbrev ns_is_paper : List Str := ["many", "thing", "first", "met", "last", "change"]
theorem sc_is_paper : FnScope ns_is_paper ["many", "thing"] (defScope st_is_paper) := ⟨rfl, rfl, rfl, by decide +kernel, rfl, by decide +kernel, by decide +kernel⟩
abbrev ns_q_hand : List Str := ["_law_script", "_law_cells", "_law_cell"]
theorem sc_q_hand : FnScope ns_q_hand ["_law_script"] (defScope st_q_hand) := ⟨rfl, rfl, rfl, by decide +kernel, rfl, by decide +kernel, by decide +kernel⟩
abbrev ns_q_draw : List Str := ["_law_hand_here", "_law_many", "_law_cell", "_law_digit", "_law_number"]
theorem sc_q_draw : FnScope ns_q_draw ["_law_hand_here", "_law_many"] (defScope st_q_draw) := ⟨rfl, rfl, rfl, by decide +kernel, rfl, by decide +kernel, by decide +kernel⟩
abbrev ns_q_some : List Str := ["_law_hand_here", "_law_things"]
theorem sc_q_some : FnScope ns_q_some ["_law_hand_here", "_law_things"] (defScope st_q_some) := ⟨rfl, rfl, rfl, by decide +kernel, rfl, by decide +kernel, by decide +kernel⟩
abbrev ns_q_shuffled : List Str := ["_law_hand_here", "_law_things", "_law_pool", "_law_found"]
theorem sc_q_shuffled : FnScope ns_q_shuffled ["_law_hand_here", "_law_things"] (defScope st_q_shuffled) := ⟨rfl, rfl, rfl, by decide +kernel, rfl, by decide +kernel, by decide +kernel⟩
abbrev ns_q_is : List Str := ["_law_told", "_law_due", "_law_k", "_law_key"]
theorem sc_q_is : FnScope ns_q_is ["_law_told", "_law_due"] (defScope st_q_is) := ⟨rfl, rfl, rfl, by decide +kernel, rfl, by decide +kernel, by decide +kernel⟩
abbrev ns_q_trees : List Str := ["_law_hand_here", "_law_many", "_law_order", "_law_parents", "_law_kind", "_law_at", "_law_near", "_law_worths", "_law_house"]
theorem sc_q_trees : FnScope ns_q_trees ["_law_hand_here", "_law_many"] (defScope st_q_trees) := ⟨rfl, rfl, rfl, by decide +kernel, rfl, by decide +kernel, by decide +kernel⟩
abbrev ns_q_rows_of : List Str := ["_law_hand_here", "_law_parents", "_law_many", "_law_going", "_law_house", "_law_found", "_law_row", "_law_turn"]
theorem sc_q_rows_of : FnScope ns_q_rows_of ["_law_hand_here", "_law_parents"] (defScope st_q_rows_of) := ⟨rfl, rfl, rfl, by decide +kernel, rfl, by decide +kernel, by decide +kernel⟩
abbrev ns_q_planted : List Str := ["_law_hand_here", "_law_part", "_law_up", "_law_given", "_law_worths", "_law_here", "_law_turned", "_law_added", "_law_at", "_law_house", "_law_left", "_law_right"]
theorem sc_q_planted : FnScope ns_q_planted ["_law_hand_here", "_law_part", "_law_up", "_law_given", "_law_worths", "_law_here"] (defScope st_q_planted) := ⟨rfl, rfl, rfl, by decide +kernel, rfl, by decide +kernel, by decide +kernel⟩
abbrev ns_q_laid : List Str := ["_law_hand_here", "_law_parents", "_law_worths", "_law_here", "_law_row"]
theorem sc_q_laid : FnScope ns_q_laid ["_law_hand_here", "_law_parents", "_law_worths"] (defScope st_q_laid) := ⟨rfl, rfl, rfl, by decide +kernel, rfl, by decide +kernel, by decide +kernel⟩
abbrev ns_q_shape : List Str := ["_law_here", "_law_one"]
theorem sc_q_shape : FnScope ns_q_shape ["_law_here"] (defScope st_q_shape) := ⟨rfl, rfl, rfl, by decide +kernel, rfl, by decide +kernel, by decide +kernel⟩
abbrev ns_q_is_son : List Str := ["_law_here", "_law_house", "_law_up"]
theorem sc_q_is_son : FnScope ns_q_is_son ["_law_here", "_law_house"] (defScope st_q_is_son) := ⟨rfl, rfl, rfl, by decide +kernel, rfl, by decide +kernel, by decide +kernel⟩
abbrev ns_q_hand_on : List Str := ["_law_here", "_law_house", "_law_up", "_law_left", "_law_right", "_law_turned", "_law_added", "_law_value", "_law_son"]
theorem sc_q_hand_on : FnScope ns_q_hand_on ["_law_here", "_law_house"] (defScope st_q_hand_on) := ⟨rfl, rfl, rfl, by decide +kernel, rfl, by decide +kernel, by decide +kernel⟩
abbrev ns_q_turn_up : List Str := ["_law_here", "_law_house", "_law_up", "_law_above", "_law_side_here", "_law_middle"]
theorem sc_q_turn_up : FnScope ns_q_turn_up ["_law_here", "_law_house"] (defScope st_q_turn_up) := ⟨rfl, rfl, rfl, by decide +kernel, rfl, by decide +kernel, by decide +kernel⟩
abbrev ns_q_side : List Str := ["_law_here", "_law_house"]
theorem sc_q_side : FnScope ns_q_side ["_law_here", "_law_house"] (defScope st_q_side) := ⟨rfl, rfl, rfl, by decide +kernel, rfl, by decide +kernel, by decide +kernel⟩
abbrev ns_q_step_up : List Str := ["_law_here", "_law_house", "_law_found", "_law_turn", "_law_up"]
theorem sc_q_step_up : FnScope ns_q_step_up ["_law_here", "_law_house"] (defScope st_q_step_up) := ⟨rfl, rfl, rfl, by decide +kernel, rfl, by decide +kernel, by decide +kernel⟩
abbrev ns_q_weights : List Str := ["_law_here", "_law_found", "_law_house", "_law_one", "_law_turn"]
theorem sc_q_weights : FnScope ns_q_weights ["_law_here"] (defScope st_q_weights) := ⟨rfl, rfl, rfl, by decide +kernel, rfl, by decide +kernel, by decide +kernel⟩
abbrev ns_q_rank : List Str := ["_law_number", "_law_found", "_law_turn"]
theorem sc_q_rank : FnScope ns_q_rank ["_law_number"] (defScope st_q_rank) := ⟨rfl, rfl, rfl, by decide +kernel, rfl, by decide +kernel, by decide +kernel⟩
abbrev ns_q_potential : List Str := ["_law_here", "_law_weight"]
theorem sc_q_potential : FnScope ns_q_potential ["_law_here"] (defScope st_q_potential) := ⟨rfl, rfl, rfl, by decide +kernel, rfl, by decide +kernel, by decide +kernel⟩
abbrev ns_q_down_to : List Str := ["_law_here", "_law_house", "_law_found", "_law_turn"]
theorem sc_q_down_to : FnScope ns_q_down_to ["_law_here", "_law_house"] (defScope st_q_down_to) := ⟨rfl, rfl, rfl, by decide +kernel, rfl, by decide +kernel, by decide +kernel⟩
abbrev ns_q_reach : List Str := ["_law_here", "_law_house", "_law_before", "_law_met", "_law_first", "_law_one", "_law_turn", "_law_other", "_law_ahead", "_law_last"]
theorem sc_q_reach : FnScope ns_q_reach ["_law_here", "_law_house"] (defScope st_q_reach) := ⟨rfl, rfl, rfl, by decide +kernel, rfl, by decide +kernel, by decide +kernel⟩
abbrev ns_q_steep : List Str := ["_law_hand_here", "_law_many", "_law_kind", "_law_here", "_law_house", "_law_up", "_law_down", "_law_left", "_law_right"]
theorem sc_q_steep : FnScope ns_q_steep ["_law_hand_here", "_law_many"] (defScope st_q_steep) := ⟨rfl, rfl, rfl, by decide +kernel, rfl, by decide +kernel, by decide +kernel⟩
abbrev ns_q_moved_off : List Str := ["_law_hand_here", "_law_here", "_law_some_here", "_law_house", "_law_away", "_law_other", "_law_one", "_law_turn"]
theorem sc_q_moved_off : FnScope ns_q_moved_off ["_law_hand_here", "_law_here"] (defScope st_q_moved_off) := ⟨rfl, rfl, rfl, by decide +kernel, rfl, by decide +kernel, by decide +kernel⟩
abbrev ns_q_deepest : List Str := ["_law_here", "_law_best", "_law_most", "_law_house", "_law_one", "_law_steps", "_law_turn"]
theorem sc_q_deepest : FnScope ns_q_deepest ["_law_here"] (defScope st_q_deepest) := ⟨rfl, rfl, rfl, by decide +kernel, rfl, by decide +kernel, by decide +kernel⟩
abbrev ns_law : List Str := ["_law_script", "_law_hand_here", "_law_many", "_law_here", "_law_parents", "_law_worths", "_law_begin", "_law_grown", "_law_moved", "_law_turn", "_law_house", "_law_told", "_law_paper", "_law_met", "_law_elder"]
theorem sc_law : FnScope ns_law ["_law_script"] (defScope st_law) := ⟨rfl, rfl, rfl, by decide +kernel, rfl, by decide +kernel, by decide +kernel⟩
structure Ad where
  f_is_integer : Addr
  d_is_integer : FuncData
  f_is_within : Addr
  d_is_within : FuncData
  f_is_number : Addr
  d_is_number : FuncData
  f_is_below : Addr
  d_is_below : FuncData
  f_is_sized : Addr
  d_is_sized : FuncData
  f_check_within : Addr
  d_check_within : FuncData
  f_replaced : Addr
  d_replaced : FuncData
  f_check_house : Addr
  d_check_house : FuncData
  f_is_place : Addr
  d_is_place : FuncData
  f_is_part : Addr
  d_is_part : FuncData
  f_sons_of : Addr
  d_sons_of : FuncData
  f_comes_out : Addr
  d_comes_out : FuncData
  f_is_right_shape : Addr
  d_is_right_shape : FuncData
  f_check_shape : Addr
  d_check_shape : FuncData
  f_is_son : Addr
  d_is_son : FuncData
  f_rank_of : Addr
  d_rank_of : FuncData
  f_all_weights : Addr
  d_all_weights : FuncData
  f_sum_of_ranks : Addr
  d_sum_of_ranks : FuncData
  f_changed : Addr
  d_changed : FuncData
  f_with_more : Addr
  d_with_more : FuncData
  f_after_handing : Addr
  d_after_handing : FuncData
  f_side_of : Addr
  d_side_of : FuncData
  f_after_turn : Addr
  d_after_turn : FuncData
  f_down_to : Addr
  d_down_to : FuncData
  f_after_step : Addr
  d_after_step : FuncData
  f_to_top : Addr
  d_to_top : FuncData
  f_met_from : Addr
  d_met_from : FuncData
  f_spliced : Addr
  d_spliced : FuncData
  f_after_reaching : Addr
  d_after_reaching : FuncData
  f_reached : Addr
  d_reached : FuncData
  f_most_of : Addr
  d_most_of : FuncData
  f_is_paper : Addr
  d_is_paper : FuncData
  f_q_hand : Addr
  d_q_hand : FuncData
  f_q_draw : Addr
  d_q_draw : FuncData
  f_q_some : Addr
  d_q_some : FuncData
  f_q_shuffled : Addr
  d_q_shuffled : FuncData
  f_q_is : Addr
  d_q_is : FuncData
  f_q_trees : Addr
  d_q_trees : FuncData
  f_q_rows_of : Addr
  d_q_rows_of : FuncData
  f_q_planted : Addr
  d_q_planted : FuncData
  f_q_laid : Addr
  d_q_laid : FuncData
  f_q_shape : Addr
  d_q_shape : FuncData
  f_q_is_son : Addr
  d_q_is_son : FuncData
  f_q_hand_on : Addr
  d_q_hand_on : FuncData
  f_q_turn_up : Addr
  d_q_turn_up : FuncData
  f_q_side : Addr
  d_q_side : FuncData
  f_q_step_up : Addr
  d_q_step_up : FuncData
  f_q_weights : Addr
  d_q_weights : FuncData
  f_q_rank : Addr
  d_q_rank : FuncData
  f_q_potential : Addr
  d_q_potential : FuncData
  f_q_down_to : Addr
  d_q_down_to : FuncData
  f_q_reach : Addr
  d_q_reach : FuncData
  f_q_steep : Addr
  d_q_steep : FuncData
  f_q_moved_off : Addr
  d_q_moved_off : FuncData
  f_q_deepest : Addr
  d_q_deepest : FuncData
  f_law : Addr
  d_law : FuncData
  t_MOST_HOUSES : Tok
  t_UP : Tok
  t_LEFT : Tok
  t_RIGHT : Tok
  t_TURNED : Tok
  t_ADDED : Tok
  t_VALUE : Tok
  t_PARTS : Tok
  t_TIMES : Tok
  t_MOST_BY_RANK : Tok
  t_MOST_BESIDE : Tok
structure Txt (K : PySem.W.Frag) (mg : Str → Option Value) (A : Ad) : Prop where
  g_is_integer : mg "is_integer" = some (.ref A.f_is_integer)
  f_is_integer : Fun K "is_integer" "is_integer" st_is_integer A.f_is_integer A.d_is_integer
  b_is_integer : Binds K A.d_is_integer ["thing"] []
  g_is_within : mg "is_within" = some (.ref A.f_is_within)
  f_is_within : Fun K "is_within" "is_within" st_is_within A.f_is_within A.d_is_within
  b_is_within : Binds K A.d_is_within ["thing", "least", "most"] []
  g_is_number : mg "is_number" = some (.ref A.f_is_number)
  f_is_number : Fun K "is_number" "is_number" st_is_number A.f_is_number A.d_is_number
  b_is_number : Binds K A.d_is_number ["thing"] []
  g_is_below : mg "is_below" = some (.ref A.f_is_below)
  f_is_below : Fun K "is_below" "is_below" st_is_below A.f_is_below A.d_is_below
  b_is_below : Binds K A.d_is_below ["thing", "many"] []
  g_is_sized : mg "is_sized" = some (.ref A.f_is_sized)
  f_is_sized : Fun K "is_sized" "is_sized" st_is_sized A.f_is_sized A.d_is_sized
  b_is_sized : Binds K A.d_is_sized ["thing", "least", "most"] []
  g_check_within : mg "check_within" = some (.ref A.f_check_within)
  f_check_within : Fun K "check_within" "check_within" st_check_within A.f_check_within A.d_check_within
  b_check_within : Binds K A.d_check_within ["thing", "least", "most"] []
  g_replaced : mg "replaced" = some (.ref A.f_replaced)
  f_replaced : Fun K "replaced" "replaced" st_replaced A.f_replaced A.d_replaced
  b_replaced : Binds K A.d_replaced ["items", "number", "item"] []
  g_check_house : mg "check_house" = some (.ref A.f_check_house)
  f_check_house : Fun K "check_house" "check_house" st_check_house A.f_check_house A.d_check_house
  b_check_house : Binds K A.d_check_house ["many", "thing"] []
  g_is_place : mg "is_place" = some (.ref A.f_is_place)
  f_is_place : Fun K "is_place" "is_place" st_is_place A.f_is_place A.d_is_place
  b_is_place : Binds K A.d_is_place ["many", "thing"] []
  g_is_part : mg "is_part" = some (.ref A.f_is_part)
  f_is_part : Fun K "is_part" "is_part" st_is_part A.f_is_part A.d_is_part
  b_is_part : Binds K A.d_is_part ["many", "thing"] []
  g_sons_of : mg "sons_of" = some (.ref A.f_sons_of)
  f_sons_of : Fun K "sons_of" "sons_of" st_sons_of A.f_sons_of A.d_sons_of
  b_sons_of : Binds K A.d_sons_of ["shape", "house"] []
  g_comes_out : mg "comes_out" = some (.ref A.f_comes_out)
  f_comes_out : Fun K "comes_out" "comes_out" st_comes_out A.f_comes_out A.d_comes_out
  b_comes_out : Binds K A.d_comes_out ["shape", "house"] []
  g_is_right_shape : mg "is_right_shape" = some (.ref A.f_is_right_shape)
  f_is_right_shape : Fun K "is_right_shape" "is_right_shape" st_is_right_shape A.f_is_right_shape A.d_is_right_shape
  b_is_right_shape : Binds K A.d_is_right_shape ["thing"] []
  g_check_shape : mg "check_shape" = some (.ref A.f_check_shape)
  f_check_shape : Fun K "check_shape" "check_shape" st_check_shape A.f_check_shape A.d_check_shape
  b_check_shape : Binds K A.d_check_shape ["thing"] []
  g_is_son : mg "is_son" = some (.ref A.f_is_son)
  f_is_son : Fun K "is_son" "is_son" st_is_son A.f_is_son A.d_is_son
  b_is_son : Binds K A.d_is_son ["shape", "house"] []
  g_rank_of : mg "rank_of" = some (.ref A.f_rank_of)
  f_rank_of : Fun K "rank_of" "rank_of" st_rank_of A.f_rank_of A.d_rank_of
  b_rank_of : Binds K A.d_rank_of ["number"] []
  g_all_weights : mg "all_weights" = some (.ref A.f_all_weights)
  f_all_weights : Fun K "all_weights" "all_weights" st_all_weights A.f_all_weights A.d_all_weights
  b_all_weights : Binds K A.d_all_weights ["shape"] []
  g_sum_of_ranks : mg "sum_of_ranks" = some (.ref A.f_sum_of_ranks)
  f_sum_of_ranks : Fun K "sum_of_ranks" "sum_of_ranks" st_sum_of_ranks A.f_sum_of_ranks A.d_sum_of_ranks
  b_sum_of_ranks : Binds K A.d_sum_of_ranks ["shape"] []
  g_changed : mg "changed" = some (.ref A.f_changed)
  f_changed : Fun K "changed" "changed" st_changed A.f_changed A.d_changed
  b_changed : Binds K A.d_changed ["shape", "house", "part", "thing"] []
  g_with_more : mg "with_more" = some (.ref A.f_with_more)
  f_with_more : Fun K "with_more" "with_more" st_with_more A.f_with_more A.d_with_more
  b_with_more : Binds K A.d_with_more ["part", "number"] []
  g_after_handing : mg "after_handing" = some (.ref A.f_after_handing)
  f_after_handing : Fun K "after_handing" "after_handing" st_after_handing A.f_after_handing A.d_after_handing
  b_after_handing : Binds K A.d_after_handing ["shape", "house"] []
  g_side_of : mg "side_of" = some (.ref A.f_side_of)
  f_side_of : Fun K "side_of" "side_of" st_side_of A.f_side_of A.d_side_of
  b_side_of : Binds K A.d_side_of ["shape", "house"] []
  g_after_turn : mg "after_turn" = some (.ref A.f_after_turn)
  f_after_turn : Fun K "after_turn" "after_turn" st_after_turn A.f_after_turn A.d_after_turn
  b_after_turn : Binds K A.d_after_turn ["shape", "house"] []
  g_down_to : mg "down_to" = some (.ref A.f_down_to)
  f_down_to : Fun K "down_to" "down_to" st_down_to A.f_down_to A.d_down_to
  b_down_to : Binds K A.d_down_to ["shape", "house"] []
  g_after_step : mg "after_step" = some (.ref A.f_after_step)
  f_after_step : Fun K "after_step" "after_step" st_after_step A.f_after_step A.d_after_step
  b_after_step : Binds K A.d_after_step ["shape", "house"] []
  g_to_top : mg "to_top" = some (.ref A.f_to_top)
  f_to_top : Fun K "to_top" "to_top" st_to_top A.f_to_top A.d_to_top
  b_to_top : Binds K A.d_to_top ["shape", "house"] []
  g_met_from : mg "met_from" = some (.ref A.f_met_from)
  f_met_from : Fun K "met_from" "met_from" st_met_from A.f_met_from A.d_met_from
  b_met_from : Binds K A.d_met_from ["shape", "house"] []
  g_spliced : mg "spliced" = some (.ref A.f_spliced)
  f_spliced : Fun K "spliced" "spliced" st_spliced A.f_spliced A.d_spliced
  b_spliced : Binds K A.d_spliced ["shape", "met"] []
  g_after_reaching : mg "after_reaching" = some (.ref A.f_after_reaching)
  f_after_reaching : Fun K "after_reaching" "after_reaching" st_after_reaching A.f_after_reaching A.d_after_reaching
  b_after_reaching : Binds K A.d_after_reaching ["shape", "house", "before"] []
  g_reached : mg "reached" = some (.ref A.f_reached)
  f_reached : Fun K "reached" "reached" st_reached A.f_reached A.d_reached
  b_reached : Binds K A.d_reached ["shape", "house"] []
  g_most_of : mg "most_of" = some (.ref A.f_most_of)
  f_most_of : Fun K "most_of" "most_of" st_most_of A.f_most_of A.d_most_of
  b_most_of : Binds K A.d_most_of ["many"] []
  g_is_paper : mg "is_paper" = some (.ref A.f_is_paper)
  f_is_paper : Fun K "is_paper" "is_paper" st_is_paper A.f_is_paper A.d_is_paper
  b_is_paper : Binds K A.d_is_paper ["many", "thing"] []
  g_q_hand : mg "_law_hand" = some (.ref A.f_q_hand)
  f_q_hand : Fun K "_law_hand" "_law_hand" st_q_hand A.f_q_hand A.d_q_hand
  b_q_hand : Binds K A.d_q_hand ["_law_script"] []
  g_q_draw : mg "_law_draw" = some (.ref A.f_q_draw)
  f_q_draw : Fun K "_law_draw" "_law_draw" st_q_draw A.f_q_draw A.d_q_draw
  b_q_draw : Binds K A.d_q_draw ["_law_hand_here", "_law_many"] []
  g_q_some : mg "_law_some" = some (.ref A.f_q_some)
  f_q_some : Fun K "_law_some" "_law_some" st_q_some A.f_q_some A.d_q_some
  b_q_some : Binds K A.d_q_some ["_law_hand_here", "_law_things"] []
  g_q_shuffled : mg "_law_shuffled" = some (.ref A.f_q_shuffled)
  f_q_shuffled : Fun K "_law_shuffled" "_law_shuffled" st_q_shuffled A.f_q_shuffled A.d_q_shuffled
  b_q_shuffled : Binds K A.d_q_shuffled ["_law_hand_here", "_law_things"] []
  g_q_is : mg "_law_is" = some (.ref A.f_q_is)
  f_q_is : Fun K "_law_is" "_law_is" st_q_is A.f_q_is A.d_q_is
  b_q_is : Binds K A.d_q_is ["_law_told", "_law_due"] []
  g_q_trees : mg "_law_trees" = some (.ref A.f_q_trees)
  f_q_trees : Fun K "_law_trees" "_law_trees" st_q_trees A.f_q_trees A.d_q_trees
  b_q_trees : Binds K A.d_q_trees ["_law_hand_here", "_law_many"] []
  g_q_rows_of : mg "_law_rows_of" = some (.ref A.f_q_rows_of)
  f_q_rows_of : Fun K "_law_rows_of" "_law_rows_of" st_q_rows_of A.f_q_rows_of A.d_q_rows_of
  b_q_rows_of : Binds K A.d_q_rows_of ["_law_hand_here", "_law_parents"] []
  g_q_planted : mg "_law_planted" = some (.ref A.f_q_planted)
  f_q_planted : Fun K "_law_planted" "_law_planted" st_q_planted A.f_q_planted A.d_q_planted
  b_q_planted : Binds K A.d_q_planted ["_law_hand_here", "_law_part", "_law_up", "_law_given", "_law_worths", "_law_here"] []
  g_q_laid : mg "_law_laid" = some (.ref A.f_q_laid)
  f_q_laid : Fun K "_law_laid" "_law_laid" st_q_laid A.f_q_laid A.d_q_laid
  b_q_laid : Binds K A.d_q_laid ["_law_hand_here", "_law_parents", "_law_worths"] []
  g_q_shape : mg "_law_shape" = some (.ref A.f_q_shape)
  f_q_shape : Fun K "_law_shape" "_law_shape" st_q_shape A.f_q_shape A.d_q_shape
  b_q_shape : Binds K A.d_q_shape ["_law_here"] []
  g_q_is_son : mg "_law_is_son" = some (.ref A.f_q_is_son)
  f_q_is_son : Fun K "_law_is_son" "_law_is_son" st_q_is_son A.f_q_is_son A.d_q_is_son
  b_q_is_son : Binds K A.d_q_is_son ["_law_here", "_law_house"] []
  g_q_hand_on : mg "_law_hand_on" = some (.ref A.f_q_hand_on)
  f_q_hand_on : Fun K "_law_hand_on" "_law_hand_on" st_q_hand_on A.f_q_hand_on A.d_q_hand_on
  b_q_hand_on : Binds K A.d_q_hand_on ["_law_here", "_law_house"] []
  g_q_turn_up : mg "_law_turn_up" = some (.ref A.f_q_turn_up)
  f_q_turn_up : Fun K "_law_turn_up" "_law_turn_up" st_q_turn_up A.f_q_turn_up A.d_q_turn_up
  b_q_turn_up : Binds K A.d_q_turn_up ["_law_here", "_law_house"] []
  g_q_side : mg "_law_side" = some (.ref A.f_q_side)
  f_q_side : Fun K "_law_side" "_law_side" st_q_side A.f_q_side A.d_q_side
  b_q_side : Binds K A.d_q_side ["_law_here", "_law_house"] []
  g_q_step_up : mg "_law_step_up" = some (.ref A.f_q_step_up)
  f_q_step_up : Fun K "_law_step_up" "_law_step_up" st_q_step_up A.f_q_step_up A.d_q_step_up
  b_q_step_up : Binds K A.d_q_step_up ["_law_here", "_law_house"] []
  g_q_weights : mg "_law_weights" = some (.ref A.f_q_weights)
  f_q_weights : Fun K "_law_weights" "_law_weights" st_q_weights A.f_q_weights A.d_q_weights
  b_q_weights : Binds K A.d_q_weights ["_law_here"] []
  g_q_rank : mg "_law_rank" = some (.ref A.f_q_rank)
  f_q_rank : Fun K "_law_rank" "_law_rank" st_q_rank A.f_q_rank A.d_q_rank
  b_q_rank : Binds K A.d_q_rank ["_law_number"] []
  g_q_potential : mg "_law_potential" = some (.ref A.f_q_potential)
  f_q_potential : Fun K "_law_potential" "_law_potential" st_q_potential A.f_q_potential A.d_q_potential
  b_q_potential : Binds K A.d_q_potential ["_law_here"] []
  g_q_down_to : mg "_law_down_to" = some (.ref A.f_q_down_to)
  f_q_down_to : Fun K "_law_down_to" "_law_down_to" st_q_down_to A.f_q_down_to A.d_q_down_to
  b_q_down_to : Binds K A.d_q_down_to ["_law_here", "_law_house"] []
  g_q_reach : mg "_law_reach" = some (.ref A.f_q_reach)
  f_q_reach : Fun K "_law_reach" "_law_reach" st_q_reach A.f_q_reach A.d_q_reach
  b_q_reach : Binds K A.d_q_reach ["_law_here", "_law_house"] []
  g_q_steep : mg "_law_steep" = some (.ref A.f_q_steep)
  f_q_steep : Fun K "_law_steep" "_law_steep" st_q_steep A.f_q_steep A.d_q_steep
  b_q_steep : Binds K A.d_q_steep ["_law_hand_here", "_law_many"] []
  g_q_moved_off : mg "_law_moved_off" = some (.ref A.f_q_moved_off)
  f_q_moved_off : Fun K "_law_moved_off" "_law_moved_off" st_q_moved_off A.f_q_moved_off A.d_q_moved_off
  b_q_moved_off : Binds K A.d_q_moved_off ["_law_hand_here", "_law_here"] []
  g_q_deepest : mg "_law_deepest" = some (.ref A.f_q_deepest)
  f_q_deepest : Fun K "_law_deepest" "_law_deepest" st_q_deepest A.f_q_deepest A.d_q_deepest
  b_q_deepest : Binds K A.d_q_deepest ["_law_here"] []
  g_law : mg "law" = some (.ref A.f_law)
  f_law : Fun K "law" "law" st_law A.f_law A.d_law
  b_law : Binds K A.d_law ["_law_script"] []
  k_MOST_HOUSES : mg "MOST_HOUSES" = some (.int 64 A.t_MOST_HOUSES)
  k_UP : mg "UP" = some (.int 0 A.t_UP)
  k_LEFT : mg "LEFT" = some (.int 1 A.t_LEFT)
  k_RIGHT : mg "RIGHT" = some (.int 2 A.t_RIGHT)
  k_TURNED : mg "TURNED" = some (.int 3 A.t_TURNED)
  k_ADDED : mg "ADDED" = some (.int 4 A.t_ADDED)
  k_VALUE : mg "VALUE" = some (.int 5 A.t_VALUE)
  k_PARTS : mg "PARTS" = some (.int 6 A.t_PARTS)
  k_TIMES : mg "TIMES" = some (.int 5 A.t_TIMES)
  k_MOST_BY_RANK : mg "MOST_BY_RANK" = some (.int 30 A.t_MOST_BY_RANK)
  k_MOST_BESIDE : mg "MOST_BESIDE" = some (.int 7 A.t_MOST_BESIDE)
  z_len : mg "len" = none
  z_isinstance : mg "isinstance" = none
  z_all : mg "all" = none
  z_sum : mg "sum" = none
  z_abs : mg "abs" = none
  z_int : mg "int" = none
  z_tuple : mg "tuple" = none
  z_list : mg "list" = none
  z_range : mg "range" = none
  z_enumerate : mg "enumerate" = none
  z_bool : mg "bool" = none
  z_dict : mg "dict" = none
/-- len of a list or a tuple, by values -/
def rLenQ (K : PySem.W.Frag) : List V → Hp → VK → Prop := fun xs H Q => ∃ p ys, xs = [.ref p] ∧ (SqL K H p ys ∨ SqT K H p ys) ∧ Q (.int ys.length) H
/-- tuple of a list or a tuple, by values -/
def rTupQ (K : PySem.W.Frag) : List V → Hp → VK → Prop := fun xs H Q => ∃ p ys, xs = [.ref p] ∧ ((SqL K H p ys ∧ ∀ l, H l = none → Q (.ref l) (upd H l (.tup ys))) ∨ (SqT K H p ys ∧ Q (.ref p) H))
/-! ### two rules: the item of a list that an augmented store reads -/
section
variable {X : Cx}
theorem get_list : PGet X (fun o i H Q => ∃ (p : Addr) (xs : List V) (j : Nat) (v : V), o = .ref p ∧ i = .int (j : Int) ∧ SqL X.K H p xs ∧ xs[j]? = some v ∧ Q v H) := by
  intro pins s σ H o i ov iv Q I ro ri h
  obtain ⟨p, xs, j, z, rfl, rfl, hq, he, q⟩ := h
  cases ro
  obtain ⟨t, rfl⟩ := ri
  obtain ⟨its, r, pl, hz⟩ := I.list hq
  obtain ⟨w, ew, rw'⟩ := r.get he
  have hj : j < xs.length := (List.getElem?_eq_some_iff.mp he).1
  have hn := line63
  have fin : EP X pins σ Q w s := ⟨z, H, I, rw', q⟩
  exact wpAny_getItem_list pl.isList (x := w) (by omega) (by omega) (by simpa using ew) fin
end
end K13
namespace K13
open PySem PySem.Spec PyProof.Rows L2
section
variable {P : Program} {w : World} {K : PySem.W.Frag} {mg : Str → Option Value} {base : Heap} {A : Ad}
theorem iteB {c : Bool} {x y : Prop} (h1 : c = true → x) (h2 : c = false → y) : if c = true then x else y := by
  cases c with
  | true => exact h1 rfl
  | false => exact h2 rfl
theorem qb {Q : VK} {H : Hp} {a b : Bool} (e : a = b) (q : Q (.bl b) H) : Q (.bl a) H := by rw [e]; exact q
theorem qi {Q : VK} {H : Hp} {a b : Int} (e : a = b) (q : Q (.int b) H) : Q (.int a) H := by rw [e]; exact q
theorem same_new {H : Hp} {p : Addr} {o : HO} (h : H p = none) : Same H (upd H p o) := fun b u e => by
  rw [upd_ne (ne_of_none e h)]
  exact e
theorem size64 {n : Nat} (h : n ≤ 1000) : n ≤ sizeLine := Nat.le_of_lt (small1000 h)
/-! ### numbers judged -/
def sp_is_integer : Sp := fun vs H Q _ => ∃ i : Int, vs = [.int i] ∧ Q (.bl true) H
theorem ok_is_integer (T : Txt K mg A) : FnOk P w K mg base CX0 1 A.f_is_integer A.d_is_integer ["thing"] sp_is_integer := by
  refine T.f_is_integer.ok sc_is_integer (fun vs H Q E h => ?_) (fun cdv A' outer s H vs Q E hr h => ?_)
  · obtain ⟨i, rfl, _⟩ := h; rfl
  · obtain ⟨i, rfl, q⟩ := h
    refine ⟨_, (pss_one (ps_ret (pe_and (pe_callB call_isi (by rfl) T.z_isinstance (by decide +kernel) (pa_cons (pv 0) (pa_cons (pe_bltn (v := .ty "int") (by rfl) T.z_int (by decide +kernel) rfl) pa_nil))) (pe_one (pe_not (pe_callB call_isi (by rfl) T.z_isinstance (by decide +kernel) (pa_cons (pv 0) (pa_cons (pe_bltn (v := .ty "bool") (by rfl) T.z_bool (by decide +kernel) rfl) pa_nil)))))))), ?_⟩
    refine ⟨_, rfl, _, _, _, _, _, rfl, .ty "int", .base (.int i), kit_ty (r := true) (by decide +kernel), true, rfl, iteT ?_⟩
    exact ⟨_, rfl, _, _, _, _, _, rfl, .ty "bool", .base (.int i), kit_ty (r := false) (by decide +kernel), false, rfl, q⟩
def sp_is_within : Sp := fun vs H Q _ => ∃ i lo hi : Int, vs = [.int i, .int lo, .int hi] ∧ Q (.bl (decide (lo ≤ i) && decide (i ≤ hi))) H
theorem ok_is_within (T : Txt K mg A) : FnOk P w K mg base CX0 2 A.f_is_within A.d_is_within ["thing", "least", "most"] sp_is_within := by
  refine T.f_is_within.ok sc_is_within (fun vs H Q E h => ?_) (fun cdv A' outer s H vs Q E hr h => ?_)
  · obtain ⟨i, lo, hi, rfl, _⟩ := h; rfl
  · obtain ⟨i, lo, hi, rfl, q⟩ := h
    refine ⟨_, (pss_one (ps_ret (pe_and (pe_call (ok_is_integer T) (hr.mono (by decide)) (by rfl) T.g_is_integer T.f_is_integer.kp T.b_is_integer .nil pass0 (pa_cons (pv 0) pa_nil)) (pe_one (pe_chain op_le op_le (pv 1) (pv 0) (pv 2)))))), ?_⟩
    refine ⟨_, rfl, i, rfl, true, rfl, iteT ?_⟩
    refine ⟨_, rfl, _, rfl, lo, i, rfl, rfl, _, rfl, iteB (fun h1 => ?_) (fun h1 => ?_)⟩
    · rw [h1, Bool.true_and] at q
      exact ⟨_, rfl, i, hi, rfl, rfl, q⟩
    · rw [h1, Bool.false_and] at q
      exact q
def sp_is_number : Sp := fun vs H Q _ => ∃ i : Int, vs = [.int i] ∧ Q (.bl (decide (0 ≤ i))) H
theorem ok_is_number (T : Txt K mg A) : FnOk P w K mg base CX0 2 A.f_is_number A.d_is_number ["thing"] sp_is_number := by
  refine T.f_is_number.ok sc_is_number (fun vs H Q E h => ?_) (fun cdv A' outer s H vs Q E hr h => ?_)
  · obtain ⟨i, rfl, _⟩ := h; rfl
  · obtain ⟨i, rfl, q⟩ := h
    refine ⟨_, (pss_one (ps_ret (pe_and (pe_call (ok_is_integer T) (hr.mono (by decide)) (by rfl) T.g_is_integer T.f_is_integer.kp T.b_is_integer .nil pass0 (pa_cons (pv 0) pa_nil)) (pe_one (pe_cmpR op_ge (pv 0) pe_int (nomark _)))))), ?_⟩
    exact ⟨_, rfl, i, rfl, true, rfl, iteT ⟨_, rfl, i, 0, rfl, rfl, q⟩⟩
def sp_is_below : Sp := fun vs H Q _ => ∃ i n : Int, vs = [.int i, .int n] ∧ Q (.bl (decide (0 ≤ i) && decide (i ≤ n - 1))) H
theorem ok_is_below (T : Txt K mg A) : FnOk P w K mg base CX0 3 A.f_is_below A.d_is_below ["thing", "many"] sp_is_below := by
  refine T.f_is_below.ok sc_is_below (fun vs H Q E h => ?_) (fun cdv A' outer s H vs Q E hr h => ?_)
  · obtain ⟨i, n, rfl, _⟩ := h; rfl
  · obtain ⟨i, n, rfl, q⟩ := h
    refine ⟨_, (pss_one (ps_ret (pe_call (ok_is_within T) (hr.mono (by decide)) (by rfl) T.g_is_within T.f_is_within.kp T.b_is_within .nil pass0 (pa_cons (pv 0) (pa_cons pe_int (pa_cons (pe_op op_sub (pv 1) pe_int) pa_nil)))))), ?_⟩
    exact ⟨_, rfl, _, rfl, n, 1, rfl, rfl, i, 0, n - 1, rfl, q⟩
def sp_is_sized : Sp := fun vs H Q _ => ∃ (a : Addr) (xs : List V) (lo hi : Int), vs = [.ref a, .int lo, .int hi] ∧ H a = some (.tup xs) ∧ lo ≤ (xs.length : Int) ∧ (xs.length : Int) ≤ hi ∧ Q (.bl true) H
theorem ok_is_sized (T : Txt K mg A) : FnOk P w K mg base CX0 1 A.f_is_sized A.d_is_sized ["thing", "least", "most"] sp_is_sized := by
  refine T.f_is_sized.ok sc_is_sized (fun vs H Q E h => ?_) (fun cdv A' outer s H vs Q E hr h => ?_)
  · obtain ⟨a, xs, lo, hi, rfl, _⟩ := h; rfl
  · obtain ⟨a, xs, lo, hi, rfl, ha, h1, h2, q⟩ := h
    refine ⟨_, (pss_one (ps_ret (pe_and (pe_callB call_isi (by rfl) T.z_isinstance (by decide +kernel) (pa_cons (pv 0) (pa_cons (pe_bltn (v := .ty "tuple") (by rfl) T.z_tuple (by decide +kernel) rfl) pa_nil))) (pe_one (pe_chain op_le op_le (pv 1) (pe_callB call_len_seq (by rfl) T.z_len PySem.boot_len (pa_cons (pv 0) pa_nil)) (pv 2)))))), ?_⟩
    refine ⟨_, rfl, _, _, _, _, _, rfl, .ty "tuple", .base (.tup ha), kit_ty (r := true) (by decide +kernel), true, rfl, iteT ?_⟩
    refine ⟨_, rfl, _, rfl, a, xs, rfl, .inr (SqT.of ha), lo, _, rfl, rfl, true, congrArg V.bl (decide_eq_true h1), iteT ?_⟩
    refine ⟨_, rfl, _, hi, rfl, rfl, ?_⟩
    exact qb (decide_eq_true h2) q
def sp_check_within : Sp := fun vs H Q _ => ∃ i lo hi : Int, vs = [.int i, .int lo, .int hi] ∧ lo ≤ i ∧ i ≤ hi ∧ Q .non H
theorem ok_check_within (T : Txt K mg A) : FnOk P w K mg base CX0 3 A.f_check_within A.d_check_within ["thing", "least", "most"] sp_check_within := by
  refine T.f_check_within.ok sc_check_within (fun vs H Q E h => ?_) (fun cdv A' outer s H vs Q E hr h => ?_)
  · obtain ⟨i, lo, hi, rfl, _⟩ := h; rfl
  · obtain ⟨i, lo, hi, rfl, h1, h2, q⟩ := h
    refine ⟨_, (pss_one (ps_if (pt_not (pt_val (pe_call (ok_is_within T) (hr.mono (by decide)) (by rfl) T.g_is_within T.f_is_within.kp T.b_is_within .nil pass0 (pa_cons (pv 0) (pa_cons (pv 1) (pa_cons (pv 2) pa_nil)))))) (pss_one ps_never) pss_nil)), ?_⟩
    refine ⟨_, rfl, _, rfl, _, rfl, i, lo, hi, rfl, _, rfl, ?_⟩
    rw [decide_eq_true h1, decide_eq_true h2]
    exact q
def sp_check_house : Sp := fun vs H Q _ => ∃ i n : Int, vs = [.int n, .int i] ∧ 0 ≤ i ∧ i < n ∧ Q .non H
theorem ok_check_house (T : Txt K mg A) : FnOk P w K mg base CX0 4 A.f_check_house A.d_check_house ["many", "thing"] sp_check_house := by
  refine T.f_check_house.ok sc_check_house (fun vs H Q E h => ?_) (fun cdv A' outer s H vs Q E hr h => ?_)
  · obtain ⟨i, n, rfl, _⟩ := h; rfl
  · obtain ⟨i, n, rfl, h1, h2, q⟩ := h
    refine ⟨_, (pss_one (ps_if (pt_not (pt_val (pe_call (ok_is_below T) (hr.mono (by decide)) (by rfl) T.g_is_below T.f_is_below.kp T.b_is_below .nil pass0 (pa_cons (pv 1) (pa_cons (pv 0) pa_nil))))) (pss_one ps_never) pss_nil)), ?_⟩
    refine ⟨_, rfl, _, rfl, i, n, rfl, _, rfl, ?_⟩
    rw [decide_eq_true h1, decide_eq_true (by omega : i ≤ n - 1)]
    exact q
def ov : Option Nat → V
  | none => .non
  | some k => .int (k : Int)
def sp_is_place : Sp := fun vs H Q _ => ∃ (o : Option Nat) (n : Nat), vs = [.int (n : Int), ov o] ∧ (∀ k, o = some k → k < n) ∧ Q (.bl true) H
theorem ok_is_place (T : Txt K mg A) : FnOk P w K mg base CX0 4 A.f_is_place A.d_is_place ["many", "thing"] sp_is_place := by
  refine T.f_is_place.ok sc_is_place (fun vs H Q E h => ?_) (fun cdv A' outer s H vs Q E hr h => ?_)
  · obtain ⟨o, n, rfl, _⟩ := h; rfl
  · obtain ⟨o, n, rfl, h1, q⟩ := h
    refine ⟨_, (pss_one (ps_ret (pe_or (pe_cmpR op_isN (pv 1) pe_non (nomark _)) (pe_one (pe_call (ok_is_below T) (hr.mono (by decide)) (by rfl) T.g_is_below T.f_is_below.kp T.b_is_below .nil pass0 (pa_cons (pv 1) (pa_cons (pv 0) pa_nil))))))), ?_⟩
    cases o with
    | none => exact ⟨_, rfl, rfl, true, rfl, iteT q⟩
    | some k =>
      have hk := h1 k rfl
      refine ⟨_, rfl, rfl, false, rfl, iteF ?_⟩
      refine ⟨_, rfl, _, rfl, (k : Int), (n : Int), rfl, ?_⟩
      rw [decide_eq_true (by omega : (0 : Int) ≤ k), decide_eq_true (by omega : (k : Int) ≤ n - 1)]
      exact q
end
end K13
namespace K13
open PySem PySem.Spec PyProof.Rows L2
section
variable {P : Program} {w : World} {K : PySem.W.Frag} {mg : Str → Option Value} {base : Heap} {A : Ad}
/-! ### readings by values -/
theorem cut_to (xs : List V) {k : Nat} (h : k ≤ xs.length) : cutV xs none (some (k : Int)) = xs.take k := by
  unfold cutV
  rw [show HT.sIx xs.length xs.length (some (k : Int)) = min k xs.length from HT.sIx_nat xs.length xs.length k, HT.sIx_none, List.drop_zero, Nat.sub_zero, Nat.min_eq_left h]
theorem cut_from (xs : List V) {k : Nat} (h : k ≤ xs.length) : cutV xs (some (k : Int)) none = xs.drop k := by
  unfold cutV
  rw [show HT.sIx xs.length 0 (some (k : Int)) = min k xs.length from HT.sIx_nat xs.length 0 k, HT.sIx_none, Nat.min_eq_left h]
  exact List.take_of_length_le (by rw [List.length_drop]; omega)
theorem rd_no {σ : L2.St} {H : Hp} {Q : Option Int → Hp → Prop} (q : Q none H) : tNoPart σ H Q := q
theorem rd_slT {a : Addr} {xs : List V} {lo hi : Option Int} {H : Hp} {Q : VK} (ha : H a = some (.tup xs)) (q : ∀ r H', Same H H' → H' r = some (.tup (cutV xs lo hi)) → Q (.ref r) H') : rSlA K (.ref a) lo hi H Q := by
  refine ⟨a, xs, rfl, SqT.of ha, fun z => q a H (Same.refl H) ?_, fun _ p np => q p _ (same_new np) upd_same⟩
  rw [ha]
  unfold cutV
  rw [z.1, z.2, List.drop_zero, Nat.sub_zero, List.take_length]
theorem rd_catT {a b : Addr} {xs ys : List V} {H : Hp} {Q : VK} (ha : H a = some (.tup xs)) (hb : H b = some (.tup ys)) (hl : xs.length + ys.length ≤ 1000) (q : ∀ r H', Same H H' → H' r = some (.tup (xs ++ ys)) → Q (.ref r) H') : rCatA K (.ref a) (.ref b) H Q := by
  refine ⟨a, b, xs, ys, rfl, rfl, SqT.of ha, SqT.of hb, size64 hl, fun z => q b H (Same.refl H) ?_, fun _ z => q a H (Same.refl H) ?_, fun _ _ p np => q p _ (same_new np) upd_same⟩
  · rw [hb, z, List.nil_append]
  · rw [ha, z, List.append_nil]
theorem rd_ixT {p : Addr} {xs : List V} {j : Nat} {v : V} {H : Hp} {Q : VK} (h : H p = some (.tup xs)) (e : xs[j]? = some v) (q : Q v H) : rIxT K (.ref p) (.int (j : Int)) H Q := ⟨p, xs, j, v, rfl, rfl, SqT.of h, atI_nat e, q⟩
theorem rd_ixL {p : Addr} {xs : List V} {j : Nat} {v : V} {H : Hp} {Q : VK} (h : H p = some (.lst xs)) (e : xs[j]? = some v) (q : Q v H) : rIxL K (.ref p) (.int (j : Int)) H Q := ⟨p, xs, j, v, rfl, rfl, SqL.of h, atI_nat e, q⟩
/-! ### shapes as tuples -/
def ndV (d : Nd) : List V := [ov d.up, ov d.l, ov d.r, .bl d.t, .int d.a, .int d.v]
def ShT (H : Hp) (a : Addr) (n : Nat) (s : Sh) : Prop := ∃ ps : List Addr, ps.length = n ∧ H a = some (.tup (ps.map V.ref)) ∧ ∀ i p, ps[i]? = some p → H p = some (.tup (ndV (s i)))
theorem ShT.mono {H H' : Hp} {a : Addr} {n : Nat} {s : Sh} (S : ShT H a n s) (h : Same H H') : ShT H' a n s := by
  obtain ⟨ps, e, ha, hp⟩ := S
  exact ⟨ps, e, h _ _ ha, fun i p z => h _ _ (hp i p z)⟩
/-- the tuple and one of its parts -/
theorem ShT.get {H : Hp} {a : Addr} {n : Nat} {s : Sh} (S : ShT H a n s) {i : Nat} (hi : i < n) : ∃ (xs : List V) (p : Addr), H a = some (.tup xs) ∧ xs.length = n ∧ xs[i]? = some (.ref p) ∧ H p = some (.tup (ndV (s i))) := by
  obtain ⟨ps, e, ha, hp⟩ := S
  have h : ps[i]? = some ps[i] := List.getElem?_eq_getElem (by omega)
  exact ⟨_, ps[i], ha, by rw [List.length_map, e], by rw [List.getElem?_map, h]; rfl, hp i _ h⟩
theorem ShT.len {H : Hp} {a : Addr} {n : Nat} {s : Sh} (S : ShT H a n s) : ∃ xs : List V, H a = some (.tup xs) ∧ xs.length = n := by
  obtain ⟨ps, e, ha, hp⟩ := S
  exact ⟨_, ha, by rw [List.length_map, e]⟩
/-- another part -/
theorem ShT.put {H H' : Hp} {a b q : Addr} {n : Nat} {s : Sh} {xs : List V} (S : ShT H a n s) (ha : H a = some (.tup xs)) (h : Same H H') {i : Nat} (hi : i < n) {d : Nd} (hb : H' b = some (.tup (ndV d))) (hq : H' q = some (.tup (xs.set i (.ref b)))) : ShT H' q n (put s i d) := by
  obtain ⟨ps, e, ha', hp⟩ := S
  rw [ha] at ha'; cases ha'
  refine ⟨ps.set i b, by rw [List.length_set, e], by rw [hq, List.map_set], fun j p z => ?_⟩
  rw [List.getElem?_set] at z
  split at z
  · next q =>
    split at z
    · cases z; rw [← q, put_same]; exact hb
    · cases z
  · next q => rw [put_ne (fun z => q z.symm)]; exact h _ _ (hp j p z)
/-- shape[i][k], whatever is in hand -/
theorem rd_part {σ : L2.St} {H : Hp} {Q : VK} {a : Addr} {n : Nat} {s : Sh} {i k : Nat} {ta tb tk : TE} {v : V} (S : ShT H a n s) (hi : i < n) (hv : (ndV (s i))[k]? = some v)
    (ea : ∀ Q : VK, Q (.ref a) H → ta σ H Q) (eb : ∀ Q : VK, Q (.int (i : Int)) H → tb σ H Q) (ek : ∀ Q : VK, Q (.int (k : Int)) H → tk σ H Q) (q : Q v H) : tOp (rIxT K) (tOp (rIxT K) ta tb) tk σ H Q := by
  obtain ⟨xs, p, ha, _, hx, hp⟩ := S.get hi
  exact ea _ (eb _ (rd_ixT ha hx (ek _ (rd_ixT hp hv q))))
theorem rd_op {σ : L2.St} {H : Hp} {Q : VK} {r : R2} {ta tb : TE} (q : ta σ H fun x H1 => tb σ H1 fun y H2 => r x y H2 Q) : tOp r ta tb σ H Q := q
theorem rd_it {σ : L2.St} {H : Hp} {Q : VK} {p : Addr} {xs : List V} {k : Nat} {v : V} {ta tk : TE} (h : H p = some (.tup xs)) (e : xs[k]? = some v) (ea : ∀ Q : VK, Q (.ref p) H → ta σ H Q) (ek : ∀ Q : VK, Q (.int (k : Int)) H → tk σ H Q) (q : Q v H) :
    tOp (rIxT K) ta tk σ H Q := ea _ (ek _ (rd_ixT h e q))
theorem rd_il {σ : L2.St} {H : Hp} {Q : VK} {p : Addr} {xs : List V} {k : Nat} {v : V} {ta tk : TE} (h : H p = some (.lst xs)) (e : xs[k]? = some v) (ea : ∀ Q : VK, Q (.ref p) H → ta σ H Q) (ek : ∀ Q : VK, Q (.int (k : Int)) H → tk σ H Q) (q : Q v H) :
    tOp (rIxL K) ta tk σ H Q := ea _ (ek _ (rd_ixL h e q))
theorem ev_v {σ : L2.St} {H : Hp} {i : Nat} {v : V} (h : σ[i]? = some (some v)) (Q : VK) (q : Q v H) : tVar i σ H Q := ⟨v, h, q⟩
theorem ev_k {σ : L2.St} {H : Hp} {v : V} (Q : VK) (q : Q v H) : tC v σ H Q := q
theorem rd_asg {σ : L2.St} {H : Hp} {D : Ends} {te : TE} {g : TG} (q : te σ H fun x H1 => g x σ H1 D.nx) : tAsg te g D σ H := q
theorem rd_cons {σ : L2.St} {H : Hp} {Q : List V → Hp → Prop} {te : TE} {tr : TA} (q : te σ H fun x H1 => tr σ H1 fun xs H2 => Q (x :: xs) H2) : tCons te tr σ H Q := q
theorem ev_add {σ : L2.St} {H : Hp} {ta tb : TE} {i j k : Int} (ha : ∀ Q : VK, Q (.int i) H → ta σ H Q) (hb : ∀ Q : VK, Q (.int j) H → tb σ H Q) (e : i + j = k) (Q : VK) (q : Q (.int k) H) : tOp (rI0 fun i j => V.int (i + j)) ta tb σ H Q :=
  ha _ (hb _ ⟨i, j, rfl, rfl, by rw [← e] at q; exact q⟩)
theorem ev_sub {σ : L2.St} {H : Hp} {ta tb : TE} {i j k : Int} (ha : ∀ Q : VK, Q (.int i) H → ta σ H Q) (hb : ∀ Q : VK, Q (.int j) H → tb σ H Q) (e : i - j = k) (Q : VK) (q : Q (.int k) H) : tOp (rI0 fun i j => V.int (i - j)) ta tb σ H Q :=
  ha _ (hb _ ⟨i, j, rfl, rfl, by rw [← e] at q; exact q⟩)
/-! ### another thing at a place -/
def sp_replaced : Sp := fun vs H Q _ => ∃ (a : Addr) (xs : List V) (k : Nat) (v : V), vs = [.ref a, .int (k : Int), v] ∧ H a = some (.tup xs) ∧ k < xs.length ∧ xs.length ≤ 500 ∧
  ∀ q H', Same H H' → H' q = some (.tup (xs.set k v)) → Q (.ref q) H'
theorem ok_replaced (T : Txt K mg A) : FnOk P w K mg base CX0 1 A.f_replaced A.d_replaced ["items", "number", "item"] sp_replaced := by
  refine T.f_replaced.ok sc_replaced (fun vs H Q E h => ?_) (fun cdv A' outer s H vs Q E hr h => ?_)
  · obtain ⟨a, xs, k, v, rfl, _⟩ := h; rfl
  · obtain ⟨a, xs, k, v, rfl, ha, hk, hl, q⟩ := h
    refine ⟨_, (pss_one (ps_ret (pe_op op_catA (pe_op op_catA (pe_slice sl_tupA (pv 0) po_none (po_some (pv 1))) (pe_tup (pa_cons (pv 2) pa_nil))) (pe_slice sl_tupA (pv 0) (po_some (pe_op op_add (pv 1) pe_int)) po_none)))), ?_⟩
    refine ⟨_, rfl, _, rfl, _, rfl, rd_slT ha fun r1 H1 s1 h1 => ?_⟩
    rw [cut_to xs (Nat.le_of_lt hk)] at h1
    have l1 : (xs.take k).length ≤ xs.length := by rw [List.length_take]; exact Nat.min_le_right _ _
    refine ⟨_, rfl, size64 (by show 1 ≤ 1000; decide), fun p2 n2 => rd_catT ((same_new n2) _ _ h1) upd_same (by rw [List.length_singleton]; omega) fun r3 H3 s3 h3 => ?_⟩
    have s03 := (s1.trans (same_new n2)).trans s3
    refine ⟨_, rfl, _, rfl, _, _, rfl, rfl, _, rfl, rd_no <| rd_slT (s03 _ _ ha) fun r4 H4 s4 h4 => ?_⟩
    have ek : ((k : Int) + 1) = ((k + 1 : Nat) : Int) := by omega
    rw [ek, cut_from xs (k := k + 1) hk] at h4
    have l2 : (xs.drop (k + 1)).length ≤ xs.length := by rw [List.length_drop]; omega
    refine rd_catT (s4 _ _ h3) h4 (by have := List.length_drop (i := k + 1) (l := xs); rw [List.length_append, List.length_singleton]; omega) fun r5 H5 s5 h5 => ?_
    refine q _ _ ((s03.trans s4).trans s5) ?_
    rw [h5, List.set_eq_take_append_cons_drop, if_pos hk, List.append_assoc]
    rfl
def sp_changed : Sp := fun vs H Q _ => ∃ (a : Addr) (n : Nat) (s : Sh) (i k : Nat) (v : V) (d : Nd), vs = [.ref a, .int (i : Int), .int (k : Int), v] ∧ ShT H a n s ∧ n ≤ 64 ∧ i < n ∧ k < 6 ∧ (ndV (s i)).set k v = ndV d ∧
  ∀ q H', Same H H' → ShT H' q n (put s i d) → Q (.ref q) H'
theorem ok_changed (T : Txt K mg A) : FnOk P w K mg base CX0 2 A.f_changed A.d_changed ["shape", "house", "part", "thing"] sp_changed := by
  refine T.f_changed.ok sc_changed (fun vs H Q E h => ?_) (fun cdv A' outer s H vs Q E hr h => ?_)
  · obtain ⟨a, n, s, i, k, v, d, rfl, _⟩ := h; rfl
  · obtain ⟨a, n, s, i, k, v, d, rfl, S, hn, hi, hk, hd, q⟩ := h
    refine ⟨_, (pss_one (ps_ret (pe_call (ok_replaced T) (hr.mono (by decide)) (by rfl) T.g_replaced T.f_replaced.kp T.b_replaced .nil pass0 (pa_cons (pv 0) (pa_cons (pv 1) (pa_cons (pe_call (ok_replaced T) (hr.mono (by decide)) (by rfl) T.g_replaced T.f_replaced.kp T.b_replaced .nil pass0 (pa_cons (pe_ix ix_tup (pv 0) (pv 1) (fun _ _ => rfl)) (pa_cons (pv 2) (pa_cons (pv 3) pa_nil)))) pa_nil)))))), ?_⟩
    obtain ⟨xs, p, ha, hl, hx, hp⟩ := S.get hi
    refine ⟨_, rfl, _, rfl, _, rfl, _, rfl, rd_ixT ha hx ⟨_, rfl, _, rfl, p, _, k, v, rfl, hp, hk, (by show 6 ≤ 500; decide), fun r H1 s1 h1 => ?_⟩⟩
    refine ⟨a, xs, i, .ref r, rfl, s1 _ _ ha, by omega, by omega, fun r2 H2 s2 h2 => ?_⟩
    refine q r2 H2 (s1.trans s2) (S.put ha (s1.trans s2) hi (s2 _ _ ?_) h2)
    rw [h1, hd]
def sp_with_more : Sp := fun vs H Q _ => ∃ (a : Addr) (d : Nd) (z : Int), vs = [.ref a, .int z] ∧ H a = some (.tup (ndV d)) ∧ ∀ q H', Same H H' → H' q = some (.tup (ndV { d with a := d.a + z, v := d.v + z })) → Q (.ref q) H'
theorem ok_with_more (T : Txt K mg A) : FnOk P w K mg base CX0 1 A.f_with_more A.d_with_more ["part", "number"] sp_with_more := by
  refine T.f_with_more.ok sc_with_more (fun vs H Q E h => ?_) (fun cdv A' outer s H vs Q E hr h => ?_)
  · obtain ⟨a, d, z, rfl, _⟩ := h; rfl
  · obtain ⟨a, d, z, rfl, ha, q⟩ := h
    refine ⟨_, (pss_one (ps_ret (pe_op op_catA (pe_slice sl_tupA (pv 0) po_none (po_some (pe_glob (v := .int 4) (by rfl) T.k_ADDED ⟨_, rfl⟩))) (pe_tup (pa_cons (pe_op op_add (pe_ix ix_tup (pv 0) (pe_glob (v := .int 4) (by rfl) T.k_ADDED ⟨_, rfl⟩) (fun _ _ => rfl)) (pv 1)) (pa_cons (pe_op op_add (pe_ix ix_tup (pv 0) (pe_glob (v := .int 5) (by rfl) T.k_VALUE ⟨_, rfl⟩) (fun _ _ => rfl)) (pv 1)) pa_nil)))))), ?_⟩
    refine ⟨_, rfl, rd_no <| ev_k _ ⟨4, rfl, rd_slT ha fun r1 H1 s1 h1 => ?_⟩⟩
    rw [show cutV (ndV d) none (some (4 : Int)) = [ov d.up, ov d.l, ov d.r, .bl d.t] from cut_to (ndV d) (k := 4) (show 4 ≤ 6 by decide)] at h1
    refine rd_op <| rd_it (k := 4) (s1 _ _ ha) rfl (ev_v rfl) ev_k ⟨_, rfl, _, _, rfl, rfl, rd_op <| rd_it (k := 5) (s1 _ _ ha) rfl (ev_v rfl) ev_k ⟨_, rfl, _, _, rfl, rfl, ?_⟩⟩
    refine ⟨size64 (by show 2 ≤ 1000; decide), fun p np => rd_catT ((same_new np) _ _ h1) upd_same (by show 6 ≤ 1000; decide) fun r2 H2 s2 h2 => ?_⟩
    exact q r2 H2 ((s1.trans (same_new np)).trans s2) h2
end
end K13
namespace K13
open PySem PySem.Spec PyProof.Rows L2
section
variable {P : Program} {w : World} {K : PySem.W.Frag} {mg : Str → Option Value} {base : Heap} {A : Ad}
/-! ### sons -/
theorem ov_non {o : Option Nat} : (ov o = V.non) ↔ o = none := by cases o <;> simp [ov]
theorem ov_int {o : Option Nat} {k : Nat} : (ov o = V.int (k : Int)) ↔ o = some k := by
  cases o with
  | none => simp [ov]
  | some j => simp only [ov, V.int.injEq, Option.some.injEq]; omega
theorem ov_inj {o q : Option Nat} : (ov o = ov q) ↔ o = q := by
  cases q with
  | none => exact ov_non
  | some k => exact ov_int
theorem flat_ov (o : Option Nat) : flatV (ov o) = true := by cases o <;> rfl
theorem eqV_ov (o : Option Nat) (k : Nat) : eqV (ov o) (.int (k : Int)) = (o == some k) := by
  cases o with
  | none => rfl
  | some j =>
    show ((j : Int) == (k : Int)) = (some j == some k)
    rw [Bool.eq_iff_iff, beq_iff_eq, beq_iff_eq, Option.some.injEq]; omega
theorem in_sons (d : Nd) (k : Nat) : inV (.int (k : Int)) [ov d.l, ov d.r] = (d.l == some k || d.r == some k) := by
  show (eqV (ov d.l) (.int (k : Int)) || (eqV (ov d.r) (.int (k : Int)) || false)) = _
  rw [eqV_ov, eqV_ov, Bool.or_false]
theorem scal_ov (o q : Option Nat) : scal (ov o) (ov q) = true := by cases o <;> cases q <;> rfl
theorem cut_13 (d : Nd) : cutV (ndV d) (some (1 : Int)) (some (3 : Int)) = [ov d.l, ov d.r] := by
  unfold cutV
  rw [show HT.sIx (ndV d).length 0 (some (1 : Int)) = min 1 (ndV d).length from HT.sIx_nat _ _ 1, show HT.sIx (ndV d).length (ndV d).length (some (3 : Int)) = min 3 (ndV d).length from HT.sIx_nat _ _ 3]
  rfl
def sonsV (d : Nd) : List V := [ov d.l, ov d.r].filter fun v => !decide (v = V.non)
def sp_sons_of : Sp := fun vs H Q _ => ∃ (a : Addr) (n : Nat) (s : Sh) (i : Nat), vs = [.ref a, .int (i : Int)] ∧ ShT H a n s ∧ i < n ∧ ∀ q H', Same H H' → H q = none → H' q = some (.lst (sonsV (s i))) → Q (.ref q) H'
theorem ok_sons_of (T : Txt K mg A) : FnOk P w K mg base CX0 1 A.f_sons_of A.d_sons_of ["shape", "house"] sp_sons_of := by
  refine T.f_sons_of.ok sc_sons_of (fun vs H Q E h => ?_) (fun cdv A' outer s H vs Q E hr h => ?_)
  · obtain ⟨a, n, s, i, rfl, _⟩ := h; rfl
  · obtain ⟨a, n, s, i, rfl, S, hi, q⟩ := h
    obtain ⟨xs, p, ha, _, hx, hp⟩ := S.get hi
    refine ⟨_, (pss_one (ps_ret (pe_lc (own := [("son", 2)]) (g := gName 2) (by rfl) sc_sons_of.nd (pi_tup (pe_slice sl_tupA (pe_ix ix_tup (pv 0) (pv 1) (fun _ _ => rfl)) (po_some (pe_glob (v := .int 1) (by rfl) T.k_LEFT ⟨_, rfl⟩)) (po_some (pe_glob (v := .int 3) (by rfl) T.k_TURNED ⟨_, rfl⟩)))) (blkOk_by (own := [("son", 2)]) (N := ns_sons_of) (sc := defScope st_sons_of) (by decide +kernel)) (fun _ _ _ _ _ => pg_name (i := 2) sc_sons_of.nd rfl (Or.inl rfl)) (fun _ _ _ _ _ => (pts_one (pt_cmpR op_notN (pv 2) pe_non (nomark _)))) (fun _ _ _ _ _ => (pv 2))))), ?_⟩
    refine rd_it ha hx (ev_v rfl) (ev_v rfl) (ev_k _ ⟨1, rfl, ev_k _ ⟨3, rfl, rd_slT hp fun r H1 s1 h1 => ?_⟩⟩)
    rw [cut_13] at h1
    refine ⟨r, rfl, ⟨_, SqT.of h1⟩, fun D nD => lc_tup (xs := [ov (s i).l, ov (s i).r]) (fun j H' => Same H1 H' ∧ H' D = some (.lst (([ov (s i).l, ov (s i).r].take j).filter fun v => !decide (v = V.non)))) ⟨same_new nD, upd_same⟩ (fun j H' _ z => SqT.of (z.1 _ _ h1)) (fun j x H' hj z => ⟨rfl, ?_⟩) (fun H' z => ?_)⟩
    · have et : ([ov (s i).l, ov (s i).r].take (j + 1)) = [ov (s i).l, ov (s i).r].take j ++ [x] := by rw [List.take_add_one, hj]; rfl
      refine ⟨_, rfl, rfl, _, rfl, iteB (fun c => ?_) (fun c => ?_)⟩
      · refine ⟨_, rfl, _, z.2, small1000 (Nat.le_trans (List.length_filter_le _ _) ?_), fun b o e => ?_, ?_⟩
        · rw [List.length_take]; exact Nat.le_trans (Nat.min_le_right _ _) (by show 2 ≤ 1000; decide)
        · rw [upd_ne (fun e' => by subst e'; rw [nD] at e; cases e)]; exact z.1 _ _ e
        · rw [upd_same, et, List.filter_append, show [x].filter (fun v => !decide (v = V.non)) = [x] from by rw [List.filter_cons, if_pos c, List.filter_nil]]
      · refine ⟨z.1, ?_⟩
        rw [z.2, et, List.filter_append, show [x].filter (fun v => !decide (v = V.non)) = [] from by rw [List.filter_cons, if_neg (by rw [c]; decide), List.filter_nil], List.append_nil]
    · exact q D H' (s1.trans z.1) (s1.free nD) z.2
def sp_is_son : Sp := fun vs H Q _ => ∃ (a : Addr) (n : Nat) (s : Sh) (i : Nat), vs = [.ref a, .int (i : Int)] ∧ ShT H a n s ∧ i < n ∧ (∀ p, (s i).up = some p → p < n) ∧ ∀ H', Same H H' → Q (.bl (isSon s i)) H'
theorem ok_is_son (T : Txt K mg A) : FnOk P w K mg base CX0 1 A.f_is_son A.d_is_son ["shape", "house"] sp_is_son := by
  refine T.f_is_son.ok sc_is_son (fun vs H Q E h => ?_) (fun cdv A' outer s H vs Q E hr h => ?_)
  · obtain ⟨a, n, s, i, rfl, _⟩ := h; rfl
  · obtain ⟨a, n, s, i, rfl, S, hi, hu, q⟩ := h
    refine ⟨_, (pss_cons (ps_set (i := 2) sc_is_son.nd rfl (Or.inl rfl) (pe_ix ix_tup (pe_ix ix_tup (pv 0) (pv 1) (fun _ _ => rfl)) (pe_glob (v := .int 0) (by rfl) T.k_UP ⟨_, rfl⟩) (fun _ _ => rfl)))
      (pss_one (ps_ret (pe_and (pe_cmpR op_notN (pv 2) pe_non (nomark _)) (pe_one (pe_cmpR op_in_seq (pv 1) (pe_slice sl_tupA (pe_ix ix_tup (pv 0) (pv 2) (fun _ _ => rfl)) (po_some (pe_glob (v := .int 1) (by rfl) T.k_LEFT ⟨_, rfl⟩)) (po_some (pe_glob (v := .int 3) (by rfl) T.k_TURNED ⟨_, rfl⟩))) (by rfl))))))), ?_⟩
    refine rd_part (v := ov (s i).up) S hi (k := 0) rfl (ev_v rfl) (ev_v rfl) ev_k ?_
    refine ⟨_, rfl, rfl, _, rfl, iteB (fun c => ?_) (fun c => ?_)⟩
    · cases e : (s i).up with
      | none => rw [e] at c; cases c
      | some p =>
        obtain ⟨xs, pp, ha, _, hx, hp⟩ := S.get (hu p e)
        refine ⟨_, rfl, rd_it ha hx (ev_v rfl) (ev_v rfl) (ev_k _ ⟨1, rfl, ev_k _ ⟨3, rfl, rd_slT hp fun r H1 s1 h1 => ?_⟩⟩)⟩
        rw [cut_13] at h1
        refine ⟨r, _, rfl, .inr (SqT.of h1), rfl, ?_, qb ?_ (q H1 s1)⟩
        · rw [List.all_cons, List.all_cons, flat_ov, flat_ov]; rfl
        · show inV (.int (i : Int)) [ov (s p).l, ov (s p).r] = _
          rw [in_sons]
          exact (isSon_at e).symm
    · have e : (s i).up = none := by
        cases e : (s i).up with
        | none => rfl
        | some p => rw [e] at c; cases c
      refine qb ?_ (q H (Same.refl H))
      unfold isSon
      rw [e]
def sp_side_of : Sp := fun vs H Q _ => ∃ (a : Addr) (n : Nat) (s : Sh) (i p : Nat), vs = [.ref a, .int (i : Int)] ∧ ShT H a n s ∧ i < n ∧ (s i).up = some p ∧ p < n ∧ Q (.int (if (s p).l = some i then 1 else 2)) H
theorem ok_side_of (T : Txt K mg A) : FnOk P w K mg base CX0 1 A.f_side_of A.d_side_of ["shape", "house"] sp_side_of := by
  refine T.f_side_of.ok sc_side_of (fun vs H Q E h => ?_) (fun cdv A' outer s H vs Q E hr h => ?_)
  · obtain ⟨a, n, s, i, p, rfl, _⟩ := h; rfl
  · obtain ⟨a, n, s, i, p, rfl, S, hi, eu, hp, q⟩ := h
    refine ⟨_, (pss_one (ps_ret (pe_ifExp (pt_cmpR op_eq (pe_ix ix_tup (pe_ix ix_tup (pv 0) (pe_ix ix_tup (pe_ix ix_tup (pv 0) (pv 1) (fun _ _ => rfl)) (pe_glob (v := .int 0) (by rfl) T.k_UP ⟨_, rfl⟩) (fun _ _ => rfl)) (fun _ _ => rfl)) (pe_glob (v := .int 1) (by rfl) T.k_LEFT ⟨_, rfl⟩) (fun _ _ => rfl)) (pv 1) (nomark _)) (pe_glob (v := .int 1) (by rfl) T.k_LEFT ⟨_, rfl⟩) (pe_glob (v := .int 2) (by rfl) T.k_RIGHT ⟨_, rfl⟩)))), ?_⟩
    have e1 : ∀ Q' : VK, Q' (.int (p : Int)) H → tOp (rIxT K) (tOp (rIxT K) (tVar 0) (tVar 1)) (tC (.int 0)) (L2.start ns_side_of [.ref a, .int (i : Int)]) H Q' := fun Q' q' =>
      rd_part (v := ov (s i).up) S hi (k := 0) rfl (ev_v rfl) (ev_v rfl) ev_k (by rw [eu]; exact q')
    refine rd_part (v := ov (s p).l) S hp (k := 1) rfl (ev_v rfl) e1 ev_k ?_
    refine ⟨_, rfl, scal_ov _ (some i), _, rfl, iteB (fun c => ?_) (fun c => ?_)⟩
    · have : (s p).l = some i := ov_int.mp (of_decide_eq_true c)
      rw [if_pos this] at q; exact q
    · have : (s p).l ≠ some i := fun z => of_decide_eq_false c (ov_int.mpr z)
      rw [if_neg this] at q; exact q
/-! ### shapes judged -/
theorem range_len {n : Nat} (h : n ≤ 64) : -(2 ^ 62) ≤ (n : Int) ∧ (n : Int) < 2 ^ 62 := by
  have : (2 : Int) ^ 62 = 4611686018427387904 := by decide
  omega
def sp_comes_out : Sp := fun vs H Q _ => ∃ (a : Addr) (n : Nat) (s : Sh) (i : Nat), vs = [.ref a, .int (i : Int)] ∧ ShT H a n s ∧ n ≤ 64 ∧ Ok n s ∧ i < n ∧ Q (.bl true) H
theorem ok_comes_out (T : Txt K mg A) : FnOk P w K mg base CX0 1 A.f_comes_out A.d_comes_out ["shape", "house"] sp_comes_out := by
  refine T.f_comes_out.ok sc_comes_out (fun vs H Q E h => ?_) (fun cdv A' outer s H vs Q E hr h => ?_)
  · obtain ⟨a, n, s, i, rfl, _⟩ := h; rfl
  · obtain ⟨a, n, s, i, rfl, S, hn, k, hi, q⟩ := h
    obtain ⟨xs, ha, hl⟩ := S.len
    refine ⟨_, (pss_cons (ps_set (i := 2) sc_comes_out.nd rfl (Or.inl rfl) (pv 1))
      (pss_cons (ps_for PassesOwn.never rfl (pi_range1 (by rfl) T.z_range (pa_cons (pe_callB call_len_seq (by rfl) T.z_len PySem.boot_len (pa_cons (pv 0) pa_nil)) pa_nil)) (pg_name (i := 3) sc_comes_out.nd rfl (Or.inl rfl))
      (pss_cons (ps_set (i := 2) sc_comes_out.nd rfl (Or.inl rfl) (pe_ix ix_tup (pe_ix ix_tup (pv 0) (pv 2) (fun _ _ => rfl)) (pe_glob (v := .int 0) (by rfl) T.k_UP ⟨_, rfl⟩) (fun _ _ => rfl)))
      (pss_one (ps_if (pt_cmpR op_isN (pv 2) pe_non (nomark _)) (pss_one (ps_ret pe_bl)) pss_nil))))
      (pss_one (ps_ret pe_bl)))), ?_⟩
    refine ⟨_, rfl, _, rfl, a, xs, rfl, .inr (SqT.of ha), (xs.length : Int), rfl, (range_len (by omega)).1, (range_len (by omega)).2, ?_⟩
    refine for_range (lo := 0) (n := xs.length) (fun j σ H' => H' = H ∧ ∃ (x : Nat) (v : Option V), x < n ∧ W n s i + j ≤ W n s x ∧ σ = [some (.ref a), some (.int (i : Int)), some (.int (x : Int)), v]) ⟨rfl, i, none, hi, Nat.le_refl _, rfl⟩ (fun j σ H' hj h => ?_) (fun σ H' h => ?_)
    · obtain ⟨rfl, x, v, hx, hw, rfl⟩ := h
      refine rd_part (v := ov (s x).up) S hx (k := 0) rfl (ev_v rfl) (ev_v rfl) ev_k ?_
      refine ⟨_, rfl, rfl, _, rfl, iteB (fun c => ?_) (fun c => ?_)⟩
      · exact q
      · cases e : (s x).up with
        | none => rw [e] at c; cases c
        | some p =>
          have := W_up k e
          exact ⟨rfl, p, _, (k.lt e).2, by omega, rfl⟩
    · obtain ⟨rfl, x, v, hx, hw, rfl⟩ := h
      have h1 := W_pos (s := s) hi
      have h2 := W_le n s x
      omega
end
end K13
namespace K13
open PySem PySem.Spec PyProof.Rows L2
section
variable {P : Program} {w : World} {K : PySem.W.Frag} {mg : Str → Option Value} {base : Heap} {A : Ad}
/-! ### comprehensions all of whose items are True -/
theorem rd_nil {σ : L2.St} {H : Hp} {Q : List V → Hp → Prop} (q : Q [] H) : tNil σ H Q := q
theorem rd_yes {σ : L2.St} {H : Hp} {Q : Bool → Hp → Prop} (q : Q true H) : tYes σ H Q := q
theorem true_turn {H1 H' : Hp} {D : Addr} {te : TE} {σ : L2.St} {j m : Nat} (nD : H1 D = none) (z : Same H1 H' ∧ H' D = some (.lst (List.replicate j (.bl true)))) (hj : j ≤ 900) (he : ∀ Q : VK, (∀ H'', Same H' H'' → Q (.bl true) H'') → te σ H' Q) :
    te σ H' fun y H4 => ∃ acc, H4 D = some (.lst acc) ∧ acc.length < sizeLine ∧ (Same H1 (upd H4 D (.lst (acc ++ [y]))) ∧ upd H4 D (.lst (acc ++ [y])) D = some (.lst (List.replicate (j + 1) (.bl true)))) :=
  he _ fun H'' s => ⟨_, s _ _ z.2, small1000 (by rw [List.length_replicate]; omega), fun b o e => by rw [upd_ne (fun e' => by subst e'; rw [nD] at e; cases e)]; exact s _ _ (z.1 _ _ e), by rw [upd_same, List.replicate_succ']⟩
theorem lc_trueT {a : Addr} {xs : List V} {i : Nat} {te : TE} {vs : List Nat} {σ : L2.St} {H1 : Hp} {D : Addr} {Qd : Hp → Prop} (hx : H1 a = some (.tup xs)) (nD : H1 D = none) (hl : xs.length ≤ 900) (hw : ∀ x, wipe ((wipe σ vs).set i (some x)) vs = wipe σ vs)
    (hs : ∀ (j : Nat) (x : V) (H' : Hp), (xs : List V)[(j : Nat)]? = some x → Same H1 H' → ∀ Q : VK, (∀ H'', Same H' H'' → Q (.bl true) H'') → te ((wipe σ vs).set i (some x)) H' Q) (hd : ∀ H', Same H1 H' → H' D = some (.lst (List.replicate xs.length (.bl true))) → Qd H') :
    ∃ W : Nat → Nat → Hp → Prop, (∃ m, W 0 m (upd H1 D (.lst []))) ∧ ∀ i' m H, W i' m H →
      ((Itt K a).stop i' H ∧ Qd H) ∨ ((Itt K a).go i' H ∧ ∃ Nx : Hp → Prop, (∀ H', Nx H' → ∃ m', m' < m ∧ W (i' + 1) m' H') ∧ ∀ x H', (Itt K a).yld i' H x H' → gName i x (wipe σ vs) H' fun σ2 H2 => wipe σ2 vs = wipe σ vs ∧ tYes σ2 H2 fun b H3 =>
        if b = true then te σ2 H3 fun y H4 => ∃ acc, H4 D = some (.lst acc) ∧ acc.length < sizeLine ∧ Nx (upd H4 D (.lst (acc ++ [y]))) else Nx H3) :=
  lc_tup (xs := xs) (fun j H' => Same H1 H' ∧ H' D = some (.lst (List.replicate j (.bl true)))) ⟨same_new nD, upd_same⟩ (fun j H' _ z => SqT.of (z.1 _ _ hx)) (fun (j : Nat) (x : V) H' (hj : xs[j]? = some x) z => by
    refine ⟨hw x, ?_⟩
    refine rd_yes (iteT ?_)
    exact true_turn (m := 0) nD z (by have := (List.getElem?_eq_some_iff.mp hj).1; omega) (hs j x H' hj z.1)) fun H' z => hd H' z.1 z.2
theorem lc_trueL {a : Addr} {xs : List V} {i : Nat} {te : TE} {vs : List Nat} {σ : L2.St} {H1 : Hp} {D : Addr} {Qd : Hp → Prop} (hx : H1 a = some (.lst xs)) (nD : H1 D = none) (hl : xs.length ≤ 900) (hw : ∀ x, wipe ((wipe σ vs).set i (some x)) vs = wipe σ vs)
    (hs : ∀ (j : Nat) (x : V) (H' : Hp), (xs : List V)[(j : Nat)]? = some x → Same H1 H' → ∀ Q : VK, (∀ H'', Same H' H'' → Q (.bl true) H'') → te ((wipe σ vs).set i (some x)) H' Q) (hd : ∀ H', Same H1 H' → H' D = some (.lst (List.replicate xs.length (.bl true))) → Qd H') :
    ∃ W : Nat → Nat → Hp → Prop, (∃ m, W 0 m (upd H1 D (.lst []))) ∧ ∀ i' m H, W i' m H →
      ((Itl K a).stop i' H ∧ Qd H) ∨ ((Itl K a).go i' H ∧ ∃ Nx : Hp → Prop, (∀ H', Nx H' → ∃ m', m' < m ∧ W (i' + 1) m' H') ∧ ∀ x H', (Itl K a).yld i' H x H' → gName i x (wipe σ vs) H' fun σ2 H2 => wipe σ2 vs = wipe σ vs ∧ tYes σ2 H2 fun b H3 =>
        if b = true then te σ2 H3 fun y H4 => ∃ acc, H4 D = some (.lst acc) ∧ acc.length < sizeLine ∧ Nx (upd H4 D (.lst (acc ++ [y]))) else Nx H3) :=
  lc_list (xs := xs) (fun j H' => Same H1 H' ∧ H' D = some (.lst (List.replicate j (.bl true)))) ⟨same_new nD, upd_same⟩ (fun j H' _ z => SqL.of (z.1 _ _ hx)) (fun (j : Nat) (x : V) H' (hj : xs[j]? = some x) z => by
    refine ⟨hw x, ?_⟩
    refine rd_yes (iteT ?_)
    exact true_turn (m := 0) nD z (by have := (List.getElem?_eq_some_iff.mp hj).1; omega) (hs j x H' hj z.1)) fun H' z => hd H' z.1 z.2
theorem lc_trueR {n i : Nat} {te : TE} {vs : List Nat} {σ : L2.St} {H1 : Hp} {D : Addr} {Qd : Hp → Prop} (nD : H1 D = none) (hl : n ≤ 900) (hw : ∀ x, wipe ((wipe σ vs).set i (some x)) vs = wipe σ vs)
    (hs : ∀ (j : Nat) H', j < n → Same H1 H' → ∀ Q : VK, (∀ H'', Same H' H'' → Q (.bl true) H'') → te ((wipe σ vs).set i (some (.int (j : Int)))) H' Q) (hd : ∀ H', Same H1 H' → H' D = some (.lst (List.replicate n (.bl true))) → Qd H') :
    ∃ W : Nat → Nat → Hp → Prop, (∃ m, W 0 m (upd H1 D (.lst []))) ∧ ∀ i' m H, W i' m H →
      ((Itr 0 n).stop i' H ∧ Qd H) ∨ ((Itr 0 n).go i' H ∧ ∃ Nx : Hp → Prop, (∀ H', Nx H' → ∃ m', m' < m ∧ W (i' + 1) m' H') ∧ ∀ x H', (Itr 0 n).yld i' H x H' → gName i x (wipe σ vs) H' fun σ2 H2 => wipe σ2 vs = wipe σ vs ∧ tYes σ2 H2 fun b H3 =>
        if b = true then te σ2 H3 fun y H4 => ∃ acc, H4 D = some (.lst acc) ∧ acc.length < sizeLine ∧ Nx (upd H4 D (.lst (acc ++ [y]))) else Nx H3) :=
  lc_range (lo := 0) (n := n) (fun j H' => Same H1 H' ∧ H' D = some (.lst (List.replicate j (.bl true)))) ⟨same_new nD, upd_same⟩ (fun (j : Nat) H' hj z => by
    refine ⟨hw _, ?_⟩
    refine rd_yes (iteT ?_)
    exact true_turn (m := 0) nD z (by omega) (by rw [Int.zero_add]; exact hs j H' hj z.1)) fun H' z => hd H' z.1 z.2
theorem all_true {H : Hp} {D : Addr} {Q : VK} {n : Nat} (h : H D = some (.lst (List.replicate n (.bl true)))) (q : Q (.bl true) H) : rAll K [.ref D] H Q := by
  refine ⟨D, List.replicate n true, rfl, SqL.of (by rw [h, List.map_replicate]), ?_⟩
  rw [show (List.replicate n true).all id = true by simp]
  exact q
/-! ### a part -/
structure NdOk (n : Nat) (d : Nd) : Prop where
  up : ∀ k, d.up = some k → k < n
  l : ∀ k, d.l = some k → k < n
  r : ∀ k, d.r = some k → k < n
  lr : ∀ k, d.l = some k → d.r ≠ some k
theorem Ok.nd {n : Nat} {s : Sh} (k : Ok n s) (i : Nat) : NdOk n (s i) := ⟨fun _ e => (k.lt e).2, fun _ e => (k.lt (k.ll _ _ e)).1, fun _ e => (k.lt (k.rr _ _ e)).1, fun _ e => k.lr _ _ e⟩
def sp_is_part : Sp := fun vs H Q _ => ∃ (a : Addr) (n : Nat) (d : Nd), vs = [.int (n : Int), .ref a] ∧ H a = some (.tup (ndV d)) ∧ NdOk n d ∧ ∀ H', Same H H' → Q (.bl true) H'
theorem ok_is_part (T : Txt K mg A) : FnOk P w K mg base CX0 5 A.f_is_part A.d_is_part ["many", "thing"] sp_is_part := by
  refine T.f_is_part.ok sc_is_part (fun vs H Q E h => ?_) (fun cdv A' outer s H vs Q E hr h => ?_)
  · obtain ⟨a, n, d, rfl, _⟩ := h; rfl
  · obtain ⟨a, n, d, rfl, ha, hd, q⟩ := h
    refine ⟨_, (pss_cons (ps_if (PW.pt (pw_or (pt_not (pt_val (pe_call (ok_is_sized T) (hr.mono (by decide)) (by rfl) T.g_is_sized T.f_is_sized.kp T.b_is_sized .nil pass0 (pa_cons (pv 1) (pa_cons (pe_glob (v := .int 6) (by rfl) T.k_PARTS ⟨_, rfl⟩) (pa_cons (pe_glob (v := .int 6) (by rfl) T.k_PARTS ⟨_, rfl⟩) pa_nil)))))) (pw_or1 (pt_not (pt_val (pe_callB (cr_all rfl) (by rfl) T.z_all (by decide +kernel) (pa_cons (pe_lc (own := [("item", 2)]) (g := gName 2) (tt := tYes) (by rfl) sc_is_part.nd (pi_tup (pe_slice sl_tupA (pv 1) po_none (po_some (pe_glob (v := .int 3) (by rfl) T.k_TURNED ⟨_, rfl⟩)))) (blkOk_by (own := [("item", 2)]) (N := ns_is_part) (sc := defScope st_is_part) (by decide +kernel)) (fun _ _ _ _ _ => pg_name (i := 2) sc_is_part.nd rfl (Or.inl rfl)) (fun _ _ _ _ _ => pts_nil) (fun _ _ _ _ _ => (pe_call (ok_is_place T) (hr.mono (by decide)) (by rfl) T.g_is_place T.f_is_place.kp T.b_is_place .nil pass0 (pa_cons (pv 0) (pa_cons (pv 2) pa_nil))))) pa_nil))))))) (pss_one (ps_ret pe_bl)) pss_nil)
      (pss_cons (ps_if (PW.pt (pw_and (pt_cmpR op_notN (pe_ix ix_tup (pv 1) (pe_glob (v := .int 1) (by rfl) T.k_LEFT ⟨_, rfl⟩) (fun _ _ => rfl)) pe_non (nomark _)) (pw_and1 (pt_cmpR op_eq (pe_ix ix_tup (pv 1) (pe_glob (v := .int 1) (by rfl) T.k_LEFT ⟨_, rfl⟩) (fun _ _ => rfl)) (pe_ix ix_tup (pv 1) (pe_glob (v := .int 2) (by rfl) T.k_RIGHT ⟨_, rfl⟩) (fun _ _ => rfl)) (nomark _))))) (pss_one (ps_ret pe_bl)) pss_nil)
      (pss_one (ps_ret (pe_and (pe_callB call_isi (by rfl) T.z_isinstance (by decide +kernel) (pa_cons (pe_ix ix_tup (pv 1) (pe_glob (v := .int 3) (by rfl) T.k_TURNED ⟨_, rfl⟩) (fun _ _ => rfl)) (pa_cons (pe_bltn (v := .ty "bool") (by rfl) T.z_bool (by decide +kernel) rfl) pa_nil))) (pe_and (pe_call (ok_is_integer T) (hr.mono (by decide)) (by rfl) T.g_is_integer T.f_is_integer.kp T.b_is_integer .nil pass0 (pa_cons (pe_ix ix_tup (pv 1) (pe_glob (v := .int 4) (by rfl) T.k_ADDED ⟨_, rfl⟩) (fun _ _ => rfl)) pa_nil)) (pe_one (pe_call (ok_is_integer T) (hr.mono (by decide)) (by rfl) T.g_is_integer T.f_is_integer.kp T.b_is_integer .nil pass0 (pa_cons (pe_ix ix_tup (pv 1) (pe_glob (v := .int 5) (by rfl) T.k_VALUE ⟨_, rfl⟩) (fun _ _ => rfl)) pa_nil))))))))), ?_⟩
    refine ⟨_, rfl, a, ndV d, 6, 6, rfl, ha, (by show (6 : Int) ≤ 6; decide), (by show (6 : Int) ≤ 6; decide), true, rfl, iteF ?_⟩
    refine ⟨_, rfl, rd_no <| ev_k _ ⟨3, rfl, rd_slT ha fun r H1 s1 h1 => ⟨r, rfl, ⟨_, SqT.of h1⟩, fun D nD => ?_⟩⟩⟩
    have ec : cutV (ndV d) none (some (3 : Int)) = [ov d.up, ov d.l, ov d.r] := cut_to (ndV d) (k := 3) (show 3 ≤ 6 by decide)
    rw [ec] at h1
    refine lc_trueT h1 nD (show 3 ≤ 900 by decide) (fun _ => rfl) (fun j x H' hj s' Q' q' => ?_) fun H2 s2 h2 => rd_nil <| all_true h2 ⟨_, rfl, iteF ?_⟩
    · refine ⟨_, rfl, _, rfl, ?_⟩
      match j, hj with
      | 0, hj => cases hj; exact ⟨d.up, n, rfl, hd.up, q' _ (Same.refl _)⟩
      | 1, hj => cases hj; exact ⟨d.l, n, rfl, hd.l, q' _ (Same.refl _)⟩
      | 2, hj => cases hj; exact ⟨d.r, n, rfl, hd.r, q' _ (Same.refl _)⟩
      | j + 3, hj => cases hj
    · have ha2 := s2 _ _ (s1 _ _ ha)
      refine rd_it (k := 1) (v := ov d.l) ha2 rfl (ev_v rfl) ev_k ⟨rfl, _, rfl, iteB (fun c => ?_) (fun c => ?_)⟩
      · refine rd_it (k := 1) (v := ov d.l) ha2 rfl (ev_v rfl) ev_k (rd_it (k := 2) (v := ov d.r) ha2 rfl (ev_v rfl) ev_k ⟨scal_ov _ _, _, rfl, ?_⟩)
        have ne : ¬ (ov d.l = ov d.r) := fun z => by
          cases e : d.l with
          | none => rw [e] at c; cases c
          | some k => exact hd.lr k e ((ov_inj.mp z).symm.trans e)
        rw [decide_eq_false ne]
        refine iteF ?_
        refine rd_it (k := 3) (v := .bl d.t) ha2 rfl (ev_v rfl) ev_k ⟨_, _, _, _, _, rfl, .ty "bool", .base (.bl _), kit_ty (r := true) (by decide +kernel), true, rfl, iteT ?_⟩
        refine rd_it (k := 4) (v := .int d.a) ha2 rfl (ev_v rfl) ev_k ⟨_, rfl, true, rfl, iteT ?_⟩
        exact rd_it (k := 5) (v := .int d.v) ha2 rfl (ev_v rfl) ev_k ⟨_, rfl, q _ (s1.trans s2)⟩
      · refine iteF ?_
        refine rd_it (k := 3) (v := .bl d.t) ha2 rfl (ev_v rfl) ev_k ⟨_, _, _, _, _, rfl, .ty "bool", .base (.bl _), kit_ty (r := true) (by decide +kernel), true, rfl, iteT ?_⟩
        refine rd_it (k := 4) (v := .int d.a) ha2 rfl (ev_v rfl) ev_k ⟨_, rfl, true, rfl, iteT ?_⟩
        exact rd_it (k := 5) (v := .int d.v) ha2 rfl (ev_v rfl) ev_k ⟨_, rfl, q _ (s1.trans s2)⟩
end
end K13
namespace K13
open PySem PySem.Spec PyProof.Rows L2
section
variable {P : Program} {w : World} {K : PySem.W.Frag} {mg : Str → Option Value} {base : Heap} {A : Ad}
theorem mem_sonsV {d : Nd} {x : V} (h : x ∈ sonsV d) : ∃ c : Nat, x = .int (c : Int) ∧ (d.l = some c ∨ d.r = some c) := by
  unfold sonsV at h
  obtain ⟨h1, h2⟩ := List.mem_filter.mp h
  have h2 : x ≠ V.non := fun z => by rw [z] at h2; simp at h2
  rcases List.mem_cons.mp h1 with rfl | h1
  · cases e : d.l with
    | none => rw [e] at h2; exact absurd rfl h2
    | some c => exact ⟨c, rfl, .inl rfl⟩
  · rcases List.mem_cons.mp h1 with rfl | h1
    · cases e : d.r with
      | none => rw [e] at h2; exact absurd rfl h2
      | some c => exact ⟨c, rfl, .inr rfl⟩
    · cases h1
def sp_is_right_shape : Sp := fun vs H Q _ => ∃ (a : Addr) (n : Nat) (s : Sh), vs = [.ref a] ∧ ShT H a n s ∧ 1 ≤ n ∧ n ≤ 64 ∧ Ok n s ∧ ∀ H', Same H H' → Q (.bl true) H'
theorem ok_is_right_shape (T : Txt K mg A) : FnOk P w K mg base CX0 6 A.f_is_right_shape A.d_is_right_shape ["thing"] sp_is_right_shape := by
  refine T.f_is_right_shape.ok sc_is_right_shape (fun vs H Q E h => ?_) (fun cdv A' outer s H vs Q E hr h => ?_)
  · obtain ⟨a, n, s, rfl, _⟩ := h; rfl
  · obtain ⟨a, n, s, rfl, S, n1, n2, k, q⟩ := h
    obtain ⟨xs, ha, hl⟩ := S.len
    refine ⟨_, (pss_cons (ps_if (PW.pt (pw_or (pt_not (pt_val (pe_call (ok_is_sized T) (hr.mono (by decide)) (by rfl) T.g_is_sized T.f_is_sized.kp T.b_is_sized .nil pass0 (pa_cons (pv 0) (pa_cons pe_int (pa_cons (pe_glob (v := .int 64) (by rfl) T.k_MOST_HOUSES ⟨_, rfl⟩) pa_nil)))))) (pw_or1 (pt_not (pt_val (pe_callB (cr_all rfl) (by rfl) T.z_all (by decide +kernel) (pa_cons (pe_lc (own := [("part", 2)]) (g := gName 2) (tt := tYes) (by rfl) sc_is_right_shape.nd (pi_tup (pv 0)) (blkOk_by (own := [("part", 2)]) (N := ns_is_right_shape) (sc := defScope st_is_right_shape) (by decide +kernel)) (fun _ _ _ _ _ => pg_name (i := 2) sc_is_right_shape.nd rfl (Or.inl rfl)) (fun _ _ _ _ _ => pts_nil) (fun _ _ _ _ _ => (pe_call (ok_is_part T) (hr.mono (by decide)) (by rfl) T.g_is_part T.f_is_part.kp T.b_is_part .nil pass0 (pa_cons (pe_callB (show CallR _ (.builtin "len") (rLenQ K) from call_len_seq) (by rfl) T.z_len PySem.boot_len (pa_cons (pv 0) pa_nil)) (pa_cons (pv 2) pa_nil))))) pa_nil))))))) (pss_one (ps_ret pe_bl)) pss_nil)
      (pss_cons (ps_for PassesOwn.never rfl (pi_range1 (by rfl) T.z_range (pa_cons (pe_callB call_len_seq (by rfl) T.z_len PySem.boot_len (pa_cons (pv 0) pa_nil)) pa_nil)) (pg_name (i := 1) sc_is_right_shape.nd rfl (Or.inr rfl))
      (pss_one (ps_if (pt_not (pt_val (pe_callB (cr_all rfl) (by rfl) T.z_all (by decide +kernel) (pa_cons (pe_lc (own := [("son", 3)]) (g := gName 3) (tt := tYes) (by rfl) sc_is_right_shape.nd (pi_list (pe_call (ok_sons_of T) (hr.mono (by decide)) (by rfl) T.g_sons_of T.f_sons_of.kp T.b_sons_of .nil pass0 (pa_cons (pv 0) (pa_cons (pv 1) pa_nil)))) (blkOk_by (own := [("son", 3)]) (N := ns_is_right_shape) (sc := defScope st_is_right_shape) (by decide +kernel)) (fun _ _ _ _ _ => pg_name (i := 3) sc_is_right_shape.nd rfl (Or.inl rfl)) (fun _ _ _ _ _ => pts_nil) (fun _ _ _ _ _ => (pe_cmpR op_eq (pe_ix (show IxR _ (rIxT K) from ix_tup) (pe_ix (show IxR _ (rIxT K) from ix_tup) (pv 0) (pv 3) (fun _ _ => rfl)) (pe_glob (v := .int 0) (by rfl) T.k_UP ⟨_, rfl⟩) (fun _ _ => rfl)) (pv 1) (nomark _)))) pa_nil)))) (pss_one (ps_ret pe_bl)) pss_nil)))
      (pss_one (ps_ret (pe_callB (cr_all rfl) (by rfl) T.z_all (by decide +kernel) (pa_cons (pe_lc (own := [("house", 1)]) (g := gName 1) (tt := tYes) (by rfl) sc_is_right_shape.nd (pi_range1 (by rfl) T.z_range (pa_cons (pe_callB call_len_seq (by rfl) T.z_len PySem.boot_len (pa_cons (pv 0) pa_nil)) pa_nil)) (blkOk_by (own := [("house", 1)]) (N := ns_is_right_shape) (sc := defScope st_is_right_shape) (by decide +kernel)) (fun _ _ _ _ _ => pg_name (i := 1) sc_is_right_shape.nd rfl (Or.inl rfl)) (fun _ _ _ _ _ => pts_nil) (fun _ _ _ _ _ => (pe_call (ok_comes_out T) (hr.mono (by decide)) (by rfl) T.g_comes_out T.f_comes_out.kp T.b_comes_out .nil pass0 (pa_cons (pv 0) (pa_cons (pv 1) pa_nil))))) pa_nil)))))), ?_⟩
    refine ⟨_, rfl, a, xs, 1, 64, rfl, ha, by omega, by omega, true, rfl, iteF ?_⟩
    refine ⟨_, rfl, a, rfl, ⟨xs, SqT.of ha⟩, fun D nD => ?_⟩
    refine lc_trueT ha nD (by omega) (fun _ => rfl) (fun j x H' hj s' Q' q' => ?_) fun H1 s1 h1 => rd_nil <| all_true h1 ⟨_, rfl, iteF ?_⟩
    · have hjn : j < n := by have := (List.getElem?_eq_some_iff.mp hj).1; omega
      obtain ⟨ys, p, ha', _, hx, hp⟩ := S.get hjn
      rw [ha] at ha'; cases ha'
      rw [hx] at hj; cases hj
      exact ⟨_, rfl, a, xs, rfl, .inr (SqT.of (s' _ _ ha)), _, rfl, p, n, s j, by rw [hl]; rfl, s' _ _ hp, k.nd j, q'⟩
    · refine ⟨_, rfl, a, xs, rfl, .inr (SqT.of (s1 _ _ ha)), (xs.length : Int), rfl, (range_len (by omega)).1, (range_len (by omega)).2, ?_⟩
      refine for_range (lo := 0) (n := xs.length) (fun j σ H' => Same H H' ∧ ∃ v : Option V, σ = [some (.ref a), v, none, none]) ⟨s1, none, rfl⟩ (fun j σ H' hj h => ?_) (fun σ H' h => ?_)
      · obtain ⟨s2, v, rfl⟩ := h
        have hjn : j < n := by omega
        have ez : ((0 : Int) + (j : Int)) = (j : Int) := Int.zero_add _
        show tIfS _ _ _ _ [some (.ref a), some (.int ((0 : Int) + (j : Int))), none, none] H'
        rw [ez]
        refine ⟨_, rfl, _, rfl, a, n, s, j, rfl, S.mono s2, hjn, fun r H2 s3 nr h3 => ⟨r, rfl, ⟨_, SqL.of h3⟩, fun D2 nD2 => ?_⟩⟩
        refine lc_trueL h3 nD2 (Nat.le_trans (List.length_filter_le _ _) (by show 2 ≤ 900; decide)) (fun _ => rfl) (fun i x H3 hi s4 Q' q' => ?_) fun H3 s4 h4 => rd_nil <| all_true h4 ⟨_, rfl, iteF ⟨s2.trans (s3.trans s4), _, rfl⟩⟩
        obtain ⟨c, rfl, hc⟩ := mem_sonsV (List.mem_of_getElem? hi)
        have uc : (s c).up = some j := hc.elim (k.ll _ _) (k.rr _ _)
        refine rd_op <| rd_part (v := ov (s c).up) (S.mono (s2.trans (s3.trans s4))) (k.lt uc).1 (k := 0) rfl (ev_v rfl) (ev_v rfl) ev_k ?_
        refine ⟨_, rfl, scal_ov _ (some j), qb ?_ (q' H3 (Same.refl _))⟩
        exact decide_eq_true (ov_int.mpr uc)
      · obtain ⟨s2, v, rfl⟩ := h
        refine ⟨_, rfl, a, xs, rfl, .inr (SqT.of (s2 _ _ ha)), (xs.length : Int), rfl, (range_len (by omega)).1, (range_len (by omega)).2, fun D2 nD2 => ?_⟩
        refine lc_trueR (n := xs.length) nD2 (by omega) (fun _ => rfl) (fun j H3 hj s3 Q' q' => ?_) fun H3 s3 h3 => rd_nil <| all_true h3 (q H3 (s2.trans s3))
        exact ⟨_, rfl, _, rfl, a, n, s, j, rfl, S.mono (s2.trans s3), n2, k, by omega, q' H3 (Same.refl _)⟩
def sp_check_shape : Sp := fun vs H Q _ => ∃ (a : Addr) (n : Nat) (s : Sh), vs = [.ref a] ∧ ShT H a n s ∧ 1 ≤ n ∧ n ≤ 64 ∧ Ok n s ∧ ∀ H', Same H H' → Q .non H'
theorem ok_check_shape (T : Txt K mg A) : FnOk P w K mg base CX0 7 A.f_check_shape A.d_check_shape ["thing"] sp_check_shape := by
  refine T.f_check_shape.ok sc_check_shape (fun vs H Q E h => ?_) (fun cdv A' outer s H vs Q E hr h => ?_)
  · obtain ⟨a, n, s, rfl, _⟩ := h; rfl
  · obtain ⟨a, n, s, rfl, S, n1, n2, k, q⟩ := h
    refine ⟨_, (pss_one (ps_if (pt_not (pt_val (pe_call (ok_is_right_shape T) (hr.mono (by decide)) (by rfl) T.g_is_right_shape T.f_is_right_shape.kp T.b_is_right_shape .nil pass0 (pa_cons (pv 0) pa_nil)))) (pss_one ps_never) pss_nil)), ?_⟩
    exact ⟨_, rfl, a, n, s, rfl, S, n1, n2, k, fun H' s' => ⟨_, rfl, iteF (q H' s')⟩⟩
/-! ### ranks -/
def sp_rank_of : Sp := fun vs H Q _ => ∃ k : Nat, vs = [.int (k : Int)] ∧ Q (.int (lg k : Nat)) H
theorem ok_rank_of (T : Txt K mg A) : FnOk P w K mg base CX0 1 A.f_rank_of A.d_rank_of ["number"] sp_rank_of := by
  refine T.f_rank_of.ok sc_rank_of (fun vs H Q E h => ?_) (fun cdv A' outer s H vs Q E hr h => ?_)
  · obtain ⟨k, rfl, _⟩ := h; rfl
  · obtain ⟨k, rfl, q⟩ := h
    refine ⟨_, (pss_cons (ps_set (i := 1) sc_rank_of.nd rfl (Or.inl rfl) pe_int)
      (pss_cons (ps_while PassesOwn.never (pt_cmpR op_gt (pv 0) pe_int (nomark _))
      (pss_cons (ps_aug (i := 0) sc_rank_of.nd rfl (Or.inl rfl) pe_int iop_fdiv)
      (pss_one (ps_aug (i := 1) sc_rank_of.nd rfl (Or.inl rfl) pe_int ip_add))))
      (pss_one (ps_ret (pv 1))))), ?_⟩
    refine ⟨fun m σ H' => H' = H ∧ ∃ f : Nat, f + lg m = lg k ∧ σ = [some (.int (m : Int)), some (.int (f : Int))], ⟨k, rfl, 0, Nat.zero_add _, rfl⟩, fun m σ H' h => ?_⟩
    obtain ⟨rfl, f, ef, rfl⟩ := h
    refine ⟨_, rfl, _, _, rfl, rfl, _, rfl, iteB (fun c => ?_) (fun c => ?_)⟩
    · have hm : 1 < m := by have := of_decide_eq_true c; omega
      refine ⟨fun σ' H2 => H2 = H' ∧ ∃ f : Nat, f + lg (m / 2) = lg k ∧ σ' = [some (.int ((m / 2 : Nat) : Int)), some (.int (f : Int))], fun σ' H2 h2 => ⟨m / 2, by omega, h2⟩, ?_⟩
      refine ⟨_, rfl, _, _, rfl, rfl, ⟨by decide, by decide⟩, _, rfl, _, _, rfl, rfl, rfl, f + 1, ?_, ?_⟩
      · rw [lg_half hm] at ef; omega
      · show [some (V.int ((m : Int) / 2)), some (V.int ((f : Int) + 1))] = _
        rw [show ((m : Int) / 2) = ((m / 2 : Nat) : Int) from by omega]
        rfl
    · have hm : m ≤ 1 := by have := of_decide_eq_false c; omega
      rw [lg_low hm, Nat.add_zero] at ef
      refine ⟨_, rfl, ?_⟩
      rw [ef]; exact q
end
end K13
namespace K13
open PySem PySem.Spec PyProof.Rows L2
section
variable {P : Program} {w : World} {K : PySem.W.Frag} {mg : Str → Option Value} {base : Heap} {A : Ad}
/-! ### lists of numbers -/
def natsV (n : Nat) (f : Nat → Nat) : List V := (List.range n).map fun i => V.int ((f i : Nat) : Int)
theorem natsV_len (n : Nat) (f : Nat → Nat) : (natsV n f).length = n := by unfold natsV; rw [List.length_map, List.length_range]
theorem natsV_get {n i : Nat} (f : Nat → Nat) (h : i < n) : (natsV n f)[i]? = some (.int ((f i : Nat) : Int)) := by
  unfold natsV
  rw [List.getElem?_map, List.getElem?_range h]
  rfl
theorem natsV_set {n i k : Nat} (f : Nat → Nat) : (natsV n f).set i (.int (k : Int)) = natsV n (fun j => if j = i then k else f j) := by
  refine List.ext_getElem? fun j => ?_
  rw [List.getElem?_set]
  by_cases hj : j < n
  · rw [natsV_get _ hj, natsV_get _ hj, natsV_len]
    by_cases e : i = j
    · subst e; rw [if_pos rfl, if_pos hj, if_pos rfl]
    · rw [if_neg e, if_neg (fun z => e z.symm)]
  · rw [List.getElem?_eq_none (by rw [natsV_len]; omega), List.getElem?_eq_none (by rw [natsV_len]; omega), natsV_len]
    split
    · next e => subst e; rw [if_neg hj]
    · rfl
theorem natsV_congr {n : Nat} {f g : Nat → Nat} (h : ∀ i, i < n → f i = g i) : natsV n f = natsV n g := by
  unfold natsV
  exact List.map_congr_left fun i hi => by rw [h i (List.mem_range.mp hi)]
theorem natsV_const (n k : Nat) : (List.replicate n [V.int (k : Int)]).flatten = natsV n (fun _ => k) := by
  induction n with
  | zero => rfl
  | succ n ih =>
    rw [List.replicate_succ', List.flatten_append, ih]
    show natsV n (fun _ => k) ++ [V.int (k : Int)] = natsV (n + 1) (fun _ => k)
    unfold natsV
    rw [List.range_succ, List.map_append]
    rfl
theorem natsV_succ (n : Nat) (f : Nat → Nat) : natsV (n + 1) f = natsV n f ++ [.int ((f n : Nat) : Int)] := by
  unfold natsV
  rw [List.range_succ, List.map_append]
  rfl
theorem ixN_nat {n j : Nat} (hj : j < n) : ixN n (j : Int) = some j := by
  unfold ixN
  rw [if_pos (by omega), if_pos (by omega)]
  simp
def intsV (l : List Nat) : List V := l.map fun (i : Nat) => V.int (i : Int)
theorem intsV_len (l : List Nat) : (intsV l).length = l.length := List.length_map _
theorem intsV_app (l : List Nat) (x : Nat) : intsV (l ++ [x]) = intsV l ++ [.int (x : Int)] := by unfold intsV; rw [List.map_append]; rfl
theorem intsV_get {l : List Nat} {i x : Nat} (h : l[i]? = some x) : (intsV l)[i]? = some (.int (x : Int)) := by unfold intsV; rw [List.getElem?_map, h]; rfl
theorem Same.mut {H H' : Hp} {p : Addr} {o : HO} (s : Same H H') (n : H p = none) : Same H (upd H' p o) := fun b u e => by
  rw [upd_ne (fun z => by subst z; rw [n] at e; cases e)]
  exact s _ _ e
theorem Same.new {H H' : Hp} {p : Addr} {o : HO} (s : Same H H') (n : H' p = none) : Same H (upd H' p o) := s.trans (same_new n)
theorem ne_fresh {H : Hp} {a b : Addr} {o : HO} (h : H a = some o) (n : H b = none) : b ≠ a := fun z => by subst z; rw [n] at h; cases h
/-- xs[i] += e, xs[i] -= e: a list of ints -/
theorem rd_aug {f : Int → Int → Int} {σ : L2.St} {H : Hp} {D : Ends} {l : Addr} {xs : List V} {j : Nat} {x y : Int} {to ti te : TE} (hl : H l = some (.lst xs)) (hx : xs[j]? = some (.int x)) (eo : ∀ Q : VK, Q (.ref l) H → to σ H Q) (ei : ∀ Q : VK, Q (.int (j : Int)) H → ti σ H Q)
    (ee : ∀ Q : VK, Q (.int y) H → te σ H Q) (q : D.nx σ (upd H l (.lst (xs.set j (.int (f x y)))))) :
    tAugS to ti te (fun o i H Q => ∃ (p : Addr) (xs : List V) (j : Nat) (v : V), o = .ref p ∧ i = .int (j : Int) ∧ SqL K H p xs ∧ xs[j]? = some v ∧ Q v H) (ipI f) rSetL D σ H :=
  eo _ (ei _ ⟨l, xs, j, .int x, rfl, rfl, SqL.of hl, hx, ee _ ⟨x, y, rfl, rfl, l, xs, (j : Int), j, rfl, rfl, hl, ixN_nat (List.getElem?_eq_some_iff.mp hx).1, q⟩⟩)
theorem rd_if {σ : L2.St} {H : Hp} {D : Ends} {c : TT} {t u : TS} (q : c σ H fun b H1 => if b = true then t D σ H1 else u D σ H1) : tIfS c t u D σ H := q
theorem rd_test {σ : L2.St} {H : Hp} {te : TE} {Q : Bool → Hp → Prop} (q : te σ H fun x H' => ∃ k, x = .bl k ∧ Q k H') : tTest te σ H Q := q
/-- [x] * len(shape) -/
theorem rd_repl {σ : L2.St} {H : Hp} {Q : VK} {n k : Nat} {tn : TE} (hn : n ≤ 64) (en : ∀ H', Same H H' → ∀ Q : VK, Q (.int (n : Int)) H' → tn σ H' Q) (q : ∀ p H', H p = none → Same H H' → H' p = some (.lst (natsV n fun _ => k)) → Q (.ref p) H') :
    tOp rRep (tLst (tCons (tC (.int (k : Int))) tNil)) tn σ H Q := by
  refine ⟨size64 (by show 1 ≤ 1000; decide), fun p np => en _ (same_new np) _ ⟨p, (n : Int), _, rfl, rfl, upd_same, ?_, ?_, ?_, fun r nr => ?_⟩⟩
  · omega
  · omega
  · show 1 * (n : Int).toNat ≤ sizeLine
    exact size64 (by omega)
  · refine q r _ ((same_new np).free nr) ((same_new np).trans (same_new nr)) ?_
    rw [upd_same, Int.toNat_natCast]
    exact congrArg (fun y => some (HO.lst y)) (natsV_const n k)
/-! ### weights -/
def sp_all_weights : Sp := fun vs H Q _ => ∃ (a : Addr) (n : Nat) (s : Sh), vs = [.ref a] ∧ ShT H a n s ∧ n ≤ 64 ∧ Ok n s ∧ ∀ q H', Same H H' → H q = none → H' q = some (.lst (natsV n (W n s))) → Q (.ref q) H'
theorem ok_all_weights (T : Txt K mg A) : FnOk P w K mg base CX0 1 A.f_all_weights A.d_all_weights ["shape"] sp_all_weights := by
  refine T.f_all_weights.ok sc_all_weights (fun vs H Q E h => ?_) (fun cdv A' outer s H vs Q E hr h => ?_)
  · obtain ⟨a, n, s, rfl, _⟩ := h; rfl
  · obtain ⟨a, n, s, rfl, S, n2, k, q⟩ := h
    obtain ⟨xs, ha, hl⟩ := S.len
    refine ⟨_, (pss_cons (ps_set (i := 1) sc_all_weights.nd rfl (Or.inl rfl) (pe_op op_rep (pe_lst (pa_cons pe_int pa_nil)) (pe_callB call_len_seq (by rfl) T.z_len PySem.boot_len (pa_cons (pv 0) pa_nil))))
      (pss_cons (ps_set (i := 2) sc_all_weights.nd rfl (Or.inl rfl) (pe_op op_rep (pe_lst (pa_cons pe_int pa_nil)) (pe_callB call_len_seq (by rfl) T.z_len PySem.boot_len (pa_cons (pv 0) pa_nil))))
      (pss_cons (ps_for PassesOwn.never rfl (pi_tup (pv 0)) (pg_name (i := 3) sc_all_weights.nd rfl (Or.inl rfl))
      (pss_one (ps_if (pt_cmpR op_notN (pe_ix ix_tup (pv 3) (pe_glob (v := .int 0) (by rfl) T.k_UP ⟨_, rfl⟩) (fun _ _ => rfl)) pe_non (nomark _)) (pss_one (ps_augS (pv 2) (pe_ix ix_tup (pv 3) (pe_glob (v := .int 0) (by rfl) T.k_UP ⟨_, rfl⟩) (fun _ _ => rfl)) get_list pe_int ip_add set_list)) pss_nil)))
      (pss_cons (ps_setLc (i := 4) (own := [("house", 7), ("many", 8)]) (g := gTup K 2 (gCons (gName 7) (gCons (gName 8) gNil))) rfl sc_all_weights.nd rfl rfl (sw_true rfl rfl rfl (by decide +kernel)) (pi_enum (by rfl) T.z_enumerate (pa_cons (pv 2) pa_nil)) (blkOk_by (own := [("house", 7), ("many", 8)]) (N := ns_all_weights) (sc := defScope st_all_weights) (by decide +kernel)) (fun _ _ _ _ _ => pg_tup rfl (pgs_cons (pg_name (i := 7) sc_all_weights.nd rfl (Or.inl rfl)) (pgs_cons (pg_name (i := 8) sc_all_weights.nd rfl (Or.inl rfl)) pgs_nil))) (fun _ _ _ _ _ => (pts_one (pt_cmpR op_eq (pv 8) pe_int (nomark _)))) (fun _ _ _ _ _ => (pv 7)))
      (pss_cons (ps_while PassesOwn.never (pt_cmpR op_gt (pe_callB call_len_seq (by rfl) T.z_len PySem.boot_len (pa_cons (pv 4) pa_nil)) pe_int (nomark _))
      (pss_cons (ps_set (i := 5) sc_all_weights.nd rfl (Or.inl rfl) (pe_bm0 PySem.F.plainAttrs_list PySem.F.slot_list_pop PySem.F.type_list_pop mt_pop (pv 4)))
      (pss_cons (ps_set (i := 6) sc_all_weights.nd rfl (Or.inl rfl) (pe_ix ix_tup (pe_ix ix_tup (pv 0) (pv 5) (fun _ _ => rfl)) (pe_glob (v := .int 0) (by rfl) T.k_UP ⟨_, rfl⟩) (fun _ _ => rfl)))
      (pss_one (ps_if (pt_cmpR op_notN (pv 6) pe_non (nomark _)) (pss_cons (ps_augS (pv 1) (pv 6) get_list (pe_ix ix_list (pv 1) (pv 5) (fun _ _ => rfl)) ip_add set_list)
      (pss_cons (ps_augS (pv 2) (pv 6) get_list pe_int ip_sub set_list)
      (pss_one (ps_if (pt_cmpR op_eq (pe_ix ix_list (pv 2) (pv 6) (fun _ _ => rfl)) pe_int (nomark _)) (pss_one (ps_expr (pe_bm PySem.F.plainAttrs_list PySem.F.slot_list_append PySem.F.type_list_append mt_append (pv 4) (pa_cons (pv 6) pa_nil)))) pss_nil)))) pss_nil)))))
      (pss_one (ps_ret (pv 1)))))))), ?_⟩
    have elen : ∀ (σ : L2.St) H', σ[0]? = some (some (.ref a)) → Same H H' → ∀ Q : VK, Q (.int (n : Int)) H' → tCB (fun xs H Q => ∃ p ys, xs = [.ref p] ∧ (SqL K H p ys ∨ SqT K H p ys) ∧ Q (.int ys.length) H) (tCons (tVar 0) tNil) σ H' Q := fun σ H' e s' Q' q' =>
      ⟨_, e, a, xs, rfl, .inr (SqT.of (s' _ _ ha)), by rw [hl]; exact q'⟩
    -- found, left
    refine rd_repl (k := 1) n2 (fun H' s' => elen _ H' rfl s') fun pf H1 nf s1 h1 => ?_
    refine rd_repl (k := 0) n2 (fun H' s' => elen _ H' rfl (s1.trans s')) fun pl H2 nl1 s2 h2 => ?_
    have nl : H pl = none := s1.free nl1
    have flne : pl ≠ pf := fun z => by subst z; rw [nl1] at h1; cases h1
    refine ⟨_, rfl, a, rfl, ⟨xs, SqT.of (s2 _ _ (s1 _ _ ha))⟩, ?_⟩
    refine for_tup (xs := xs) (fun i σ H' => Same H H' ∧ H' pf = some (.lst (natsV n fun _ => 1)) ∧ H' pl = some (.lst (natsV n fun h => sumF i fun c => if U s c = some h then 1 else 0)) ∧ ∃ v, σ = [some (.ref a), some (.ref pf), some (.ref pl), v, none, none, none, none, none])
      ⟨s1.trans s2, s2 _ _ h1, by rw [h2]; rfl, none, rfl⟩ (fun i σ H' hi z => SqT.of (z.1 _ _ ha)) (fun i x σ H' hi z => ?_) (fun σ H' z => ?_)
    · obtain ⟨s3, hf, hle, v, rfl⟩ := z
      have hin : i < n := by have := (List.getElem?_eq_some_iff.mp hi).1; omega
      obtain ⟨ys, p, ha', _, hx, hp⟩ := S.get hin
      rw [ha] at ha'; cases ha'
      rw [hx] at hi; cases hi
      have hp' := s3 _ _ hp
      refine rd_if <| rd_test <| rd_op <| rd_it (k := 0) (v := ov (s i).up) hp' rfl (ev_v rfl) ev_k ⟨rfl, _, rfl, iteB (fun c => ?_) (fun c => ?_)⟩
      · cases e : (s i).up with
        | none => rw [e] at c; cases c
        | some u =>
          refine rd_aug (j := u) (x := ((sumF i fun c => if U s c = some u then 1 else 0 : Nat) : Int)) (y := 1) hle (natsV_get _ (k.lt e).2) (ev_v rfl) (fun Q' q' => rd_it (k := 0) (v := ov (s i).up) hp' rfl (ev_v rfl) ev_k (by rw [e]; exact q')) ev_k ?_
          refine ⟨Same.mut s3 nl, by rw [upd_ne flne.symm]; exact hf, ?_, _, rfl⟩
          rw [upd_same]
          refine congrArg (fun y => some (HO.lst y)) ?_
          rw [show (((sumF i fun c => if U s c = some u then 1 else 0 : Nat) : Int) + 1) = (((sumF i fun c => if U s c = some u then 1 else 0) + 1 : Nat) : Int) from rfl, natsV_set]
          refine natsV_congr fun j _ => ?_
          rw [sumF_succ]
          by_cases hj : j = u
          · subst hj; rw [if_pos rfl, if_pos (show U s i = some j from e)]
          · rw [if_neg hj, if_neg (fun z => hj (Option.some.inj ((show U s i = some u from e).symm.trans z)).symm), Nat.add_zero]
      · have e : (s i).up = none := by
          cases e : (s i).up with
          | none => rfl
          | some p => rw [e] at c; cases c
        refine ⟨s3, hf, ?_, _, rfl⟩
        rw [hle]
        refine congrArg (fun y => some (HO.lst y)) (natsV_congr fun j _ => ?_)
        rw [sumF_succ, if_neg (fun z => by rw [show U s i = none from e] at z; cases z), Nat.add_zero]
    · obtain ⟨s3, hf, hle, v, rfl⟩ := z
      rw [hl] at hle
      obtain ⟨ls, hls⟩ : ∃ ls : Nat → Nat, ls = fun h => sumF n fun c => if U s c = some h then 1 else 0 := ⟨_, rfl⟩
      rw [← hls] at hle
      have PS := Peel.start (n := n) (U := U s) (ls := ls) (fun h _ => by rw [hls])
      clear hls
      -- ready
      refine ⟨_, rfl, pl, _, rfl, SqL.of hle, fun D nD => ⟨fun i m H' => m = n - i ∧ i ≤ n ∧ Same H' H' ∧ Same H H' ∧ H' pf = some (.lst (natsV n fun _ => 1)) ∧ H' pl = some (.lst (natsV n ls)) ∧ H' D = some (.lst (intsV ((List.range i).filter fun h => ls h == 0))), ⟨n, rfl, Nat.zero_le _, Same.refl _, Same.new s3 nD, ?_, ?_, upd_same⟩, fun i m H' z => ?_⟩⟩
      · rw [upd_ne (ne_fresh hf nD).symm]; exact hf
      · rw [upd_ne (ne_fresh hle nD).symm]; exact hle
      · obtain ⟨rfl, hi, _, s4, hf4, hl4, hD4⟩ := z
        have nDH : H D = none := s3.free nD
        by_cases hin : i < n
        · refine .inr ⟨⟨_, _, SqL.of hl4, natsV_get ls hin⟩, fun H' => i + 1 ≤ n ∧ Same H H' ∧ H' pf = some (.lst (natsV n fun _ => 1)) ∧ H' pl = some (.lst (natsV n ls)) ∧ H' D = some (.lst (intsV ((List.range (i + 1)).filter fun h => ls h == 0))), fun H5 z => ⟨n - (i + 1), by omega, rfl, z.1, Same.refl _, z.2.1, z.2.2.1, z.2.2.2.1, z.2.2.2.2⟩, fun x H5 y => ?_⟩
          obtain ⟨Tp, y, rfl, nT, rfl, fy⟩ := y
          have ey : y = .int ((ls i : Nat) : Int) := Option.some.inj ((fy _ (SqL.of hl4)).symm.trans (natsV_get ls hin))
          subst ey
          refine ⟨Tp, _, rfl, SqT.of upd_same, rfl, _, _, rfl, _, _, rfl, rfl, rfl, ?_⟩
          have s5 : Same H (upd H' Tp (.tup [.int (i : Nat), .int ((ls i : Nat) : Int)])) := Same.new s4 nT
          have hf5 : (upd H' Tp (.tup [.int (i : Nat), .int ((ls i : Nat) : Int)])) pf = some (.lst (natsV n fun _ => 1)) := by rw [upd_ne (ne_fresh hf4 nT).symm]; exact hf4
          have hl5 : (upd H' Tp (.tup [.int (i : Nat), .int ((ls i : Nat) : Int)])) pl = some (.lst (natsV n ls)) := by rw [upd_ne (ne_fresh hl4 nT).symm]; exact hl4
          have hD5 : (upd H' Tp (.tup [.int (i : Nat), .int ((ls i : Nat) : Int)])) D = some (.lst (intsV ((List.range i).filter fun h => ls h == 0))) := by rw [upd_ne (ne_fresh hD4 nT).symm]; exact hD4
          generalize upd H' Tp (.tup [.int (i : Nat), .int ((ls i : Nat) : Int)]) = H6 at s5 hf5 hl5 hD5
          have dne1 : pf ≠ D := fun z => by subst z; rw [nD] at hf; cases hf
          have dne2 : pl ≠ D := fun z => by subst z; rw [nD] at hle; cases hle
          refine ⟨_, rfl, rfl, _, rfl, iteB (fun c => ?_) (fun c => ?_)⟩
          · have c0 : ls i = 0 := by have := of_decide_eq_true c; injection this with this; omega
            refine ⟨_, rfl, _, hD5, ?_, by omega, Same.mut s5 nDH, by rw [upd_ne dne1]; exact hf5, by rw [upd_ne dne2]; exact hl5, ?_⟩
            · rw [intsV_len]
              have := List.length_filter_le (fun h => ls h == 0) (List.range i)
              rw [List.length_range] at this
              exact small1000 (by omega)
            · rw [upd_same, List.range_succ, List.filter_append, show [i].filter (fun h => ls h == 0) = [i] by simp [c0], intsV_app]
          · have c0 : ls i ≠ 0 := fun z => of_decide_eq_false c (by rw [z]; rfl)
            refine ⟨by omega, s5, hf5, hl5, ?_⟩
            rw [hD5, List.range_succ, List.filter_append, show [i].filter (fun h => ls h == 0) = [] by simp [c0], List.append_nil]
        · have : i = n := by omega
          subst this
          refine .inl ⟨⟨_, SqL.of hl4, by rw [natsV_len]; exact Nat.le_refl _⟩, ?_⟩
          -- the loop
          have dne1 : D ≠ pf := ne_fresh hf nD
          have dne2 : D ≠ pl := ne_fresh hle nD
          refine ⟨fun m σ H' => Same H H' ∧ ∃ dn fs ls rs v3 v5 v6, Peel i (U s) dn fs ls rs ∧ m = toDo i dn ∧ H' pf = some (.lst (natsV i fs)) ∧ H' pl = some (.lst (natsV i ls)) ∧ H' D = some (.lst (intsV rs)) ∧ σ = [some (.ref a), some (.ref pf), some (.ref pl), v3, some (.ref D), v5, v6, none, none],
            ⟨_, s4, _, _, ls, _, v, none, none, PS, rfl, hf4, hl4, hD4, rfl⟩, fun m σ H5 z => ?_⟩
          obtain ⟨s5, dn, fs, ls, rs, v3, v5, v6, PL, rfl, hf5, hl5, hD5, rfl⟩ := z
          refine ⟨_, rfl, D, _, rfl, .inl (SqL.of hD5), _, _, rfl, rfl, _, rfl, iteB (fun c => ?_) (fun c => ?_)⟩
          · have hne : rs ≠ [] := fun z => by subst z; exact absurd (of_decide_eq_true c) (by decide)
            obtain ⟨rs, x, rfl⟩ : ∃ r x, rs = r ++ [x] := ⟨rs.dropLast, rs.getLast hne, (List.dropLast_concat_getLast hne).symm⟩
            obtain ⟨xn, xd, xl⟩ := (PL.rdy x).mp (by simp)
            have eD : intsV (rs ++ [x]) = intsV rs ++ [.int (x : Int)] := intsV_app rs x
            rw [eD] at hD5
            refine ⟨fun σ' H' => Same H H' ∧ ∃ dn' fs ls rs' v3 v5 v6, Peel i (U s) dn' fs ls rs' ∧ toDo i dn' < toDo i dn ∧ H' pf = some (.lst (natsV i fs)) ∧ H' pl = some (.lst (natsV i ls)) ∧ H' D = some (.lst (intsV rs')) ∧ σ' = [some (.ref a), some (.ref pf), some (.ref pl), v3, some (.ref D), v5, v6, none, none],
              fun σ' H' ⟨z0, dn', fs, ls, rs', v3, v5, v6, z1, z2, z3, z4, z5, z6⟩ => ⟨_, z2, z0, dn', fs, ls, rs', v3, v5, v6, z1, rfl, z3, z4, z5, z6⟩, ?_⟩
            have td := toDo_step xn xd
            refine ⟨_, rfl, .inl ⟨rfl, _, SqL.of hD5⟩, D, _, .int (x : Int), rfl, rfl, hD5, by simp, ?_⟩
            rw [List.dropLast_concat]
            have s6 : Same H (upd H5 D (.lst (intsV rs))) := Same.mut s5 nDH
            have hf6 : (upd H5 D (.lst (intsV rs))) pf = some (.lst (natsV i fs)) := by rw [upd_ne dne1.symm]; exact hf5
            have hl6 : (upd H5 D (.lst (intsV rs))) pl = some (.lst (natsV i ls)) := by rw [upd_ne dne2.symm]; exact hl5
            have hD6 : (upd H5 D (.lst (intsV rs))) D = some (.lst (intsV rs)) := upd_same
            generalize upd H5 D (.lst (intsV rs)) = H6 at s6 hf6 hl6 hD6
            refine rd_part (v := ov (s x).up) (S.mono s6) xn (k := 0) rfl (ev_v rfl) (ev_v rfl) ev_k ?_
            refine ⟨_, rfl, rfl, _, rfl, iteB (fun c => ?_) (fun c => ?_)⟩
            · cases e : (s x).up with
              | none => rw [e] at c; cases c
              | some p =>
                obtain ⟨lp, PL'⟩ := PL.stepSome k.cl k.ac (show U s x = some p from e)
                have hp := (k.lt e).2
                refine rd_aug (j := p) (x := ((fs p : Nat) : Int)) (y := ((fs x : Nat) : Int)) hf6 (natsV_get _ hp) (ev_v rfl) (ev_v rfl) (fun Q' q' => rd_il (k := x) hf6 (natsV_get _ xn) (ev_v rfl) (ev_v rfl) q') ?_
                rw [show ((fs p : Nat) : Int) + ((fs x : Nat) : Int) = ((fs p + fs x : Nat) : Int) from rfl, natsV_set]
                have hl7 : (upd H6 pf (.lst (natsV i fun j => if j = p then fs p + fs x else fs j))) pl = some (.lst (natsV i ls)) := by rw [upd_ne flne]; exact hl6
                have hf7 : (upd H6 pf (.lst (natsV i fun j => if j = p then fs p + fs x else fs j))) pf = some (.lst (natsV i fun j => if j = p then fs p + fs x else fs j)) := upd_same
                have hD7 : (upd H6 pf (.lst (natsV i fun j => if j = p then fs p + fs x else fs j))) D = some (.lst (intsV rs)) := by rw [upd_ne dne1]; exact hD6
                have s7 : Same H (upd H6 pf (.lst (natsV i fun j => if j = p then fs p + fs x else fs j))) := Same.mut s6 nf
                generalize upd H6 pf (.lst (natsV i fun j => if j = p then fs p + fs x else fs j)) = H7 at hl7 hf7 hD7 s7
                refine rd_aug (j := p) (x := ((ls p : Nat) : Int)) (y := 1) hl7 (natsV_get _ hp) (ev_v rfl) (ev_v rfl) ev_k ?_
                rw [show ((ls p : Nat) : Int) - 1 = ((ls p - 1 : Nat) : Int) from by omega, natsV_set]
                have hl8 : (upd H7 pl (.lst (natsV i fun j => if j = p then ls p - 1 else ls j))) pl = some (.lst (natsV i fun j => if j = p then ls p - 1 else ls j)) := upd_same
                have hf8 : (upd H7 pl (.lst (natsV i fun j => if j = p then ls p - 1 else ls j))) pf = some (.lst (natsV i fun j => if j = p then fs p + fs x else fs j)) := by rw [upd_ne flne.symm]; exact hf7
                have hD8 : (upd H7 pl (.lst (natsV i fun j => if j = p then ls p - 1 else ls j))) D = some (.lst (intsV rs)) := by rw [upd_ne dne2]; exact hD7
                have s8 : Same H (upd H7 pl (.lst (natsV i fun j => if j = p then ls p - 1 else ls j))) := Same.mut s7 nl
                generalize upd H7 pl (.lst (natsV i fun j => if j = p then ls p - 1 else ls j)) = H8 at hl8 hf8 hD8 s8
                refine rd_if <| rd_test <| rd_op <| rd_il (k := p) (v := .int ((ls p - 1 : Nat) : Int)) hl8 (by rw [natsV_get _ hp, if_pos rfl]) (ev_v rfl) (ev_v rfl) ⟨rfl, _, rfl, iteB (fun c => ?_) (fun c => ?_)⟩
                · have c0 : ls p - 1 = 0 := by have := of_decide_eq_true c; injection this with this; omega
                  rw [if_pos c0] at PL'
                  refine ⟨_, rfl, .inl ⟨rfl, _, SqL.of hD8⟩, _, rfl, D, _, _, rfl, rfl, hD8, ?_, Same.mut s8 nDH, _, _, _, _, v3, _, _, PL', by omega, by rw [upd_ne dne1.symm]; exact hf8, by rw [upd_ne dne2.symm]; exact hl8, ?_, rfl⟩
                  · rw [intsV_len]
                    have h1 : rs.length ≤ i := nodup_le i rs (List.nodup_append.mp PL.nd).1 fun y hy => ((PL.rdy y).mp (by simp [hy])).1
                    exact small1000 (by omega)
                  · rw [upd_same, intsV_app]; rfl
                · have c0 : ls p - 1 ≠ 0 := fun z => of_decide_eq_false c (by rw [z]; rfl)
                  rw [if_neg c0] at PL'
                  exact ⟨s8, _, _, _, _, v3, _, _, PL', by omega, hf8, hl8, hD8, rfl⟩
            · have e : (s x).up = none := by
                cases e : (s x).up with
                | none => rfl
                | some p => rw [e] at c; cases c
              exact ⟨s6, _, _, _, _, v3, _, _, PL.stepNone (show U s x = none from e), by omega, hf6, hl6, hD6, rfl⟩
          · have hre : rs = [] := by
              cases rs with
              | nil => rfl
              | cons x r =>
                have := of_decide_eq_false c
                rw [intsV_len] at this
                exact absurd (show (0 : Int) < ((x :: r).length : Nat) by rw [List.length_cons]; omega) this
            subst hre
            refine ⟨_, rfl, q pf H5 s5 nf ?_⟩
            rw [hf5]
            exact congrArg (fun y => some (HO.lst y)) (natsV_congr (PL.done k.cl k.ac))
end
end K13
namespace K13
open PySem PySem.Spec PyProof.Rows L2
section
variable {P : Program} {w : World} {K : PySem.W.Frag} {mg : Str → Option Value} {base : Heap} {A : Ad}
theorem sum_nats (n : Nat) (f : Nat → Nat) : ((List.range n).map fun i => ((f i : Nat) : Int)).sum = ((sumF n f : Nat) : Int) := by
  induction n with
  | zero => rfl
  | succ n ih => rw [List.range_succ, List.map_append, List.sum_append, ih, sumF_succ]; simp
theorem natsV_map (n : Nat) (f : Nat → Nat) : natsV n f = ((List.range n).map fun i => ((f i : Nat) : Int)).map V.int := by unfold natsV; rw [List.map_map]; rfl
def sp_sum_of_ranks : Sp := fun vs H Q _ => ∃ (a : Addr) (n : Nat) (s : Sh), vs = [.ref a] ∧ ShT H a n s ∧ n ≤ 64 ∧ Ok n s ∧ ∀ H', Same H H' → Q (.int ((Phi n (U s) : Nat) : Int)) H'
theorem ok_sum_of_ranks (T : Txt K mg A) : FnOk P w K mg base CX0 2 A.f_sum_of_ranks A.d_sum_of_ranks ["shape"] sp_sum_of_ranks := by
  refine T.f_sum_of_ranks.ok sc_sum_of_ranks (fun vs H Q E h => ?_) (fun cdv A' outer s H vs Q E hr h => ?_)
  · obtain ⟨a, n, s, rfl, _⟩ := h; rfl
  · obtain ⟨a, n, s, rfl, S, n2, k, q⟩ := h
    refine ⟨_, (pss_one (ps_ret (pe_callB (cr_sum rfl) (by rfl) T.z_sum (by decide +kernel) (pa_cons (pe_lc (own := [("weight", 1)]) (g := gName 1) (tt := tYes) (by rfl) sc_sum_of_ranks.nd (pi_list (pe_call (ok_all_weights T) (hr.mono (by decide)) (by rfl) T.g_all_weights T.f_all_weights.kp T.b_all_weights .nil pass0 (pa_cons (pv 0) pa_nil))) (blkOk_by (own := [("weight", 1)]) (N := ns_sum_of_ranks) (sc := defScope st_sum_of_ranks) (by decide +kernel)) (fun _ _ _ _ _ => pg_name (i := 1) sc_sum_of_ranks.nd rfl (Or.inl rfl)) (fun _ _ _ _ _ => pts_nil) (fun _ _ _ _ _ => (pe_call (ok_rank_of T) (hr.mono (by decide)) (by rfl) T.g_rank_of T.f_rank_of.kp T.b_rank_of .nil pass0 (pa_cons (pv 1) pa_nil)))) pa_nil)))), ?_⟩
    refine ⟨_, rfl, a, n, s, rfl, S, n2, k, fun r H1 s1 nr h1 => ⟨r, rfl, ⟨_, SqL.of h1⟩, fun D nD => ?_⟩⟩
    refine lc_list (xs := natsV n (W n s)) (fun j H' => Same H1 H' ∧ H' D = some (.lst (natsV j fun i => lg (W n s i)))) ⟨same_new nD, upd_same⟩ (fun j H' _ z => SqL.of (z.1 _ _ h1)) (fun j x H' hj z => ?_) (fun H' z => rd_nil ?_)
    · have hjn : j < n := by have := (List.getElem?_eq_some_iff.mp hj).1; rw [natsV_len] at this; exact this
      rw [natsV_get _ hjn] at hj; cases hj
      refine ⟨rfl, rd_yes (iteT ⟨_, rfl, W n s j, rfl, _, z.2, ?_, ?_, ?_⟩)⟩
      · rw [natsV_len]; exact small1000 (by omega)
      · exact Same.mut z.1 nD
      · rw [upd_same, natsV_succ]
    · rw [natsV_len] at z
      refine ⟨D, (List.range n).map fun i => ((lg (W n s i) : Nat) : Int), rfl, SqL.of (by rw [z.2, natsV_map]), ?_⟩
      rw [sum_nats]
      exact q H' (s1.trans z.1)
/-! ### handing on -/
theorem put_put (s : Sh) (i : Nat) (a b : Nd) : put (put s i a) i b = put s i b := by funext j; unfold put; split <;> rfl
def sonsN (d : Nd) : List Nat := d.l.toList ++ d.r.toList
theorem sonsV_of (d : Nd) : sonsV d = intsV (sonsN d) := by
  unfold sonsV sonsN
  cases d.l <;> cases d.r <;> rfl
theorem sonsN_give (s : Sh) (d : Nd) : (sonsN d).foldl (fun s c => given1 s c d) s = givenO (givenO s d.l d) d.r d := by
  unfold sonsN
  cases d.l <;> cases d.r <;> rfl
theorem mem_sonsN {d : Nd} {c : Nat} (h : c ∈ sonsN d) : d.l = some c ∨ d.r = some c := by
  unfold sonsN at h
  rcases List.mem_append.mp h with h | h
  · exact .inl (Option.mem_toList.mp h)
  · exact .inr (Option.mem_toList.mp h)
/-- tests that come out -/
theorem rd_ifc {σ : L2.St} {H : Hp} {D : Ends} {c : TT} {t u : TS} {b : Bool} (e : ∀ Q : Bool → Hp → Prop, Q b H → c σ H Q) (h1 : b = true → t D σ H) (h2 : b = false → u D σ H) : tIfS c t u D σ H := e _ (iteB h1 h2)
theorem c_and {σ : L2.St} {H : Hp} {t u : TT} {a b : Bool} (ha : ∀ Q : Bool → Hp → Prop, Q a H → t σ H Q) (hb : a = true → ∀ Q : Bool → Hp → Prop, Q b H → u σ H Q) (Q : Bool → Hp → Prop) (q : Q (a && b) H) : tAnd t u σ H Q :=
  ha _ (iteB (fun e => hb e Q (by rw [e] at q; exact q)) (fun e => by rw [e] at q; exact q))
theorem c_or {σ : L2.St} {H : Hp} {t u : TT} {a b : Bool} (ha : ∀ Q : Bool → Hp → Prop, Q a H → t σ H Q) (hb : a = false → ∀ Q : Bool → Hp → Prop, Q b H → u σ H Q) (Q : Bool → Hp → Prop) (q : Q (a || b) H) : tOr t u σ H Q :=
  ha _ (iteB (fun e => by rw [e] at q; exact q) (fun e => hb e Q (by rw [e] at q; exact q)))
theorem c_not {σ : L2.St} {H : Hp} {t : TT} {a : Bool} (ha : ∀ Q : Bool → Hp → Prop, Q a H → t σ H Q) (Q : Bool → Hp → Prop) (q : Q (!a) H) : tNot t σ H Q := ha _ q
theorem c_val {σ : L2.St} {H : Hp} {t : TE} {a : Bool} (ha : ∀ Q : VK, Q (.bl a) H → t σ H Q) (Q : Bool → Hp → Prop) (q : Q a H) : tB t σ H Q := ha _ ⟨a, rfl, q⟩
theorem c_eq {σ : L2.St} {H : Hp} {ta tb : TE} {x y : V} (sc : scal x y = true) (ha : ∀ Q : VK, Q x H → ta σ H Q) (hb : ∀ Q : VK, Q y H → tb σ H Q) (Q : Bool → Hp → Prop) (q : Q (decide (x = y)) H) : tTest (tOp rEq ta tb) σ H Q := ha _ (hb _ ⟨sc, _, rfl, q⟩)
def sp_after_handing : Sp := fun vs H Q _ => ∃ (a : Addr) (n : Nat) (s : Sh) (i : Nat), vs = [.ref a, .int (i : Int)] ∧ ShT H a n s ∧ n ≤ 64 ∧ Ok n s ∧ i < n ∧ ∀ q H', Same H H' → ShT H' q n (hand s i) → Q (.ref q) H'
theorem ok_after_handing (T : Txt K mg A) : FnOk P w K mg base CX0 3 A.f_after_handing A.d_after_handing ["shape", "house"] sp_after_handing := by
  refine T.f_after_handing.ok sc_after_handing (fun vs H Q E h => ?_) (fun cdv A' outer s H vs Q E hr h => ?_)
  · obtain ⟨a, n, s, i, rfl, _⟩ := h; rfl
  · obtain ⟨a, n, s, i, rfl, S, n2, k, hi, q⟩ := h
    refine ⟨_, (pss_cons (ps_asg (pe_ix ix_tup (pv 0) (pv 1) (fun _ _ => rfl)) (pg_tup rfl (pgs_cons (pg_name (i := 2) sc_after_handing.nd rfl (Or.inl rfl)) (pgs_cons (pg_name (i := 3) sc_after_handing.nd rfl (Or.inl rfl)) (pgs_cons (pg_name (i := 4) sc_after_handing.nd rfl (Or.inl rfl)) (pgs_cons (pg_name (i := 5) sc_after_handing.nd rfl (Or.inl rfl)) (pgs_cons (pg_name (i := 6) sc_after_handing.nd rfl (Or.inl rfl)) (pgs_cons (pg_name (i := 7) sc_after_handing.nd rfl (Or.inl rfl)) pgs_nil))))))))
      (pss_cons (ps_if (PW.pt (pw_and (pt_cmpR op_eq (pv 6) pe_int (nomark _)) (pw_and1 (pt_not (pt_val (pv 5)))))) (pss_one (ps_ret (pv 0))) pss_nil)
      (pss_cons (ps_set (i := 8) sc_after_handing.nd rfl (Or.inl rfl) (pv 0))
      (pss_cons (ps_for PassesOwn.never rfl (pi_list (pe_call (ok_sons_of T) (hr.mono (by decide)) (by rfl) T.g_sons_of T.f_sons_of.kp T.b_sons_of .nil pass0 (pa_cons (pv 0) (pa_cons (pv 1) pa_nil)))) (pg_name (i := 9) sc_after_handing.nd rfl (Or.inl rfl))
      (pss_cons (ps_set (i := 8) sc_after_handing.nd rfl (Or.inl rfl) (pe_call (ok_replaced T) (hr.mono (by decide)) (by rfl) T.g_replaced T.f_replaced.kp T.b_replaced .nil pass0 (pa_cons (pv 8) (pa_cons (pv 9) (pa_cons (pe_call (ok_with_more T) (hr.mono (by decide)) (by rfl) T.g_with_more T.f_with_more.kp T.b_with_more .nil pass0 (pa_cons (pe_ix ix_tup (pv 8) (pv 9) (fun _ _ => rfl)) (pa_cons (pv 6) pa_nil))) pa_nil)))))
      (pss_one (ps_if (pt_val (pv 5)) (pss_one (ps_set (i := 8) sc_after_handing.nd rfl (Or.inl rfl) (pe_call (ok_changed T) (hr.mono (by decide)) (by rfl) T.g_changed T.f_changed.kp T.b_changed .nil pass0 (pa_cons (pv 8) (pa_cons (pv 9) (pa_cons (pe_glob (v := .int 3) (by rfl) T.k_TURNED ⟨_, rfl⟩) (pa_cons (pe_not (pe_ix ix_tup (pe_ix ix_tup (pv 8) (pv 9) (fun _ _ => rfl)) (pe_glob (v := .int 3) (by rfl) T.k_TURNED ⟨_, rfl⟩) (fun _ _ => rfl))) pa_nil))))))) pss_nil))))
      (pss_cons (ps_if (pt_val (pv 5)) (pss_one (ps_par (i := 3) (j := 4) rfl sc_after_handing.nd rfl rfl (by decide) rfl rfl (pa_cons (pv 4) (pa_cons (pv 3) pa_nil)) (by rfl))) pss_nil)
      (pss_one (ps_ret (pe_call (ok_replaced T) (hr.mono (by decide)) (by rfl) T.g_replaced T.f_replaced.kp T.b_replaced .nil pass0 (pa_cons (pv 8) (pa_cons (pv 1) (pa_cons (pe_tup (pa_cons (pv 2) (pa_cons (pv 3) (pa_cons (pv 4) (pa_cons pe_bl (pa_cons pe_int (pa_cons (pv 7) pa_nil))))))) pa_nil))))))))))), ?_⟩
    obtain ⟨xs, p, ha, hl, hx, hp⟩ := S.get hi
    have hc : ∀ c ∈ sonsN (s i), c < n := fun c h => (mem_sonsN h).elim ((k.nd i).l c) ((k.nd i).r c)
    refine rd_it ha hx (ev_v rfl) (ev_v rfl) ⟨p, ndV (s i), rfl, SqT.of hp, rfl, _, _, rfl, _, _, rfl, _, _, rfl, _, _, rfl, _, _, rfl, _, _, rfl, rfl, ?_⟩
    refine rd_ifc (c_and (c_eq (x := .int (s i).a) (y := .int 0) rfl (ev_v rfl) ev_k) (fun _ => c_not (c_val (a := (s i).t) (ev_v rfl)))) (fun c => ?_) (fun c => ?_)
    · have cl : Clean (s i) := by
        rw [Bool.and_eq_true, decide_eq_true_eq, V.int.injEq, Bool.not_eq_true'] at c
        exact ⟨c.2, c.1⟩
      exact ⟨_, rfl, q a H (Same.refl H) (by rw [hand_id cl]; exact S)⟩
    · clear c
      refine ⟨_, rfl, _, rfl, _, rfl, a, n, s, i, rfl, S, hi, fun r H1 s1 nr h1 => ?_⟩
      rw [sonsV_of] at h1
      refine ⟨r, rfl, ⟨_, SqL.of h1⟩, ?_⟩
      refine for_list (xs := intsV (sonsN (s i))) (fun j σ H' => Same H1 H' ∧ ∃ (f : Addr) (v : Option V), ShT H' f n (((sonsN (s i)).take j).foldl (fun s' c => given1 s' c (s i)) s) ∧
          σ = [some (.ref a), some (.int (i : Int)), some (ov (s i).up), some (ov (s i).l), some (ov (s i).r), some (.bl (s i).t), some (.int (s i).a), some (.int (s i).v), some (.ref f), v])
        ⟨Same.refl _, a, none, S.mono s1, rfl⟩ (fun j σ H' _ z => SqL.of (z.1 _ _ h1)) (fun j x σ H' hj z => ?_) (fun σ H' z => ?_)
      · obtain ⟨s2, f, v, F, rfl⟩ := z
        have hjl : j < (sonsN (s i)).length := by have := (List.getElem?_eq_some_iff.mp hj).1; rw [intsV_len] at this; exact this
        have hg : (sonsN (s i))[j]? = some (sonsN (s i))[j] := List.getElem?_eq_getElem hjl
        rw [intsV_get hg] at hj; cases hj
        have hcn := hc _ (List.getElem_mem hjl)
        have et : ((sonsN (s i)).take (j + 1)).foldl (fun s' c => given1 s' c (s i)) s = given1 (((sonsN (s i)).take j).foldl (fun s' c => given1 s' c (s i)) s) (sonsN (s i))[j] (s i) := by
          rw [List.take_add_one, hg, List.foldl_append]; rfl
        generalize (sonsN (s i))[j] = c at et hcn
        generalize ((sonsN (s i)).take j).foldl (fun s' c => given1 s' c (s i)) s = s' at F et
        obtain ⟨ys, pc, hf, hly, hxc, hpc⟩ := F.get hcn
        refine ⟨_, rfl, _, rfl, rd_op <| rd_it hf hxc (ev_v rfl) (ev_v rfl) ⟨_, rfl, pc, s' c, (s i).a, rfl, hpc, fun m H2 s3 hm => ?_⟩⟩
        refine ⟨f, ys, c, .ref m, rfl, s3 _ _ hf, by omega, by omega, fun f2 H3 s4 hf2 => ?_⟩
        have F2 := F.put hf (s3.trans s4) hcn (s4 _ _ hm) hf2
        refine rd_ifc (c_val (a := (s i).t) (ev_v rfl)) (fun ct => ?_) (fun ct => ?_)
        · refine ⟨_, rfl, _, rfl, rd_op <| rd_part (k := 3) (v := .bl (s' c).t) F2 hcn (by rw [put_same]; rfl) (ev_v rfl) (ev_v rfl) ev_k ⟨_, rfl, ?_⟩⟩
          refine ⟨f2, n, _, c, 3, .bl (!(s' c).t), { s' c with t := !(s' c).t, a := (s' c).a + (s i).a, v := (s' c).v + (s i).a }, rfl, F2, n2, hcn, by decide, ?_, fun f3 H4 s5 F3 => ⟨((s2.trans s3).trans s4).trans s5, f3, _, ?_, rfl⟩⟩
          · rw [put_same]; rfl
          · rw [put_put] at F3
            rw [et]
            unfold given1
            rw [ct, show ((s' c).t != true) = !(s' c).t from by cases (s' c).t <;> rfl]
            exact F3
        · refine ⟨(s2.trans s3).trans s4, f2, _, ?_, rfl⟩
          rw [et]
          unfold given1
          rw [ct, show ((s' c).t != false) = (s' c).t from by cases (s' c).t <;> rfl]
          exact F2
      · obtain ⟨s2, f, v, F, rfl⟩ := z
        rw [intsV_len, List.take_length] at F
        have fin : ∀ σ : L2.St, σ = [some (.ref a), some (.int (i : Int)), some (ov (s i).up), some (ov (handed (s i)).l), some (ov (handed (s i)).r), some (.bl (s i).t), some (.int (s i).a), some (.int (s i).v), some (.ref f), v] →
            tRet (tCall sp_replaced [] E0 (tCons (tVar 8) (tCons (tVar 1) (tCons (tTup (tCons (tVar 2) (tCons (tVar 3) (tCons (tVar 4) (tCons (tC (.bl false)) (tCons (tC (.int 0)) (tCons (tVar 7) tNil))))))) tNil)))) { nx := fun _ H' => Q .non H', rt := Q } σ H' := fun σ e => by
          subst e
          obtain ⟨ys, pi, hf, hly, hxi, hpi⟩ := F.get hi
          refine ⟨_, rfl, _, rfl, _, rfl, _, rfl, _, rfl, ev_k _ (ev_k _ ⟨_, rfl, size64 (by show 6 ≤ 1000; decide), fun m nm => ?_⟩)⟩
          refine ⟨f, ys, i, .ref m, rfl, (same_new nm) _ _ hf, by omega, by omega, fun f2 H3 s4 hf2 => ?_⟩
          refine q f2 H3 (((s1.trans s2).trans (same_new nm)).trans s4) ?_
          rw [← hand_puts k i, ← sonsN_give]
          exact F.put (d := handed (s i)) hf ((same_new nm).trans s4) hi (s4 _ _ upd_same) hf2
        refine rd_ifc (c_val (a := (s i).t) (ev_v rfl)) (fun ct => ?_) (fun ct => ?_)
        · refine ⟨_, rfl, _, rfl, _, _, rfl, fin _ ?_⟩
          unfold handed; rw [ct]; rfl
        · refine fin _ ?_
          unfold handed; rw [ct]; rfl
end
end K13
namespace K13
open PySem PySem.Spec PyProof.Rows L2
section
variable {P : Program} {w : World} {K : PySem.W.Frag} {mg : Str → Option Value} {base : Heap} {A : Ad}
/-! ### the turn -/
/-- the place of a side -/
def sideN (rt : Bool) : Nat := if rt then 2 else 1
theorem ndV_setS (d : Nd) (rt : Bool) (v : Option Nat) : (ndV d).set (sideN rt) (ov v) = ndV (setS d rt v) := by cases rt <;> rfl
theorem ndV_setU (d : Nd) (v : Option Nat) : (ndV d).set 0 (ov v) = ndV { d with up := v } := rfl
theorem ndV_getS (d : Nd) (rt : Bool) : (ndV d)[sideN rt]? = some (ov (getS d rt)) := by cases rt <;> rfl
theorem sideN_lt (rt : Bool) : sideN rt < 6 := by cases rt <;> decide
theorem side_rt {n : Nat} {s : Sh} (k : Ok n s) {x p : Nat} (e : (s x).up = some p) (hs : isSon s x = true) : (if (s p).l = some x then (1 : Int) else 2) = (sideN ((s p).r == some x) : Int) := by
  rw [isSon_at e] at hs
  by_cases h : (s p).l = some x
  · have := k.lr _ _ h
    rw [if_pos h, show ((s p).r == some x) = false from by simp [this]]
    rfl
  · rw [if_neg h, show ((s p).r == some x) = true from by simpa [h] using hs]
    rfl
theorem side_other (rt : Bool) : (1 : Int) + 2 - (sideN rt : Int) = (sideN (!rt) : Int) := by cases rt <;> rfl
theorem turn_eq {n : Nat} {s : Sh} (k : Ok n s) {x p : Nat} (e : (s x).up = some p) (hs : isSon s x = true) : turn s x = turnPuts (hand (hand s p) x) x p ((hand (hand s p) x) p).up := by
  have k1 := hand_ok (hand_ok k p) x
  rw [turn_puts k1 (by rw [hand_up, hand_up]; exact e) (by rw [hand_isSon, hand_isSon]; exact hs)]
  unfold turn
  rw [e]
  rfl
theorem turnG_at {t : Sh} {x p i : Nat} {u : Option Nat} (h : u ≠ some i) : turnG t x p u i = t i := by
  unfold turnG
  cases u with
  | none => rfl
  | some g =>
    show (if isSon t p = true then put t g _ else t) i = t i
    split
    · exact put_ne fun z => h (by rw [z])
    · rfl
theorem ov_cases {o : Option Nat} {b : Bool} (c : (!decide (ov o = V.non)) = b) : (b = true ∧ ∃ k, o = some k) ∨ (b = false ∧ o = none) := by
  cases o with
  | none => exact .inr ⟨c.symm, rfl⟩
  | some k => exact .inl ⟨c.symm, k, rfl⟩
def sp_after_turn : Sp := fun vs H Q _ => ∃ (a : Addr) (n : Nat) (s : Sh) (x p : Nat), vs = [.ref a, .int (x : Int)] ∧ ShT H a n s ∧ n ≤ 64 ∧ Ok n s ∧ (s x).up = some p ∧ isSon s x = true ∧ ∀ q H', Same H H' → ShT H' q n (turn s x) → Q (.ref q) H'
theorem ok_after_turn (T : Txt K mg A) : FnOk P w K mg base CX0 4 A.f_after_turn A.d_after_turn ["shape", "house"] sp_after_turn := by
  refine T.f_after_turn.ok sc_after_turn (fun vs H Q E h => ?_) (fun cdv A' outer s H vs Q E hr h => ?_)
  · obtain ⟨a, n, s, x, p, rfl, _⟩ := h; rfl
  · obtain ⟨a, n, s, x, p, rfl, S, n2, k, e, hs, q⟩ := h
    refine ⟨_, (pss_cons (ps_set (i := 2) sc_after_turn.nd rfl (Or.inl rfl) (pe_ix ix_tup (pe_ix ix_tup (pv 0) (pv 1) (fun _ _ => rfl)) (pe_glob (v := .int 0) (by rfl) T.k_UP ⟨_, rfl⟩) (fun _ _ => rfl)))
      (pss_cons (ps_set (i := 3) sc_after_turn.nd rfl (Or.inl rfl) (pe_call (ok_after_handing T) (hr.mono (by decide)) (by rfl) T.g_after_handing T.f_after_handing.kp T.b_after_handing .nil pass0 (pa_cons (pe_call (ok_after_handing T) (hr.mono (by decide)) (by rfl) T.g_after_handing T.f_after_handing.kp T.b_after_handing .nil pass0 (pa_cons (pv 0) (pa_cons (pv 2) pa_nil))) (pa_cons (pv 1) pa_nil))))
      (pss_cons (ps_set (i := 4) sc_after_turn.nd rfl (Or.inl rfl) (pe_call (ok_side_of T) (hr.mono (by decide)) (by rfl) T.g_side_of T.f_side_of.kp T.b_side_of .nil pass0 (pa_cons (pv 3) (pa_cons (pv 1) pa_nil))))
      (pss_cons (ps_set (i := 5) sc_after_turn.nd rfl (Or.inl rfl) (pe_op op_sub (pe_op op_add (pe_glob (v := .int 1) (by rfl) T.k_LEFT ⟨_, rfl⟩) (pe_glob (v := .int 2) (by rfl) T.k_RIGHT ⟨_, rfl⟩)) (pv 4)))
      (pss_cons (ps_set (i := 6) sc_after_turn.nd rfl (Or.inl rfl) (pe_ix ix_tup (pe_ix ix_tup (pv 3) (pv 2) (fun _ _ => rfl)) (pe_glob (v := .int 0) (by rfl) T.k_UP ⟨_, rfl⟩) (fun _ _ => rfl)))
      (Evl.pss_cut (ps_if (pt_val (pe_call (ok_is_son T) (hr.mono (by decide)) (by rfl) T.g_is_son T.f_is_son.kp T.b_is_son .nil pass0 (pa_cons (pv 3) (pa_cons (pv 2) pa_nil)))) (pss_one (ps_set (i := 3) sc_after_turn.nd rfl (Or.inl rfl) (pe_call (ok_changed T) (hr.mono (by decide)) (by rfl) T.g_changed T.f_changed.kp T.b_changed .nil pass0 (pa_cons (pv 3) (pa_cons (pv 6) (pa_cons (pe_call (ok_side_of T) (hr.mono (by decide)) (by rfl) T.g_side_of T.f_side_of.kp T.b_side_of .nil pass0 (pa_cons (pv 3) (pa_cons (pv 2) pa_nil))) (pa_cons (pv 1) pa_nil))))))) pss_nil)
      (pss_cons (ps_set (i := 7) sc_after_turn.nd rfl (Or.inl rfl) (pe_ix ix_tup (pe_ix ix_tup (pv 3) (pv 1) (fun _ _ => rfl)) (pv 5) (fun _ _ => rfl)))
      (pss_cons (ps_set (i := 3) sc_after_turn.nd rfl (Or.inl rfl) (pe_call (ok_changed T) (hr.mono (by decide)) (by rfl) T.g_changed T.f_changed.kp T.b_changed .nil pass0 (pa_cons (pv 3) (pa_cons (pv 2) (pa_cons (pv 4) (pa_cons (pv 7) pa_nil))))))
      (Evl.pss_cut (ps_if (pt_cmpR op_notN (pv 7) pe_non (nomark _)) (pss_one (ps_set (i := 3) sc_after_turn.nd rfl (Or.inl rfl) (pe_call (ok_changed T) (hr.mono (by decide)) (by rfl) T.g_changed T.f_changed.kp T.b_changed .nil pass0 (pa_cons (pv 3) (pa_cons (pv 7) (pa_cons (pe_glob (v := .int 0) (by rfl) T.k_UP ⟨_, rfl⟩) (pa_cons (pv 2) pa_nil))))))) pss_nil)
      (pss_cons (ps_set (i := 3) sc_after_turn.nd rfl (Or.inl rfl) (pe_call (ok_changed T) (hr.mono (by decide)) (by rfl) T.g_changed T.f_changed.kp T.b_changed .nil pass0 (pa_cons (pv 3) (pa_cons (pv 1) (pa_cons (pv 5) (pa_cons (pv 2) pa_nil))))))
      (pss_one (ps_ret (pe_call (ok_changed T) (hr.mono (by decide)) (by rfl) T.g_changed T.f_changed.kp T.b_changed .nil pass0 (pa_cons (pe_call (ok_changed T) (hr.mono (by decide)) (by rfl) T.g_changed T.f_changed.kp T.b_changed .nil pass0 (pa_cons (pv 3) (pa_cons (pv 2) (pa_cons (pe_glob (v := .int 0) (by rfl) T.k_UP ⟨_, rfl⟩) (pa_cons (pv 1) pa_nil))))) (pa_cons (pv 1) (pa_cons (pe_glob (v := .int 0) (by rfl) T.k_UP ⟨_, rfl⟩) (pa_cons (pv 6) pa_nil))))))))))))))))), ?_⟩
    have hx := (k.lt e).1
    have hp := (k.lt e).2
    refine rd_part (v := ov (s x).up) S hx (k := 0) rfl (ev_v rfl) (ev_v rfl) ev_k ?_
    rw [e]
    -- handing on, twice
    refine ⟨_, rfl, _, rfl, a, n, s, p, rfl, S, n2, k, hp, fun f1 H1 s1 F1 => ?_⟩
    refine ⟨_, rfl, f1, n, hand s p, x, rfl, F1, n2, hand_ok k p, hx, fun f2 H2 s2 F2 => ?_⟩
    rw [turn_eq k e hs] at q
    have e1 : ((hand (hand s p) x) x).up = some p := by rw [hand_up, hand_up]; exact e
    have hs1 : isSon (hand (hand s p) x) x = true := by rw [hand_isSon, hand_isSon]; exact hs
    have k1 := hand_ok (hand_ok k p) x
    have s02 := s1.trans s2
    clear F1
    generalize hand (hand s p) x = t at F2 e1 hs1 k1 q
    -- the sides
    refine ⟨_, rfl, _, rfl, f2, n, t, x, p, rfl, F2, hx, e1, hp, ?_⟩
    rw [side_rt k1 e1 hs1]
    refine rd_asg <| ev_sub (ev_add ev_k ev_k rfl) (ev_v rfl) (side_other _) _ ?_
    refine rd_part (v := ov (t p).up) F2 hp (k := 0) rfl (ev_v rfl) (ev_v rfl) ev_k ?_
    -- the one above
    refine ⟨fun σ H' => Same H H' ∧ ∃ f, ShT H' f n (turnG t x p (t p).up) ∧ σ = [some (.ref a), some (.int (x : Int)), some (.int (p : Int)), some (.ref f), some (.int (sideN ((t p).r == some x) : Int)), some (.int (sideN (!((t p).r == some x)) : Int)), some (ov (t p).up), none], ?_, fun σ H3 z => ?_⟩
    · refine ⟨_, rfl, _, rfl, f2, n, t, p, rfl, F2, hp, fun g h => (k1.lt h).2, fun H3 s3 => ⟨_, rfl, iteB (fun c => ?_) (fun c => ?_)⟩⟩
      · obtain ⟨g, eg⟩ := son_up c
        have hg := (k1.lt eg).2
        rw [eg]
        refine ⟨_, rfl, _, rfl, _, rfl, _, rfl, f2, n, t, p, g, rfl, F2.mono s3, hp, eg, hg, ?_⟩
        rw [side_rt k1 eg c]
        refine ⟨_, rfl, f2, n, t, g, sideN ((t g).r == some p), ov (some x), _, rfl, F2.mono s3, n2, hg, sideN_lt _, ndV_setS _ _ _, fun f3 H4 s4 F4 => ⟨s02.trans (s3.trans s4), f3, ?_, rfl⟩⟩
        unfold turnG
        show ShT H4 f3 n (if isSon t p = true then _ else _)
        rw [if_pos c]; exact F4
      · refine ⟨s02.trans s3, f2, ?_, rfl⟩
        have : turnG t x p (t p).up = t := by
          unfold turnG
          cases (t p).up with
          | none => rfl
          | some g => show (if isSon t p = true then _ else _) = _; rw [if_neg (by rw [c]; decide)]
        rw [this]; exact F2.mono s3
    · obtain ⟨s3, f, F, rfl⟩ := z
      unfold turnPuts turnLow at q
      have hb : ∀ c, getS ((turnG t x p (t p).up) x) (!((t p).r == some x)) = some c → c < n := fun c h => by
        have gx : (t p).up ≠ some x := fun z => not_down k1.ac (show U t x = some p from e1) (.step z (.refl _))
        rw [turnG_at gx] at h
        cases z : (t p).r == some x
        · rw [z] at h; exact (k1.nd x).r c h
        · rw [z] at h; exact (k1.nd x).l c h
      generalize turnG t x p (t p).up = s2' at F q hb
      generalize (t p).up = u at q
      generalize ((t p).r == some x) = rt at q hb
      -- the one between
      refine rd_part (v := ov (getS (s2' x) (!rt))) F hx (k := sideN (!rt)) (ndV_getS _ _) (ev_v rfl) (ev_v rfl) (ev_v rfl) ?_
      refine ⟨_, rfl, _, rfl, _, rfl, _, rfl, f, n, s2', p, sideN rt, _, _, rfl, F, n2, hp, sideN_lt _, ndV_setS _ _ _, fun f3 H4 s4 F4 => ?_⟩
      refine ⟨fun σ H' => Same H H' ∧ ∃ f, ShT H' f n (midPut (put s2' p (setS (s2' p) rt (getS (s2' x) (!rt)))) (getS (s2' x) (!rt)) p) ∧
        ∃ v, σ = [some (.ref a), some (.int (x : Int)), some (.int (p : Int)), some (.ref f), some (.int (sideN rt : Int)), some (.int (sideN (!rt) : Int)), some (ov u), v], ?_, fun σ H5 z => ?_⟩
      · generalize getS (s2' x) (!rt) = m at F4 hb
        refine ⟨_, rfl, rfl, _, rfl, iteB (fun c => ?_) (fun c => ?_)⟩
        · cases m with
          | none => cases c
          | some c' =>
            refine ⟨_, rfl, _, rfl, ev_k _ ⟨_, rfl, f3, n, _, c', 0, ov (some p), _, rfl, F4, n2, hb c' rfl, by decide, ndV_setU _ _, fun f4 H5 s5 F5 => ⟨(s3.trans s4).trans s5, f4, F5, _, rfl⟩⟩⟩
        · cases m with
          | none => exact ⟨s3.trans s4, f3, F4, _, rfl⟩
          | some c => cases c
      · obtain ⟨s5, f5, F5, v, rfl⟩ := z
        have q' := fun r H' (h1 : Same H5 H') => q r H' (s5.trans h1)
        refine ⟨_, rfl, _, rfl, _, rfl, _, rfl, f5, n, _, x, sideN (!rt), ov (some p), _, rfl, F5, n2, hx, sideN_lt _, ndV_setS _ _ _, fun f6 H6 s6 F6 => ?_⟩
        refine ⟨_, rfl, _, rfl, ev_k _ ⟨_, rfl, f6, n, _, p, 0, ov (some x), _, rfl, F6, n2, hp, by decide, ndV_setU _ _, fun f7 H7 s7 F7 => ?_⟩⟩
        refine ⟨_, rfl, ev_k _ ⟨_, rfl, f7, n, _, x, 0, ov u, _, rfl, F7, n2, hx, by decide, ndV_setU _ _, fun f8 H8 s8 F8 => q' f8 H8 ((s6.trans s7).trans s8) F8⟩⟩
end
end K13
namespace K13
open PySem PySem.Spec PyProof.Rows L2
section
variable {P : Program} {w : World} {K : PySem.W.Frag} {mg : Str → Option Value} {base : Heap} {A : Ad}
theorem ev_neg {σ : L2.St} {H : Hp} {ta : TE} {i j : Int} (ha : ∀ Q : VK, Q (.int i) H → ta σ H Q) (e : -i = j) (Q : VK) (q : Q (.int j) H) : tUn (rU fun i => V.int (-i)) ta σ H Q := ha _ ⟨i, rfl, by rw [← e] at q; exact q⟩
theorem rd_seq {σ : L2.St} {H : Hp} {D : Ends} {t u : TS} (q : t { D with nx := u D } σ H) : tSeq t u D σ H := q
theorem rd_next {σ : L2.St} {H : Hp} {D : Ends} (q : D.nx σ H) : tNext D σ H := q
/-- xs[-1] of a list that ends so -/
theorem rd_last {σ : L2.St} {H : Hp} {Q : VK} {p : Addr} {xs : List V} {v : V} {ta tk : TE} (h : H p = some (.lst (xs ++ [v]))) (ea : ∀ Q : VK, Q (.ref p) H → ta σ H Q) (ek : ∀ Q : VK, Q (.int (-1)) H → tk σ H Q) (q : Q v H) :
    tOp (rIxL K) ta tk σ H Q := ea _ (ek _ ⟨p, _, _, v, rfl, rfl, SqL.of h, atI_last xs v, q⟩)
def sp_down_to : Sp := fun vs H Q _ => ∃ (a : Addr) (n : Nat) (s : Sh) (x : Nat), vs = [.ref a, .int (x : Int)] ∧ ShT H a n s ∧ n ≤ 64 ∧ Ok n s ∧ x < n ∧ ∀ q H', Same H H' → ShT H' q n (dh n s x) → Q (.ref q) H'
theorem chain_lt {n : Nat} {s : Sh} (k : Ok n s) : ∀ (f : Nat) (x : Nat), x < n → ∀ y ∈ chain f s x, y < n
  | 0, x, hx, y, h => by
    have : y = x := by simpa [chain] using h
    rw [this]; exact hx
  | f + 1, x, hx, y, h => by
    by_cases hs : isSon s x = true
    · obtain ⟨p, e⟩ := son_up hs
      rw [chain_son e hs] at h
      rcases List.mem_cons.mp h with h | h
      · rw [h]; exact hx
      · exact chain_lt k f p (k.lt e).2 y h
    · rw [chain_top (by simpa using hs)] at h
      have : y = x := by simpa using h
      rw [this]; exact hx
theorem ok_down_to (T : Txt K mg A) : FnOk P w K mg base CX0 4 A.f_down_to A.d_down_to ["shape", "house"] sp_down_to := by
  refine T.f_down_to.ok sc_down_to (fun vs H Q E h => ?_) (fun cdv A' outer s H vs Q E hr h => ?_)
  · obtain ⟨a, n, s, x, rfl, _⟩ := h; rfl
  · obtain ⟨a, n, s, x, rfl, S, n2, k, hx, q⟩ := h
    refine ⟨_, (pss_cons (ps_set (i := 2) sc_down_to.nd rfl (Or.inl rfl) (pe_lst (pa_cons (pv 1) pa_nil)))
      (pss_cons (ps_while PassesOwn.never (pt_val (pe_call (ok_is_son T) (hr.mono (by decide)) (by rfl) T.g_is_son T.f_is_son.kp T.b_is_son .nil pass0 (pa_cons (pv 0) (pa_cons (pe_ix ix_list (pv 2) (pe_un un_neg pe_int) (fun _ _ => rfl)) pa_nil))))
      (pss_one (ps_expr (pe_bm PySem.F.plainAttrs_list PySem.F.slot_list_append PySem.F.type_list_append mt_append (pv 2) (pa_cons (pe_ix ix_tup (pe_ix ix_tup (pv 0) (pe_ix ix_list (pv 2) (pe_un un_neg pe_int) (fun _ _ => rfl)) (fun _ _ => rfl)) (pe_glob (v := .int 0) (by rfl) T.k_UP ⟨_, rfl⟩) (fun _ _ => rfl)) pa_nil)))))
      (pss_cons (ps_set (i := 3) sc_down_to.nd rfl (Or.inl rfl) (pv 0))
      (pss_cons (ps_for PassesOwn.never rfl (pi_list (pe_revL (pv 2))) (pg_name (i := 4) sc_down_to.nd rfl (Or.inl rfl))
      (pss_one (ps_set (i := 3) sc_down_to.nd rfl (Or.inl rfl) (pe_call (ok_after_handing T) (hr.mono (by decide)) (by rfl) T.g_after_handing T.f_after_handing.kp T.b_after_handing .nil pass0 (pa_cons (pv 3) (pa_cons (pv 4) pa_nil))))))
      (pss_one (ps_ret (pv 3))))))), ?_⟩
    refine ⟨_, rfl, size64 (by show 1 ≤ 1000; decide), fun pc nc => ?_⟩
    refine ⟨fun m σ H' => Same H H' ∧ ∃ (pre : List Nat) (y : Nat), y < n ∧ pre ++ chain m s y = chain n s x ∧ pre.length + m = n ∧ n ≤ m + W n s y ∧ H' pc = some (.lst (intsV pre ++ [.int (y : Int)])) ∧ σ = [some (.ref a), some (.int (x : Int)), some (.ref pc), none, none],
      ⟨n, same_new nc, [], x, hx, rfl, by rw [List.length_nil, Nat.zero_add], by omega, upd_same, rfl⟩, fun m σ H' z => ?_⟩
    obtain ⟨s1, pre, y, hy, ec, em, hw, hc, rfl⟩ := z
    refine ⟨_, rfl, rd_last hc (ev_v rfl) (ev_neg ev_k rfl) ⟨a, n, s, y, rfl, S.mono s1, hy, fun p e => (k.lt e).2, fun H2 s2 => ⟨_, rfl, iteB (fun c => ?_) (fun c => ?_)⟩⟩⟩
    · obtain ⟨p, e⟩ := son_up c
      have w1 := W_up k e
      have w2 := W_le n s p
      obtain ⟨m, rfl⟩ : ∃ m', m = m' + 1 := ⟨m - 1, by omega⟩
      rw [chain_son e c] at ec
      refine ⟨fun σ' H' => Same H H' ∧ ∃ (pre : List Nat) (y : Nat), y < n ∧ pre ++ chain m s y = chain n s x ∧ pre.length + m = n ∧ n ≤ m + W n s y ∧ H' pc = some (.lst (intsV pre ++ [.int (y : Int)])) ∧ σ' = [some (.ref a), some (.int (x : Int)), some (.ref pc), none, none],
        fun σ' H' z => ⟨m, by omega, z⟩, ?_⟩
      have hc2 := s2 _ _ hc
      refine ⟨_, rfl, .inl ⟨rfl, _, SqL.of hc2⟩, rd_cons <| rd_part (v := ov (s y).up) (S.mono (s1.trans s2)) hy (k := 0) rfl (ev_v rfl) (fun Q' q' => rd_last hc2 (ev_v rfl) (ev_neg ev_k rfl) q') ev_k ?_⟩
      rw [e]
      refine ⟨pc, _, _, rfl, rfl, hc2, ?_, Same.mut (s1.trans s2) nc, pre ++ [y], p, (k.lt e).2, by rw [List.append_assoc]; exact ec, by rw [List.length_append, List.length_singleton]; omega, by omega, ?_, rfl⟩
      · rw [List.length_append, intsV_len, List.length_singleton]; exact small1000 (by omega)
      · rw [upd_same, intsV_app]; rfl
    · rw [chain_top c] at ec
      refine ⟨_, rfl, _, rfl, pc, _, rfl, SqL.of (s2 _ _ hc), fun pr nr => ?_⟩
      rw [← intsV_app, ec]
      have hrev : (intsV (chain n s x)).reverse = intsV (chain n s x).reverse := by unfold intsV; rw [List.map_reverse]
      rw [hrev]
      have lc := chain_lt k n x hx
      have ed := dh_chain n s x
      have s3 : Same H (upd H2 pr (.lst (intsV (chain n s x).reverse))) := Same.new (s1.trans s2) nr
      have hr3 : (upd H2 pr (.lst (intsV (chain n s x).reverse))) pr = some (.lst (intsV (chain n s x).reverse)) := upd_same
      generalize upd H2 pr (.lst (intsV (chain n s x).reverse)) = H3 at s3 hr3
      refine ⟨pr, rfl, ⟨_, SqL.of hr3⟩, ?_⟩
      refine for_list (xs := intsV (chain n s x).reverse) (fun j σ H' => Same H3 H' ∧ ∃ (f : Addr) (v : Option V), Ok n (((chain n s x).reverse.take j).foldl hand s) ∧ ShT H' f n (((chain n s x).reverse.take j).foldl hand s) ∧ σ = [some (.ref a), some (.int (x : Int)), some (.ref pc), some (.ref f), v])
        ⟨Same.refl _, a, none, k, S.mono s3, rfl⟩ (fun j σ H' _ z => SqL.of (z.1 _ _ hr3)) (fun j v σ H' hj z => ?_) (fun σ H' z => ?_)
      · obtain ⟨s4, f, v', ok, F, rfl⟩ := z
        have hjl : j < (chain n s x).reverse.length := by have := (List.getElem?_eq_some_iff.mp hj).1; rw [intsV_len] at this; exact this
        have hg : (chain n s x).reverse[j]? = some (chain n s x).reverse[j] := List.getElem?_eq_getElem hjl
        rw [intsV_get hg] at hj; cases hj
        have hcn := lc _ (List.mem_reverse.mp (List.getElem_mem hjl))
        have et : ((chain n s x).reverse.take (j + 1)).foldl hand s = hand (((chain n s x).reverse.take j).foldl hand s) (chain n s x).reverse[j] := by rw [List.take_add_one, hg, List.foldl_append]; rfl
        rw [et]
        generalize (chain n s x).reverse[j] = c at hcn
        exact ⟨_, rfl, _, rfl, f, n, _, c, rfl, F, n2, ok, hcn, fun f2 H5 s5 F5 => ⟨s4.trans s5, f2, _, hand_ok ok c, F5, rfl⟩⟩
      · obtain ⟨s4, f, v', ok, F, rfl⟩ := z
        rw [intsV_len, List.take_length, ed] at F
        exact ⟨_, rfl, q f H' (s3.trans s4) F⟩
/-! ### steps -/
theorem step_ok {n : Nat} {s : Sh} (k : Ok n s) {x : Nat} (hs : isSon s x = true) : Ok n (step s x) := by
  obtain ⟨p, e⟩ := son_up hs
  unfold step
  rw [e]
  show Ok n (if isSon s p = true then _ else _)
  split
  · next hp =>
    obtain ⟨g, e2⟩ := son_up hp
    split
    · obtain ⟨m, T⟩ := turn_of k e2 hp
      have xg : x ≠ g := fun z => by subst z; exact not_down k.ac (show U s x = some p from e) (.step (show U s p = some x from e2) (.refl _))
      have h2 : isSon (turn s p) x = true := (T.son x (up_ne k.ac e).symm xg).trans hs
      obtain ⟨u, eu⟩ := son_up h2
      obtain ⟨m2, T2⟩ := turn_of T.ok eu h2
      exact T2.ok
    · obtain ⟨m, T⟩ := turn_of k e hs
      have h2 : isSon (turn s x) x = true := T.sonx.trans hp
      obtain ⟨u, eu⟩ := son_up h2
      obtain ⟨m2, T2⟩ := turn_of T.ok eu h2
      exact T2.ok
  · obtain ⟨m, T⟩ := turn_of k e hs
    exact T.ok
def sp_after_step : Sp := fun vs H Q _ => ∃ (a : Addr) (n : Nat) (s : Sh) (x : Nat), vs = [.ref a, .int (x : Int)] ∧ ShT H a n s ∧ n ≤ 64 ∧ Ok n s ∧ isSon s x = true ∧ ∀ q H', Same H H' → ShT H' q n (step s x) → Q (.ref q) H'
theorem ok_after_step (T : Txt K mg A) : FnOk P w K mg base CX0 5 A.f_after_step A.d_after_step ["shape", "house"] sp_after_step := by
  refine T.f_after_step.ok sc_after_step (fun vs H Q E h => ?_) (fun cdv A' outer s H vs Q E hr h => ?_)
  · obtain ⟨a, n, s, x, rfl, _⟩ := h; rfl
  · obtain ⟨a, n, s, x, rfl, S, n2, k, hs, q⟩ := h
    refine ⟨_, (pss_cons (ps_set (i := 2) sc_after_step.nd rfl (Or.inl rfl) (pe_ix ix_tup (pe_ix ix_tup (pv 0) (pv 1) (fun _ _ => rfl)) (pe_glob (v := .int 0) (by rfl) T.k_UP ⟨_, rfl⟩) (fun _ _ => rfl)))
      (pss_cons (ps_if (pt_not (pt_val (pe_call (ok_is_son T) (hr.mono (by decide)) (by rfl) T.g_is_son T.f_is_son.kp T.b_is_son .nil pass0 (pa_cons (pv 0) (pa_cons (pv 2) pa_nil))))) (pss_one (ps_ret (pe_call (ok_after_turn T) (hr.mono (by decide)) (by rfl) T.g_after_turn T.f_after_turn.kp T.b_after_turn .nil pass0 (pa_cons (pv 0) (pa_cons (pv 1) pa_nil))))) pss_nil)
      (pss_cons (ps_set (i := 3) sc_after_step.nd rfl (Or.inl rfl) (pe_ifExp (pt_cmpR op_eq (pe_call (ok_side_of T) (hr.mono (by decide)) (by rfl) T.g_side_of T.f_side_of.kp T.b_side_of .nil pass0 (pa_cons (pv 0) (pa_cons (pv 1) pa_nil))) (pe_call (ok_side_of T) (hr.mono (by decide)) (by rfl) T.g_side_of T.f_side_of.kp T.b_side_of .nil pass0 (pa_cons (pv 0) (pa_cons (pv 2) pa_nil))) (nomark _)) (pv 2) (pv 1)))
      (pss_one (ps_ret (pe_call (ok_after_turn T) (hr.mono (by decide)) (by rfl) T.g_after_turn T.f_after_turn.kp T.b_after_turn .nil pass0 (pa_cons (pe_call (ok_after_turn T) (hr.mono (by decide)) (by rfl) T.g_after_turn T.f_after_turn.kp T.b_after_turn .nil pass0 (pa_cons (pv 0) (pa_cons (pv 3) pa_nil))) (pa_cons (pv 1) pa_nil)))))))), ?_⟩
    obtain ⟨p, e⟩ := son_up hs
    have hx := (k.lt e).1
    have hp := (k.lt e).2
    refine rd_part (v := ov (s x).up) S hx (k := 0) rfl (ev_v rfl) (ev_v rfl) ev_k ?_
    rw [e]
    have est : step s x = (if isSon s p = true then turn (turn s (if sideR s p == sideR s x then p else x)) x else turn s x) := by unfold step; rw [e]
    rw [est] at q
    refine ⟨_, rfl, _, rfl, a, n, s, p, rfl, S, hp, fun g h => (k.lt h).2, fun H1 s1 => ⟨_, rfl, iteB (fun c => ?_) (fun c => ?_)⟩⟩
    · rw [Bool.not_eq_true'] at c
      rw [if_neg (by rw [c]; decide)] at q
      exact ⟨_, rfl, _, rfl, a, n, s, x, p, rfl, S.mono s1, n2, k, e, hs, fun r H2 s2 F => q r H2 (s1.trans s2) F⟩
    · have c : isSon s p = true := by simpa using c
      rw [if_pos c] at q
      obtain ⟨g, e2⟩ := son_up c
      have S1 := S.mono s1
      rw [sideR_at e, sideR_at e2] at q
      dsimp only [tNext, tSeq, tAsg, tIf]
      have sides : ∀ Q : Bool → Hp → Prop, Q (decide (V.int (sideN ((s p).r == some x) : Int) = V.int (sideN ((s g).r == some p) : Int))) H1 →
          tTest (tOp rEq (tCall sp_side_of [] E0 (tCons (tVar 0) (tCons (tVar 1) tNil))) (tCall sp_side_of [] E0 (tCons (tVar 0) (tCons (tVar 2) tNil)))) [some (.ref a), some (.int (x : Int)), some (.int (p : Int)), none] H1 Q := fun Q' q' => by
        refine ⟨_, rfl, _, rfl, a, n, s, x, p, rfl, S1, hx, e, hp, ⟨_, rfl, _, rfl, a, n, s, p, g, rfl, S1, hp, e2, (k.lt e2).2, ⟨?_, _, rfl, ?_⟩⟩⟩
        · rfl
        · rw [side_rt k e hs, side_rt k e2 c]; exact q'
      refine sides _ ?_
      have turned : ∀ (f : Nat), f = (if ((s g).r == some p) == ((s p).r == some x) then p else x) → tRet (tCall sp_after_turn [] E0 (tCons (tCall sp_after_turn [] E0 (tCons (tVar 0) (tCons (tVar 3) tNil))) (tCons (tVar 1) tNil))) { nx := fun _ H' => Q .non H', rt := Q } [some (.ref a), some (.int (x : Int)), some (.int (p : Int)), some (.int (f : Int))] H1 := fun f ef => by
        rw [← ef] at q
        have hf : ∃ u, (s f).up = some u ∧ isSon s f = true ∧ isSon (turn s f) x = true ∧ Ok n (turn s f) := by
          rw [ef]
          split
          · obtain ⟨m, T⟩ := turn_of k e2 c
            have xg : x ≠ g := fun z => by subst z; exact not_down k.ac (show U s x = some p from e) (.step (show U s p = some x from e2) (.refl _))
            exact ⟨g, e2, c, (T.son x (up_ne k.ac e).symm xg).trans hs, T.ok⟩
          · obtain ⟨m, T⟩ := turn_of k e hs
            exact ⟨p, e, hs, T.sonx.trans c, T.ok⟩
        obtain ⟨u, eu, su, sx, okf⟩ := hf
        obtain ⟨u2, eu2⟩ := son_up sx
        refine ⟨_, rfl, _, rfl, a, n, s, f, u, rfl, S1, n2, k, eu, su, fun f1 H2 s2 F1 => ?_⟩
        exact ⟨_, rfl, f1, n, _, x, u2, rfl, F1, n2, okf, eu2, sx, fun f2 H3 s3 F2 => q f2 H3 (s1.trans (s2.trans s3)) F2⟩
      refine iteB (fun d => ?_) (fun d => ?_)
      · refine ⟨_, rfl, turned p ?_⟩
        have : ((s g).r == some p) = ((s p).r == some x) := by
          have := of_decide_eq_true d
          revert this
          cases (s g).r == some p <;> cases (s p).r == some x <;> decide
        rw [this]; simp
      · refine ⟨_, rfl, turned x ?_⟩
        have : ((s g).r == some p) ≠ ((s p).r == some x) := fun z => of_decide_eq_false d (by rw [z])
        rw [if_neg (by simpa using this)]
end
end K13
namespace K13
open PySem PySem.Spec PyProof.Rows L2
section
variable {P : Program} {w : World} {K : PySem.W.Frag} {mg : Str → Option Value} {base : Heap} {A : Ad}
def sp_to_top : Sp := fun vs H Q _ => ∃ (a : Addr) (n : Nat) (s : Sh) (x : Nat), vs = [.ref a, .int (x : Int)] ∧ ShT H a n s ∧ n ≤ 64 ∧ Ok n s ∧ x < n ∧
  ∀ r f H', Same H H' → H' r = some (.tup [.ref f, .int ((toTop n s x).2 : Int)]) → ShT H' f n (toTop n s x).1 → Q (.ref r) H'
theorem ok_to_top (T : Txt K mg A) : FnOk P w K mg base CX0 6 A.f_to_top A.d_to_top ["shape", "house"] sp_to_top := by
  refine T.f_to_top.ok sc_to_top (fun vs H Q E h => ?_) (fun cdv A' outer s H vs Q E hr h => ?_)
  · obtain ⟨a, n, s, x, rfl, _⟩ := h; rfl
  · obtain ⟨a, n, s, x, rfl, S, n2, k, hx, q⟩ := h
    refine ⟨_, (pss_cons (ps_set (i := 2) sc_to_top.nd rfl (Or.inl rfl) (pe_call (ok_down_to T) (hr.mono (by decide)) (by rfl) T.g_down_to T.f_down_to.kp T.b_down_to .nil pass0 (pa_cons (pv 0) (pa_cons (pv 1) pa_nil))))
      (pss_cons (ps_set (i := 3) sc_to_top.nd rfl (Or.inl rfl) pe_int)
      (pss_cons (ps_while PassesOwn.never (pt_val (pe_call (ok_is_son T) (hr.mono (by decide)) (by rfl) T.g_is_son T.f_is_son.kp T.b_is_son .nil pass0 (pa_cons (pv 2) (pa_cons (pv 1) pa_nil))))
      (pss_cons (ps_set (i := 2) sc_to_top.nd rfl (Or.inl rfl) (pe_call (ok_after_step T) (hr.mono (by decide)) (by rfl) T.g_after_step T.f_after_step.kp T.b_after_step .nil pass0 (pa_cons (pv 2) (pa_cons (pv 1) pa_nil))))
      (pss_one (ps_aug (i := 3) sc_to_top.nd rfl (Or.inl rfl) pe_int ip_add))))
      (pss_one (ps_ret (pe_tup (pa_cons (pv 2) (pa_cons (pv 3) pa_nil)))))))), ?_⟩
    have TO := toTop_of k (x := x)
    obtain ⟨dd, _, DO⟩ := dh_of n k (x := x) (by omega)
    refine ⟨_, rfl, _, rfl, a, n, s, x, rfl, S, n2, k, hx, fun f1 H1 s1 F1 => ?_⟩
    refine ⟨fun m σ H' => Same H H' ∧ ∃ (f : Addr) (s' : Sh) (c : Nat), Ok n s' ∧ ShT H' f n s' ∧ (steps m s' x).1 = (toTop n s x).1 ∧ c + (steps m s' x).2 = (toTop n s x).2 ∧ σ = [some (.ref a), some (.int (x : Int)), some (.ref f), some (.int (c : Int))],
      ⟨n, s1, f1, dh n s x, 0, DO.ok, F1, rfl, Nat.zero_add _, rfl⟩, fun m σ H' z => ?_⟩
    obtain ⟨s2, f, s', c, ok, F, e1, e2, rfl⟩ := z
    refine ⟨_, rfl, _, rfl, f, n, s', x, rfl, F, hx, fun p e => (ok.lt e).2, fun H2 s3 => ⟨_, rfl, iteB (fun b => ?_) (fun b => ?_)⟩⟩
    · obtain ⟨m, rfl⟩ : ∃ m', m = m' + 1 := by
        cases m with
        | zero =>
          have z : s' = (toTop n s x).1 := e1
          rw [z] at b
          rw [TO.top] at b; cases b
        | succ m => exact ⟨m, rfl⟩
      rw [steps_son b] at e1 e2
      refine ⟨fun σ' H' => Same H H' ∧ ∃ (f : Addr) (s' : Sh) (c : Nat), Ok n s' ∧ ShT H' f n s' ∧ (steps m s' x).1 = (toTop n s x).1 ∧ c + (steps m s' x).2 = (toTop n s x).2 ∧ σ' = [some (.ref a), some (.int (x : Int)), some (.ref f), some (.int (c : Int))], fun σ' H' z => ⟨m, by omega, z⟩, ?_⟩
      refine ⟨_, rfl, _, rfl, f, n, s', x, rfl, F.mono s3, n2, ok, b, fun f2 H3 s4 F2 => ?_⟩
      exact ⟨_, rfl, _, _, rfl, rfl, s2.trans (s3.trans s4), f2, _, c + 1, step_ok ok b, F2, e1, by omega, rfl⟩
    · rw [steps_top b] at e1 e2
      refine ⟨_, rfl, _, rfl, size64 (by show 2 ≤ 1000; decide), fun r nr => q r f _ (s2.trans (s3.trans (same_new nr))) ?_ ?_⟩
      · rw [upd_same, ← e2]; rfl
      · rw [← e1]; exact (F.mono s3).mono (same_new nr)
def sp_met_from : Sp := fun vs H Q _ => ∃ (a : Addr) (n : Nat) (s : Sh) (x : Nat), vs = [.ref a, .int (x : Int)] ∧ ShT H a n s ∧ n ≤ 64 ∧ Ok n s ∧ x < n ∧
  ∀ r f pm H', Same H H' → H' r = some (.tup [.ref f, .ref pm, .int ((mets n n s x).2.2 : Int)]) → H' pm = some (.lst (intsV (mets n n s x).2.1)) → ShT H' f n (mets n n s x).1 → (mets n n s x).2.1.length ≤ n → Q (.ref r) H'
/-- the word of the loop -/
def MetW (n : Nat) (M : Sh × List Nat × Nat) (m : Nat) (s' : Sh) (l : List Nat) (c : Nat) : Option Nat → Prop
  | none => s' = M.1 ∧ l = M.2.1 ∧ c = M.2.2
  | some y => y < n ∧ n + 1 ≤ m + W n s' y ∧ (mets n m s' y).1 = M.1 ∧ l ++ (mets n m s' y).2.1 = M.2.1 ∧ c + (mets n m s' y).2.2 = M.2.2
theorem ok_met_from (T : Txt K mg A) : FnOk P w K mg base CX0 7 A.f_met_from A.d_met_from ["shape", "house"] sp_met_from := by
  refine T.f_met_from.ok sc_met_from (fun vs H Q E h => ?_) (fun cdv A' outer s H vs Q E hr h => ?_)
  · obtain ⟨a, n, s, x, rfl, _⟩ := h; rfl
  · obtain ⟨a, n, s, x, rfl, S, n2, k, hx, q⟩ := h
    refine ⟨_, (pss_cons (ps_set (i := 2) sc_met_from.nd rfl (Or.inl rfl) (pv 0))
      (pss_cons (ps_set (i := 3) sc_met_from.nd rfl (Or.inl rfl) (pe_lst pa_nil))
      (pss_cons (ps_set (i := 4) sc_met_from.nd rfl (Or.inl rfl) pe_int)
      (pss_cons (ps_set (i := 5) sc_met_from.nd rfl (Or.inl rfl) (pv 1))
      (pss_cons (ps_while PassesOwn.never (pt_cmpR op_notN (pv 5) pe_non (nomark _))
      (pss_cons (ps_asg (pe_call (ok_to_top T) (hr.mono (by decide)) (by rfl) T.g_to_top T.f_to_top.kp T.b_to_top .nil pass0 (pa_cons (pv 2) (pa_cons (pv 5) pa_nil))) (pg_tup rfl (pgs_cons (pg_name (i := 2) sc_met_from.nd rfl (Or.inl rfl)) (pgs_cons (pg_name (i := 6) sc_met_from.nd rfl (Or.inl rfl)) pgs_nil))))
      (pss_cons (ps_aug (i := 4) sc_met_from.nd rfl (Or.inl rfl) (pv 6) ip_add)
      (pss_cons (ps_expr (pe_bm PySem.F.plainAttrs_list PySem.F.slot_list_append PySem.F.type_list_append mt_append (pv 3) (pa_cons (pv 5) pa_nil)))
      (pss_one (ps_set (i := 5) sc_met_from.nd rfl (Or.inl rfl) (pe_ix ix_tup (pe_ix ix_tup (pv 2) (pv 5) (fun _ _ => rfl)) (pe_glob (v := .int 0) (by rfl) T.k_UP ⟨_, rfl⟩) (fun _ _ => rfl))))))))
      (pss_one (ps_ret (pe_tup (pa_cons (pv 2) (pa_cons (pv 3) (pa_cons (pv 4) pa_nil))))))))))), ?_⟩
    refine ⟨_, rfl, Nat.zero_le _, fun pm nm => ⟨_, rfl, ?_⟩⟩
    have w0 : MetW n (mets n n s x) n s [] 0 (some x) := ⟨hx, by have := W_pos (s := s) hx; omega, rfl, List.nil_append _, Nat.zero_add _⟩
    generalize mets n n s x = M at q w0
    refine ⟨fun m σ H' => Same H H' ∧ ∃ (f : Addr) (s' : Sh) (l : List Nat) (c : Nat) (o : Option Nat) (v : Option V), Ok n s' ∧ ShT H' f n s' ∧ H' pm = some (.lst (intsV l)) ∧ l.length + m ≤ n ∧ MetW n M m s' l c o ∧
        σ = [some (.ref a), some (.int (x : Int)), some (.ref f), some (.ref pm), some (.int (c : Int)), some (ov o), v],
      ⟨n, same_new nm, a, s, [], 0, some x, none, k, S.mono (same_new nm), upd_same, by rw [List.length_nil]; omega, w0, rfl⟩, fun m σ H' z => ?_⟩
    obtain ⟨s1, f, s', l, c, o, v, ok, F, hm, hl, w1, rfl⟩ := z
    refine ⟨_, rfl, rfl, _, rfl, iteB (fun b => ?_) (fun b => ?_)⟩
    · cases o with
      | none => cases b
      | some y =>
        obtain ⟨hy, hw, e1, e2, e3⟩ := w1
        have wn := W_le n s' y
        obtain ⟨m, rfl⟩ : ∃ m', m = m' + 1 := ⟨m - 1, by omega⟩
        refine ⟨fun σ' H' => Same H H' ∧ ∃ (f : Addr) (s' : Sh) (l : List Nat) (c : Nat) (o : Option Nat) (v : Option V), Ok n s' ∧ ShT H' f n s' ∧ H' pm = some (.lst (intsV l)) ∧ l.length + m ≤ n ∧ MetW n M m s' l c o ∧
          σ' = [some (.ref a), some (.int (x : Int)), some (.ref f), some (.ref pm), some (.int (c : Int)), some (ov o), v], fun σ' H' z => ⟨m, by omega, z⟩, ?_⟩
        refine ⟨_, rfl, _, rfl, f, n, s', y, rfl, F, n2, ok, hy, fun r f2 H2 s2 h2 F2 => ?_⟩
        refine ⟨r, _, rfl, SqT.of h2, rfl, _, _, rfl, _, _, rfl, rfl, ?_⟩
        refine ⟨_, rfl, _, rfl, _, _, rfl, rfl, ?_⟩
        refine ⟨_, rfl, .inl ⟨rfl, _, SqL.of (s2 _ _ hm)⟩, _, rfl, pm, _, _, rfl, rfl, s2 _ _ hm, ?_, ?_⟩
        · rw [intsV_len]; exact small1000 (by omega)
        have TO := toTop_of ok (x := y)
        have s3 : Same H (upd H2 pm (.lst (intsV l ++ [.int (y : Int)]))) := Same.mut (s1.trans s2) nm
        have h3 : (upd H2 pm (.lst (intsV l ++ [.int (y : Int)]))) pm = some (.lst (intsV (l ++ [y]))) := by rw [upd_same, intsV_app]
        have F3 : ShT (upd H2 pm (.lst (intsV l ++ [.int (y : Int)]))) f2 n (toTop n s' y).1 := by
          obtain ⟨ps, z1, z2, z3⟩ := F2
          have nt : ∀ b xs, H2 b = some (.tup xs) → (upd H2 pm (.lst (intsV l ++ [.int (y : Int)]))) b = some (.tup xs) := fun b xs e => by
            rw [upd_ne (fun z => by subst z; rw [s2 _ _ hm] at e; cases e)]; exact e
          exact ⟨ps, z1, nt _ _ z2, fun i p e => nt _ _ (z3 i p e)⟩
        have a1 : ([V.ref f2, V.int ((toTop n s' y).2 : Int)] : List V) = [V.ref f2, V.int ((toTop n s' y).2 : Int)] := rfl
        refine rd_asg <| rd_part (v := ov ((toTop n s' y).1 y).up) F3 hy (k := 0) rfl (ev_v rfl) (ev_v rfl) ev_k ?_
        refine ⟨s3, f2, _, l ++ [y], c + (toTop n s' y).2, ((toTop n s' y).1 y).up, _, TO.ok, F3, h3, by rw [List.length_append, List.length_singleton]; omega, ?_, rfl⟩
        cases e : ((toTop n s' y).1 y).up with
        | none =>
          rw [mets_end e] at e1 e2 e3
          exact ⟨e1, e2, e3⟩
        | some z =>
          rw [mets_on e] at e1 e2 e3
          have := W_up TO.ok e
          have := TO.rise
          exact ⟨(TO.ok.lt e).2, by omega, e1, by rw [List.append_assoc]; exact e2, by rw [Nat.add_assoc]; exact e3⟩
    · cases o with
      | some y => cases b
      | none =>
        obtain ⟨rfl, rfl, rfl⟩ := w1
        refine ⟨_, rfl, _, rfl, _, rfl, size64 (by show 3 ≤ 1000; decide), fun r nr => ?_⟩
        exact q r f pm _ (s1.trans (same_new nr)) upd_same ((same_new nr) _ _ hm) (F.mono (same_new nr)) (by omega)
end
end K13
namespace K13
open PySem PySem.Spec PyProof.Rows L2
section
variable {P : Program} {w : World} {K : PySem.W.Frag} {mg : Str → Option Value} {base : Heap} {A : Ad}
/-- a splice from its start on -/
def splFrom : Sh × Option Nat → List Nat → Sh × Option Nat
  | z, [] => z
  | z, x :: l => splFrom (put z.1 x { z.1 x with r := z.2 }, some x) l
theorem splFrom_splice : ∀ (l : List Nat) (s : Sh) (a : Option Nat), (splFrom (s, a) l).1 = splice s a l
  | [], s, a => rfl
  | x :: l, s, a => splFrom_splice l _ _
theorem splFrom_snoc : ∀ (l : List Nat) (z : Sh × Option Nat) (x : Nat), splFrom z (l ++ [x]) = (put (splFrom z l).1 x { (splFrom z l).1 x with r := (splFrom z l).2 }, some x)
  | [], z, x => rfl
  | y :: l, z, x => splFrom_snoc l _ x
def sp_spliced : Sp := fun vs H Q _ => ∃ (a pm : Addr) (n : Nat) (s : Sh) (l : List Nat), vs = [.ref a, .ref pm] ∧ ShT H a n s ∧ n ≤ 64 ∧ H pm = some (.lst (intsV l)) ∧ (∀ y ∈ l, y < n) ∧ ∀ q H', Same H H' → ShT H' q n (splice s none l) → Q (.ref q) H'
theorem ok_spliced (T : Txt K mg A) : FnOk P w K mg base CX0 3 A.f_spliced A.d_spliced ["shape", "met"] sp_spliced := by
  refine T.f_spliced.ok sc_spliced (fun vs H Q E h => ?_) (fun cdv A' outer s H vs Q E hr h => ?_)
  · obtain ⟨a, pm, n, s, l, rfl, _⟩ := h; rfl
  · obtain ⟨a, pm, n, s, l, rfl, S, n2, hm, hy, q⟩ := h
    refine ⟨_, (pss_cons (ps_set (i := 2) sc_spliced.nd rfl (Or.inl rfl) (pv 0))
      (pss_cons (ps_set (i := 3) sc_spliced.nd rfl (Or.inl rfl) pe_non)
      (pss_cons (ps_for PassesOwn.never rfl (pi_list (pv 1)) (pg_name (i := 4) sc_spliced.nd rfl (Or.inl rfl))
      (pss_cons (ps_set (i := 2) sc_spliced.nd rfl (Or.inl rfl) (pe_call (ok_changed T) (hr.mono (by decide)) (by rfl) T.g_changed T.f_changed.kp T.b_changed .nil pass0 (pa_cons (pv 2) (pa_cons (pv 4) (pa_cons (pe_glob (v := .int 2) (by rfl) T.k_RIGHT ⟨_, rfl⟩) (pa_cons (pv 3) pa_nil))))))
      (pss_one (ps_set (i := 3) sc_spliced.nd rfl (Or.inl rfl) (pv 4)))))
      (pss_one (ps_ret (pv 2)))))), ?_⟩
    refine ⟨_, rfl, _, rfl, pm, rfl, ⟨_, SqL.of hm⟩, ?_⟩
    refine for_list (xs := intsV l) (fun j σ H' => Same H H' ∧ ∃ (f : Addr) (v : Option V), ShT H' f n (splFrom (s, none) (l.take j)).1 ∧ σ = [some (.ref a), some (.ref pm), some (.ref f), some (ov (splFrom (s, none) (l.take j)).2), v])
      ⟨Same.refl _, a, none, S, rfl⟩ (fun j σ H' _ z => SqL.of (z.1 _ _ hm)) (fun j v σ H' hj z => ?_) (fun σ H' z => ?_)
    · obtain ⟨s4, f, v', F, rfl⟩ := z
      have hjl : j < l.length := by have := (List.getElem?_eq_some_iff.mp hj).1; rw [intsV_len] at this; exact this
      have hg : l[j]? = some l[j] := List.getElem?_eq_getElem hjl
      rw [intsV_get hg] at hj; cases hj
      have hcn := hy _ (List.getElem_mem hjl)
      have et : splFrom (s, none) (l.take (j + 1)) = (put (splFrom (s, none) (l.take j)).1 l[j] { (splFrom (s, none) (l.take j)).1 l[j] with r := (splFrom (s, none) (l.take j)).2 }, some l[j]) := by
        rw [List.take_add_one, hg]; exact splFrom_snoc _ _ _
      rw [et]
      generalize l[j] = c at hcn
      generalize splFrom (s, none) (l.take j) = z at F
      refine ⟨_, rfl, _, rfl, ev_k _ ⟨_, rfl, f, n, z.1, c, 2, ov z.2, { z.1 c with r := z.2 }, rfl, F, n2, hcn, by decide, rfl, fun f2 H5 s5 F5 => ?_⟩⟩
      exact ⟨_, rfl, s4.trans s5, f2, _, F5, rfl⟩
    · obtain ⟨s4, f, v', F, rfl⟩ := z
      rw [intsV_len, List.take_length, splFrom_splice] at F
      exact ⟨_, rfl, q f H' s4 F⟩
theorem met_lt {n : Nat} {s : Sh} (k : Ok n s) {x : Nat} {l : List Nat} (M : Met s x l) (hx : x < n) : ∀ y ∈ l, y < n := by
  induction M with
  | last _ _ _ => intro y h; rw [List.mem_singleton.mp h]; exact hx
  | on _ _ e _ ih =>
    intro y h
    rcases List.mem_cons.mp h with h | h
    · rw [h]; exact hx
    · exact ih (k.lt e).2 y h
noncomputable def paperV (n : Nat) (s : Sh) (x : Nat) (b : Int) : List V := [.int ((paperOf n s x).first : Int), .int ((paperOf n s x).met : Int), .int ((paperOf n s x).last : Int), .int ((Phi n (U (reach n s x)) : Int) - b)]
def sp_after_reaching : Sp := fun vs H Q _ => ∃ (a : Addr) (n : Nat) (s : Sh) (x : Nat) (b : Int), vs = [.ref a, .int (x : Int), .int b] ∧ ShT H a n s ∧ n ≤ 64 ∧ Ok n s ∧ x < n ∧
  ∀ r f pm pp H', Same H H' → H' r = some (.tup [.ref f, .ref pm, .ref pp]) → ShT H' f n (reach n s x) → H' pp = some (.tup (paperV n s x b)) → Q (.ref r) H'
theorem ok_after_reaching (T : Txt K mg A) : FnOk P w K mg base CX0 8 A.f_after_reaching A.d_after_reaching ["shape", "house", "before"] sp_after_reaching := by
  refine T.f_after_reaching.ok sc_after_reaching (fun vs H Q E h => ?_) (fun cdv A' outer s H vs Q E hr h => ?_)
  · obtain ⟨a, n, s, x, b, rfl, _⟩ := h; rfl
  · obtain ⟨a, n, s, x, b, rfl, S, n2, k, hx, q⟩ := h
    refine ⟨_, (pss_cons (ps_asg (pe_call (ok_met_from T) (hr.mono (by decide)) (by rfl) T.g_met_from T.f_met_from.kp T.b_met_from .nil pass0 (pa_cons (pv 0) (pa_cons (pv 1) pa_nil))) (pg_tup rfl (pgs_cons (pg_name (i := 3) sc_after_reaching.nd rfl (Or.inl rfl)) (pgs_cons (pg_name (i := 4) sc_after_reaching.nd rfl (Or.inl rfl)) (pgs_cons (pg_name (i := 5) sc_after_reaching.nd rfl (Or.inl rfl)) pgs_nil)))))
      (pss_cons (ps_asg (pe_call (ok_to_top T) (hr.mono (by decide)) (by rfl) T.g_to_top T.f_to_top.kp T.b_to_top .nil pass0 (pa_cons (pe_call (ok_spliced T) (hr.mono (by decide)) (by rfl) T.g_spliced T.f_spliced.kp T.b_spliced .nil pass0 (pa_cons (pv 3) (pa_cons (pv 4) pa_nil))) (pa_cons (pv 1) pa_nil))) (pg_tup rfl (pgs_cons (pg_name (i := 6) sc_after_reaching.nd rfl (Or.inl rfl)) (pgs_cons (pg_name (i := 7) sc_after_reaching.nd rfl (Or.inl rfl)) pgs_nil))))
      (pss_cons (ps_set (i := 8) sc_after_reaching.nd rfl (Or.inl rfl) (pe_op op_sub (pe_call (ok_sum_of_ranks T) (hr.mono (by decide)) (by rfl) T.g_sum_of_ranks T.f_sum_of_ranks.kp T.b_sum_of_ranks .nil pass0 (pa_cons (pv 6) pa_nil)) (pv 2)))
      (pss_one (ps_ret (pe_tup (pa_cons (pv 6) (pa_cons (pv 4) (pa_cons (pe_tup (pa_cons (pv 5) (pa_cons (pe_callB call_len_seq (by rfl) T.z_len PySem.boot_len (pa_cons (pv 4) pa_nil)) (pa_cons (pv 7) (pa_cons (pv 8) pa_nil))))) pa_nil))))))))), ?_⟩
    have R := reach_of k hx
    have M := mets_of n k (x := x) (by have := W_pos (s := s) hx; omega)
    refine ⟨_, rfl, _, rfl, a, n, s, x, rfl, S, n2, k, hx, fun r f pm H1 s1 h1 hm F1 hl => ?_⟩
    refine ⟨r, _, rfl, SqT.of h1, rfl, _, _, rfl, _, _, rfl, _, _, rfl, rfl, ?_⟩
    refine ⟨_, rfl, _, rfl, f, pm, n, _, _, rfl, F1, n2, hm, met_lt M.ok M.met hx, fun f2 H2 s2 F2 => ?_⟩
    refine ⟨_, rfl, f2, n, reachS n s x, x, rfl, F2, n2, R.okS, hx, fun r3 f3 H3 s3 h3 F3 => ?_⟩
    rw [R.same] at h3 F3
    refine ⟨r3, _, rfl, SqT.of h3, rfl, _, _, rfl, _, _, rfl, rfl, ?_⟩
    refine ⟨_, rfl, f3, n, _, rfl, F3, n2, R.ok, fun H4 s4 => ⟨_, rfl, _, _, rfl, rfl, ?_⟩⟩
    have hm4 := s4 _ _ (s3 _ _ (s2 _ _ hm))
    refine ⟨_, rfl, _, rfl, _, rfl, _, rfl, pm, _, rfl, .inl (SqL.of hm4), _, rfl, _, rfl, size64 (by show 4 ≤ 1000; decide), fun pp np => ⟨size64 (by show 3 ≤ 1000; decide), fun r4 nr => ?_⟩⟩
    refine q r4 f3 pm pp _ ((s1.trans (s2.trans (s3.trans s4))).trans ((same_new np).trans (same_new nr))) upd_same (F3.mono (s4.trans ((same_new np).trans (same_new nr)))) ((same_new nr) _ _ ?_)
    rw [upd_same, intsV_len]
    rfl
def sp_reached : Sp := fun vs H Q _ => ∃ (a : Addr) (n : Nat) (s : Sh) (x : Nat), vs = [.ref a, .int (x : Int)] ∧ ShT H a n s ∧ 1 ≤ n ∧ n ≤ 64 ∧ Ok n s ∧ x < n ∧
  ∀ r f pp H', Same H H' → H' r = some (.tup [.ref f, .ref pp]) → ShT H' f n (reach n s x) → H' pp = some (.tup (paperV n s x (Phi n (U s)))) → Q (.ref r) H'
theorem ok_reached (T : Txt K mg A) : FnOk P w K mg base CX0 9 A.f_reached A.d_reached ["shape", "house"] sp_reached := by
  refine T.f_reached.ok sc_reached (fun vs H Q E h => ?_) (fun cdv A' outer s H vs Q E hr h => ?_)
  · obtain ⟨a, n, s, x, rfl, _⟩ := h; rfl
  · obtain ⟨a, n, s, x, rfl, S, n1, n2, k, hx, q⟩ := h
    refine ⟨_, (pss_cons (ps_expr (pe_call (ok_check_shape T) (hr.mono (by decide)) (by rfl) T.g_check_shape T.f_check_shape.kp T.b_check_shape .nil pass0 (pa_cons (pv 0) pa_nil)))
      (pss_cons (ps_expr (pe_call (ok_check_house T) (hr.mono (by decide)) (by rfl) T.g_check_house T.f_check_house.kp T.b_check_house .nil pass0 (pa_cons (pe_callB call_len_seq (by rfl) T.z_len PySem.boot_len (pa_cons (pv 0) pa_nil)) (pa_cons (pv 1) pa_nil))))
      (pss_cons (ps_asg (pe_call (ok_after_reaching T) (hr.mono (by decide)) (by rfl) T.g_after_reaching T.f_after_reaching.kp T.b_after_reaching .nil pass0 (pa_cons (pv 0) (pa_cons (pv 1) (pa_cons (pe_call (ok_sum_of_ranks T) (hr.mono (by decide)) (by rfl) T.g_sum_of_ranks T.f_sum_of_ranks.kp T.b_sum_of_ranks .nil pass0 (pa_cons (pv 0) pa_nil)) pa_nil)))) (pg_tup rfl (pgs_cons (pg_name (i := 2) sc_reached.nd rfl (Or.inl rfl)) (pgs_cons (pg_name (i := 3) sc_reached.nd rfl (Or.inl rfl)) (pgs_cons (pg_name (i := 4) sc_reached.nd rfl (Or.inl rfl)) pgs_nil)))))
      (pss_one (ps_ret (pe_tup (pa_cons (pv 2) (pa_cons (pv 4) pa_nil)))))))), ?_⟩
    obtain ⟨xs, ha, hl⟩ := S.len
    refine ⟨_, rfl, a, n, s, rfl, S, n1, n2, k, fun H1 s1 => ?_⟩
    refine ⟨_, rfl, a, xs, rfl, .inr (SqT.of (s1 _ _ ha)), _, rfl, (x : Int), (xs.length : Int), rfl, by omega, by omega, ?_⟩
    refine ⟨_, rfl, _, rfl, _, rfl, a, n, s, rfl, S.mono s1, n2, k, fun H2 s2 => ?_⟩
    refine ⟨a, n, s, x, _, rfl, S.mono (s1.trans s2), n2, k, hx, fun r f pm pp H3 s3 h3 F3 hp => ?_⟩
    refine ⟨r, _, rfl, SqT.of h3, rfl, _, _, rfl, _, _, rfl, _, _, rfl, rfl, ?_⟩
    exact ⟨_, rfl, _, rfl, size64 (by show 2 ≤ 1000; decide), fun r4 nr => q r4 f pp _ ((s1.trans (s2.trans s3)).trans (same_new nr)) upd_same (F3.mono (same_new nr)) ((same_new nr) _ _ hp)⟩
def sp_most_of : Sp := fun vs H Q _ => ∃ k : Nat, vs = [.int (k : Int)] ∧ Q (.int (30 * (lg k : Int) + 7)) H
theorem ok_most_of (T : Txt K mg A) : FnOk P w K mg base CX0 2 A.f_most_of A.d_most_of ["many"] sp_most_of := by
  refine T.f_most_of.ok sc_most_of (fun vs H Q E h => ?_) (fun cdv A' outer s H vs Q E hr h => ?_)
  · obtain ⟨k, rfl, _⟩ := h; rfl
  · obtain ⟨k, rfl, q⟩ := h
    refine ⟨_, (pss_one (ps_ret (pe_op op_add (pe_op op_mul (pe_glob (v := .int 30) (by rfl) T.k_MOST_BY_RANK ⟨_, rfl⟩) (pe_call (ok_rank_of T) (hr.mono (by decide)) (by rfl) T.g_rank_of T.f_rank_of.kp T.b_rank_of .nil pass0 (pa_cons (pv 0) pa_nil))) (pe_glob (v := .int 7) (by rfl) T.k_MOST_BESIDE ⟨_, rfl⟩)))), ?_⟩
    exact ⟨_, rfl, k, rfl, _, _, rfl, rfl, .inl ⟨by decide, by decide⟩, _, _, rfl, rfl, q⟩
def sp_is_paper : Sp := fun vs H Q _ => ∃ (pp : Addr) (n f m l : Nat) (c : Int), vs = [.int (n : Int), .ref pp] ∧ 1 ≤ n ∧ n ≤ 64 ∧ H pp = some (.tup [.int (f : Int), .int (m : Int), .int (l : Int), .int c]) ∧
  1 ≤ m ∧ l = m / 2 ∧ (f : Int) + m + l + 5 * c ≤ 30 * lg n + 7 ∧ Q (.bl true) H
theorem ok_is_paper (T : Txt K mg A) : FnOk P w K mg base CX0 4 A.f_is_paper A.d_is_paper ["many", "thing"] sp_is_paper := by
  refine T.f_is_paper.ok sc_is_paper (fun vs H Q E h => ?_) (fun cdv A' outer s H vs Q E hr h => ?_)
  · obtain ⟨pp, n, f, m, l, c, rfl, _⟩ := h; rfl
  · obtain ⟨pp, n, f, m, l, c, rfl, n1, n2, hp, m1, el, hf, q⟩ := h
    refine ⟨_, (pss_cons (ps_expr (pe_call (ok_check_within T) (hr.mono (by decide)) (by rfl) T.g_check_within T.f_check_within.kp T.b_check_within .nil pass0 (pa_cons (pv 0) (pa_cons pe_int (pa_cons (pe_glob (v := .int 64) (by rfl) T.k_MOST_HOUSES ⟨_, rfl⟩) pa_nil)))))
      (pss_cons (ps_if (PW.pt (pw_or (pt_not (pt_val (pe_call (ok_is_sized T) (hr.mono (by decide)) (by rfl) T.g_is_sized T.f_is_sized.kp T.b_is_sized .nil pass0 (pa_cons (pv 1) (pa_cons pe_int (pa_cons pe_int pa_nil)))))) (pw_or (pt_not (pt_val (pe_call (ok_is_number T) (hr.mono (by decide)) (by rfl) T.g_is_number T.f_is_number.kp T.b_is_number .nil pass0 (pa_cons (pe_ix ix_tup (pv 1) pe_int (fun _ _ => rfl)) pa_nil)))) (pw_or (pt_not (pt_val (pe_call (ok_is_number T) (hr.mono (by decide)) (by rfl) T.g_is_number T.f_is_number.kp T.b_is_number .nil pass0 (pa_cons (pe_ix ix_tup (pv 1) pe_int (fun _ _ => rfl)) pa_nil)))) (pw_or1 (pt_cmpR op_lt (pe_ix ix_tup (pv 1) pe_int (fun _ _ => rfl)) pe_int (nomark _))))))) (pss_one (ps_ret pe_bl)) pss_nil)
      (pss_cons (ps_asg (pv 1) (pg_tup rfl (pgs_cons (pg_name (i := 2) sc_is_paper.nd rfl (Or.inl rfl)) (pgs_cons (pg_name (i := 3) sc_is_paper.nd rfl (Or.inl rfl)) (pgs_cons (pg_name (i := 4) sc_is_paper.nd rfl (Or.inl rfl)) (pgs_cons (pg_name (i := 5) sc_is_paper.nd rfl (Or.inl rfl)) pgs_nil))))))
      (pss_cons (ps_if (PW.pt (pw_or (pt_not (pt_val (pe_call (ok_is_number T) (hr.mono (by decide)) (by rfl) T.g_is_number T.f_is_number.kp T.b_is_number .nil pass0 (pa_cons (pv 4) pa_nil)))) (pw_or (pt_cmpR op_ne (pv 4) (pe_op op_fdiv (pv 3) pe_int) (nomark _)) (pw_or1 (pt_not (pt_val (pe_call (ok_is_integer T) (hr.mono (by decide)) (by rfl) T.g_is_integer T.f_is_integer.kp T.b_is_integer .nil pass0 (pa_cons (pv 5) pa_nil)))))))) (pss_one (ps_ret pe_bl)) pss_nil)
      (pss_one (ps_ret (pe_cmpR op_le (pe_op op_add (pe_op op_add (pe_op op_add (pv 2) (pv 3)) (pv 4)) (pe_op op_mul (pe_glob (v := .int 5) (by rfl) T.k_TIMES ⟨_, rfl⟩) (pv 5))) (pe_call (ok_most_of T) (hr.mono (by decide)) (by rfl) T.g_most_of T.f_most_of.kp T.b_most_of .nil pass0 (pa_cons (pv 0) pa_nil)) (nomark _)))))))), ?_⟩
    refine ⟨_, rfl, (n : Int), 1, 64, rfl, by omega, by omega, ?_⟩
    refine ⟨_, rfl, pp, _, 4, 4, rfl, hp, by show (4 : Int) ≤ 4; decide, by show (4 : Int) ≤ 4; decide, true, rfl, iteF ?_⟩
    dsimp only [tOr, tNot, tB, tCall, tTest]
    refine rd_cons <| rd_it (k := 0) (v := .int (f : Int)) hp rfl (ev_v rfl) ev_k ⟨(f : Int), rfl, _, rfl, ?_⟩
    rw [decide_eq_true (by omega : (0 : Int) ≤ f)]
    refine iteF ?_
    refine rd_cons <| rd_it (k := 1) (v := .int (m : Int)) hp rfl (ev_v rfl) ev_k ⟨(m : Int), rfl, _, rfl, ?_⟩
    rw [decide_eq_true (by omega : (0 : Int) ≤ m)]
    refine iteF ?_
    refine rd_op <| rd_it (k := 1) (v := .int (m : Int)) hp rfl (ev_v rfl) ev_k ⟨_, _, rfl, rfl, _, rfl, ?_⟩
    rw [decide_eq_false (by omega : ¬ (m : Int) < 1)]
    refine iteF ?_
    refine ⟨_, rfl, pp, _, rfl, SqT.of hp, rfl, _, _, rfl, _, _, rfl, _, _, rfl, _, _, rfl, rfl, ?_⟩
    refine ⟨_, rfl, (l : Int), rfl, _, rfl, ?_⟩
    rw [decide_eq_true (by omega : (0 : Int) ≤ l)]
    refine iteF ?_
    refine ⟨_, rfl, _, rfl, _, _, rfl, rfl, ⟨by decide, by decide⟩, rfl, false, congrArg V.bl (show (!decide (V.int (l : Int) = V.int ((m : Int) / 2))) = false from by rw [decide_eq_true (by rw [el]; rfl)]; rfl), iteF ?_⟩
    refine ⟨_, rfl, c, rfl, _, rfl, iteF ?_⟩
    refine ⟨_, rfl, _, rfl, _, _, rfl, rfl, _, rfl, _, _, rfl, rfl, _, rfl, _, _, rfl, rfl, .inl ⟨by decide, by decide⟩, _, _, rfl, rfl, _, rfl, n, rfl, _, _, rfl, rfl, ?_⟩
    exact qb (decide_eq_true hf) q
end
end K13
namespace K13
open PySem PySem.Spec PyProof.Rows L2
section
variable {P : Program} {w : World} {K : PySem.W.Frag} {mg : Str → Option Value} {base : Heap} {A : Ad}
/-! ### shapes as lists of lists -/
structure HereL (H : Hp) (p : Addr) (n : Nat) (s : Sh) (as : List Addr) : Prop where
  len : as.length = n
  nd : as.Nodup
  np : p ∉ as
  top : H p = some (.lst (as.map V.ref))
  row : ∀ (i : Nat) (a : Addr), as[i]? = some a → H a = some (.lst (ndV (s i)))
/-- B: all else -/
structure HereB (B H : Hp) (p : Addr) (n : Nat) (s : Sh) (as : List Addr) : Prop where
  here : HereL H p n s as
  same : Same B H
  out : B p = none
  outs : ∀ a ∈ as, B a = none
def HereAt (B H : Hp) (p : Addr) (n : Nat) (s : Sh) : Prop := ∃ as, HereB B H p n s as
theorem HereL.mono {H H' : Hp} {p : Addr} {n : Nat} {s : Sh} {as : List Addr} (h : HereL H p n s as) (m : Same H H') : HereL H' p n s as :=
  ⟨h.len, h.nd, h.np, m _ _ h.top, fun i a e => m _ _ (h.row i a e)⟩
theorem HereAt.mono {B H H' : Hp} {p : Addr} {n : Nat} {s : Sh} (h : HereAt B H p n s) (m : Same H H') : HereAt B H' p n s := by
  obtain ⟨as, h⟩ := h
  exact ⟨as, h.here.mono m, h.same.trans m, h.out, h.outs⟩
theorem HereL.at {H : Hp} {p : Addr} {n : Nat} {s : Sh} {as : List Addr} (h : HereL H p n s as) {i : Nat} (hi : i < n) : ∃ a, as[i]? = some a ∧ (as.map V.ref)[i]? = some (.ref a) ∧ H a = some (.lst (ndV (s i))) := by
  have hi' : i < as.length := by rw [h.len]; exact hi
  have e : as[i]? = some as[i] := List.getElem?_eq_getElem hi'
  exact ⟨as[i], e, by rw [List.getElem?_map, e]; rfl, h.row i _ e⟩
theorem nodup_ix' {l : List Addr} (nd : l.Nodup) {i j : Nat} {a : Addr} (hi : l[i]? = some a) (hj : l[j]? = some a) : i = j := nd_ix nd hi hj
/-- a row changed -/
theorem HereB.setRow {B H : Hp} {p : Addr} {n : Nat} {s : Sh} {as : List Addr} (h : HereB B H p n s as) {i : Nat} {a : Addr} (e : as[i]? = some a) (d : Nd) : HereB B (upd H a (.lst (ndV d))) p n (put s i d) as := by
  have ap : a ≠ p := fun z => h.here.np (by rw [← z]; exact List.mem_of_getElem? e)
  refine ⟨⟨h.here.len, h.here.nd, h.here.np, by rw [upd_ne ap.symm]; exact h.here.top, fun j b eb => ?_⟩, Same.mut h.same (h.outs a (List.mem_of_getElem? e)), h.out, h.outs⟩
  by_cases ba : b = a
  · subst ba
    rw [upd_same, nodup_ix' h.here.nd eb e, put_same]
  · rw [upd_ne ba, put_ne (fun z => ba (by subst z; rw [e] at eb; exact (Option.some.inj eb).symm))]
    exact h.here.row j b eb
/-- a new row in the place of an elder one -/
theorem HereB.newRow {B H : Hp} {p : Addr} {n : Nat} {s : Sh} {as : List Addr} (h : HereB B H p n s as) {i : Nat} (hi : i < n) {b : Addr} {d : Nd} (nb : b ∉ as) (bp : b ≠ p) (ob : B b = none) (hb : H b = some (.lst (ndV d))) :
    HereB B (upd H p (.lst ((as.map V.ref).set i (.ref b)))) p n (put s i d) (as.set i b) := by
  refine ⟨⟨by rw [List.length_set]; exact h.here.len, ?_, ?_, by rw [upd_same, List.map_set], fun j c e => ?_⟩, Same.mut h.same h.out, h.out, fun a ha => ?_⟩
  · refine List.nodup_iff_pairwise_ne.mpr ?_
    rw [List.pairwise_iff_getElem]
    intro x y hx hy xy
    rw [List.getElem_set, List.getElem_set]
    have lx : x < as.length := by rw [List.length_set] at hx; exact hx
    have ly : y < as.length := by rw [List.length_set] at hy; exact hy
    split
    · next q =>
      split
      · next q2 => omega
      · exact fun z => nb (by rw [z]; exact List.getElem_mem ly)
    · split
      · exact fun z => nb (by rw [← z]; exact List.getElem_mem lx)
      · exact fun z => by have := (List.getElem_inj h.here.nd).mp z; omega
  · intro z
    rcases List.mem_or_eq_of_mem_set z with z | z
    · exact h.here.np z
    · exact bp z.symm
  · rw [List.getElem?_set] at e
    split at e
    · next q =>
      split at e
      · have := Option.some.inj e
        subst this
        rw [upd_ne bp, ← q, put_same]; exact hb
      · cases e
    · next q =>
      have cp : c ≠ p := fun z => h.here.np (by rw [← z]; exact List.mem_of_getElem? e)
      rw [upd_ne cp, put_ne (fun z => q z.symm)]
      exact h.here.row j c e
  · rcases List.mem_or_eq_of_mem_set ha with z | z
    · exact h.outs a z
    · rw [z]; exact ob
theorem HereB.mono {B H H' : Hp} {p : Addr} {n : Nat} {s : Sh} {as : List Addr} (h : HereB B H p n s as) (m : Same H H') : HereB B H' p n s as := ⟨h.here.mono m, h.same.trans m, h.out, h.outs⟩
/-- all that is tracked but these -/
def er (H : Hp) (l : List Addr) : Hp := fun b => if b ∈ l then none else H b
theorem er_in {H : Hp} {l : List Addr} {b : Addr} (h : b ∈ l) : er H l b = none := if_pos h
theorem er_out {H : Hp} {l : List Addr} {b : Addr} (h : b ∉ l) : er H l b = H b := if_neg h
theorem er_same (H : Hp) (l : List Addr) : Same (er H l) H := fun b o e => by
  unfold er at e
  split at e
  · cases e
  · exact e
theorem HereL.call {H : Hp} {p : Addr} {n : Nat} {s : Sh} {as : List Addr} (h : HereL H p n s as) : HereB (er H (p :: as)) H p n s as := ⟨h, er_same _ _, er_in (by simp), fun a ha => er_in (by simp [ha])⟩
/-- behind a call that changes the lists: they stand, and all else stands and is still something else -/
structure Ret (H H' : Hp) (p : Addr) (as as' : List Addr) : Prop where
  oth : ∀ b o, H b = some o → b ≠ p → b ∉ as → H' b = some o ∧ b ∉ as'
theorem HereB.ret {H H' : Hp} {p : Addr} {n' : Nat} {s' : Sh} {as as' : List Addr} (r : HereB (er H (p :: as)) H' p n' s' as') : Ret H H' p as as' := by
  refine ⟨fun b o e h1 h2 => ?_⟩
  have eb : er H (p :: as) b = some o := by rw [er_out (by simp [h1, h2])]; exact e
  exact ⟨r.same _ _ eb, fun z => by have := r.outs b z; rw [eb] at this; cases this⟩
theorem HereL.row_lst {H : Hp} {p : Addr} {n : Nat} {s : Sh} {as : List Addr} (h : HereL H p n s as) {a : Addr} (ha : a ∈ as) : ∃ xs, H a = some (.lst xs) := by
  obtain ⟨i, hi, e⟩ := List.getElem_of_mem ha
  exact ⟨_, h.row i a (by rw [List.getElem?_eq_getElem hi, e])⟩
/-- tuples stand -/
theorem Ret.tup {H H' : Hp} {p : Addr} {n : Nat} {s : Sh} {as as' : List Addr} (r : Ret H H' p as as') (h : HereL H p n s as) {b : Addr} {xs : List V} (e : H b = some (.tup xs)) : H' b = some (.tup xs) := by
  refine (r.oth b _ e (fun z => ?_) (fun z => ?_)).1
  · subst z; rw [h.top] at e; cases e
  · obtain ⟨ys, e2⟩ := h.row_lst z
    rw [e2] at e; cases e
theorem HereL.fresh {H : Hp} {p b : Addr} {n : Nat} {s : Sh} {as : List Addr} (h : HereL H p n s as) (nb : H b = none) : b ≠ p ∧ b ∉ as :=
  ⟨ne_fresh h.top nb, fun z => by obtain ⟨ys, e2⟩ := h.row_lst z; rw [nb] at e2; cases e2⟩
/-! ### readings -/
/-- here[i][k] -/
theorem rd_here {σ : L2.St} {H : Hp} {Q : VK} {p : Addr} {n : Nat} {s : Sh} {as : List Addr} {i k : Nat} {ta tb tk : TE} {v : V} (S : HereL H p n s as) (hi : i < n) (hv : (ndV (s i))[k]? = some v)
    (ea : ∀ Q : VK, Q (.ref p) H → ta σ H Q) (eb : ∀ Q : VK, Q (.int (i : Int)) H → tb σ H Q) (ek : ∀ Q : VK, Q (.int (k : Int)) H → tk σ H Q) (q : Q v H) : tOp (rIxL K) (tOp (rIxL K) ta tb) tk σ H Q := by
  obtain ⟨a, _, hx, ha⟩ := S.at hi
  exact ea _ (eb _ (rd_ixL S.top hx (ek _ (rd_ixL ha hv q))))
theorem rd_slL {a : Addr} {xs : List V} {lo hi : Option Int} {H : Hp} {Q : VK} (ha : H a = some (.lst xs)) (q : ∀ r H', Same H H' → H r = none → H' r = some (.lst (cutV xs lo hi)) → Q (.ref r) H') : rSlL K (.ref a) lo hi H Q :=
  ⟨a, xs, rfl, SqL.of ha, fun p np => q p _ (same_new np) np upd_same⟩
/-- whether a house is a son of another one: x in here[p][1:3] -/
theorem rd_inSons {σ : L2.St} {H : Hp} {Q : VK} {p : Addr} {n : Nat} {s : Sh} {as : List Addr} {i x : Nat} {tx th ti t1 t3 : TE} (S : HereL H p n s as) (hi : i < n) (ex : ∀ Q : VK, Q (.int (x : Int)) H → tx σ H Q) (eh : ∀ Q : VK, Q (.ref p) H → th σ H Q) (ei : ∀ Q : VK, Q (.int (i : Int)) H → ti σ H Q)
    (e1 : ∀ Q : VK, Q (.int 1) H → t1 σ H Q) (e3 : ∀ Q : VK, Q (.int 3) H → t3 σ H Q) (q : ∀ H', Same H H' → Q (.bl ((s i).l == some x || (s i).r == some x)) H') : tOp (rIn K false) tx (tSl (rSlL K) (tOp (rIxL K) th ti) (tPart t1) (tPart t3)) σ H Q := by
  obtain ⟨a, _, hx, ha⟩ := S.at hi
  refine ex _ (eh _ (ei _ (rd_ixL S.top hx (e1 _ ⟨1, rfl, e3 _ ⟨3, rfl, rd_slL ha fun r H1 s1 nr h1 => ?_⟩⟩))))
  rw [cut_13] at h1
  refine ⟨r, _, rfl, .inl (SqL.of h1), rfl, ?_, qb ?_ (q H1 s1)⟩
  · rw [List.all_cons, List.all_cons, flat_ov, flat_ov]; rfl
  · exact in_sons (s i) x
def sp_q_is_son : Sp := fun vs H Q _ => ∃ (p : Addr) (n : Nat) (s : Sh) (as : List Addr) (x : Nat), vs = [.ref p, .int (x : Int)] ∧ HereL H p n s as ∧ x < n ∧ (∀ u, (s x).up = some u → u < n) ∧ ∀ H', Same H H' → Q (.bl (isSon s x)) H'
theorem ok_q_is_son (T : Txt K mg A) : FnOk P w K mg base CX0 1 A.f_q_is_son A.d_q_is_son ["_law_here", "_law_house"] sp_q_is_son := by
  refine T.f_q_is_son.ok sc_q_is_son (fun vs H Q E h => ?_) (fun cdv A' outer s H vs Q E hr h => ?_)
  · obtain ⟨p, n, s, as, x, rfl, _⟩ := h; rfl
  · obtain ⟨p, n, s, as, x, rfl, S, hx, hu, q⟩ := h
    refine ⟨_, (pss_cons (ps_set (i := 2) sc_q_is_son.nd rfl (Or.inl rfl) (pe_ix ix_list (pe_ix ix_list (pv 0) (pv 1) (fun _ _ => rfl)) pe_int (fun _ _ => rfl)))
      (pss_one (ps_ret (pe_and (pe_cmpR op_notN (pv 2) pe_non (nomark _)) (pe_one (pe_cmpR op_in_seq (pv 1) (pe_slice sl_list (pe_ix ix_list (pv 0) (pv 2) (fun _ _ => rfl)) (po_some pe_int) (po_some pe_int)) (by rfl))))))), ?_⟩
    refine rd_here (v := ov (s x).up) S hx (k := 0) rfl (ev_v rfl) (ev_v rfl) ev_k ?_
    refine ⟨_, rfl, rfl, _, rfl, iteB (fun c => ?_) (fun c => ?_)⟩
    · cases e : (s x).up with
      | none => rw [e] at c; cases c
      | some u =>
        refine rd_inSons S (hu u e) (ev_v rfl) (ev_v rfl) (ev_v rfl) ev_k ev_k fun H1 s1 => qb ?_ (q H1 s1)
        exact (isSon_at e).symm
    · have e : (s x).up = none := by
        cases e : (s x).up with
        | none => rfl
        | some p => rw [e] at c; cases c
      refine qb ?_ (q H (Same.refl H))
      unfold isSon
      rw [e]
def sp_q_side : Sp := fun vs H Q _ => ∃ (p : Addr) (n : Nat) (s : Sh) (as : List Addr) (x u : Nat), vs = [.ref p, .int (x : Int)] ∧ HereL H p n s as ∧ x < n ∧ (s x).up = some u ∧ u < n ∧ Q (.int (sideN ((s u).r == some x) : Int)) H
theorem ok_q_side (T : Txt K mg A) : FnOk P w K mg base CX0 1 A.f_q_side A.d_q_side ["_law_here", "_law_house"] sp_q_side := by
  refine T.f_q_side.ok sc_q_side (fun vs H Q E h => ?_) (fun cdv A' outer s H vs Q E hr h => ?_)
  · obtain ⟨p, n, s, as, x, u, rfl, _⟩ := h; rfl
  · obtain ⟨p, n, s, as, x, u, rfl, S, hx, eu, hu, q⟩ := h
    refine ⟨_, (pss_one (ps_ret (pe_ifExp (pt_cmpR op_eq (pe_ix ix_list (pe_ix ix_list (pv 0) (pe_ix ix_list (pe_ix ix_list (pv 0) (pv 1) (fun _ _ => rfl)) pe_int (fun _ _ => rfl)) (fun _ _ => rfl)) pe_int (fun _ _ => rfl)) (pv 1) (nomark _)) pe_int pe_int))), ?_⟩
    refine rd_here (v := ov (s u).r) S hu (k := 2) rfl (ev_v rfl) (fun Q' q' => rd_here (v := ov (s x).up) S hx (k := 0) rfl (ev_v rfl) (ev_v rfl) ev_k (by rw [eu]; exact q')) ev_k ?_
    refine ⟨_, rfl, scal_ov _ (some x), _, rfl, iteB (fun c => ?_) (fun c => ?_)⟩
    · have : (s u).r = some x := ov_int.mp (of_decide_eq_true c)
      rw [this, beq_self_eq_true] at q; exact q
    · have : (s u).r ≠ some x := fun z => of_decide_eq_false c (ov_int.mpr z)
      rw [show ((s u).r == some x) = false from by simpa using this] at q; exact q
/-- here[i][k] = e -/
theorem rd_setH {σ : L2.St} {H : Hp} {R : L2.St → Hp → Prop} {B : Hp} {p : Addr} {n : Nat} {s : Sh} {as : List Addr} {i k : Nat} {th ti tk : TE} {v : V} {d : Nd} (S : HereB B H p n s as) (hi : i < n) (hk : k < 6) (hv : (ndV (s i)).set k v = ndV d)
    (eh : ∀ Q : VK, Q (.ref p) H → th σ H Q) (ei : ∀ Q : VK, Q (.int (i : Int)) H → ti σ H Q) (ek : ∀ Q : VK, Q (.int (k : Int)) H → tk σ H Q) (q : ∀ H', HereB B H' p n (put s i d) as → R σ H') : gSub (tOp (rIxL K) th ti) tk rSetL v σ H R := by
  obtain ⟨a, e, hx, ha⟩ := S.here.at hi
  refine eh _ (ei _ (rd_ixL S.here.top hx (ek _ ⟨a, _, (k : Int), k, rfl, rfl, ha, ixN_nat hk, ?_⟩)))
  rw [hv]
  exact q _ (S.setRow e d)
end
end K13
namespace K13
open PySem PySem.Spec PyProof.Rows L2
section
variable {P : Program} {w : World} {K : PySem.W.Frag} {mg : Str → Option Value} {base : Heap} {A : Ad}
theorem HereB.grow {B H : Hp} {p t : Addr} {n : Nat} {s : Sh} {as : List Addr} {o : HO} (h : HereB B H p n s as) (nt : H t = none) : HereB (upd B t o) (upd H t o) p n s as := by
  have h1 := h.here.mono (same_new (o := o) nt)
  refine ⟨h1, fun b u e => ?_, ?_, fun a ha => ?_⟩
  · by_cases bt : b = t
    · subst bt; rw [upd_same] at e ⊢; exact e
    · rw [upd_ne bt] at e ⊢; exact h.same _ _ e
  · rw [upd_ne (ne_fresh h.here.top nt).symm]; exact h.out
  · obtain ⟨i, hi, e⟩ := List.getElem_of_mem ha
    have := h.here.row i a (by rw [List.getElem?_eq_getElem hi, e])
    rw [upd_ne (ne_fresh this nt).symm]; exact h.outs a ha
theorem HereB.shrink {B B1 H : Hp} {p : Addr} {n : Nat} {s : Sh} {as : List Addr} (h : HereB B1 H p n s as) (m : Same B B1) : HereB B H p n s as :=
  ⟨h.here, m.trans h.same, m.free h.out, fun a ha => m.free (h.outs a ha)⟩
theorem HereB.fresh {B H : Hp} {p b : Addr} {n : Nat} {s : Sh} {as : List Addr} (h : HereB B H p n s as) (nb : H b = none) : b ∉ as ∧ b ≠ p ∧ B b = none := by
  refine ⟨fun z => ?_, (ne_fresh h.here.top nb), h.same.free nb⟩
  obtain ⟨i, hi, e⟩ := List.getElem_of_mem z
  have := h.here.row i b (by rw [List.getElem?_eq_getElem hi, e])
  rw [nb] at this; cases this
theorem bl_ne (a b : Bool) : (!decide (V.bl a = V.bl b)) = (a != b) := by cases a <;> cases b <;> rfl
/-- the list of two lists -/
theorem rd_cat {σ : L2.St} {H : Hp} {Q : VK} {xs ys : List V} {ta tb : TE} (hl : xs.length + ys.length ≤ 1000) (ea : ∀ Q : VK, (∀ l H', Same H H' → H' l = some (.lst xs) → Q (.ref l) H') → ta σ H Q)
    (eb : ∀ H', Same H H' → ∀ Q : VK, (∀ l H'', Same H' H'' → H'' l = some (.lst ys) → Q (.ref l) H'') → tb σ H' Q) (q : ∀ l H', Same H H' → H l = none → H' l = some (.lst (xs ++ ys)) → Q (.ref l) H') : tOp rCat ta tb σ H Q :=
  ea _ fun l1 H1 s1 h1 => eb H1 s1 _ fun l2 H2 s2 h2 => ⟨l1, l2, xs, ys, rfl, rfl, s2 _ _ h1, h2, size64 hl, fun r nr => q r _ ((s1.trans s2).trans (same_new nr)) ((s1.trans s2).free nr) upd_same⟩
/-- the sons have got theirs -/
def gv (d : Nd) (s : Sh) (v : V) : Sh := match v with
  | .int c => given1 s c.toNat d
  | _ => s
theorem gv_ov (d : Nd) (s : Sh) (o : Option Nat) : gv d s (ov o) = givenO s o d := by cases o <;> rfl
def sp_q_hand_on : Sp := fun vs H Q _ => ∃ (B : Hp) (p : Addr) (n : Nat) (s : Sh) (x : Nat), vs = [.ref p, .int (x : Int)] ∧ HereAt B H p n s ∧ Ok n s ∧ x < n ∧ ∀ H', HereAt B H' p n (hand s x) → Q .non H'
theorem ok_q_hand_on (T : Txt K mg A) : FnOk P w K mg base CX0 1 A.f_q_hand_on A.d_q_hand_on ["_law_here", "_law_house"] sp_q_hand_on := by
  refine T.f_q_hand_on.ok sc_q_hand_on (fun vs H Q E h => ?_) (fun cdv A' outer s H vs Q E hr h => ?_)
  · obtain ⟨B, p, n, s, x, rfl, _⟩ := h; rfl
  · obtain ⟨B, p, n, s, x, rfl, ⟨as, S⟩, k, hx, q⟩ := h
    refine ⟨_, (pss_cons (ps_asg (pe_ix ix_list (pv 0) (pv 1) (fun _ _ => rfl)) (pg_unl rfl (pgs_cons (pg_name (i := 2) sc_q_hand_on.nd rfl (Or.inl rfl)) (pgs_cons (pg_name (i := 3) sc_q_hand_on.nd rfl (Or.inl rfl)) (pgs_cons (pg_name (i := 4) sc_q_hand_on.nd rfl (Or.inl rfl)) (pgs_cons (pg_name (i := 5) sc_q_hand_on.nd rfl (Or.inl rfl)) (pgs_cons (pg_name (i := 6) sc_q_hand_on.nd rfl (Or.inl rfl)) (pgs_cons (pg_name (i := 7) sc_q_hand_on.nd rfl (Or.inl rfl)) pgs_nil))))))))
      (pss_cons (ps_for PassesOwn.never rfl (pi_tup (pe_tup (pa_cons (pv 3) (pa_cons (pv 4) pa_nil)))) (pg_name (i := 8) sc_q_hand_on.nd rfl (Or.inl rfl))
      (pss_one (ps_if (pt_cmpR op_notN (pv 8) pe_non (nomark _)) (pss_cons (ps_asg (pe_cmpR op_ne (pe_ix ix_list (pe_ix ix_list (pv 0) (pv 8) (fun _ _ => rfl)) pe_int (fun _ _ => rfl)) (pv 5) (nomark _)) (pg_sub (pe_ix ix_list (pv 0) (pv 8) (fun _ _ => rfl)) pe_int set_list))
      (pss_one (ps_asg (pe_tup (pa_cons (pe_op op_add (pe_ix ix_list (pe_ix ix_list (pv 0) (pv 8) (fun _ _ => rfl)) pe_int (fun _ _ => rfl)) (pv 6)) (pa_cons (pe_op op_add (pe_ix ix_list (pe_ix ix_list (pv 0) (pv 8) (fun _ _ => rfl)) pe_int (fun _ _ => rfl)) (pv 6)) pa_nil))) (pg_tup rfl (pgs_cons (pg_sub (pe_ix ix_list (pv 0) (pv 8) (fun _ _ => rfl)) pe_int set_list) (pgs_cons (pg_sub (pe_ix ix_list (pv 0) (pv 8) (fun _ _ => rfl)) pe_int set_list) pgs_nil)))))) pss_nil)))
      (pss_one (ps_asg (pe_op op_cat (pe_op op_cat (pe_lst (pa_cons (pv 2) pa_nil)) (pe_ifExp (pt_val (pv 5)) (pe_lst (pa_cons (pv 4) (pa_cons (pv 3) pa_nil))) (pe_lst (pa_cons (pv 3) (pa_cons (pv 4) pa_nil))))) (pe_lst (pa_cons pe_bl (pa_cons pe_int (pa_cons (pv 7) pa_nil))))) (pg_sub (pv 0) (pv 1) set_list))))), ?_⟩
    obtain ⟨a, e, hxs, ha⟩ := S.here.at hx
    have nd := k.nd x
    rw [← hand_puts k x] at q
    refine rd_il S.here.top hxs (ev_v rfl) (ev_v rfl) ⟨a, ndV (s x), rfl, SqL.of ha, rfl, _, _, rfl, _, _, rfl, _, _, rfl, _, _, rfl, _, _, rfl, _, _, rfl, rfl, ?_⟩
    refine ⟨_, rfl, _, rfl, size64 (by show 2 ≤ 1000; decide), fun t nt => ⟨t, rfl, ⟨_, SqT.of upd_same⟩, ?_⟩⟩
    have S1 := S.grow (o := .tup [ov (s x).l, ov (s x).r]) nt
    have sB : Same B (upd B t (.tup [ov (s x).l, ov (s x).r])) := same_new (S.same.free nt)
    have hB : (upd B t (.tup [ov (s x).l, ov (s x).r])) t = some (.tup [ov (s x).l, ov (s x).r]) := upd_same
    generalize upd B t (.tup [ov (s x).l, ov (s x).r]) = B1 at S1 sB hB
    generalize s x = d at *
    refine for_tup (xs := [ov d.l, ov d.r]) (fun j σ H' => HereB B1 H' p n (([ov d.l, ov d.r].take j).foldl (gv d) s) as ∧ ∃ v, σ = [some (.ref p), some (.int (x : Int)), some (ov d.up), some (ov d.l), some (ov d.r), some (.bl d.t), some (.int d.a), some (.int d.v), v])
      ⟨S1, none, rfl⟩ (fun j σ H' _ z => SqT.of (z.1.same _ _ hB)) (fun j v σ H' hj z => ?_) (fun σ H' z => ?_)
    · obtain ⟨S2, v', rfl⟩ := z
      have et : ([ov d.l, ov d.r].take (j + 1)).foldl (gv d) s = gv d (([ov d.l, ov d.r].take j).foldl (gv d) s) v := by rw [List.take_add_one, hj, List.foldl_append]; rfl
      rw [et]
      obtain ⟨o, rfl, ho⟩ : ∃ o, v = ov o ∧ ∀ c, o = some c → c < n := by
        match j, hj with
        | 0, hj => cases hj; exact ⟨d.l, rfl, nd.l⟩
        | 1, hj => cases hj; exact ⟨d.r, rfl, nd.r⟩
        | j + 2, hj => cases hj
      rw [gv_ov]
      generalize (([ov d.l, ov d.r].take j).foldl (gv d) s) = s' at S2
      refine ⟨_, rfl, rfl, _, rfl, iteB (fun c => ?_) (fun c => ?_)⟩
      · cases o with
        | none => cases c
        | some i =>
          have hi := ho i rfl
          dsimp only [tSeq, tAsg, tNext, tIf, tOr, tAnd, tNot, tB, tTest, tCall, tIfS, tRet, tDrop]
          refine rd_op <| rd_here (v := .bl (s' i).t) S2.here hi (k := 3) rfl (ev_v rfl) (ev_v rfl) ev_k ?_
          refine ⟨_, rfl, rfl, ?_⟩
          refine rd_setH (k := 3) (d := { s' i with t := (s' i).t != d.t }) S2 hi (by decide) (by show (ndV (s' i)).set 3 (.bl (!decide (V.bl (s' i).t = V.bl d.t))) = _; rw [bl_ne]; rfl) (ev_v rfl) (ev_v rfl) ev_k fun H3 S3 => ?_
          dsimp only [tSeq, tAsg, tNext, tIf, tOr, tAnd, tNot, tB, tTest, tCall, tIfS, tRet, tDrop]
          dsimp only [tTup]
          refine rd_cons <| rd_op <| rd_here (v := .int (s' i).a) S3.here hi (k := 4) (by rw [put_same]; rfl) (ev_v rfl) (ev_v rfl) ev_k ?_
          refine ⟨_, rfl, _, _, rfl, rfl, ?_⟩
          refine rd_cons <| rd_op <| rd_here (v := .int (s' i).v) S3.here hi (k := 5) (by rw [put_same]; rfl) (ev_v rfl) (ev_v rfl) ev_k ?_
          refine ⟨_, rfl, _, _, rfl, rfl, ?_⟩
          refine ⟨size64 (by show 2 ≤ 1000; decide), fun t2 nt2 => ⟨t2, _, rfl, SqT.of upd_same, rfl, _, _, rfl, ?_⟩⟩
          have S4 := S3.mono (same_new (o := .tup [.int ((s' i).a + d.a), .int ((s' i).v + d.a)]) nt2)
          refine rd_setH (k := 4) (d := { s' i with t := (s' i).t != d.t, a := (s' i).a + d.a }) S4 hi (by decide) (by rw [put_same]; rfl) (ev_v rfl) (ev_v rfl) ev_k fun H5 S5 => ⟨_, _, rfl, ?_⟩
          refine rd_setH (k := 5) (d := { s' i with t := (s' i).t != d.t, a := (s' i).a + d.a, v := (s' i).v + d.a }) S5 hi (by decide) (by rw [put_same]; rfl) (ev_v rfl) (ev_v rfl) ev_k fun H6 S6 => ⟨rfl, ?_, _, rfl⟩
          rw [put_put, put_put] at S6
          exact S6
      · cases o with
        | none => exact ⟨S2, _, rfl⟩
        | some i => cases c
    · obtain ⟨S2, v', rfl⟩ := z
      have S3 := S2.shrink sB
      rw [show ([ov d.l, ov d.r].take ([ov d.l, ov d.r] : List V).length).foldl (gv d) s = givenO (givenO s d.l d) d.r d from by
        show gv d (gv d s (ov d.l)) (ov d.r) = _
        rw [gv_ov, gv_ov]] at S3
      generalize givenO (givenO s d.l d) d.r d = s3 at S3 q
      dsimp only [tSeq, tAsg, tNext, tIf, tOr, tAnd, tNot, tB, tTest, tCall, tIfS, tRet, tDrop]
      refine rd_cat (xs := [ov d.up, ov (handed d).l, ov (handed d).r]) (ys := [.bl false, .int 0, .int d.v]) (by show 6 ≤ 1000; decide) (fun Q' q' => rd_cat (xs := [ov d.up]) (ys := [ov (handed d).l, ov (handed d).r]) (by show 3 ≤ 1000; decide)
        (fun Q2 q2 => ⟨_, rfl, size64 (by show 1 ≤ 1000; decide), fun l nl => q2 l _ (same_new nl) upd_same⟩) (fun H5 s5 Q2 q2 => ?_) (fun l H6 s6 _ h6 => q' l H6 s6 h6)) (fun H5 s5 Q2 q2 => ?_) (fun b H6 s6 nb hb => ?_)
      · refine c_val (a := d.t) (ev_v rfl) _ (iteB (fun c => ?_) (fun c => ?_))
        · refine ⟨_, rfl, _, rfl, size64 (by show 2 ≤ 1000; decide), fun l nl => q2 l _ (same_new nl) ?_⟩
          rw [upd_same]; unfold handed; rw [c]; rfl
        · refine ⟨_, rfl, _, rfl, size64 (by show 2 ≤ 1000; decide), fun l nl => q2 l _ (same_new nl) ?_⟩
          rw [upd_same]; unfold handed; rw [c]; rfl
      · exact ⟨_, rfl, size64 (by show 3 ≤ 1000; decide), fun l nl => q2 l _ (same_new nl) upd_same⟩
      · obtain ⟨f1, f2, f3⟩ := S3.fresh nb
        have S4 := S3.mono s6
        refine ⟨_, rfl, _, rfl, p, _, (x : Int), x, rfl, rfl, S4.here.top, ixN_nat (by rw [List.length_map, S4.here.len]; exact hx), q _ ⟨_, S4.newRow (d := handed d) hx f1 f2 f3 hb⟩⟩
end
end K13
namespace K13
open PySem PySem.Spec PyProof.Rows L2
section
variable {P : Program} {w : World} {K : PySem.W.Frag} {mg : Str → Option Value} {base : Heap} {A : Ad}
theorem HereAt.at' {B H : Hp} {p : Addr} {n : Nat} {s : Sh} (h : HereAt B H p n s) : ∃ as, HereL H p n s as := let ⟨as, z⟩ := h; ⟨as, z.here⟩
/-- 2 if here[u][2] == x else 1 -/
theorem rd_side {σ : L2.St} {H : Hp} {Q : VK} {p : Addr} {n : Nat} {s : Sh} {as : List Addr} {u x : Nat} {th tu tx : TE} (S : HereL H p n s as) (hu : u < n) (eh : ∀ Q : VK, Q (.ref p) H → th σ H Q) (eu : ∀ Q : VK, Q (.int (u : Int)) H → tu σ H Q) (ex : ∀ Q : VK, Q (.int (x : Int)) H → tx σ H Q)
    (q : Q (.int (sideN ((s u).r == some x) : Int)) H) : tIf (tTest (tOp rEq (tOp (rIxL K) (tOp (rIxL K) th tu) (tC (.int 2))) tx)) (tC (.int 2)) (tC (.int 1)) σ H Q := by
  dsimp only [tIf, tTest, tOp]
  refine rd_here (v := ov (s u).r) S hu (k := 2) rfl eh eu ev_k (ex _ ⟨scal_ov _ (some x), _, rfl, iteB (fun c => ?_) (fun c => ?_)⟩)
  · have : (s u).r = some x := ov_int.mp (of_decide_eq_true c)
    rw [this, beq_self_eq_true] at q; exact q
  · have : (s u).r ≠ some x := fun z => of_decide_eq_false c (ov_int.mpr z)
    rw [show ((s u).r == some x) = false from by simpa using this] at q; exact q
def sp_q_turn_up : Sp := fun vs H Q _ => ∃ (B : Hp) (p : Addr) (n : Nat) (s : Sh) (x u : Nat), vs = [.ref p, .int (x : Int)] ∧ HereAt B H p n s ∧ Ok n s ∧ (s x).up = some u ∧ isSon s x = true ∧ ∀ H', HereAt B H' p n (turn s x) → Q .non H'
theorem ok_q_turn_up (T : Txt K mg A) : FnOk P w K mg base CX0 2 A.f_q_turn_up A.d_q_turn_up ["_law_here", "_law_house"] sp_q_turn_up := by
  refine T.f_q_turn_up.ok sc_q_turn_up (fun vs H Q E h => ?_) (fun cdv A' outer s H vs Q E hr h => ?_)
  · obtain ⟨B, p, n, s, x, u, rfl, _⟩ := h; rfl
  · obtain ⟨B, p, n, s, x, u, rfl, S0, k, e, hs, q⟩ := h
    refine ⟨_, (pss_cons (ps_set (i := 2) sc_q_turn_up.nd rfl (Or.inl rfl) (pe_ix ix_list (pe_ix ix_list (pv 0) (pv 1) (fun _ _ => rfl)) pe_int (fun _ _ => rfl)))
      (pss_cons (ps_expr (pe_call (ok_q_hand_on T) (hr.mono (by decide)) (by rfl) T.g_q_hand_on T.f_q_hand_on.kp T.b_q_hand_on .nil pass0 (pa_cons (pv 0) (pa_cons (pv 2) pa_nil))))
      (pss_cons (ps_expr (pe_call (ok_q_hand_on T) (hr.mono (by decide)) (by rfl) T.g_q_hand_on T.f_q_hand_on.kp T.b_q_hand_on .nil pass0 (pa_cons (pv 0) (pa_cons (pv 1) pa_nil))))
      (pss_cons (ps_par (i := 3) (j := 4) rfl sc_q_turn_up.nd rfl rfl (by decide) rfl rfl (pa_cons (pe_ix ix_list (pe_ix ix_list (pv 0) (pv 2) (fun _ _ => rfl)) pe_int (fun _ _ => rfl)) (pa_cons (pe_ifExp (pt_cmpR op_eq (pe_ix ix_list (pe_ix ix_list (pv 0) (pv 2) (fun _ _ => rfl)) pe_int (fun _ _ => rfl)) (pv 1) (nomark _)) pe_int pe_int) pa_nil)) (by rfl))
      (Evl.pss_cut (ps_if (PW.pt (pw_and (pt_cmpR op_notN (pv 3) pe_non (nomark _)) (pw_and1 (pt_cmpR op_in_seq (pv 2) (pe_slice sl_list (pe_ix ix_list (pv 0) (pv 3) (fun _ _ => rfl)) (po_some pe_int) (po_some pe_int)) (by rfl))))) (pss_one (ps_asg (pv 1) (pg_sub (pe_ix ix_list (pv 0) (pv 3) (fun _ _ => rfl)) (pe_ifExp (pt_cmpR op_eq (pe_ix ix_list (pe_ix ix_list (pv 0) (pv 3) (fun _ _ => rfl)) pe_int (fun _ _ => rfl)) (pv 2) (nomark _)) pe_int pe_int) set_list))) pss_nil)
      (pss_cons (ps_set (i := 5) sc_q_turn_up.nd rfl (Or.inl rfl) (pe_ix ix_list (pe_ix ix_list (pv 0) (pv 1) (fun _ _ => rfl)) (pe_op op_sub pe_int (pv 4)) (fun _ _ => rfl)))
      (pss_cons (ps_asg (pv 5) (pg_sub (pe_ix ix_list (pv 0) (pv 2) (fun _ _ => rfl)) (pv 4) set_list))
      (Evl.pss_cut (ps_if (pt_cmpR op_notN (pv 5) pe_non (nomark _)) (pss_one (ps_asg (pv 2) (pg_sub (pe_ix ix_list (pv 0) (pv 5) (fun _ _ => rfl)) pe_int set_list))) pss_nil)
      (pss_one (ps_asg (pe_tup (pa_cons (pv 2) (pa_cons (pv 3) (pa_cons (pv 1) pa_nil)))) (pg_tup rfl (pgs_cons (pg_sub (pe_ix ix_list (pv 0) (pv 1) (fun _ _ => rfl)) (pe_op op_sub pe_int (pv 4)) set_list) (pgs_cons (pg_sub (pe_ix ix_list (pv 0) (pv 1) (fun _ _ => rfl)) pe_int set_list) (pgs_cons (pg_sub (pe_ix ix_list (pv 0) (pv 2) (fun _ _ => rfl)) pe_int set_list) pgs_nil)))))))))))))), ?_⟩
    have hx := (k.lt e).1
    have hu := (k.lt e).2
    obtain ⟨as0, L0⟩ := S0.at'
    refine rd_here (v := ov (s x).up) L0 hx (k := 0) rfl (ev_v rfl) (ev_v rfl) ev_k ?_
    rw [e]
    refine ⟨_, rfl, _, rfl, B, p, n, s, u, rfl, S0, k, hu, fun H1 S1 => ?_⟩
    refine ⟨_, rfl, _, rfl, B, p, n, _, x, rfl, S1, hand_ok k u, hx, fun H2 S2 => ?_⟩
    rw [turn_eq k e hs] at q
    have e1 : ((hand (hand s u) x) x).up = some u := by rw [hand_up, hand_up]; exact e
    have hs1 : isSon (hand (hand s u) x) x = true := by rw [hand_isSon, hand_isSon]; exact hs
    have k1 := hand_ok (hand_ok k u) x
    clear S1 L0 S0
    generalize hand (hand s u) x = t at S2 e1 hs1 k1 q
    obtain ⟨as, S⟩ := S2
    have gx : (t u).up ≠ some x := fun z => not_down k1.ac (show U t x = some u from e1) (.step z (.refl _))
    dsimp only [tSeq, tAsg, tNext, tIf, tOr, tAnd, tNot, tB, tTest, tCall, tIfS, tRet, tDrop]
    dsimp only [tPar]
    refine rd_cons <| rd_here (v := ov (t u).up) S.here hu (k := 0) rfl (ev_v rfl) (ev_v rfl) ev_k ?_
    refine rd_cons <| rd_side (x := x) S.here hu (ev_v rfl) (ev_v rfl) (ev_v rfl) ?_
    refine ⟨_, _, rfl, ?_⟩
    refine ⟨fun σ H' => HereB B H' p n (turnG t x u (t u).up) as ∧ σ = [some (.ref p), some (.int (x : Int)), some (.int (u : Int)), some (ov (t u).up), some (.int (sideN ((t u).r == some x) : Int)), none], ?_, fun σ H3 z => ?_⟩
    · have skip : isSon t u = false → ∀ H', Same H2 H' → HereB B H' p n (turnG t x u (t u).up) as := fun c H' m => by
        have : turnG t x u (t u).up = t := by
          unfold turnG
          cases (t u).up with
          | none => rfl
          | some g => show (if isSon t u = true then _ else _) = _; rw [if_neg (by rw [c]; decide)]
        rw [this]; exact S.mono m
      refine ⟨_, rfl, rfl, _, rfl, iteB (fun c => ?_) (fun c => ?_)⟩
      · cases eg : (t u).up with
        | none => rw [eg] at c; cases c
        | some g =>
          have hg := (k1.lt eg).2
          refine rd_test <| rd_inSons S.here hg (ev_v rfl) (ev_v rfl) (ev_v rfl) ev_k ev_k fun H3 s3 => ⟨_, rfl, ?_⟩
          rw [← isSon_at eg]
          refine iteB (fun c => ?_) (fun c => ?_)
          · have S3 := S.mono s3
            refine ⟨_, rfl, ?_⟩
            have ek : ∀ Q : VK, Q (.int (sideN ((t g).r == some u) : Int)) H3 → tIf (tTest (tOp rEq (tOp (rIxL K) (tOp (rIxL K) (tVar 0) (tVar 3)) (tC (.int 2))) (tVar 2))) (tC (.int 2)) (tC (.int 1)) [some (.ref p), some (.int (x : Int)), some (.int (u : Int)), some (ov (some g)), some (.int (sideN ((t u).r == some x) : Int)), none] H3 Q := fun Q' q' =>
              rd_side (x := u) S3.here hg (ev_v rfl) (ev_v rfl) (ev_v rfl) q'
            refine rd_setH (v := .int (x : Int)) (k := sideN ((t g).r == some u)) (d := setS (t g) ((t g).r == some u) (some x)) S3 hg (sideN_lt _) (ndV_setS _ _ (some x)) (ev_v rfl) (ev_v rfl) ek fun H4 S4 => ⟨?_, rfl⟩
            show HereB B H4 p n (if isSon t u = true then _ else _) as
            rw [if_pos c]; exact S4
          · exact ⟨by have := skip c _ s3; rw [eg] at this; exact this, rfl⟩
      · refine ⟨skip ?_ _ (Same.refl _), rfl⟩
        have e0 : (t u).up = none := by
          cases e0 : (t u).up with
          | none => rfl
          | some p => rw [e0] at c; cases c
        unfold isSon; rw [e0]
    · obtain ⟨S3, rfl⟩ := z
      unfold turnPuts turnLow at q
      have hb : ∀ c, getS ((turnG t x u (t u).up) x) (!((t u).r == some x)) = some c → c < n := fun c h => by
        rw [turnG_at gx] at h
        cases z : (t u).r == some x
        · rw [z] at h; exact (k1.nd x).r c h
        · rw [z] at h; exact (k1.nd x).l c h
      have ux : u ≠ x := up_ne k1.ac e1
      generalize turnG t x u (t u).up = s2' at S3 q hb
      generalize (t u).up = g at q
      generalize ((t u).r == some x) = rt at q hb
      have e3 : (3 : Int) - (sideN rt : Int) = (sideN (!rt) : Int) := by cases rt <;> rfl
      dsimp only [tSeq, tAsg, tNext, tIf, tOr, tAnd, tNot, tB, tTest, tCall, tIfS, tRet, tDrop]
      refine rd_here (v := ov (getS (s2' x) (!rt))) S3.here hx (k := sideN (!rt)) (ndV_getS _ _) (ev_v rfl) (ev_v rfl) (ev_sub ev_k (ev_v rfl) e3) ?_
      refine ⟨_, rfl, ?_⟩
      refine rd_setH (v := ov (getS (s2' x) (!rt))) (k := sideN rt) (d := setS (s2' u) rt (getS (s2' x) (!rt))) S3 hu (sideN_lt _) (ndV_setS _ _ _) (ev_v rfl) (ev_v rfl) (ev_v rfl) fun H4 S4 => ?_
      refine ⟨fun σ H' => HereB B H' p n (midPut (put s2' u (setS (s2' u) rt (getS (s2' x) (!rt)))) (getS (s2' x) (!rt)) u) as ∧
        ∃ v, σ = [some (.ref p), some (.int (x : Int)), some (.int (u : Int)), some (ov g), some (.int (sideN rt : Int)), v], ?_, fun σ H5 z => ?_⟩
      · generalize getS (s2' x) (!rt) = m at S4 hb
        refine ⟨_, rfl, rfl, _, rfl, iteB (fun c => ?_) (fun c => ?_)⟩
        · cases m with
          | none => cases c
          | some c' =>
            refine ⟨_, rfl, ?_⟩
            exact rd_setH (v := .int (u : Int)) (k := 0) (d := { (put s2' u (setS (s2' u) rt (some c'))) c' with up := some u }) S4 (hb c' rfl) (by decide) (ndV_setU _ (some u)) (ev_v rfl) (ev_v rfl) ev_k fun H5 S5 => ⟨S5, _, rfl⟩
        · cases m with
          | none => exact ⟨S4, _, rfl⟩
          | some c' => cases c
      · obtain ⟨S5, v, rfl⟩ := z
        rw [turnFin_comm ux] at q
        generalize (midPut (put s2' u (setS (s2' u) rt (getS (s2' x) (!rt)))) (getS (s2' x) (!rt)) u) = s4 at S5 q
        refine ⟨_, rfl, _, rfl, _, rfl, size64 (by show 3 ≤ 1000; decide), fun t3 nt3 => ⟨t3, _, rfl, SqT.of upd_same, rfl, _, _, rfl, ?_⟩⟩
        have S6 := S5.mono (same_new (o := .tup [.int (u : Int), ov g, .int (x : Int)]) nt3)
        refine rd_setH (v := .int (u : Int)) (k := sideN (!rt)) (d := setS (s4 x) (!rt) (some u)) S6 hx (sideN_lt _) (ndV_setS _ _ (some u)) (ev_v rfl) (ev_v rfl) (ev_sub ev_k (ev_v rfl) e3) fun H7 S7 => ⟨_, _, rfl, ?_⟩
        refine rd_setH (v := ov g) (k := 0) (d := { (put s4 x (setS (s4 x) (!rt) (some u))) x with up := g }) S7 hx (by decide) (ndV_setU _ g) (ev_v rfl) (ev_v rfl) ev_k fun H8 S8 => ⟨_, _, rfl, ?_⟩
        refine rd_setH (v := .int (x : Int)) (k := 0) (d := { (put s4 x (setS (s4 x) (!rt) (some u))) u with up := some x }) S8 hu (by decide) (by rw [put_ne ux]; exact ndV_setU _ (some x)) (ev_v rfl) (ev_v rfl) ev_k fun H9 S9 => ⟨rfl, q H9 ⟨as, ?_⟩⟩
        exact S9
end
end K13
namespace K13
open PySem PySem.Spec PyProof.Rows L2
section
variable {P : Program} {w : World} {K : PySem.W.Frag} {mg : Str → Option Value} {base : Heap} {A : Ad}
theorem HereL.tops {H : Hp} {p : Addr} {n : Nat} {s : Sh} {as : List Addr} (S : HereL H p n s as) : ∃ xs : List V, H p = some (.lst xs) ∧ n = xs.length := ⟨_, S.top, by rw [List.length_map, S.len]⟩
def sp_q_step_up : Sp := fun vs H Q _ => ∃ (B : Hp) (p : Addr) (n : Nat) (s : Sh) (x : Nat), vs = [.ref p, .int (x : Int)] ∧ HereAt B H p n s ∧ n ≤ 64 ∧ Ok n s ∧ x < n ∧ ∀ H', HereAt B H' p n (steps n s x).1 → Q (.int ((steps n s x).2 : Int)) H'
theorem ok_q_step_up (T : Txt K mg A) : FnOk P w K mg base CX0 3 A.f_q_step_up A.d_q_step_up ["_law_here", "_law_house"] sp_q_step_up := by
  refine T.f_q_step_up.ok sc_q_step_up (fun vs H Q E h => ?_) (fun cdv A' outer s H vs Q E hr h => ?_)
  · obtain ⟨B, p, n, s, x, rfl, _⟩ := h; rfl
  · obtain ⟨B, p, n, s, x, rfl, S0, n2, k, hx, q⟩ := h
    refine ⟨_, (pss_cons (ps_set (i := 2) sc_q_step_up.nd rfl (Or.inl rfl) pe_int)
      (pss_cons (ps_for PassesOwn.never rfl (pi_range1 (by rfl) T.z_range (pa_cons (pe_callB call_len_seq (by rfl) T.z_len PySem.boot_len (pa_cons (pv 0) pa_nil)) pa_nil)) (pg_name (i := 3) sc_q_step_up.nd rfl (Or.inl rfl))
      (pss_one (ps_if (pt_val (pe_call (ok_q_is_son T) (hr.mono (by decide)) (by rfl) T.g_q_is_son T.f_q_is_son.kp T.b_q_is_son .nil pass0 (pa_cons (pv 0) (pa_cons (pv 1) pa_nil)))) (pss_cons (ps_par (i := 2) (j := 4) rfl sc_q_step_up.nd rfl rfl (by decide) rfl rfl (pa_cons (pe_op op_add (pv 2) pe_int) (pa_cons (pe_ix ix_list (pe_ix ix_list (pv 0) (pv 1) (fun _ _ => rfl)) pe_int (fun _ _ => rfl)) pa_nil)) (by rfl))
      (Evl.pss_cut (ps_if (pt_val (pe_call (ok_q_is_son T) (hr.mono (by decide)) (by rfl) T.g_q_is_son T.f_q_is_son.kp T.b_q_is_son .nil pass0 (pa_cons (pv 0) (pa_cons (pv 4) pa_nil)))) (pss_one (ps_expr (pe_call (ok_q_turn_up T) (hr.mono (by decide)) (by rfl) T.g_q_turn_up T.f_q_turn_up.kp T.b_q_turn_up .nil pass0 (pa_cons (pv 0) (pa_cons (pe_ifExp (pt_cmpR op_eq (pe_call (ok_q_side T) (hr.mono (by decide)) (by rfl) T.g_q_side T.f_q_side.kp T.b_q_side .nil pass0 (pa_cons (pv 0) (pa_cons (pv 4) pa_nil))) (pe_call (ok_q_side T) (hr.mono (by decide)) (by rfl) T.g_q_side T.f_q_side.kp T.b_q_side .nil pass0 (pa_cons (pv 0) (pa_cons (pv 1) pa_nil))) (nomark _)) (pv 4) (pv 1)) pa_nil))))) pss_nil)
      (pss_one (ps_expr (pe_call (ok_q_turn_up T) (hr.mono (by decide)) (by rfl) T.g_q_turn_up T.f_q_turn_up.kp T.b_q_turn_up .nil pass0 (pa_cons (pv 0) (pa_cons (pv 1) pa_nil))))))) pss_nil)))
      (pss_one (ps_ret (pv 2))))), ?_⟩
    obtain ⟨as0, L0⟩ := S0.at'
    obtain ⟨xs, ht, hl⟩ := L0.tops
    refine ⟨_, rfl, p, xs, rfl, .inl (SqL.of ht), (xs.length : Int), rfl, (range_len (by omega)).1, (range_len (by omega)).2, ?_⟩
    clear ht
    subst hl
    refine for_range (lo := 0) (n := xs.length) (fun i σ H' => ∃ (s' : Sh) (c : Nat) (v3 v4 : Option V), HereAt B H' p xs.length s' ∧ Ok xs.length s' ∧ (steps (xs.length - i) s' x).1 = (steps xs.length s x).1 ∧ c + (steps (xs.length - i) s' x).2 = (steps xs.length s x).2 ∧ σ = [some (.ref p), some (.int (x : Int)), some (.int (c : Int)), v3, v4])
      ⟨s, 0, none, none, S0, k, rfl, Nat.zero_add _, rfl⟩ (fun i σ H' hi z => ?_) (fun σ H' z => ?_)
    · obtain ⟨s', c, v3, v4, S1, ok, e1, e2, rfl⟩ := z
      obtain ⟨m, hm⟩ : ∃ m, xs.length - i = m + 1 := ⟨xs.length - i - 1, by omega⟩
      have hm' : xs.length - (i + 1) = m := by omega
      rw [hm] at e1 e2
      obtain ⟨as1, L1⟩ := S1.at'
      refine ⟨_, rfl, _, rfl, p, xs.length, s', as1, x, rfl, L1, hx, fun u e => (ok.lt e).2, fun H1 m1 => ⟨_, rfl, iteB (fun b => ?_) (fun b => ?_)⟩⟩
      · rw [steps_son b] at e1 e2
        obtain ⟨u, eu⟩ := son_up b
        have hu := (ok.lt eu).2
        have S2 := S1.mono m1
        have L2' := L1.mono m1
        dsimp only [tSeq, tAsg, tNext, tIf, tOr, tAnd, tNot, tB, tTest, tCall, tIfS, tRet, tDrop]
        dsimp only [tPar]
        refine rd_cons <| ev_add (ev_v rfl) ev_k rfl _ ?_
        refine rd_cons <| rd_here (v := ov (s' x).up) L2' hx (k := 0) rfl (ev_v rfl) (ev_v rfl) ev_k ?_
        rw [eu]
        refine ⟨_, _, rfl, ?_⟩
        have est : step s' x = (if isSon s' u = true then turn (turn s' (if sideR s' u == sideR s' x then u else x)) x else turn s' x) := by unfold step; rw [eu]
        refine ⟨fun σ H' => ∃ s2 u2, HereAt B H' p xs.length s2 ∧ Ok xs.length s2 ∧ (s2 x).up = some u2 ∧ isSon s2 x = true ∧ turn s2 x = step s' x ∧ ∃ v, σ = [some (.ref p), some (.int (x : Int)), some (.int ((c : Int) + 1)), v, some (.int (u : Int))], ?_, fun σ H3 z => ?_⟩
        · refine ⟨_, rfl, _, rfl, p, xs.length, s', as1, u, rfl, L2', hu, fun g e => (ok.lt e).2, fun H2 m2 => ⟨_, rfl, iteB (fun b2 => ?_) (fun b2 => ?_)⟩⟩
          · rw [if_pos b2] at est
            obtain ⟨g, eg⟩ := son_up b2
            have S3 := S2.mono m2
            have L3 := L2'.mono m2
            rw [sideR_at eu, sideR_at eg] at est
            have turned : ∀ f : Nat, f = (if ((s' g).r == some u) == ((s' u).r == some x) then u else x) → ∀ Q' : V → Hp → Prop, (∀ H', (∃ s2 u2, HereAt B H' p xs.length s2 ∧ Ok xs.length s2 ∧ (s2 x).up = some u2 ∧ isSon s2 x = true ∧ turn s2 x = step s' x) → Q' .non H') → sp_q_turn_up ([.ref p, .int (f : Int)] ++ []) H2 Q' E0 := fun f ef Q' q' => by
              rw [← ef] at est
              have hf : ∃ u, (s' f).up = some u ∧ isSon s' f = true ∧ isSon (turn s' f) x = true ∧ Ok xs.length (turn s' f) := by
                rw [ef]
                split
                · obtain ⟨m, T⟩ := turn_of ok eg b2
                  have xg : x ≠ g := fun z => by subst z; exact not_down ok.ac (show U s' x = some u from eu) (.step (show U s' u = some x from eg) (.refl _))
                  exact ⟨g, eg, b2, (T.son x (up_ne ok.ac eu).symm xg).trans b, T.ok⟩
                · obtain ⟨m, T⟩ := turn_of ok eu b
                  exact ⟨u, eu, b, T.sonx.trans b2, T.ok⟩
              obtain ⟨u1, eu1, su, sx, okf⟩ := hf
              obtain ⟨u2, eu2⟩ := son_up sx
              exact ⟨B, p, xs.length, s', f, u1, rfl, S3, ok, eu1, su, fun H' z => q' H' ⟨_, u2, z, okf, eu2, sx, est.symm⟩⟩
            refine ⟨_, rfl, ?_⟩
            refine ⟨_, rfl, _, rfl, p, xs.length, s', as1, u, g, rfl, L3, hu, eg, (ok.lt eg).2, ?_⟩
            refine ⟨_, rfl, _, rfl, p, xs.length, s', as1, x, u, rfl, L3, hx, eu, hu, ?_⟩
            refine ⟨rfl, _, rfl, iteB (fun d => ?_) (fun d => ?_)⟩
            · refine ⟨_, rfl, rd_nil <| turned u ?_ _ fun H' ⟨s2, u2, z1, z2, z3, z4, z5⟩ => ⟨s2, u2, z1, z2, z3, z4, z5, _, rfl⟩⟩
              have : ((s' g).r == some u) = ((s' u).r == some x) := by
                have := of_decide_eq_true d
                revert this
                cases (s' g).r == some u <;> cases (s' u).r == some x <;> decide
              rw [this]; simp
            · refine ⟨_, rfl, rd_nil <| turned x ?_ _ fun H' ⟨s2, u2, z1, z2, z3, z4, z5⟩ => ⟨s2, u2, z1, z2, z3, z4, z5, _, rfl⟩⟩
              have : ((s' g).r == some u) ≠ ((s' u).r == some x) := fun z => of_decide_eq_false d (by rw [z])
              rw [if_neg (by simpa using this)]
          · rw [if_neg (by rw [b2]; decide)] at est
            exact ⟨s', u, S2.mono m2, ok, eu, b, est.symm, _, rfl⟩
        · obtain ⟨s2, u2, z1, z2, z3, z4, z5, v, rfl⟩ := z
          refine ⟨_, rfl, _, rfl, B, p, xs.length, s2, x, u2, rfl, z1, z2, z3, z4, fun H4 S4 => ⟨step s' x, c + 1, _, _, ?_, step_ok ok b, ?_, ?_, rfl⟩⟩
          · rw [← z5]; exact S4
          · rw [hm']; exact e1
          · rw [hm']; omega
      · rw [steps_top b] at e1 e2
        refine ⟨s', c, _, _, S1.mono m1, ok, ?_, ?_, rfl⟩
        · rw [hm', steps_top b]; exact e1
        · rw [hm', steps_top b]; exact e2
    · obtain ⟨s', c, v3, v4, S1, ok, e1, e2, rfl⟩ := z
      rw [Nat.sub_self] at e1 e2
      refine ⟨_, rfl, ?_⟩
      have e1 : s' = (steps xs.length s x).1 := e1
      have e2 : c = (steps xs.length s x).2 := e2
      rw [e2]
      exact q H' (by rw [← e1]; exact S1)
end
end K13
namespace K13
open PySem PySem.Spec PyProof.Rows L2
section
variable {P : Program} {w : World} {K : PySem.W.Frag} {mg : Str → Option Value} {base : Heap} {A : Ad}
/-- what a walker still adds -/
noncomputable def addA (U : Upf) (o : Option Nat) (h : Nat) : Nat := match o with
  | none => 0
  | some y => ind (Anc U y h)
theorem addA_step {U : Upf} (ac : Acyc U) (y h : Nat) : addA U (some y) h = (if h = y then 1 else 0) + addA U (U y) h := by
  show ind (Anc U y h) = _
  rw [ind_up ac]
  unfold addA
  cases U y <;> rfl
def sp_q_weights : Sp := fun vs H Q _ => ∃ (p : Addr) (n : Nat) (s : Sh) (as : List Addr), vs = [.ref p] ∧ HereL H p n s as ∧ n ≤ 64 ∧ Ok n s ∧ ∀ q H', Same H H' → H q = none → H' q = some (.lst (natsV n (W n s))) → Q (.ref q) H'
theorem ok_q_weights (T : Txt K mg A) : FnOk P w K mg base CX0 1 A.f_q_weights A.d_q_weights ["_law_here"] sp_q_weights := by
  refine T.f_q_weights.ok sc_q_weights (fun vs H Q E h => ?_) (fun cdv A' outer s H vs Q E hr h => ?_)
  · obtain ⟨p, n, s, as, rfl, _⟩ := h; rfl
  · obtain ⟨p, n, s, as, rfl, S, n2, k, q⟩ := h
    obtain ⟨xs, ht, hl⟩ := S.tops
    subst hl
    refine ⟨_, (pss_cons (ps_set (i := 1) sc_q_weights.nd rfl (Or.inl rfl) (pe_op op_rep (pe_lst (pa_cons pe_int pa_nil)) (pe_callB call_len_seq (by rfl) T.z_len PySem.boot_len (pa_cons (pv 0) pa_nil))))
      (pss_cons (ps_for PassesOwn.never rfl (pi_range1 (by rfl) T.z_range (pa_cons (pe_callB call_len_seq (by rfl) T.z_len PySem.boot_len (pa_cons (pv 0) pa_nil)) pa_nil)) (pg_name (i := 2) sc_q_weights.nd rfl (Or.inl rfl))
      (pss_cons (ps_set (i := 3) sc_q_weights.nd rfl (Or.inl rfl) (pv 2))
      (pss_one (ps_for PassesOwn.never rfl (pi_range1 (by rfl) T.z_range (pa_cons (pe_callB call_len_seq (by rfl) T.z_len PySem.boot_len (pa_cons (pv 0) pa_nil)) pa_nil)) (pg_name (i := 4) sc_q_weights.nd rfl (Or.inl rfl))
      (pss_one (ps_if (pt_cmpR op_notN (pv 3) pe_non (nomark _)) (pss_cons (ps_asg (pe_op op_add (pe_ix ix_list (pv 1) (pv 3) (fun _ _ => rfl)) pe_int) (pg_sub (pv 1) (pv 3) set_list))
      (pss_one (ps_set (i := 3) sc_q_weights.nd rfl (Or.inl rfl) (pe_ix ix_list (pe_ix ix_list (pv 0) (pv 3) (fun _ _ => rfl)) pe_int (fun _ _ => rfl))))) pss_nil))))))
      (pss_one (ps_ret (pv 1))))), ?_⟩
    refine rd_repl (n := xs.length) (k := 0) n2 (fun H' s' Q' q' => ⟨_, rfl, p, xs, rfl, .inl (SqL.of (s' _ _ ht)), q'⟩) fun pf H1 nf s1 h1 => ?_
    refine ⟨_, rfl, p, xs, rfl, .inl (SqL.of (s1 _ _ ht)), (xs.length : Int), rfl, (range_len n2).1, (range_len n2).2, ?_⟩
    refine for_range (lo := 0) (n := xs.length) (fun i σ H' => Same H H' ∧ H' pf = some (.lst (natsV xs.length fun h => sumF i fun g => ind (Anc (U s) g h))) ∧ ∃ v2 v3 v4, σ = [some (.ref p), some (.ref pf), v2, v3, v4])
      ⟨s1, by rw [h1]; rfl, none, none, none, rfl⟩ (fun i σ H' hi z => ?_) (fun σ H' z => ?_)
    · obtain ⟨s2, hf, v2, v3, v4, rfl⟩ := z
      refine ⟨_, rfl, _, rfl, p, xs, rfl, .inl (SqL.of (s2 _ _ ht)), (xs.length : Int), rfl, (range_len n2).1, (range_len n2).2, ?_⟩
      rw [Int.zero_add]
      refine for_range (lo := 0) (n := xs.length) (fun t σ H' => Same H H' ∧ ∃ (f : Nat → Nat) (o : Option Nat), H' pf = some (.lst (natsV xs.length f)) ∧ (∀ h, h < xs.length → f h + addA (U s) o h = sumF (i + 1) fun g => ind (Anc (U s) g h)) ∧ (∀ y, o = some y → y < xs.length ∧ t + W xs.length s i ≤ W xs.length s y) ∧
          ∃ v4, σ = [some (.ref p), some (.ref pf), some (.int (i : Int)), some (ov o), v4])
        ⟨s2, _, some i, hf, fun h hh => (sumF_succ _ _).symm, fun y e => by cases e; exact ⟨hi, by omega⟩, _, rfl⟩ (fun t σ H2 ht' z => ?_) (fun σ H2 z => ?_)
      · obtain ⟨s3, f, o, hf3, ef, hy, v4, rfl⟩ := z
        refine ⟨_, rfl, rfl, _, rfl, iteB (fun c => ?_) (fun c => ?_)⟩
        · cases o with
          | none => cases c
          | some y =>
            obtain ⟨hyn, hw⟩ := hy y rfl
            dsimp only [tSeq, tAsg, tNext, tIf, tOr, tAnd, tNot, tB, tTest, tCall, tIfS, tRet, tDrop]
            refine rd_op <| rd_il (k := y) (v := .int ((f y : Nat) : Int)) hf3 (natsV_get f hyn) (ev_v rfl) (ev_v rfl) ?_
            refine ⟨_, _, rfl, rfl, _, rfl, _, rfl, pf, _, (y : Int), y, rfl, rfl, hf3, ixN_nat (by rw [natsV_len]; exact hyn), ?_⟩
            have s4 : Same H (upd H2 pf (.lst (natsV xs.length fun j => if j = y then f y + 1 else f j))) := Same.mut s3 nf
            have h4 : (upd H2 pf (.lst (natsV xs.length fun j => if j = y then f y + 1 else f j))) pf = some (.lst (natsV xs.length fun j => if j = y then f y + 1 else f j)) := upd_same
            dsimp only
            rw [show (V.int (((f y : Nat) : Int) + 1)) = V.int ((f y + 1 : Nat) : Int) from rfl, natsV_set]
            generalize upd H2 pf (.lst (natsV xs.length fun j => if j = y then f y + 1 else f j)) = H4 at s4 h4
            refine rd_here (v := ov (s y).up) (S.mono s4) hyn (k := 0) rfl (ev_v rfl) (ev_v rfl) ev_k ?_
            refine ⟨s4, _, (s y).up, h4, fun h hh => ?_, fun z ez => ?_, _, rfl⟩
            · have := ef h hh
              rw [addA_step k.ac, show U s y = (s y).up from rfl] at this
              by_cases e : h = y
              · subst e; rw [if_pos rfl] at this ⊢; omega
              · rw [if_neg e] at this ⊢; omega
            · have := W_up k ez
              exact ⟨(k.lt ez).2, by omega⟩
        · cases o with
          | some y => cases c
          | none => exact ⟨s3, f, none, hf3, ef, fun y e => (by cases e), _, rfl⟩
      · obtain ⟨s3, f, o, hf3, ef, hy, v4, rfl⟩ := z
        cases o with
        | some y =>
          have h1 := (hy y rfl).2
          have h2 := W_le xs.length s y
          have h3 := W_pos (s := s) hi
          omega
        | none => exact ⟨s3, by rw [hf3]; exact congrArg (fun y => some (HO.lst y)) (natsV_congr fun h hh => ef h hh), _, _, _, rfl⟩
    · obtain ⟨s2, hf, v2, v3, v4, rfl⟩ := z
      exact ⟨_, rfl, q pf H' s2 nf hf⟩
def sp_q_rank : Sp := fun vs H Q _ => ∃ k : Nat, vs = [.int (k : Int)] ∧ k ≤ 64 ∧ Q (.int (lg k : Nat)) H
theorem ok_q_rank (T : Txt K mg A) : FnOk P w K mg base CX0 1 A.f_q_rank A.d_q_rank ["_law_number"] sp_q_rank := by
  refine T.f_q_rank.ok sc_q_rank (fun vs H Q E h => ?_) (fun cdv A' outer s H vs Q E hr h => ?_)
  · obtain ⟨k, rfl, _⟩ := h; rfl
  · obtain ⟨k, rfl, k2, q⟩ := h
    refine ⟨_, (pss_cons (ps_set (i := 1) sc_q_rank.nd rfl (Or.inl rfl) pe_int)
      (pss_cons (ps_for PassesOwn.never rfl (pi_range1 (by rfl) T.z_range (pa_cons pe_int pa_nil)) (pg_name (i := 2) sc_q_rank.nd rfl (Or.inl rfl))
      (pss_one (ps_if (pt_cmpR op_gt (pv 0) pe_int (nomark _)) (pss_one (ps_par (i := 1) (j := 0) rfl sc_q_rank.nd rfl rfl (by decide) rfl rfl (pa_cons (pe_op op_add (pv 1) pe_int) (pa_cons (pe_op op_fdiv (pv 0) pe_int) pa_nil)) (by rfl))) pss_nil)))
      (pss_one (ps_ret (pv 1))))), ?_⟩
    refine ⟨80, rfl, by decide, by decide, ?_⟩
    refine for_range (lo := 0) (n := 80) (fun i σ H' => H' = H ∧ ∃ (m f : Nat) (v : Option V), f + lg m = lg k ∧ (m ≤ 1 ∨ m + i ≤ 64) ∧ σ = [some (.int (m : Int)), some (.int (f : Int)), v])
      ⟨rfl, k, 0, none, Nat.zero_add _, .inr k2, rfl⟩ (fun i σ H' hi z => ?_) (fun σ H' z => ?_)
    · obtain ⟨rfl, m, f, v, ef, hm, rfl⟩ := z
      refine ⟨_, rfl, _, _, rfl, rfl, _, rfl, iteB (fun c => ?_) (fun c => ?_)⟩
      · have c : 1 < m := by have := of_decide_eq_true c; omega
        refine ⟨_, rfl, _, _, rfl, rfl, _, rfl, _, _, rfl, rfl, ⟨by decide, by decide⟩, _, _, rfl, rfl, m / 2, f + 1, some (.int ((0 : Int) + (i : Int))), ?_, (by omega), ?_⟩
        · rw [lg_half c] at ef; omega
        · show [some (V.int ((m : Int) / 2)), some (V.int ((f : Int) + 1)), some (V.int ((0 : Int) + (i : Int)))] = _
          rw [show ((m : Int) / 2) = ((m / 2 : Nat) : Int) from by omega]
          rfl
      · have c : m ≤ 1 := by have := of_decide_eq_false c; omega
        exact ⟨rfl, m, f, _, ef, .inl c, rfl⟩
    · obtain ⟨rfl, m, f, v, ef, hm, rfl⟩ := z
      rw [lg_low (by omega), Nat.add_zero] at ef
      refine ⟨_, rfl, ?_⟩
      rw [ef]; exact q
def sp_q_potential : Sp := fun vs H Q _ => ∃ (p : Addr) (n : Nat) (s : Sh) (as : List Addr), vs = [.ref p] ∧ HereL H p n s as ∧ n ≤ 64 ∧ Ok n s ∧ ∀ H', Same H H' → Q (.int ((Phi n (U s) : Nat) : Int)) H'
theorem ok_q_potential (T : Txt K mg A) : FnOk P w K mg base CX0 2 A.f_q_potential A.d_q_potential ["_law_here"] sp_q_potential := by
  refine T.f_q_potential.ok sc_q_potential (fun vs H Q E h => ?_) (fun cdv A' outer s H vs Q E hr h => ?_)
  · obtain ⟨p, n, s, as, rfl, _⟩ := h; rfl
  · obtain ⟨p, n, s, as, rfl, S, n2, k, q⟩ := h
    refine ⟨_, (pss_one (ps_ret (pe_callB (cr_sum rfl) (by rfl) T.z_sum (by decide +kernel) (pa_cons (pe_lc (own := [("_law_weight", 1)]) (g := gName 1) (tt := tYes) (by rfl) sc_q_potential.nd (pi_list (pe_call (ok_q_weights T) (hr.mono (by decide)) (by rfl) T.g_q_weights T.f_q_weights.kp T.b_q_weights .nil pass0 (pa_cons (pv 0) pa_nil))) (blkOk_by (own := [("_law_weight", 1)]) (N := ns_q_potential) (sc := defScope st_q_potential) (by decide +kernel)) (fun _ _ _ _ _ => pg_name (i := 1) sc_q_potential.nd rfl (Or.inl rfl)) (fun _ _ _ _ _ => pts_nil) (fun _ _ _ _ _ => (pe_call (ok_q_rank T) (hr.mono (by decide)) (by rfl) T.g_q_rank T.f_q_rank.kp T.b_q_rank .nil pass0 (pa_cons (pv 1) pa_nil)))) pa_nil)))), ?_⟩
    refine ⟨_, rfl, p, n, s, as, rfl, S, n2, k, fun r H1 s1 nr h1 => ⟨r, rfl, ⟨_, SqL.of h1⟩, fun D nD => ?_⟩⟩
    refine lc_list (xs := natsV n (W n s)) (fun j H' => Same H1 H' ∧ H' D = some (.lst (natsV j fun i => lg (W n s i)))) ⟨same_new nD, upd_same⟩ (fun j H' _ z => SqL.of (z.1 _ _ h1)) (fun j x H' hj z => ?_) (fun H' z => rd_nil ?_)
    · have hjn : j < n := by have := (List.getElem?_eq_some_iff.mp hj).1; rw [natsV_len] at this; exact this
      rw [natsV_get _ hjn] at hj; cases hj
      have wl := W_le n s j
      refine ⟨rfl, rd_yes (iteT ⟨_, rfl, W n s j, rfl, by omega, _, z.2, ?_, ?_, ?_⟩)⟩
      · rw [natsV_len]; exact small1000 (by omega)
      · exact Same.mut z.1 nD
      · rw [upd_same, natsV_succ]
    · rw [natsV_len] at z
      refine ⟨D, (List.range n).map fun i => ((lg (W n s i) : Nat) : Int), rfl, SqL.of (by rw [z.2, natsV_map]), ?_⟩
      rw [sum_nats]
      exact q H' (s1.trans z.1)
def sp_q_down_to : Sp := fun vs H Q _ => ∃ (p : Addr) (n : Nat) (s : Sh) (as : List Addr) (x : Nat), vs = [.ref p, .int (x : Int)] ∧ HereL H p n s as ∧ n ≤ 64 ∧ Ok n s ∧ x < n ∧ ∀ q H', Same H H' → H q = none → H' q = some (.lst (intsV (chain n s x).reverse)) → Q (.ref q) H'
theorem ok_q_down_to (T : Txt K mg A) : FnOk P w K mg base CX0 2 A.f_q_down_to A.d_q_down_to ["_law_here", "_law_house"] sp_q_down_to := by
  refine T.f_q_down_to.ok sc_q_down_to (fun vs H Q E h => ?_) (fun cdv A' outer s H vs Q E hr h => ?_)
  · obtain ⟨p, n, s, as, x, rfl, _⟩ := h; rfl
  · obtain ⟨p, n, s, as, x, rfl, S, n2, k, hx, q⟩ := h
    obtain ⟨xs, ht, hl⟩ := S.tops
    subst hl
    refine ⟨_, (pss_cons (ps_set (i := 2) sc_q_down_to.nd rfl (Or.inl rfl) (pe_lst (pa_cons (pv 1) pa_nil)))
      (pss_cons (ps_for PassesOwn.never rfl (pi_range1 (by rfl) T.z_range (pa_cons (pe_callB call_len_seq (by rfl) T.z_len PySem.boot_len (pa_cons (pv 0) pa_nil)) pa_nil)) (pg_name (i := 3) sc_q_down_to.nd rfl (Or.inl rfl))
      (pss_one (ps_if (pt_val (pe_call (ok_q_is_son T) (hr.mono (by decide)) (by rfl) T.g_q_is_son T.f_q_is_son.kp T.b_q_is_son .nil pass0 (pa_cons (pv 0) (pa_cons (pe_ix ix_list (pv 2) pe_int (fun _ _ => rfl)) pa_nil)))) (pss_one (ps_set (i := 2) sc_q_down_to.nd rfl (Or.inl rfl) (pe_op op_cat (pe_lst (pa_cons (pe_ix ix_list (pe_ix ix_list (pv 0) (pe_ix ix_list (pv 2) pe_int (fun _ _ => rfl)) (fun _ _ => rfl)) pe_int (fun _ _ => rfl)) pa_nil)) (pv 2)))) pss_nil)))
      (pss_one (ps_ret (pv 2))))), ?_⟩
    refine ⟨_, rfl, size64 (by show 1 ≤ 1000; decide), fun pc nc => ?_⟩
    refine ⟨_, rfl, p, xs, rfl, .inl (SqL.of ((same_new nc) _ _ ht)), (xs.length : Int), rfl, (range_len n2).1, (range_len n2).2, ?_⟩
    refine for_range (lo := 0) (n := xs.length) (fun t σ H' => Same H H' ∧ ∃ (pre : List Nat) (y : Nat) (pf : Addr) (v : Option V), y < xs.length ∧ pre.length ≤ t ∧ pre ++ chain (xs.length - t) s y = chain xs.length s x ∧ H pf = none ∧ H' pf = some (.lst (.int (y : Int) :: intsV pre.reverse)) ∧ σ = [some (.ref p), some (.int (x : Int)), some (.ref pf), v])
      ⟨same_new nc, [], x, pc, none, hx, Nat.zero_le _, rfl, nc, upd_same, rfl⟩ (fun t σ H' ht' z => ?_) (fun σ H' z => ?_)
    · obtain ⟨s1, pre, y, pf, v, hy, hpl, ec, nf, hf, rfl⟩ := z
      obtain ⟨m, hm⟩ : ∃ m, xs.length - t = m + 1 := ⟨xs.length - t - 1, by omega⟩
      have hm' : xs.length - (t + 1) = m := by omega
      rw [hm] at ec
      refine rd_if ?_
      dsimp only [tSeq, tAsg, tNext, tIf, tOr, tAnd, tNot, tB, tTest, tCall, tIfS, tRet, tDrop]
      refine ⟨_, rfl, rd_il (k := 0) (v := .int (y : Int)) hf rfl (ev_v rfl) ev_k ?_⟩
      refine ⟨p, _, s, as, y, rfl, S.mono s1, hy, fun u e => (k.lt e).2, fun H2 s2 => ⟨_, rfl, iteB (fun b => ?_) (fun b => ?_)⟩⟩
      · obtain ⟨u, eu⟩ := son_up b
        rw [chain_son eu b] at ec
        refine rd_cat (xs := [.int (u : Int)]) (ys := .int (y : Int) :: intsV pre.reverse) ?_ (fun Q' q' => ?_) (fun H3 s3 Q' q' => ?_) (fun l H3 s3 nl hl => ?_)
        · have : (intsV pre.reverse).length = pre.length := by rw [intsV_len, List.length_reverse]
          simp only [List.length_cons, List.length_nil, this]
          omega
        · dsimp only [tLst]
          refine rd_cons <| rd_here (v := ov (s y).up) (S.mono (s1.trans s2)) hy (k := 0) rfl (ev_v rfl) (fun Q2 q2 => rd_il (k := 0) (v := .int (y : Int)) (s2 _ _ hf) rfl (ev_v rfl) ev_k q2) ev_k ?_
          rw [eu]
          exact ⟨size64 (by show 1 ≤ 1000; decide), fun l nl => q' l _ (same_new nl) upd_same⟩
        · exact ⟨_, rfl, q' pf H3 (Same.refl _) (s3 _ _ (s2 _ _ hf))⟩
        · refine ⟨(s1.trans s2).trans s3, pre ++ [y], u, l, _, (k.lt eu).2, by rw [List.length_append, List.length_singleton]; omega, ?_, (s1.trans s2).free nl, ?_, rfl⟩
          · rw [hm', List.append_assoc]; exact ec
          · rw [hl, List.reverse_append]; rfl
      · rw [chain_top b] at ec
        exact ⟨s1.trans s2, pre, y, pf, _, hy, by omega, by rw [chain_top b]; exact ec, nf, s2 _ _ hf, rfl⟩
    · obtain ⟨s1, pre, y, pf, v, hy, hpl, ec, nf, hf, rfl⟩ := z
      rw [Nat.sub_self] at ec
      refine ⟨_, rfl, q pf H' s1 nf ?_⟩
      rw [hf, ← ec, List.reverse_append]
      rfl
end
end K13
namespace K13
open PySem PySem.Spec PyProof.Rows L2
section
variable {P : Program} {w : World} {K : PySem.W.Frag} {mg : Str → Option Value} {base : Heap} {A : Ad}
def sp_q_shape : Sp := fun vs H Q _ => ∃ (p : Addr) (n : Nat) (s : Sh) (as : List Addr), vs = [.ref p] ∧ HereL H p n s as ∧ n ≤ 64 ∧ ∀ q H', Same H H' → ShT H' q n s → Q (.ref q) H'
theorem ok_q_shape (T : Txt K mg A) : FnOk P w K mg base CX0 1 A.f_q_shape A.d_q_shape ["_law_here"] sp_q_shape := by
  refine T.f_q_shape.ok sc_q_shape (fun vs H Q E h => ?_) (fun cdv A' outer s H vs Q E hr h => ?_)
  · obtain ⟨p, n, s, as, rfl, _⟩ := h; rfl
  · obtain ⟨p, n, s, as, rfl, S, n2, q⟩ := h
    refine ⟨_, (pss_one (ps_ret (pe_callTy call_tuple_of (by rfl) T.z_tuple (by decide +kernel) (pa_cons (pe_lc (own := [("_law_one", 1)]) (g := gName 1) (tt := tYes) (by rfl) sc_q_shape.nd (pi_list (pv 0)) (blkOk_by (own := [("_law_one", 1)]) (N := ns_q_shape) (sc := defScope st_q_shape) (by decide +kernel)) (fun _ _ _ _ _ => pg_name (i := 1) sc_q_shape.nd rfl (Or.inl rfl)) (fun _ _ _ _ _ => pts_nil) (fun _ _ _ _ _ => (pe_callTy (show CallR _ (.type "tuple") (rTupQ K) from call_tuple_of) (by rfl) T.z_tuple (by decide +kernel) (pa_cons (pv 1) pa_nil)))) pa_nil)))), ?_⟩
    refine ⟨_, rfl, p, rfl, ⟨_, SqL.of S.top⟩, fun D nD => ?_⟩
    refine lc_list (xs := as.map V.ref) (fun j H' => Same H H' ∧ ∃ ts : List Addr, ts.length = j ∧ H' D = some (.lst (ts.map V.ref)) ∧ ∀ i t, ts[i]? = some t → H' t = some (.tup (ndV (s i)))) ⟨same_new nD, [], rfl, upd_same, fun i t e => by simp at e⟩ (fun j H' _ z => SqL.of (z.1 _ _ S.top)) (fun j x H' hj z => ?_) (fun H' z => ?_)
    · obtain ⟨m, ts, hl, hD, hts⟩ := z
      have hjn : j < n := by have := (List.getElem?_eq_some_iff.mp hj).1; rw [List.length_map, S.len] at this; exact this
      obtain ⟨a, _, hx, ha⟩ := S.at hjn
      rw [hx] at hj; cases hj
      refine ⟨rfl, rd_yes (iteT ⟨_, rfl, a, ndV (s j), rfl, .inl ⟨SqL.of (m _ _ ha), fun t nt => ?_⟩⟩)⟩
      have tD : D ≠ t := fun z => by subst z; rw [nt] at hD; cases hD
      refine ⟨_, by rw [upd_ne tD]; exact hD, by rw [List.length_map]; exact small1000 (by omega), ?_, ts ++ [t], by rw [List.length_append, hl]; rfl, by rw [upd_same, List.map_append]; rfl, fun i u e => ?_⟩
      · exact Same.mut (m.trans (same_new nt)) nD
      · rw [List.getElem?_append] at e
        split at e
        · have := hts i u e
          have uD : u ≠ D := fun z => by subst z; rw [hD] at this; cases this
          rw [upd_ne uD, upd_ne (ne_fresh this nt).symm]; exact this
        · next hi =>
          have e0 : i - ts.length = 0 := by
            by_cases z : i - ts.length = 0
            · exact z
            · rw [List.getElem?_eq_none (by rw [List.length_singleton]; omega)] at e; cases e
          rw [e0] at e
          have : t = u := Option.some.inj e
          subst this
          rw [upd_ne tD.symm, upd_same, show i = j by omega]
    · obtain ⟨m, ts, hl, hD, hts⟩ := z
      rw [List.length_map, S.len] at hl
      refine rd_nil ⟨D, _, rfl, .inl ⟨SqL.of hD, fun r nr => q r _ (m.trans (same_new nr)) ⟨ts, hl, upd_same, fun i t e => (same_new nr) _ _ (hts i t e)⟩⟩⟩
def sp_q_deepest : Sp := fun vs H Q _ => ∃ (p : Addr) (n : Nat) (s : Sh) (as : List Addr), vs = [.ref p] ∧ HereL H p n s as ∧ 1 ≤ n ∧ n ≤ 64 ∧ Ok n s ∧ ∀ (b : Nat) H', Same H H' → b < n → Q (.int (b : Int)) H'
theorem ok_q_deepest (T : Txt K mg A) : FnOk P w K mg base CX0 1 A.f_q_deepest A.d_q_deepest ["_law_here"] sp_q_deepest := by
  refine T.f_q_deepest.ok sc_q_deepest (fun vs H Q E h => ?_) (fun cdv A' outer s H vs Q E hr h => ?_)
  · obtain ⟨p, n, s, as, rfl, _⟩ := h; rfl
  · obtain ⟨p, n, s, as, rfl, S, n1, n2, k, q⟩ := h
    obtain ⟨xs, ht, hl⟩ := S.tops
    subst hl
    refine ⟨_, (pss_cons (ps_asg (pe_tup (pa_cons pe_int (pa_cons (pe_un un_neg pe_int) pa_nil))) (pg_tup rfl (pgs_cons (pg_name (i := 1) sc_q_deepest.nd rfl (Or.inl rfl)) (pgs_cons (pg_name (i := 2) sc_q_deepest.nd rfl (Or.inl rfl)) pgs_nil))))
      (pss_cons (ps_for PassesOwn.never rfl (pi_range1 (by rfl) T.z_range (pa_cons (pe_callB call_len_seq (by rfl) T.z_len PySem.boot_len (pa_cons (pv 0) pa_nil)) pa_nil)) (pg_name (i := 3) sc_q_deepest.nd rfl (Or.inl rfl))
      (pss_cons (ps_par (i := 4) (j := 5) rfl sc_q_deepest.nd rfl rfl (by decide) rfl rfl (pa_cons (pv 3) (pa_cons pe_int pa_nil)) (by rfl))
      (pss_cons (ps_for PassesOwn.never rfl (pi_range1 (by rfl) T.z_range (pa_cons (pe_callB call_len_seq (by rfl) T.z_len PySem.boot_len (pa_cons (pv 0) pa_nil)) pa_nil)) (pg_name (i := 6) sc_q_deepest.nd rfl (Or.inl rfl))
      (pss_one (ps_if (pt_cmpR op_notN (pe_ix ix_list (pe_ix ix_list (pv 0) (pv 4) (fun _ _ => rfl)) pe_int (fun _ _ => rfl)) pe_non (nomark _)) (pss_one (ps_par (i := 4) (j := 5) rfl sc_q_deepest.nd rfl rfl (by decide) rfl rfl (pa_cons (pe_ix ix_list (pe_ix ix_list (pv 0) (pv 4) (fun _ _ => rfl)) pe_int (fun _ _ => rfl)) (pa_cons (pe_op op_add (pv 5) pe_int) pa_nil)) (by rfl))) pss_nil)))
      (pss_one (ps_asg (pe_ifExp (pt_cmpR op_gt (pv 5) (pv 2) (nomark _)) (pe_tup (pa_cons (pv 3) (pa_cons (pv 5) pa_nil))) (pe_tup (pa_cons (pv 1) (pa_cons (pv 2) pa_nil)))) (pg_tup rfl (pgs_cons (pg_name (i := 1) sc_q_deepest.nd rfl (Or.inl rfl)) (pgs_cons (pg_name (i := 2) sc_q_deepest.nd rfl (Or.inl rfl)) pgs_nil))))))))
      (pss_one (ps_ret (pv 1))))), ?_⟩
    refine ⟨_, rfl, size64 (by show 2 ≤ 1000; decide), fun t0 nt0 => ⟨t0, _, rfl, SqT.of upd_same, rfl, _, _, rfl, _, _, rfl, rfl, ?_⟩⟩
    refine ⟨_, rfl, p, xs, rfl, .inl (SqL.of ((same_new nt0) _ _ ht)), (xs.length : Int), rfl, (range_len n2).1, (range_len n2).2, ?_⟩
    refine for_range (lo := 0) (n := xs.length) (fun i σ H' => Same H H' ∧ ∃ (b : Nat) (z : Int) (v3 v4 v5 v6 : Option V), b < xs.length ∧ σ = [some (.ref p), some (.int (b : Int)), some (.int z), v3, v4, v5, v6])
      ⟨same_new nt0, 0, -1, none, none, none, none, n1, rfl⟩ (fun i σ H' hi z => ?_) (fun σ H' z => ?_)
    · obtain ⟨m, b, z, v3, v4, v5, v6, hb, rfl⟩ := z
      refine ⟨_, rfl, _, _, rfl, ?_⟩
      refine ⟨_, rfl, p, xs, rfl, .inl (SqL.of (m _ _ ht)), (xs.length : Int), rfl, (range_len n2).1, (range_len n2).2, ?_⟩
      rw [Int.zero_add]
      refine for_range (lo := 0) (n := xs.length) (fun t σ H' => Same H H' ∧ ∃ (o : Nat) (c : Int) (v6 : Option V), o < xs.length ∧ σ = [some (.ref p), some (.int (b : Int)), some (.int z), some (.int (i : Int)), some (.int (o : Int)), some (.int c), v6])
        ⟨m, i, 0, _, hi, rfl⟩ (fun t σ H' _ w => ?_) (fun σ H' w => ?_)
      · obtain ⟨m, o, c, v6, ho, rfl⟩ := w
        dsimp only [tSeq, tAsg, tNext, tIf, tOr, tAnd, tNot, tB, tTest, tCall, tIfS, tRet, tDrop]
        dsimp only [tPar]
        refine rd_op <| rd_here (v := ov (s o).up) (S.mono m) ho (k := 0) rfl (ev_v rfl) (ev_v rfl) ev_k ⟨rfl, _, rfl, iteB (fun d => ?_) (fun d => ?_)⟩
        · cases e : (s o).up with
          | none => rw [e] at d; cases d
          | some u =>
            refine rd_cons <| rd_here (v := ov (s o).up) (S.mono m) ho (k := 0) rfl (ev_v rfl) (ev_v rfl) ev_k ?_
            rw [e]
            exact ⟨_, rfl, _, _, rfl, rfl, _, _, rfl, m, u, _, _, (k.lt e).2, rfl⟩
        · exact ⟨m, o, c, _, ho, rfl⟩
      · obtain ⟨m, o, c, v6, ho, rfl⟩ := w
        refine ⟨_, rfl, _, rfl, _, _, rfl, rfl, _, rfl, iteB (fun d => ?_) (fun d => ?_)⟩
        · exact ⟨_, rfl, _, rfl, size64 (by show 2 ≤ 1000; decide), fun t nt => ⟨t, _, rfl, SqT.of upd_same, rfl, _, _, rfl, _, _, rfl, rfl, m.trans (same_new nt), i, c, _, _, _, _, hi, rfl⟩⟩
        · exact ⟨_, rfl, _, rfl, size64 (by show 2 ≤ 1000; decide), fun t nt => ⟨t, _, rfl, SqT.of upd_same, rfl, _, _, rfl, _, _, rfl, rfl, m.trans (same_new nt), b, z, _, _, _, _, hb, rfl⟩⟩
    · obtain ⟨m, b, z, v3, v4, v5, v6, hb, rfl⟩ := z
      exact ⟨_, rfl, q b H' m hb⟩
end
end K13
namespace K13
open PySem PySem.Spec PyProof.Rows L2
section
variable {P : Program} {w : World} {K : PySem.W.Frag} {mg : Str → Option Value} {base : Heap} {A : Ad}
/-- b stands beside the lists at p -/
structure Oth (H : Hp) (p : Addr) (as : List Addr) (b : Addr) (o : HO) : Prop where
  at' : H b = some o
  np : b ≠ p
  na : b ∉ as
theorem Oth.ret {H H' : Hp} {p b : Addr} {as as' : List Addr} {o : HO} (h : Oth H p as b o) (r : Ret H H' p as as') : Oth H' p as' b o := by
  obtain ⟨h1, h2⟩ := r.oth b o h.at' h.np h.na
  exact ⟨h1, h.np, h2⟩
theorem Oth.mono {H H' : Hp} {p b : Addr} {as : List Addr} {o : HO} (h : Oth H p as b o) (m : Same H H') : Oth H' p as b o := ⟨m _ _ h.at', h.np, h.na⟩
theorem HereL.oth {H H' : Hp} {p b : Addr} {n : Nat} {s : Sh} {as : List Addr} {o : HO} (S : HereL H p n s as) (nb : H b = none) (e : H' b = some o) : Oth H' p as b o := ⟨e, (S.fresh nb).1, (S.fresh nb).2⟩
/-- all of B stands behind such a call -/
theorem HereB.next {B H H' : Hp} {p : Addr} {n n' : Nat} {s s' : Sh} {as as' : List Addr} (h : HereB B H p n s as) (r : HereB (er H (p :: as)) H' p n' s' as') : HereB B H' p n' s' as' := by
  have R := r.ret
  refine ⟨r.here, fun b o e => ?_, h.out, fun a ha => ?_⟩
  · exact (R.oth b o (h.same _ _ e) (fun z => by subst z; rw [h.out] at e; cases e) (fun z => by rw [h.outs b z] at e; cases e)).1
  · cases e : B a with
    | none => rfl
    | some o =>
      have := (R.oth a o (h.same _ _ e) (fun z => by subst z; rw [h.out] at e; cases e) (fun z => by rw [h.outs a z] at e; cases e)).2
      exact absurd ha this
/-- a list beside them changed -/
theorem HereL.beside {H : Hp} {p b : Addr} {n : Nat} {s : Sh} {as : List Addr} {o o' : HO} (S : HereL H p n s as) (h : Oth H p as b o) : HereL (upd H b o') p n s as :=
  ⟨S.len, S.nd, S.np, by rw [upd_ne h.np.symm]; exact S.top, fun i a e => by rw [upd_ne (fun z => h.na (by rw [← z]; exact List.mem_of_getElem? e))]; exact S.row i a e⟩
theorem HereB.beside {B H : Hp} {p b : Addr} {n : Nat} {s : Sh} {as : List Addr} {o o' : HO} (S : HereB B H p n s as) (h : Oth H p as b o) (nb : B b = none) : HereB B (upd H b o') p n s as :=
  ⟨S.here.beside h, Same.mut S.same nb, S.out, S.outs⟩
theorem foldl_take_succ {α β : Type} (f : β → α → β) (z : β) (l : List α) {j : Nat} {x : α} (h : l[j]? = some x) : (l.take (j + 1)).foldl f z = f ((l.take j).foldl f z) x := by
  rw [List.take_add_one, h, List.foldl_append]; rfl
def sp_q_reach : Sp := fun vs H Q _ => ∃ (B : Hp) (p : Addr) (n : Nat) (s : Sh) (as : List Addr) (x : Nat), vs = [.ref p, .int (x : Int)] ∧ HereB B H p n s as ∧ n ≤ 64 ∧ Ok n s ∧ x < n ∧
  ∀ r pp pm l H' as', HereB B H' p n (reach n s x) as' → H' r = some (.tup [.ref pp, .ref pm]) → H' pp = some (.tup (paperV n s x (Phi n (U s)))) → H' pm = some (.lst l) → Q (.ref r) H'
theorem ok_q_reach (T : Txt K mg A) : FnOk P w K mg base CX0 4 A.f_q_reach A.d_q_reach ["_law_here", "_law_house"] sp_q_reach := by
  refine T.f_q_reach.ok sc_q_reach (fun vs H Q E h => ?_) (fun cdv A' outer s H vs Q E hr h => ?_)
  · obtain ⟨B, p, n, s, as, x, rfl, _⟩ := h; rfl
  · obtain ⟨B, p, n, s, as, x, rfl, S, n2, k, hx, q⟩ := h
    refine ⟨_, (pss_cons (ps_asg (pe_tup (pa_cons (pe_call (ok_q_potential T) (hr.mono (by decide)) (by rfl) T.g_q_potential T.f_q_potential.kp T.b_q_potential .nil pass0 (pa_cons (pv 0) pa_nil)) (pa_cons (pe_lst pa_nil) (pa_cons pe_int (pa_cons (pv 1) pa_nil))))) (pg_tup rfl (pgs_cons (pg_name (i := 2) sc_q_reach.nd rfl (Or.inl rfl)) (pgs_cons (pg_name (i := 3) sc_q_reach.nd rfl (Or.inl rfl)) (pgs_cons (pg_name (i := 4) sc_q_reach.nd rfl (Or.inl rfl)) (pgs_cons (pg_name (i := 5) sc_q_reach.nd rfl (Or.inl rfl)) pgs_nil))))))
      (pss_cons (ps_for PassesOwn.never rfl (pi_range1 (by rfl) T.z_range (pa_cons (pe_callB call_len_seq (by rfl) T.z_len PySem.boot_len (pa_cons (pv 0) pa_nil)) pa_nil)) (pg_name (i := 6) sc_q_reach.nd rfl (Or.inl rfl))
      (pss_one (ps_if (pt_cmpR op_notN (pv 5) pe_non (nomark _)) (pss_cons (ps_for PassesOwn.never rfl (pi_list (pe_call (ok_q_down_to T) (hr.mono (by decide)) (by rfl) T.g_q_down_to T.f_q_down_to.kp T.b_q_down_to .nil pass0 (pa_cons (pv 0) (pa_cons (pv 5) pa_nil)))) (pg_name (i := 7) sc_q_reach.nd rfl (Or.inl rfl))
      (pss_one (ps_expr (pe_call (ok_q_hand_on T) (hr.mono (by decide)) (by rfl) T.g_q_hand_on T.f_q_hand_on.kp T.b_q_hand_on .nil pass0 (pa_cons (pv 0) (pa_cons (pv 7) pa_nil))))))
      (pss_cons (ps_set (i := 4) sc_q_reach.nd rfl (Or.inl rfl) (pe_op op_add (pv 4) (pe_call (ok_q_step_up T) (hr.mono (by decide)) (by rfl) T.g_q_step_up T.f_q_step_up.kp T.b_q_step_up .nil pass0 (pa_cons (pv 0) (pa_cons (pv 5) pa_nil)))))
      (pss_cons (ps_expr (pe_bm PySem.F.plainAttrs_list PySem.F.slot_list_append PySem.F.type_list_append mt_append (pv 3) (pa_cons (pv 5) pa_nil)))
      (pss_one (ps_set (i := 5) sc_q_reach.nd rfl (Or.inl rfl) (pe_ix ix_list (pe_ix ix_list (pv 0) (pv 5) (fun _ _ => rfl)) pe_int (fun _ _ => rfl))))))) pss_nil)))
      (pss_cons (ps_set (i := 8) sc_q_reach.nd rfl (Or.inl rfl) pe_non)
      (pss_cons (ps_for PassesOwn.never rfl (pi_list (pv 3)) (pg_name (i := 5) sc_q_reach.nd rfl (Or.inl rfl))
      (pss_cons (ps_asg (pv 8) (pg_sub (pe_ix ix_list (pv 0) (pv 5) (fun _ _ => rfl)) pe_int set_list))
      (pss_one (ps_set (i := 8) sc_q_reach.nd rfl (Or.inl rfl) (pv 5)))))
      (pss_cons (ps_set (i := 9) sc_q_reach.nd rfl (Or.inl rfl) (pe_call (ok_q_step_up T) (hr.mono (by decide)) (by rfl) T.g_q_step_up T.f_q_step_up.kp T.b_q_step_up .nil pass0 (pa_cons (pv 0) (pa_cons (pv 1) pa_nil))))
      (pss_one (ps_ret (pe_tup (pa_cons (pe_tup (pa_cons (pv 4) (pa_cons (pe_callB call_len_seq (by rfl) T.z_len PySem.boot_len (pa_cons (pv 3) pa_nil)) (pa_cons (pv 9) (pa_cons (pe_op op_sub (pe_call (ok_q_potential T) (hr.mono (by decide)) (by rfl) T.g_q_potential T.f_q_potential.kp T.b_q_potential .nil pass0 (pa_cons (pv 0) pa_nil)) (pv 2)) pa_nil))))) (pa_cons (pv 3) pa_nil)))))))))), ?_⟩
    refine ⟨_, rfl, p, n, s, as, rfl, S.here, n2, k, fun H1 m1 => ?_⟩
    refine ⟨Nat.zero_le _, fun pm nm => ⟨_, rfl, size64 (by show 4 ≤ 1000; decide), fun t0 nt0 => ⟨t0, _, rfl, SqT.of upd_same, rfl, _, _, rfl, _, _, rfl, _, _, rfl, _, _, rfl, rfl, ?_⟩⟩⟩
    have nmB : B pm = none := S.same.free (m1.free nm)
    have m2 : Same H1 (upd (upd H1 pm (.lst [])) t0 (.tup [.int ((Phi n (U s) : Nat) : Int), .ref pm, .int 0, .int (x : Int)])) := (same_new nm).trans (same_new nt0)
    have hpm : (upd (upd H1 pm (.lst [])) t0 (.tup [.int ((Phi n (U s) : Nat) : Int), .ref pm, .int 0, .int (x : Int)])) pm = some (.lst (intsV [])) := (same_new nt0) _ _ upd_same
    generalize upd (upd H1 pm (.lst [])) t0 (.tup [.int ((Phi n (U s) : Nat) : Int), .ref pm, .int 0, .int (x : Int)]) = H2 at m2 hpm
    have S2 := S.mono (m1.trans m2)
    have O2 : Oth H2 p as pm (.lst (intsV [])) := (S.here.mono m1).oth nm hpm
    have w0 : MetW n (mets n n s x) n s [] 0 (some x) := ⟨hx, by have := W_pos (s := s) hx; omega, rfl, List.nil_append _, Nat.zero_add _⟩
    have R := reach_of k hx
    have M := mets_of n k (x := x) (by have := W_pos (s := s) hx; omega)
    have eS : reachS n s x = splice (mets n n s x).1 none (mets n n s x).2.1 := rfl
    obtain ⟨xs, ht, hl⟩ := S2.here.tops
    refine ⟨_, rfl, p, xs, rfl, .inl (SqL.of ht), (xs.length : Int), rfl, (range_len (by omega)).1, (range_len (by omega)).2, ?_⟩
    clear ht m2 hpm
    refine for_range (lo := 0) (n := xs.length) (fun i σ H' => ∃ (s' : Sh) (as' : List Addr) (l : List Nat) (c : Nat) (o : Option Nat) (v6 v7 v8 v9 : Option V), HereB B H' p n s' as' ∧ Ok n s' ∧ Oth H' p as' pm (.lst (intsV l)) ∧ l.length ≤ i ∧ MetW n (mets n n s x) (n - i) s' l c o ∧
        σ = [some (.ref p), some (.int (x : Int)), some (.int ((Phi n (U s) : Nat) : Int)), some (.ref pm), some (.int (c : Int)), some (ov o), v6, v7, v8, v9])
      ⟨s, as, [], 0, some x, none, none, none, none, S2, k, O2, Nat.le_refl _, w0, rfl⟩ (fun i σ H' hi z => ?_) (fun σ H' z => ?_)
    · obtain ⟨s', as', l, c, o, v6, v7, v8, v9, S3, ok, O3, hll, w1, rfl⟩ := z
      refine ⟨_, rfl, rfl, _, rfl, iteB (fun b => ?_) (fun b => ?_)⟩
      · cases o with
        | none => cases b
        | some y =>
          obtain ⟨hy, hw, e1, e2, e3⟩ := w1
          obtain ⟨m, hm⟩ : ∃ m', n - i = m' + 1 := ⟨n - i - 1, by omega⟩
          have hm' : n - (i + 1) = m := by omega
          rw [hm] at hw e1 e2 e3
          -- handing on
          refine ⟨_, rfl, _, rfl, p, n, s', as', y, rfl, S3.here, n2, ok, hy, fun pd H4 m4 nd hd => ?_⟩
          have O4 := O3.mono m4
          have OD : Oth H4 p as' pd (.lst (intsV (chain n s' y).reverse)) := S3.here.oth nd hd
          refine ⟨pd, rfl, ⟨_, SqL.of hd⟩, ?_⟩
          have lc := chain_lt ok n y hy
          have ed := dh_chain n s' y
          refine for_list (xs := intsV (chain n s' y).reverse) (fun j σ H' => ∃ (as2 : List Addr) (v7 : Option V), HereB B H' p n (((chain n s' y).reverse.take j).foldl hand s') as2 ∧ Ok n (((chain n s' y).reverse.take j).foldl hand s') ∧ Oth H' p as2 pm (.lst (intsV l)) ∧ Oth H' p as2 pd (.lst (intsV (chain n s' y).reverse)) ∧
              σ = [some (.ref p), some (.int (x : Int)), some (.int ((Phi n (U s) : Nat) : Int)), some (.ref pm), some (.int (c : Int)), some (.int (y : Int)), some (.int ((0 : Int) + (i : Int))), v7, v8, v9])
            ⟨as', _, S3.mono m4, ok, O4, OD, rfl⟩ (fun j σ H' _ z => by obtain ⟨_, _, _, _, _, z, _⟩ := z; exact SqL.of z.at') (fun j v σ H' hj z => ?_) (fun σ H' z => ?_)
          · obtain ⟨as2, v7, S5, ok5, O5, OD5, rfl⟩ := z
            have hjl : j < (chain n s' y).reverse.length := by have := (List.getElem?_eq_some_iff.mp hj).1; rw [intsV_len] at this; exact this
            have hg : (chain n s' y).reverse[j]? = some (chain n s' y).reverse[j] := List.getElem?_eq_getElem hjl
            rw [intsV_get hg] at hj; cases hj
            have hcn := lc _ (List.mem_reverse.mp (List.getElem_mem hjl))
            rw [foldl_take_succ hand s' _ hg]
            generalize (chain n s' y).reverse[j] = u at hcn
            refine ⟨_, rfl, _, rfl, er H' (p :: as2), p, n, _, u, rfl, ⟨as2, S5.here.call⟩, ok5, hcn, fun H6 ⟨as6, S6⟩ => ?_⟩
            exact ⟨as6, _, S5.next S6, hand_ok ok5 u, O5.ret S6.ret, OD5.ret S6.ret, rfl⟩
          · obtain ⟨as2, v7, S5, ok5, O5, OD5, rfl⟩ := z
            rw [intsV_len, List.take_length, ed] at S5 ok5
            -- steps
            refine ⟨_, rfl, _, rfl, _, rfl, er H' (p :: as2), p, n, _, y, rfl, ⟨as2, S5.here.call⟩, n2, ok5, hy, fun H6 ⟨as6, S6⟩ => ?_⟩
            have O6 := O5.ret S6.ret
            have S6' := S5.next S6
            have TO := toTop_of ok (x := y)
            refine ⟨_, _, rfl, rfl, ?_⟩
            refine ⟨_, rfl, .inl ⟨rfl, _, SqL.of O6.at'⟩, _, rfl, pm, _, _, rfl, rfl, O6.at', by rw [intsV_len]; exact small1000 (by omega), ?_⟩
            have S7 : HereB B (upd H6 pm (.lst (intsV l ++ [.int (y : Int)]))) p n (toTop n s' y).1 as6 := S6'.beside O6 nmB
            have O7 : Oth (upd H6 pm (.lst (intsV l ++ [.int (y : Int)]))) p as6 pm (.lst (intsV (l ++ [y]))) := ⟨by rw [upd_same, intsV_app], O6.np, O6.na⟩
            refine rd_asg <| rd_here (v := ov ((toTop n s' y).1 y).up) S7.here hy (k := 0) rfl (ev_v rfl) (ev_v rfl) ev_k ?_
            refine ⟨_, as6, l ++ [y], c + (toTop n s' y).2, ((toTop n s' y).1 y).up, _, _, _, _, S7, TO.ok, O7, by rw [List.length_append, List.length_singleton]; omega, ?_, rfl⟩
            rw [hm']
            cases e : ((toTop n s' y).1 y).up with
            | none =>
              rw [mets_end e] at e1 e2 e3
              exact ⟨e1, e2, e3⟩
            | some z =>
              rw [mets_on e] at e1 e2 e3
              have := W_up TO.ok e
              have := TO.rise
              exact ⟨(TO.ok.lt e).2, by omega, e1, by rw [List.append_assoc]; exact e2, by rw [Nat.add_assoc]; exact e3⟩
      · cases o with
        | some y => cases b
        | none => exact ⟨s', as', l, c, none, _, _, _, _, S3, ok, O3, by omega, w1, rfl⟩
    · obtain ⟨s', as', l, c, o, v6, v7, v8, v9, S3, ok, O3, hll, w1, rfl⟩ := z
      rw [show n - xs.length = 0 by omega] at w1
      cases o with
      | some y =>
        obtain ⟨hy, hw, _⟩ := w1
        have := W_le n s' y
        omega
      | none =>
        obtain ⟨rfl, rfl, rfl⟩ := w1
        have ml := met_lt M.ok M.met hx
        -- pass 2
        refine ⟨_, rfl, pm, rfl, ⟨_, SqL.of O3.at'⟩, ?_⟩
        refine for_list (xs := intsV (mets n n s x).2.1) (fun j σ H' => ∃ (v5 v6 v7 v9 : Option V), HereB B H' p n (splFrom ((mets n n s x).1, none) ((mets n n s x).2.1.take j)).1 as' ∧ Oth H' p as' pm (.lst (intsV (mets n n s x).2.1)) ∧
            σ = [some (.ref p), some (.int (x : Int)), some (.int ((Phi n (U s) : Nat) : Int)), some (.ref pm), some (.int ((mets n n s x).2.2 : Int)), v5, v6, v7, some (ov (splFrom ((mets n n s x).1, none) ((mets n n s x).2.1.take j)).2), v9])
          ⟨_, _, _, _, S3, O3, rfl⟩ (fun j σ H' _ z => by obtain ⟨_, _, _, _, _, z, _⟩ := z; exact SqL.of z.at') (fun j v σ H' hj z => ?_) (fun σ H' z => ?_)
        · obtain ⟨v5, v6, v7, v9, S5, O5, rfl⟩ := z
          have hjl : j < (mets n n s x).2.1.length := by have := (List.getElem?_eq_some_iff.mp hj).1; rw [intsV_len] at this; exact this
          have hg : (mets n n s x).2.1[j]? = some (mets n n s x).2.1[j] := List.getElem?_eq_getElem hjl
          rw [intsV_get hg] at hj; cases hj
          have hcn := ml _ (List.getElem_mem hjl)
          have et : splFrom ((mets n n s x).1, none) ((mets n n s x).2.1.take (j + 1)) = (put (splFrom ((mets n n s x).1, none) ((mets n n s x).2.1.take j)).1 (mets n n s x).2.1[j] { (splFrom ((mets n n s x).1, none) ((mets n n s x).2.1.take j)).1 (mets n n s x).2.1[j] with r := (splFrom ((mets n n s x).1, none) ((mets n n s x).2.1.take j)).2 }, some (mets n n s x).2.1[j]) := by
            rw [List.take_add_one, hg]; exact splFrom_snoc _ _ _
          rw [et]
          generalize (mets n n s x).2.1[j] = u at hcn
          generalize splFrom ((mets n n s x).1, none) ((mets n n s x).2.1.take j) = z at S5
          refine ⟨_, rfl, ?_⟩
          refine rd_setH (v := ov z.2) (k := 2) (d := { z.1 u with r := z.2 }) S5.here.call hcn (by decide) rfl (ev_v rfl) (ev_v rfl) ev_k fun H6 S6 => ?_
          have O6 := O5.ret S6.ret
          exact ⟨_, rfl, _, _, _, _, S5.next S6, O6, rfl⟩
        · obtain ⟨v5, v6, v7, v9, S5, O5, rfl⟩ := z
          rw [intsV_len, List.take_length, splFrom_splice, ← eS] at S5
          -- pass 3
          refine ⟨_, rfl, _, rfl, er H' (p :: as'), p, n, _, x, rfl, ⟨as', S5.here.call⟩, n2, R.okS, hx, fun H6 ⟨as6, S6⟩ => ?_⟩
          have S7 : HereB B H6 p n (reach n s x) as6 := S5.next S6
          have O6 := O5.ret S6.ret
          refine ⟨_, rfl, _, rfl, pm, _, rfl, .inl (SqL.of O6.at'), _, rfl, ?_⟩
          refine ⟨_, rfl, p, n, _, as6, rfl, S7.here, n2, R.ok, fun H7 m7 => ?_⟩
          refine ⟨_, rfl, _, _, rfl, rfl, size64 (by show 4 ≤ 1000; decide), fun pp np => ⟨_, rfl, size64 (by show 2 ≤ 1000; decide), fun r nr => ?_⟩⟩
          refine q r pp pm _ _ as6 (S7.mono (m7.trans ((same_new np).trans (same_new nr)))) upd_same ((same_new nr) _ _ ?_) ((same_new nr) _ _ ((same_new np) _ _ (m7 _ _ O6.at')))
          rw [upd_same, intsV_len]
          rfl
end
end K13
namespace K13
open PySem PySem.Spec PyProof.Rows L2
section
variable {P : Program} {w : World} {K : PySem.W.Frag} {mg : Str → Option Value} {base : Heap} {A : Ad}
/-! ### the hand -/
def handV (c : Addr) (i1 : Nat) (i2 i3 i4 : Int) : List V := [.ref c, .int (i1 : Int), .int i2, .int i3, .int i4]
def HandL (H : Hp) (h c : Addr) : Prop := c ≠ h ∧ ∃ (zs : List Int) (i1 : Nat) (i2 i3 i4 : Int), H h = some (.lst (handV c i1 i2 i3 i4)) ∧ H c = some (.lst (zs.map V.int)) ∧ (∀ z ∈ zs, 0 ≤ z) ∧ 0 ≤ i2
theorem HandL.mono {H H' : Hp} {h c : Addr} (x : HandL H h c) (m : Same H H') : HandL H' h c := by
  obtain ⟨ne, zs, i1, i2, i3, i4, a, b, z⟩ := x
  exact ⟨ne, zs, i1, i2, i3, i4, m _ _ a, m _ _ b, z⟩
theorem Hs.of {H H1 : Hp} {h : Addr} (a : Same H H1) : Same (er H [h]) H1 := (er_same _ _).trans a
theorem Hs.at {H H1 : Hp} {h b : Addr} {o : HO} (a : Same (er H [h]) H1) (e : H b = some o) (ne : b ≠ h) : H1 b = some o := a _ _ (by rw [er_out (by simpa using ne)]; exact e)
theorem Hs.trans {H H1 H2 : Hp} {h : Addr} (a : Same (er H [h]) H1) (b : Same (er H1 [h]) H2) : Same (er H [h]) H2 := fun x o e => by
  have ne : x ≠ h := fun z => by subst z; rw [er_in (by simp)] at e; cases e
  exact Hs.at b (a _ _ e) ne
theorem Hs.upd {H H1 : Hp} {h : Addr} {o : HO} (a : Same (er H [h]) H1) : Same (er H [h]) (L2.upd H1 h o) := fun x u e => by
  have ne : x ≠ h := fun z => by subst z; rw [er_in (by simp)] at e; cases e
  rw [upd_ne ne]; exact a _ _ e
theorem HandL.trk {H : Hp} {h c : Addr} (x : HandL H h c) : (∃ o, H h = some o) ∧ (∃ o, H c = some o) := by
  obtain ⟨ne, zs, i1, i2, i3, i4, a, b, z⟩ := x
  exact ⟨⟨_, a⟩, ⟨_, b⟩⟩
theorem HandL.beside {H : Hp} {h c b : Addr} {o : HO} (x : HandL H h c) (h1 : b ≠ h) (h2 : b ≠ c) : HandL (L2.upd H b o) h c := by
  obtain ⟨ne, zs, i1, i2, i3, i4, x1, x2, z⟩ := x
  exact ⟨ne, zs, i1, i2, i3, i4, by rw [upd_ne h1.symm]; exact x1, by rw [upd_ne h2.symm]; exact x2, z⟩
theorem HandL.fresh {H : Hp} {h c b : Addr} (x : HandL H h c) (nb : H b = none) : b ≠ h ∧ b ≠ c := by
  obtain ⟨⟨_, e1⟩, ⟨_, e2⟩⟩ := x.trk
  exact ⟨ne_fresh e1 nb, ne_fresh e2 nb⟩
/-- xs[k] = v -/
theorem rd_setL {σ : L2.St} {H : Hp} {R : L2.St → Hp → Prop} {l : Addr} {xs : List V} {k : Nat} {v : V} {th tk : TE} (hl : H l = some (.lst xs)) (hk : k < xs.length) (eh : ∀ Q : VK, Q (.ref l) H → th σ H Q) (ek : ∀ Q : VK, Q (.int (k : Int)) H → tk σ H Q)
    (q : R σ (upd H l (.lst (xs.set k v)))) : gSub th tk rSetL v σ H R := eh _ (ek _ ⟨l, xs, (k : Int), k, rfl, rfl, hl, ixN_nat hk, q⟩)
theorem abs_nn (i : Int) : 0 ≤ (if i < 0 then -i else i) := by split <;> omega
def sp_q_hand (K : PySem.W.Frag) : Sp := fun vs H Q _ => ∃ (a : Addr) (ns : List Int), vs = [.ref a] ∧ SqL K H a (ns.map V.int) ∧ ns.length ≤ 63 ∧ ∀ h c H', Same H H' → H h = none → H c = none → HandL H' h c → Q (.ref h) H'
theorem ok_q_hand (T : Txt K mg A) : FnOk P w K mg base CX0 1 A.f_q_hand A.d_q_hand ["_law_script"] (sp_q_hand K) := by
  refine T.f_q_hand.ok sc_q_hand (fun vs H Q E h => ?_) (fun cdv A' outer s H vs Q E hr h => ?_)
  · obtain ⟨a, ns, rfl, _⟩ := h; rfl
  · obtain ⟨a, ns, rfl, hS, hl, q⟩ := h
    refine ⟨_, (pss_cons (ps_setLc (i := 1) (own := [("_law_cell", 2)]) (g := gName 2) (tt := tYes) rfl sc_q_hand.nd rfl rfl (sw_true rfl rfl rfl (by decide +kernel)) (pi_list (pe_slice sl_list (pv 0) po_none (po_some pe_int))) (blkOk_by (own := [("_law_cell", 2)]) (N := ns_q_hand) (sc := defScope st_q_hand) (by decide +kernel)) (fun _ _ _ _ _ => pg_name (i := 2) sc_q_hand.nd rfl (Or.inl rfl)) (fun _ _ _ _ _ => pts_nil) (fun _ _ _ _ _ => (pe_callB call_abs (by rfl) T.z_abs (by decide +kernel) (pa_cons (pe_callTy call_int1 (by rfl) T.z_int (by decide +kernel) (pa_cons (pv 2) pa_nil)) pa_nil))))
      (pss_one (ps_ret (pe_lst (pa_cons (pv 1) (pa_cons pe_int (pa_cons pe_int (pa_cons (pe_op op_add pe_int (pe_callB call_len_seq (by rfl) T.z_len PySem.boot_len (pa_cons (pv 1) pa_nil))) (pa_cons pe_int pa_nil))))))))), ?_⟩
    refine ⟨_, rfl, rd_no <| ev_k _ ⟨63, rfl, a, _, rfl, hS, fun r nr => ⟨r, rfl, ⟨_, SqL.of upd_same⟩, fun D nD => ?_⟩⟩⟩
    rw [show cutV (ns.map V.int) none (some (63 : Int)) = ns.map V.int from by
      unfold cutV
      rw [show HT.sIx (ns.map V.int).length (ns.map V.int).length (some (63 : Int)) = min 63 (ns.map V.int).length from HT.sIx_nat _ _ 63, HT.sIx_none, List.drop_zero, Nat.sub_zero]
      exact List.take_of_length_le (by rw [List.length_map]; omega)] at *
    have m1 : Same H (upd H r (.lst (ns.map V.int))) := same_new nr
    have h1 : (upd H r (.lst (ns.map V.int))) r = some (.lst (ns.map V.int)) := upd_same
    generalize upd H r (.lst (ns.map V.int)) = H1 at m1 h1 nD
    refine lc_list (xs := ns.map V.int) (fun j H' => Same H1 H' ∧ ∃ zs : List Int, zs.length = j ∧ (∀ z ∈ zs, 0 ≤ z) ∧ H' D = some (.lst (zs.map V.int))) ⟨same_new nD, [], rfl, (fun z h => by cases h), upd_same⟩ (fun j H' _ z => SqL.of (z.1 _ _ h1)) (fun j x H' hj z => ?_) (fun H' z => ?_)
    · obtain ⟨m, zs, hz, nn, hD⟩ := z
      have hjn : j < ns.length := by have := (List.getElem?_eq_some_iff.mp hj).1; rw [List.length_map] at this; exact this
      rw [List.getElem?_map, List.getElem?_eq_getElem hjn] at hj; cases hj
      refine ⟨rfl, rd_yes (iteT ⟨_, rfl, .inl ⟨_, rfl, _, rfl, _, hD, by rw [List.length_map]; exact small1000 (by omega), ?_, zs ++ [if ns[j] < 0 then -ns[j] else ns[j]], by rw [List.length_append, hz]; rfl, fun z hzz => ?_, ?_⟩⟩)⟩
      · exact Same.mut m nD
      · rcases List.mem_append.mp hzz with e | e
        · exact nn z e
        · rw [List.mem_singleton.mp e]; exact abs_nn _
      · rw [upd_same, List.map_append]; rfl
    · obtain ⟨m, zs, hz, nn, hD⟩ := z
      rw [List.length_map] at hz
      refine ⟨_, rfl, _, rfl, D, _, rfl, .inl (SqL.of hD), _, _, rfl, rfl, size64 (by show 5 ≤ 1000; decide), fun h nh => ?_⟩
      have Dh : D ≠ h := fun z => by subst z; rw [nh] at hD; cases hD
      exact q h D _ ((m1.trans m).trans (same_new nh)) ((m1.trans m).free nh) (m1.free nD) ⟨Dh, zs, 0, 0, _, 0, upd_same, by rw [upd_ne Dh]; exact hD, nn, Int.le_refl _⟩
def sp_q_draw : Sp := fun vs H Q _ => ∃ (h c : Addr) (m : Int), vs = [.ref h, .int m] ∧ HandL H h c ∧ 0 < m ∧ m < 1073741824 ∧ ∀ H' r, HandL H' h c → Same (er H [h]) H' → 0 ≤ r → r < m → Q (.int r) H'
theorem ok_q_draw (T : Txt K mg A) : FnOk P w K mg base CX0 1 A.f_q_draw A.d_q_draw ["_law_hand_here", "_law_many"] sp_q_draw := by
  refine T.f_q_draw.ok sc_q_draw (fun vs H Q E h => ?_) (fun cdv A' outer s H vs Q E hr h => ?_)
  · obtain ⟨h, c, m, rfl, _⟩ := h; rfl
  · obtain ⟨h, c, m, rfl, HL, m1, m2, q⟩ := h
    refine ⟨_, (Evl.pss_cut (ps_if (PW.pt (pw_and (pt_cmpR op_eq (pe_ix ix_list (pv 0) pe_int (fun _ _ => rfl)) pe_int (nomark _)) (pw_and1 (pt_cmpR op_lt (pe_ix ix_list (pv 0) pe_int (fun _ _ => rfl)) (pe_callB call_len_seq (by rfl) T.z_len PySem.boot_len (pa_cons (pe_ix ix_list (pv 0) pe_int (fun _ _ => rfl)) pa_nil)) (nomark _))))) (pss_cons (ps_set (i := 2) sc_q_draw.nd rfl (Or.inl rfl) (pe_ix ix_list (pe_ix ix_list (pv 0) pe_int (fun _ _ => rfl)) (pe_ix ix_list (pv 0) pe_int (fun _ _ => rfl)) (fun _ _ => rfl)))
      (pss_cons (ps_asg (pe_op op_add (pe_ix ix_list (pv 0) pe_int (fun _ _ => rfl)) pe_int) (pg_sub (pv 0) pe_int set_list))
      (pss_cons (ps_asg (pe_op op_mod (pe_callTy call_int1 (by rfl) T.z_int (by decide +kernel) (pa_cons (pe_op op_add (pe_op op_add (pe_op op_mul (pe_ix ix_list (pv 0) pe_int (fun _ _ => rfl)) pe_int) (pv 2)) pe_int) pa_nil)) pe_int) (pg_sub (pv 0) pe_int set_list))
      (pss_one (ps_if (pt_cmpR op_ge (pv 2) (pe_op op_pow pe_int pe_int) (nomark _)) (pss_one (ps_asg (pv 2) (pg_sub (pv 0) pe_int set_list))) pss_nil))))) pss_nil)
      (pss_cons (ps_if (pt_cmpR op_gt (pe_ix ix_list (pv 0) pe_int (fun _ _ => rfl)) pe_int (nomark _)) (pss_cons (ps_set (i := 3) sc_q_draw.nd rfl (Or.inl rfl) (pe_op op_mod (pe_callTy call_int1 (by rfl) T.z_int (by decide +kernel) (pa_cons (pe_ix ix_list (pv 0) pe_int (fun _ _ => rfl)) pa_nil)) (pv 1)))
      (pss_cons (ps_asg (pe_op op_fdiv (pe_ix ix_list (pv 0) pe_int (fun _ _ => rfl)) (pv 1)) (pg_sub (pv 0) pe_int set_list))
      (pss_one (ps_ret (pv 3))))) pss_nil)
      (pss_cons (ps_asg (pe_op op_add (pe_ix ix_list (pv 0) pe_int (fun _ _ => rfl)) pe_int) (pg_sub (pv 0) pe_int set_list))
      (pss_cons (ps_set (i := 4) sc_q_draw.nd rfl (Or.inl rfl) (pe_op op_mod (pe_callTy call_int1 (by rfl) T.z_int (by decide +kernel) (pa_cons (pe_op op_mul (pe_callTy call_int1 (by rfl) T.z_int (by decide +kernel) (pa_cons (pe_op op_add (pe_ix ix_list (pv 0) pe_int (fun _ _ => rfl)) (pe_op op_mul pe_int (pe_ix ix_list (pv 0) pe_int (fun _ _ => rfl)))) pa_nil)) pe_int) pa_nil)) pe_int))
      (pss_cons (ps_set (i := 4) sc_q_draw.nd rfl (Or.inl rfl) (pe_op op_mod (pe_callTy call_int1 (by rfl) T.z_int (by decide +kernel) (pa_cons (pe_op op_mul (pv 4) (pe_op op_add (pe_op op_fdiv (pv 4) pe_int) pe_int)) pa_nil)) pe_int))
      (pss_cons (ps_set (i := 4) sc_q_draw.nd rfl (Or.inl rfl) (pe_op op_mod (pe_callTy call_int1 (by rfl) T.z_int (by decide +kernel) (pa_cons (pe_op op_mul (pv 4) (pe_op op_add (pe_op op_fdiv (pv 4) pe_int) pe_int)) pa_nil)) pe_int))
      (pss_one (ps_ret (pe_op op_mod (pe_callTy call_int1 (by rfl) T.z_int (by decide +kernel) (pa_cons (pe_op op_fdiv (pv 4) pe_int) pa_nil)) (pv 1)))))))))), ?_⟩
    refine ⟨fun σ H' => HandL H' h c ∧ Same (er H [h]) H' ∧ ∃ v2 v3 v4, σ = [some (.ref h), some (.int m), v2, v3, v4], ?_, fun σ H1 z => ?_⟩
    · obtain ⟨ne, zs, i1, i2, i3, i4, hh, hc, nn, i2n⟩ := HL
      have HL : HandL H h c := ⟨ne, zs, i1, i2, i3, i4, hh, hc, nn, i2n⟩
      refine rd_if ?_
      try dsimp only [tSeq, tAsg, tNext, tIf, tOr, tAnd, tNot, tB, tTest, tCall, tIfS, tRet, tDrop]
      refine rd_op <| rd_il (k := 2) (v := .int i2) hh rfl (ev_v rfl) ev_k ⟨rfl, _, rfl, iteB (fun b => ?_) (fun b => ?_)⟩
      · refine rd_op <| rd_il (k := 1) (v := .int (i1 : Int)) hh rfl (ev_v rfl) ev_k ?_
        refine rd_cons <| rd_il (k := 0) (v := .ref c) hh rfl (ev_v rfl) ev_k ?_
        refine ⟨c, _, rfl, .inl (SqL.of hc), _, _, rfl, rfl, _, rfl, iteB (fun b => ?_) (fun b => ?_)⟩
        · have hi : i1 < zs.length := by have := of_decide_eq_true b; rw [List.length_map] at this; omega
          have hg : (zs.map V.int)[i1]? = some (.int zs[i1]) := by rw [List.getElem?_map, List.getElem?_eq_getElem hi]; rfl
          have hz := nn _ (List.getElem_mem hi)
          refine rd_op <| rd_il (k := 0) (v := .ref c) hh rfl (ev_v rfl) ev_k <| rd_il (k := 1) (v := .int (i1 : Int)) hh rfl (ev_v rfl) ev_k <| rd_ixL hc hg ?_
          generalize zs[i1] = cell at hz
          try dsimp only [tSeq, tAsg, tNext, tIf, tOr, tAnd, tNot, tB, tTest, tCall, tIfS, tRet, tDrop]
          refine rd_op <| rd_il (k := 1) (v := .int (i1 : Int)) hh rfl (ev_v rfl) ev_k ⟨_, _, rfl, rfl, ?_⟩
          refine rd_setL (k := 1) (v := .int ((i1 : Int) + 1)) hh (by show 1 < 5; decide) (ev_v rfl) ev_k ?_
          have hh2 : (upd H h (.lst ((handV c i1 i2 i3 i4).set 1 (.int ((i1 : Int) + 1))))) h = some (.lst (handV c (i1 + 1) i2 i3 i4)) := upd_same
          have hc2 : (upd H h (.lst ((handV c i1 i2 i3 i4).set 1 (.int ((i1 : Int) + 1))))) c = some (.lst (zs.map V.int)) := by rw [upd_ne ne]; exact hc
          have s2 : Same (er H [h]) (upd H h (.lst ((handV c i1 i2 i3 i4).set 1 (.int ((i1 : Int) + 1))))) := Hs.upd (er_same _ _)
          generalize upd H h (.lst ((handV c i1 i2 i3 i4).set 1 (.int ((i1 : Int) + 1)))) = H2 at hh2 hc2 s2
          try dsimp only [tSeq, tAsg, tNext, tIf, tOr, tAnd, tNot, tB, tTest, tCall, tIfS, tRet, tDrop]
          refine rd_op <| rd_cons <| rd_op <| rd_op <| rd_op <| rd_il (k := 3) (v := .int i3) hh2 rfl (ev_v rfl) ev_k ⟨_, _, rfl, rfl, .inr ⟨by decide, by decide⟩, ?_⟩
          refine ⟨_, rfl, _, _, rfl, rfl, _, _, rfl, rfl, .inl ⟨_, rfl, _, _, rfl, rfl, (by show (0 : Int) < 2147483629; decide), ?_⟩⟩
          refine rd_setL (k := 3) hh2 (by show 3 < 5; decide) (ev_v rfl) ev_k ?_
          dsimp only
          generalize ((i3 * 69621 + cell + 11) % 2147483629 : Int) = i3'
          have hh3 : (upd H2 h (.lst ((handV c (i1 + 1) i2 i3 i4).set 3 (.int i3')))) h = some (.lst (handV c (i1 + 1) i2 i3' i4)) := upd_same
          have hc3 : (upd H2 h (.lst ((handV c (i1 + 1) i2 i3 i4).set 3 (.int i3')))) c = some (.lst (zs.map V.int)) := by rw [upd_ne ne]; exact hc2
          have s3 : Same (er H [h]) (upd H2 h (.lst ((handV c (i1 + 1) i2 i3 i4).set 3 (.int i3')))) := Hs.upd s2
          generalize upd H2 h (.lst ((handV c (i1 + 1) i2 i3 i4).set 3 (.int i3'))) = H3 at hh3 hc3 s3
          refine ⟨_, rfl, _, _, rfl, rfl, ⟨by decide, by decide, by decide⟩, _, _, rfl, rfl, _, rfl, iteB (fun b => ?_) (fun b => ?_)⟩
          · refine ⟨_, rfl, ?_⟩
            refine rd_setL (k := 2) (v := .int cell) hh3 (by show 2 < 5; decide) (ev_v rfl) ev_k ?_
            exact ⟨⟨ne, zs, i1 + 1, cell, i3', i4, upd_same, by rw [upd_ne ne]; exact hc3, nn, hz⟩, Hs.upd s3, _, _, _, rfl⟩
          · exact ⟨⟨ne, zs, i1 + 1, i2, i3', i4, hh3, hc3, nn, i2n⟩, s3, _, _, _, rfl⟩
        · exact ⟨HL, er_same _ _, _, _, _, rfl⟩
      · exact ⟨HL, er_same _ _, _, _, _, rfl⟩
    · obtain ⟨⟨ne, zs, i1, i2, i3, i4, hh, hc, nn, i2n⟩, s1, v2, v3, v4, rfl⟩ := z
      try dsimp only [tSeq, tAsg, tNext, tIf, tOr, tAnd, tNot, tB, tTest, tCall, tIfS, tRet, tDrop]
      refine rd_op <| rd_il (k := 2) (v := .int i2) hh rfl (ev_v rfl) ev_k ⟨_, _, rfl, rfl, _, rfl, iteB (fun b => ?_) (fun b => ?_)⟩
      · refine rd_op <| rd_cons <| rd_il (k := 2) (v := .int i2) hh rfl (ev_v rfl) ev_k ?_
        refine .inl ⟨_, rfl, _, rfl, _, _, rfl, rfl, m1, ?_⟩
        try dsimp only [tSeq, tAsg, tNext, tIf, tOr, tAnd, tNot, tB, tTest, tCall, tIfS, tRet, tDrop]
        refine rd_op <| rd_il (k := 2) (v := .int i2) hh rfl (ev_v rfl) ev_k ?_
        refine ⟨_, rfl, _, _, rfl, rfl, ⟨m1, m2⟩, ?_⟩
        refine rd_setL (k := 2) (v := .int (i2 / m)) hh (by show 2 < 5; decide) (ev_v rfl) ev_k ?_
        exact ⟨_, rfl, q _ _ ⟨ne, zs, i1, i2 / m, i3, i4, upd_same, by rw [upd_ne ne]; exact hc, nn, Int.ediv_nonneg i2n (Int.le_of_lt m1)⟩ (Hs.upd s1) (Int.emod_nonneg _ (by omega)) (Int.emod_lt_of_pos _ m1)⟩
      · refine rd_op <| rd_il (k := 4) (v := .int i4) hh rfl (ev_v rfl) ev_k ⟨_, _, rfl, rfl, ?_⟩
        refine rd_setL (k := 4) (v := .int (i4 + 1)) hh (by show 4 < 5; decide) (ev_v rfl) ev_k ?_
        have hh2 : (upd H1 h (.lst ((handV c i1 i2 i3 i4).set 4 (.int (i4 + 1))))) h = some (.lst (handV c i1 i2 i3 (i4 + 1))) := upd_same
        have HL2 : HandL (upd H1 h (.lst ((handV c i1 i2 i3 i4).set 4 (.int (i4 + 1))))) h c := ⟨ne, zs, i1, i2, i3, i4 + 1, upd_same, by rw [upd_ne ne]; exact hc, nn, i2n⟩
        have s2 : Same (er H [h]) (upd H1 h (.lst ((handV c i1 i2 i3 i4).set 4 (.int (i4 + 1))))) := Hs.upd s1
        generalize upd H1 h (.lst ((handV c i1 i2 i3 i4).set 4 (.int (i4 + 1)))) = H2 at hh2 HL2 s2
        try dsimp only [tSeq, tAsg, tNext, tIf, tOr, tAnd, tNot, tB, tTest, tCall, tIfS, tRet, tDrop]
        refine rd_op <| rd_cons <| rd_op <| rd_cons <| rd_op <| rd_il (k := 3) (v := .int i3) hh2 rfl (ev_v rfl) ev_k ?_
        refine rd_op <| ev_k _ <| rd_il (k := 4) (v := .int (i4 + 1)) hh2 rfl (ev_v rfl) ev_k ?_
        refine ⟨_, _, rfl, rfl, .inl ⟨by decide, by decide⟩, _, _, rfl, rfl, .inl ⟨_, rfl, _, _, rfl, rfl, .inr ⟨by decide, by decide⟩, .inl ⟨_, rfl, _, _, rfl, rfl, (by show (0 : Int) < 2147483647; decide), ?_⟩⟩⟩
        have b1 : ∀ z : Int, 0 ≤ z % 2147483647 ∧ z % 2147483647 < 2147483647 := fun z => ⟨Int.emod_nonneg _ (by decide), Int.emod_lt_of_pos _ (by decide)⟩
        dsimp only
        obtain ⟨n0, n1⟩ := b1 ((i3 + 7919 * (i4 + 1)) * 48271)
        generalize ((i3 + 7919 * (i4 + 1)) * 48271) % 2147483647 = z1 at n0 n1
        have p64 : (2 : Int) ^ 64 = 18446744073709551616 := by decide
        refine ⟨_, rfl, _, rfl, _, _, rfl, rfl, ⟨by decide, by decide⟩, _, _, rfl, rfl, _, _, rfl, rfl, .inl ⟨by omega, by omega⟩, .inl ⟨_, rfl, _, _, rfl, rfl, (by show (0 : Int) < 2147483647; decide), ?_⟩⟩
        dsimp only
        obtain ⟨n0, n1⟩ := b1 (z1 * (z1 / 1009 + 69621))
        generalize (z1 * (z1 / 1009 + 69621)) % 2147483647 = z2 at n0 n1
        refine ⟨_, rfl, _, rfl, _, _, rfl, rfl, ⟨by decide, by decide⟩, _, _, rfl, rfl, _, _, rfl, rfl, .inl ⟨by omega, by omega⟩, .inl ⟨_, rfl, _, _, rfl, rfl, (by show (0 : Int) < 2147483399; decide), ?_⟩⟩
        refine ⟨_, rfl, _, _, rfl, rfl, ⟨by decide, by decide⟩, .inl ⟨_, rfl, _, rfl, _, _, rfl, rfl, m1, ?_⟩⟩
        exact q _ _ HL2 s2 (Int.emod_nonneg _ (by omega)) (Int.emod_lt_of_pos _ m1)
end
end K13
namespace K13
open PySem PySem.Spec PyProof.Rows L2
section
variable {P : Program} {w : World} {K : PySem.W.Frag} {mg : Str → Option Value} {base : Heap} {A : Ad}
theorem perm_pop {α : Type} {l : List α} {j : Nat} (h : j < l.length) : ([l[j]] ++ l.eraseIdx j).Perm l := by
  rw [List.eraseIdx_eq_take_drop_succ]
  have e : l = l.take j ++ l[j] :: l.drop (j + 1) := by rw [← List.drop_eq_getElem_cons h, List.take_append_drop]
  have p : (l[j] :: (l.take j ++ l.drop (j + 1))).Perm (l.take j ++ l[j] :: l.drop (j + 1)) := List.perm_middle.symm
  rw [← e] at p
  exact p
def sp_q_some : Sp := fun vs H Q _ => ∃ (h c pt : Addr) (xs : List V), vs = [.ref h, .ref pt] ∧ HandL H h c ∧ H pt = some (.lst xs) ∧ pt ≠ h ∧ 0 < xs.length ∧ xs.length ≤ 1000 ∧ ∀ H' v, HandL H' h c → Same (er H [h]) H' → v ∈ xs → Q v H'
theorem ok_q_some (T : Txt K mg A) : FnOk P w K mg base CX0 2 A.f_q_some A.d_q_some ["_law_hand_here", "_law_things"] sp_q_some := by
  refine T.f_q_some.ok sc_q_some (fun vs H Q E h => ?_) (fun cdv A' outer s H vs Q E hr h => ?_)
  · obtain ⟨h, c, pt, xs, rfl, _⟩ := h; rfl
  · obtain ⟨h, c, pt, xs, rfl, HL, ht, ne, x0, x1, q⟩ := h
    refine ⟨_, (pss_one (ps_ret (pe_ix ix_list (pv 1) (pe_call (ok_q_draw T) (hr.mono (by decide)) (by rfl) T.g_q_draw T.f_q_draw.kp T.b_q_draw .nil pass0 (pa_cons (pv 0) (pa_cons (pe_callB call_len_seq (by rfl) T.z_len PySem.boot_len (pa_cons (pv 1) pa_nil)) pa_nil))) (fun _ _ => rfl)))), ?_⟩
    refine ⟨_, rfl, _, rfl, _, rfl, pt, xs, rfl, .inl (SqL.of ht), h, c, (xs.length : Int), rfl, HL, by omega, by omega, fun H' r HL' m r0 r1 => ?_⟩
    obtain ⟨j, rfl⟩ : ∃ j : Nat, r = (j : Int) := ⟨r.toNat, by omega⟩
    have hj : j < xs.length := by omega
    exact rd_ixL (Hs.at m ht ne) (List.getElem?_eq_getElem hj) (q H' _ HL' m (List.getElem_mem hj))
def sp_q_shuffled : Sp := fun vs H Q _ => ∃ (h c pt : Addr) (xs : List V), vs = [.ref h, .ref pt] ∧ HandL H h c ∧ H pt = some (.lst xs) ∧ xs.length ≤ 64 ∧ ∀ H' r ys, HandL H' h c → Same (er H [h]) H' → H r = none → H' r = some (.lst ys) → ys.Perm xs → Q (.ref r) H'
theorem ok_q_shuffled (T : Txt K mg A) : FnOk P w K mg base CX0 2 A.f_q_shuffled A.d_q_shuffled ["_law_hand_here", "_law_things"] sp_q_shuffled := by
  refine T.f_q_shuffled.ok sc_q_shuffled (fun vs H Q E h => ?_) (fun cdv A' outer s H vs Q E hr h => ?_)
  · obtain ⟨h, c, pt, xs, rfl, _⟩ := h; rfl
  · obtain ⟨h, c, pt, xs, rfl, HL, ht, x1, q⟩ := h
    refine ⟨_, (pss_cons (ps_set (i := 2) sc_q_shuffled.nd rfl (Or.inl rfl) (pe_callTy call_list_of (by rfl) T.z_list (by decide +kernel) (pa_cons (pv 1) pa_nil)))
      (pss_cons (ps_set (i := 3) sc_q_shuffled.nd rfl (Or.inl rfl) (pe_lst pa_nil))
      (pss_cons (ps_while PassesOwn.never (pt_cmpR op_gt (pe_callB call_len_seq (by rfl) T.z_len PySem.boot_len (pa_cons (pv 2) pa_nil)) pe_int (nomark _))
      (pss_one (ps_expr (pe_bm PySem.F.plainAttrs_list PySem.F.slot_list_append PySem.F.type_list_append mt_append (pv 3) (pa_cons (pe_bm PySem.F.plainAttrs_list PySem.F.slot_list_pop PySem.F.type_list_pop mt_popAt (pv 2) (pa_cons (pe_call (ok_q_draw T) (hr.mono (by decide)) (by rfl) T.g_q_draw T.f_q_draw.kp T.b_q_draw .nil pass0 (pa_cons (pv 0) (pa_cons (pe_callB call_len_seq (by rfl) T.z_len PySem.boot_len (pa_cons (pv 2) pa_nil)) pa_nil))) pa_nil)) pa_nil)))))
      (pss_one (ps_ret (pv 3)))))), ?_⟩
    refine ⟨_, rfl, pt, xs, rfl, .inl (SqL.of ht), fun pp np => ⟨Nat.zero_le _, fun pf nf => ?_⟩⟩
    have nfH : H pf = none := (same_new np).free nf
    obtain ⟨ph, pc⟩ := HL.fresh np
    obtain ⟨fh, fc⟩ := HL.fresh nfH
    have pf_pp : pf ≠ pp := fun z => by subst z; rw [upd_same] at nf; cases nf
    refine ⟨fun m σ H' => HandL H' h c ∧ Same (er H [h]) H' ∧ ∃ ps fs : List V, ps.length = m ∧ H' pp = some (.lst ps) ∧ H' pf = some (.lst fs) ∧ (fs ++ ps).Perm xs ∧ σ = [some (.ref h), some (.ref pt), some (.ref pp), some (.ref pf)],
      ⟨xs.length, HL.mono ((same_new np).trans (same_new nf)), Hs.of ((same_new np).trans (same_new nf)), xs, [], rfl, by rw [upd_ne pf_pp.symm, upd_same], upd_same, List.Perm.refl _, rfl⟩, fun m σ H' z => ?_⟩
    obtain ⟨HL1, s1, ps, fs, rfl, hp, hf, pm, rfl⟩ := z
    have hlen := pm.length_eq
    rw [List.length_append] at hlen
    refine ⟨_, rfl, pp, ps, rfl, .inl (SqL.of hp), _, _, rfl, rfl, _, rfl, iteB (fun b => ?_) (fun b => ?_)⟩
    · have p0 : 0 < ps.length := by have := of_decide_eq_true b; omega
      refine ⟨fun σ' H' => HandL H' h c ∧ Same (er H [h]) H' ∧ ∃ ps' fs : List V, ps'.length < ps.length ∧ H' pp = some (.lst ps') ∧ H' pf = some (.lst fs) ∧ (fs ++ ps').Perm xs ∧ σ' = [some (.ref h), some (.ref pt), some (.ref pp), some (.ref pf)],
        fun σ' H' ⟨z1, z2, ps', fs', z3, z4⟩ => ⟨_, z3, z1, z2, ps', fs', rfl, z4⟩, ?_⟩
      refine ⟨_, rfl, .inl ⟨rfl, _, SqL.of hf⟩, _, rfl, .inl ⟨rfl, _, SqL.of hp⟩, ?_⟩
      refine ⟨_, rfl, _, rfl, pp, ps, rfl, .inl (SqL.of hp), h, c, (ps.length : Int), rfl, HL1, by omega, by omega, fun H2 r HL2 m2 r0 r1 => ?_⟩
      obtain ⟨j, rfl⟩ : ∃ j : Nat, r = (j : Int) := ⟨r.toNat, by omega⟩
      have hj : j < ps.length := by omega
      have hp2 := Hs.at m2 hp ph
      have hf2 := Hs.at m2 hf fh
      refine ⟨pp, ps, (j : Int), j, ps[j], rfl, rfl, hp2, by omega, by omega, ?_, List.getElem?_eq_getElem hj, ?_⟩
      · rw [seqIndex_of (by omega) (by omega)]; rfl
      refine ⟨pf, fs, _, rfl, rfl, by rw [upd_ne pf_pp]; exact hf2, small1000 (by omega), ?_⟩
      have np' : er H [h] pp = none := by rw [er_out (by simpa using ph)]; exact np
      have nf' : er H [h] pf = none := by rw [er_out (by simpa using fh)]; exact nfH
      refine ⟨(HL2.beside ph pc).beside fh fc, ?_, ps.eraseIdx j, fs ++ [ps[j]], ?_, ?_, upd_same, ?_, rfl⟩
      · exact Same.mut (Same.mut (Hs.trans s1 m2) np') nf'
      · rw [List.length_eraseIdx_of_lt hj]; omega
      · rw [upd_ne pf_pp.symm, upd_same]
      · rw [List.append_assoc]
        refine (List.Perm.append_left fs ?_).trans pm
        exact perm_pop hj
    · have p0 : ps = [] := by
        cases ps with
        | nil => rfl
        | cons x r => exact absurd (show (0 : Int) < ((x :: r).length : Nat) by rw [List.length_cons]; omega) (of_decide_eq_false b)
      subst p0
      rw [List.append_nil] at pm
      exact ⟨_, rfl, q H' pf fs HL1 s1 nfH hf pm⟩
/-! ### papers alike -/
def sp_q_isI : Sp := fun vs H Q _ => ∃ i : Int, vs = [.int i, .int i] ∧ ∀ H', Same H H' → Q (.bl true) H'
theorem ok_q_isI (T : Txt K mg A) : FnOk P w K mg base CX0 1 A.f_q_is A.d_q_is ["_law_told", "_law_due"] sp_q_isI := by
  refine T.f_q_is.ok sc_q_is (fun vs H Q E h => ?_) (fun cdv A' outer s H vs Q E hr h => ?_)
  · obtain ⟨i, rfl, _⟩ := h; rfl
  · obtain ⟨i, rfl, q⟩ := h
    refine ⟨_, (pss_cons (ps_if (pt_val (pe_callB call_isiT (by rfl) T.z_isinstance (by decide +kernel) (pa_cons (pv 1) (pa_cons (pe_tup (pa_cons (pe_bltn (v := .ty "tuple") (by rfl) T.z_tuple (by decide +kernel) rfl) (pa_cons (pe_bltn (v := .ty "list") (by rfl) T.z_list (by decide +kernel) rfl) pa_nil))) pa_nil)))) (pss_cons ps_never
      (pss_one ps_never)) pss_nil)
      (pss_cons (ps_if (pt_val (pe_callB call_isi (by rfl) T.z_isinstance (by decide +kernel) (pa_cons (pv 1) (pa_cons (pe_bltn (v := .ty "dict") (by rfl) T.z_dict (by decide +kernel) rfl) pa_nil)))) (pss_one ps_never) pss_nil)
      (pss_one (ps_ret (pe_and (pe_cmpR op_eq (pe_callB call_isi (by rfl) T.z_isinstance (by decide +kernel) (pa_cons (pv 0) (pa_cons (pe_bltn (v := .ty "bool") (by rfl) T.z_bool (by decide +kernel) rfl) pa_nil))) (pe_callB call_isi (by rfl) T.z_isinstance (by decide +kernel) (pa_cons (pv 1) (pa_cons (pe_bltn (v := .ty "bool") (by rfl) T.z_bool (by decide +kernel) rfl) pa_nil))) (nomark _)) (pe_one (pe_cmpR (op_eqD hr.units) (pv 0) (pv 1) (nomark _)))))))), ?_⟩
    refine ⟨_, rfl, size64 (by show 2 ≤ 1000; decide), fun t nt => ?_⟩
    refine ⟨_, t, _, _, _, false, rfl, upd_same, .cons (.ty "tuple") (.cons (.ty "list") .nil), .base (.int i), kitAny_cons (kit_ty (r := false) (by decide +kernel)) (fun _ => kitAny_cons (kit_ty (r := false) (by decide +kernel)) (fun _ => kitAny_nil) (fun z => by cases z)) (fun z => by cases z), false, rfl, iteF ?_⟩
    refine ⟨_, rfl, _, _, _, _, _, rfl, .ty "dict", .base (.int i), kit_ty (r := false) (by decide +kernel), false, rfl, iteF ?_⟩
    refine ⟨_, rfl, _, _, _, _, _, rfl, .ty "bool", .base (.int i), kit_ty (r := false) (by decide +kernel), ?_⟩
    refine ⟨_, rfl, _, _, _, _, _, rfl, .ty "bool", .base (.int i), kit_ty (r := false) (by decide +kernel), rfl, true, rfl, iteT ?_⟩
    exact ⟨_, rfl, _, rfl, .int i, .int i, .int i, .int i, rfl, rfl, qb (SeqAt.eqv_refl _ rfl) (q _ (same_new nt))⟩
def sp_q_isT : Sp := fun vs H Q _ => ∃ (a b : Addr) (ns : List Int), vs = [.ref a, .ref b] ∧ H a = some (.tup (ns.map V.int)) ∧ H b = some (.tup (ns.map V.int)) ∧ ns.length ≤ 900 ∧ ∀ H', Same H H' → Q (.bl true) H'
theorem ok_q_is (T : Txt K mg A) : FnOk P w K mg base CX0 2 A.f_q_is A.d_q_is ["_law_told", "_law_due"] sp_q_isT := by
  refine T.f_q_is.ok sc_q_is (fun vs H Q E h => ?_) (fun cdv A' outer s H vs Q E hr h => ?_)
  · obtain ⟨a, b, ns, rfl, _⟩ := h; rfl
  · obtain ⟨a, b, ns, rfl, ha, hb, hl, q⟩ := h
    refine ⟨_, (pss_cons (ps_if (pt_val (pe_callB call_isiT (by rfl) T.z_isinstance (by decide +kernel) (pa_cons (pv 1) (pa_cons (pe_tup (pa_cons (pe_bltn (v := .ty "tuple") (by rfl) T.z_tuple (by decide +kernel) rfl) (pa_cons (pe_bltn (v := .ty "list") (by rfl) T.z_list (by decide +kernel) rfl) pa_nil))) pa_nil)))) (pss_cons (ps_if (PW.pt (pw_or (pt_cmpR op_ne (pe_callB call_isi (by rfl) T.z_isinstance (by decide +kernel) (pa_cons (pv 0) (pa_cons (pe_bltn (v := .ty "tuple") (by rfl) T.z_tuple (by decide +kernel) rfl) pa_nil))) (pe_callB call_isi (by rfl) T.z_isinstance (by decide +kernel) (pa_cons (pv 1) (pa_cons (pe_bltn (v := .ty "tuple") (by rfl) T.z_tuple (by decide +kernel) rfl) pa_nil))) (nomark _)) (pw_or1 (pt_cmpR op_ne (pe_callB call_isi (by rfl) T.z_isinstance (by decide +kernel) (pa_cons (pv 0) (pa_cons (pe_bltn (v := .ty "list") (by rfl) T.z_list (by decide +kernel) rfl) pa_nil))) (pe_callB call_isi (by rfl) T.z_isinstance (by decide +kernel) (pa_cons (pv 1) (pa_cons (pe_bltn (v := .ty "list") (by rfl) T.z_list (by decide +kernel) rfl) pa_nil))) (nomark _))))) (pss_one (ps_ret pe_bl)) pss_nil)
      (pss_one (ps_ret (pe_and (pe_cmpR op_eq (pe_callB call_len_seq (by rfl) T.z_len PySem.boot_len (pa_cons (pv 0) pa_nil)) (pe_callB call_len_seq (by rfl) T.z_len PySem.boot_len (pa_cons (pv 1) pa_nil)) (nomark _)) (pe_one (pe_callB (cr_all rfl) (by rfl) T.z_all (by decide +kernel) (pa_cons (pe_lc (own := [("_law_k", 2)]) (g := gName 2) (tt := tYes) (by rfl) sc_q_is.nd (pi_range1 (by rfl) T.z_range (pa_cons (pe_callB call_len_seq (by rfl) T.z_len PySem.boot_len (pa_cons (pv 1) pa_nil)) pa_nil)) (blkOk_by (own := [("_law_k", 2)]) (N := ns_q_is) (sc := defScope st_q_is) (by decide +kernel)) (fun _ _ _ _ _ => pg_name (i := 2) sc_q_is.nd rfl (Or.inl rfl)) (fun _ _ _ _ _ => pts_nil) (fun _ _ _ _ _ => (pe_call (ok_q_isI T) (hr.mono (by decide)) (by rfl) T.g_q_is T.f_q_is.kp T.b_q_is .nil pass0 (pa_cons (pe_ix (show IxR _ (rIxT K) from ix_tup) (pv 0) (pv 2) (fun _ _ => rfl)) (pa_cons (pe_ix (show IxR _ (rIxT K) from ix_tup) (pv 1) (pv 2) (fun _ _ => rfl)) pa_nil))))) pa_nil))))))) pss_nil)
      (pss_cons (ps_if (pt_val (pe_callB call_isi (by rfl) T.z_isinstance (by decide +kernel) (pa_cons (pv 1) (pa_cons (pe_bltn (v := .ty "dict") (by rfl) T.z_dict (by decide +kernel) rfl) pa_nil)))) (pss_one ps_never) pss_nil)
      (pss_one (ps_ret (pe_and (pe_cmpR op_eq (pe_callB call_isi (by rfl) T.z_isinstance (by decide +kernel) (pa_cons (pv 0) (pa_cons (pe_bltn (v := .ty "bool") (by rfl) T.z_bool (by decide +kernel) rfl) pa_nil))) (pe_callB call_isi (by rfl) T.z_isinstance (by decide +kernel) (pa_cons (pv 1) (pa_cons (pe_bltn (v := .ty "bool") (by rfl) T.z_bool (by decide +kernel) rfl) pa_nil))) (nomark _)) (pe_one (pe_cmpR (op_eqD hr.units) (pv 0) (pv 1) (nomark _)))))))), ?_⟩
    refine ⟨_, rfl, size64 (by show 2 ≤ 1000; decide), fun t nt => ?_⟩
    have ha1 : (upd H t (.tup [.ty "tuple", .ty "list"])) a = some (.tup (ns.map V.int)) := (same_new nt) _ _ ha
    have hb1 : (upd H t (.tup [.ty "tuple", .ty "list"])) b = some (.tup (ns.map V.int)) := (same_new nt) _ _ hb
    refine ⟨_, t, _, _, _, true, rfl, upd_same, .cons (.ty "tuple") (.cons (.ty "list") .nil), .base (.tup hb1), kitAny_cons (kit_ty (r := true) (by decide +kernel)) (fun z => by cases z) (fun _ => rfl), true, rfl, iteT ?_⟩
    have s1 : Same H (upd H t (.tup [.ty "tuple", .ty "list"])) := same_new nt
    generalize upd H t (.tup [.ty "tuple", .ty "list"]) = H1 at ha1 hb1 s1
    refine ⟨_, rfl, _, _, _, _, _, rfl, .ty "tuple", .base (.tup ha1), kit_ty (r := true) (by decide +kernel), ?_⟩
    refine ⟨_, rfl, _, _, _, _, _, rfl, .ty "tuple", .base (.tup hb1), kit_ty (r := true) (by decide +kernel), rfl, false, rfl, iteF ?_⟩
    refine ⟨_, rfl, _, _, _, _, _, rfl, .ty "list", .base (.tup ha1), kit_ty (r := false) (by decide +kernel), ?_⟩
    refine ⟨_, rfl, _, _, _, _, _, rfl, .ty "list", .base (.tup hb1), kit_ty (r := false) (by decide +kernel), rfl, false, rfl, iteF ?_⟩
    refine ⟨_, rfl, a, _, rfl, .inr (SqT.of ha1), _, rfl, b, _, rfl, .inr (SqT.of hb1), rfl, true, congrArg V.bl (decide_eq_true rfl), iteT ?_⟩
    refine ⟨_, rfl, b, _, rfl, .inr (SqT.of hb1), _, rfl, by have := List.length_map V.int (as := ns); omega, by have := List.length_map V.int (as := ns); omega, fun D nD => ?_⟩
    refine lc_trueR (n := (ns.map V.int).length) nD (by rw [List.length_map]; exact hl) (fun _ => rfl) (fun j H3 hj s3 Q' q' => ?_) fun H3 s3 h3 => rd_nil <| all_true h3 (q H3 (s1.trans s3))
    have hjn : j < ns.length := by rw [List.length_map] at hj; exact hj
    have hg : (ns.map V.int)[j]? = some (.int ns[j]) := by rw [List.getElem?_map, List.getElem?_eq_getElem hjn]; rfl
    refine rd_cons <| rd_it (k := j) (s3 _ _ ha1) hg (ev_v rfl) (ev_v rfl) ?_
    refine rd_cons <| rd_it (k := j) (s3 _ _ hb1) hg (ev_v rfl) (ev_v rfl) ?_
    exact ⟨ns[j], rfl, q'⟩
end
end K13
namespace K13
open PySem PySem.Spec PyProof.Rows L2
section
variable {P : Program} {w : World} {K : PySem.W.Frag} {mg : Str → Option Value} {base : Heap} {A : Ad}
/-- a row behind the last one -/
theorem HereL.push {H : Hp} {p b : Addr} {n : Nat} {s : Sh} {as : List Addr} {d : Nd} (h : HereL H p n s as) (nb : H b = none) : HereL (upd (upd H b (.lst (ndV d))) p (.lst (as.map V.ref ++ [.ref b]))) p (n + 1) (put s n d) (as ++ [b]) := by
  obtain ⟨bp, ba⟩ := h.fresh nb
  refine ⟨by rw [List.length_append, h.len]; rfl, ?_, ?_, by rw [upd_same, List.map_append]; rfl, fun i a e => ?_⟩
  · rw [List.nodup_append]
    exact ⟨h.nd, by simp, fun x hx y hy e => ba (by rw [List.mem_singleton.mp hy] at e; rw [← e]; exact hx)⟩
  · intro z
    rcases List.mem_append.mp z with z | z
    · exact h.np z
    · exact bp (List.mem_singleton.mp z).symm
  · by_cases hi : i < as.length
    · rw [List.getElem?_append_left hi] at e
      have am := List.mem_of_getElem? e
      have ap : a ≠ p := fun z => h.np (by rw [← z]; exact am)
      have ab : a ≠ b := fun z => ba (by rw [← z]; exact am)
      rw [upd_ne ap, upd_ne ab, put_ne (by have := h.len; omega)]
      exact h.row i a e
    · rw [List.getElem?_append_right (by omega)] at e
      obtain ⟨z, e⟩ := List.getElem?_eq_some_iff.mp e
      have z0 : i = as.length := by simp at z; omega
      subst z0
      simp at e
      subst e
      rw [upd_ne bp, upd_same, h.len, put_same]
theorem HereL.hs {H H1 : Hp} {h p : Addr} {n : Nat} {s : Sh} {as : List Addr} (S : HereL H p n s as) (m : Same (er H [h]) H1) (hp : p ≠ h) (ha : h ∉ as) : HereL H1 p n s as :=
  ⟨S.len, S.nd, S.np, Hs.at m S.top hp, fun i a e => Hs.at m (S.row i a e) (fun z => ha (by rw [← z]; exact List.mem_of_getElem? e))⟩
theorem HereL.nil {H : Hp} {p : Addr} (e : H p = some (.lst [])) : HereL H p 0 (fun _ => blank) [] := ⟨rfl, List.nodup_nil, by simp, e, fun i a e => by simp at e⟩
theorem rd_ite {σ : L2.St} {H : Hp} {Q : VK} {tt : TT} {ta tb : TE} {b : Bool} {x y : V} (e : ∀ Q : Bool → Hp → Prop, Q b H → tt σ H Q) (ha : b = true → ∀ Q : VK, Q x H → ta σ H Q) (hb : b = false → ∀ Q : VK, Q y H → tb σ H Q) (q : Q (if b = true then x else y) H) : tIf tt ta tb σ H Q := by
  refine e _ (iteB (fun c => ?_) (fun c => ?_))
  · rw [if_pos c] at q; exact ha c _ q
  · rw [if_neg (by rw [c]; decide)] at q; exact hb c _ q
theorem c_lt {σ : L2.St} {H : Hp} {ta tb : TE} {i j : Int} (ha : ∀ Q : VK, Q (.int i) H → ta σ H Q) (hb : ∀ Q : VK, Q (.int j) H → tb σ H Q) (Q : Bool → Hp → Prop) (q : Q (decide (i < j)) H) : tTest (tOp (rI0 fun i j => V.bl (decide (i < j))) ta tb) σ H Q := ha _ (hb _ ⟨_, _, rfl, rfl, _, rfl, q⟩)
theorem c_gt {σ : L2.St} {H : Hp} {ta tb : TE} {i j : Int} (ha : ∀ Q : VK, Q (.int i) H → ta σ H Q) (hb : ∀ Q : VK, Q (.int j) H → tb σ H Q) (Q : Bool → Hp → Prop) (q : Q (decide (j < i)) H) : tTest (tOp (rI0 fun i j => V.bl (decide (j < i))) ta tb) σ H Q := ha _ (hb _ ⟨_, _, rfl, rfl, _, rfl, q⟩)
theorem rd_draw {σ : L2.St} {H : Hp} {Q : VK} {h c : Addr} {m : Nat} {t0 tm : TE} (HL : HandL H h c) (m0 : 0 < m) (m1 : m < 1073741824) (e0 : ∀ Q : VK, Q (.ref h) H → t0 σ H Q) (em : ∀ Q : VK, Q (.int (m : Int)) H → tm σ H Q)
    (q : ∀ H' r, HandL H' h c → Same (er H [h]) H' → r < m → Q (.int (r : Int)) H') : tCall sp_q_draw [] E0 (tCons t0 (tCons tm tNil)) σ H Q :=
  e0 _ (em _ ⟨h, c, (m : Int), rfl, HL, by omega, by omega, fun H' r HL' m' r0 r1 => by
    obtain ⟨j, rfl⟩ : ∃ j : Nat, r = (j : Int) := ⟨r.toNat, by omega⟩
    exact q H' j HL' m' (by omega)⟩)
theorem rd_andD {σ : L2.St} {H : Hp} {Q : VK} {h c : Addr} {m : Nat} {z : Int} {a : Bool} {ta t0 tm : TE} (HL : HandL H h c) (ea : ∀ Q : VK, Q (.bl a) H → ta σ H Q) (m0 : 0 < m) (m1 : m < 1073741824) (e0 : ∀ Q : VK, Q (.ref h) H → t0 σ H Q) (em : ∀ Q : VK, Q (.int (m : Int)) H → tm σ H Q)
    (q : ∀ H' b, HandL H' h c → Same (er H [h]) H' → Q (.bl b) H') : tAndV ta (tOp rEq (tCall sp_q_draw [] E0 (tCons t0 (tCons tm tNil))) (tC (.int z))) σ H Q := by
  refine ea _ ⟨a, rfl, iteB (fun b => ?_) (fun b => ?_)⟩
  · exact rd_op <| rd_draw HL m0 m1 e0 em fun H' r HL' m' _ => ⟨rfl, q H' _ HL' m'⟩
  · exact q H _ HL (er_same _ _)
def sp_q_steep : Sp := fun vs H Q _ => ∃ (h c : Addr) (n : Nat), vs = [.ref h, .int (n : Int)] ∧ HandL H h c ∧ n ≤ 64 ∧
  ∀ p H' s as, HandL H' h c → Same (er H [h]) H' → H p = none → (∀ a ∈ as, H a = none) → HereL H' p n s as → Ok n s → Q (.ref p) H'
theorem ok_q_steep (T : Txt K mg A) : FnOk P w K mg base CX0 2 A.f_q_steep A.d_q_steep ["_law_hand_here", "_law_many"] sp_q_steep := by
  refine T.f_q_steep.ok sc_q_steep (fun vs H Q E h => ?_) (fun cdv A' outer s H vs Q E hr h => ?_)
  · obtain ⟨h, c, n, rfl, _⟩ := h; rfl
  · obtain ⟨h, c, n, rfl, HL, n2, q⟩ := h
    refine ⟨_, (pss_cons (ps_par (i := 2) (j := 3) rfl sc_q_steep.nd rfl rfl (by decide) rfl rfl (pa_cons (pe_call (ok_q_draw T) (hr.mono (by decide)) (by rfl) T.g_q_draw T.f_q_draw.kp T.b_q_draw .nil pass0 (pa_cons (pv 0) (pa_cons pe_int pa_nil))) (pa_cons (pe_lst pa_nil) pa_nil)) (by rfl))
      (pss_cons (ps_for PassesOwn.never rfl (pi_range1 (by rfl) T.z_range (pa_cons (pv 1) pa_nil)) (pg_name (i := 4) sc_q_steep.nd rfl (Or.inl rfl))
      (pss_cons (ps_set (i := 5) sc_q_steep.nd rfl (Or.inl rfl) (pe_ifExp (pt_cmpR op_gt (pv 4) pe_int (nomark _)) (pe_op op_sub (pv 4) pe_int) pe_non))
      (pss_cons (ps_set (i := 6) sc_q_steep.nd rfl (Or.inl rfl) (pe_ifExp (pt_cmpR op_lt (pe_op op_add (pv 4) pe_int) (pv 1) (nomark _)) (pe_op op_add (pv 4) pe_int) pe_non))
      (pss_cons (ps_asg (pe_ix ix_list (pe_lst (pa_cons (pe_tup (pa_cons pe_non (pa_cons pe_non pa_nil))) (pa_cons (pe_tup (pa_cons (pv 6) (pa_cons pe_non pa_nil))) (pa_cons (pe_tup (pa_cons pe_non (pa_cons (pv 6) pa_nil))) pa_nil)))) (pv 2) (fun _ _ => rfl)) (pg_tup rfl (pgs_cons (pg_name (i := 7) sc_q_steep.nd rfl (Or.inl rfl)) (pgs_cons (pg_name (i := 8) sc_q_steep.nd rfl (Or.inl rfl)) pgs_nil))))
      (pss_one (ps_expr (pe_bm PySem.F.plainAttrs_list PySem.F.slot_list_append PySem.F.type_list_append mt_append (pv 3) (pa_cons (pe_lst (pa_cons (pv 5) (pa_cons (pv 7) (pa_cons (pv 8) (pa_cons (pe_and (pe_cmpR op_gt (pv 2) pe_int (nomark _)) (pe_one (pe_cmpR op_eq (pe_call (ok_q_draw T) (hr.mono (by decide)) (by rfl) T.g_q_draw T.f_q_draw.kp T.b_q_draw .nil pass0 (pa_cons (pv 0) (pa_cons pe_int pa_nil))) pe_int (nomark _)))) (pa_cons (pe_call (ok_q_draw T) (hr.mono (by decide)) (by rfl) T.g_q_draw T.f_q_draw.kp T.b_q_draw .nil pass0 (pa_cons (pv 0) (pa_cons pe_int pa_nil))) (pa_cons (pe_call (ok_q_draw T) (hr.mono (by decide)) (by rfl) T.g_q_draw T.f_q_draw.kp T.b_q_draw .nil pass0 (pa_cons (pv 0) (pa_cons pe_int pa_nil))) pa_nil))))))) pa_nil))))))))
      (pss_one (ps_ret (pv 3))))), ?_⟩
    refine ⟨_, rfl, h, c, 3, rfl, HL, by decide, by decide, fun H1 r HL1 m1 r0 r1 => ?_⟩
    obtain ⟨kind, rfl⟩ : ∃ j : Nat, r = (j : Int) := ⟨r.toNat, by omega⟩
    refine ⟨Nat.zero_le _, fun p np => ⟨_, _, rfl, ?_⟩⟩
    obtain ⟨ph, pc⟩ := HL1.fresh np
    have npH : H p = none := by
      have := m1.free np
      rw [er_out (by simpa using ph)] at this; exact this
    refine ⟨_, rfl, (n : Int), rfl, (range_len n2).1, (range_len n2).2, ?_⟩
    refine for_range (lo := 0) (n := n) (fun j σ H' => HandL H' h c ∧ Same (er H [h]) H' ∧ ∃ s as v4 v5 v6 v7 v8, HereL H' p j s as ∧ Steep n kind j s ∧ (∀ a ∈ as, H a = none) ∧ σ = [some (.ref h), some (.int (n : Int)), some (.int (kind : Int)), some (.ref p), v4, v5, v6, v7, v8])
      ⟨HL1.mono (same_new np), m1.trans (same_new np), _, [], none, none, none, none, none, HereL.nil upd_same, Steep.start n kind, by simp, rfl⟩ (fun j σ H' hj z => ?_) (fun σ H' z => ?_)
    · obtain ⟨HL2, m2, s, as, v4, v5, v6, v7, v8, S, St, fr, rfl⟩ := z
      have k3 : kind < 3 := by omega
      have ah : h ∉ as := fun z => by obtain ⟨_, e⟩ := HL.trk.1; rw [fr h z] at e; cases e
      have ac : c ∉ as := fun z => by obtain ⟨_, e⟩ := HL.trk.2; rw [fr c z] at e; cases e
      rw [Int.zero_add]
      try dsimp only [tSeq, tAsg, tNext, tIf, tOr, tAnd, tNot, tB, tTest, tCall, tIfS, tRet, tDrop]
      refine rd_ite (b := decide ((0 : Int) < (j : Int))) (x := .int ((j : Int) - 1)) (y := .non) (c_gt (ev_v rfl) ev_k) (fun _ => ev_sub (ev_v rfl) ev_k rfl) (fun _ => ev_k) ?_
      rw [show (if decide ((0 : Int) < (j : Int)) = true then V.int ((j : Int) - 1) else V.non) = ov (if j = 0 then none else some (j - 1)) from by
        by_cases e : j = 0
        · subst e; rfl
        · rw [if_pos (decide_eq_true (by omega)), if_neg e]; show V.int _ = V.int _; rw [show ((j : Int) - 1) = ((j - 1 : Nat) : Int) from by omega]]
      try dsimp only [tSeq, tAsg, tNext, tIf, tOr, tAnd, tNot, tB, tTest, tCall, tIfS, tRet, tDrop]
      dsimp only [gName, List.set]
      refine rd_ite (b := decide ((j : Int) + 1 < (n : Int))) (x := .int ((j : Int) + 1)) (y := .non) (c_lt (ev_add (ev_v rfl) ev_k rfl) (ev_v rfl)) (fun _ => ev_add (ev_v rfl) ev_k rfl) (fun _ => ev_k) ?_
      rw [show (if decide ((j : Int) + 1 < (n : Int)) = true then V.int ((j : Int) + 1) else V.non) = ov (if j + 1 < n then some (j + 1) else none) from by
        by_cases e : j + 1 < n
        · rw [if_pos (decide_eq_true (by omega)), if_pos e]; rfl
        · rw [if_neg (fun z => e (by have := of_decide_eq_true z; omega)), if_neg e]; rfl]
      dsimp only [gName, List.set]
      refine ⟨size64 (by show 2 ≤ 1000; decide), fun t1 n1 => ⟨_, rfl, size64 (by show 2 ≤ 1000; decide), fun t2 n2' => ⟨_, rfl, size64 (by show 2 ≤ 1000; decide), fun t3 n3 => ⟨size64 (by show 3 ≤ 1000; decide), fun tl nl => ⟨_, rfl, ?_⟩⟩⟩⟩⟩
      generalize hdn : (if j + 1 < n then some (j + 1) else none : Option Nat) = dn at *
      generalize hup : (if j = 0 then none else some (j - 1) : Option Nat) = up at *
      have a1 : (upd H' t1 (.tup [V.non, .non])) t1 = some (.tup [V.non, .non]) := upd_same
      have s1 : Same H' (upd H' t1 (.tup [V.non, .non])) := same_new n1
      generalize upd H' t1 (.tup [V.non, .non]) = H5 at *
      have a2 : (upd H5 t2 (.tup [ov dn, .non])) t2 = some (.tup [ov dn, .non]) := upd_same
      have s2 : Same H5 (upd H5 t2 (.tup [ov dn, .non])) := same_new n2'
      generalize upd H5 t2 (.tup [ov dn, .non]) = H6 at *
      have a3 : (upd H6 t3 (.tup [.non, ov dn])) t3 = some (.tup [.non, ov dn]) := upd_same
      have s3 : Same H6 (upd H6 t3 (.tup [.non, ov dn])) := same_new n3
      generalize upd H6 t3 (.tup [.non, ov dn]) = H7 at *
      have al : (upd H7 tl (.lst [.ref t1, .ref t2, .ref t3])) tl = some (.lst [.ref t1, .ref t2, .ref t3]) := upd_same
      have sl : Same H7 (upd H7 tl (.lst [.ref t1, .ref t2, .ref t3])) := same_new nl
      generalize upd H7 tl (.lst [.ref t1, .ref t2, .ref t3]) = H8 at *
      obtain ⟨t, ht, hT⟩ : ∃ t, [V.ref t1, .ref t2, .ref t3][kind]? = some (.ref t) ∧ H8 t = some (.tup [ov (if kind = 1 then dn else none), ov (if kind = 2 then dn else none)]) := by
        match kind, k3 with
        | 0, _ => exact ⟨t1, rfl, sl _ _ (s3 _ _ (s2 _ _ a1))⟩
        | 1, _ => exact ⟨t2, rfl, sl _ _ (s3 _ _ a2)⟩
        | 2, _ => exact ⟨t3, rfl, sl _ _ a3⟩
      have sH : Same H' H8 := s1.trans (s2.trans (s3.trans sl))
      refine rd_ixL al ht ⟨t, _, rfl, SqT.of hT, rfl, _, _, rfl, _, _, rfl, rfl, ?_⟩
      have S8 := S.mono sH
      have HL8 := HL2.mono sH
      refine ⟨_, rfl, .inl ⟨rfl, _, SqL.of S8.top⟩, _, rfl, _, rfl, _, rfl, ?_⟩
      refine rd_cons <| rd_andD (a := decide ((0 : Int) < (kind : Int))) HL8 (fun Q' q' => ⟨_, rfl, _, _, rfl, rfl, q'⟩) (by decide : 0 < 4) (by decide) (ev_v rfl) ev_k fun H9 tn HL9 m9 => ?_
      refine rd_cons <| rd_draw HL9 (by decide : 0 < 3) (by decide) (ev_v rfl) ev_k fun H10 ad HL10 m10 _ => ?_
      refine rd_cons <| rd_draw HL10 (by decide : 0 < 9) (by decide) (ev_v rfl) ev_k fun H11 va HL11 m11 _ => ?_
      have mA : Same (er H8 [h]) H11 := Hs.trans m9 (Hs.trans m10 m11)
      have S11 := S8.hs mA ph ah
      refine ⟨size64 (by show 6 ≤ 1000; decide), fun b nb => ⟨p, as.map V.ref, _, rfl, rfl, ?_, ?_, ?_⟩⟩
      · rw [upd_ne (S11.fresh nb).1.symm]; exact S11.top
      · rw [List.length_map, S11.len]; exact small1000 (by omega)
      obtain ⟨bh, bc⟩ := HL11.fresh nb
      have mB : Same (er H [h]) H11 := Hs.trans m2 (Hs.trans (Hs.of sH) mA)
      have nbH : H b = none := by
        have := mB.free nb
        rw [er_out (by simpa using bh)] at this; exact this
      have S12 := S11.push (d := steepNd n kind j tn (ad : Int) (va : Int)) nb
      refine ⟨(HL11.beside bh bc).beside ph pc, ?_, _, as ++ [b], _, _, _, _, _, ?_, St.next tn (ad : Int) (va : Int), ?_, rfl⟩
      · exact Same.mut (Same.mut mB (by rw [er_out (by simpa using bh)]; exact nbH)) (by rw [er_out (by simpa using ph)]; exact npH)
      · have e : ndV (steepNd n kind j tn (ad : Int) (va : Int)) = [ov up, ov (if kind = 1 then dn else none), ov (if kind = 2 then dn else none), .bl tn, .int (ad : Int), .int (va : Int)] := by
          unfold steepNd; rw [hup, hdn]; rfl
        rw [e] at S12; exact S12
      · intro a ha
        rcases List.mem_append.mp ha with ha | ha
        · exact fr a ha
        · rw [List.mem_singleton.mp ha]; exact nbH
    · obtain ⟨HL2, m2, s, as, v4, v5, v6, v7, v8, S, St, fr, rfl⟩ := z
      exact ⟨_, rfl, q p H' s as HL2 m2 npH fr S St.ok⟩
end
end K13
namespace K13
open PySem PySem.Spec PyProof.Rows L2
section
variable {P : Program} {w : World} {K : PySem.W.Frag} {mg : Str → Option Value} {base : Heap} {A : Ad}
theorem HandL.ret {H H' : Hp} {p h c : Addr} {as as' : List Addr} (x : HandL H h c) (r : Ret H H' p as as') (h1 : h ∉ p :: as) (c1 : c ∉ p :: as) : HandL H' h c ∧ h ∉ as' ∧ c ∉ as' := by
  simp only [List.mem_cons, not_or] at h1 c1
  obtain ⟨ne, zs, i1, i2, i3, i4, a, b, z⟩ := x
  obtain ⟨a', ha⟩ := r.oth _ _ a h1.1 h1.2
  obtain ⟨b', hb⟩ := r.oth _ _ b c1.1 c1.2
  exact ⟨⟨ne, zs, i1, i2, i3, i4, a', b', z⟩, ha, hb⟩
theorem rd_some {σ : L2.St} {H : Hp} {Q : VK} {h c pt : Addr} {xs : List V} {t0 tm : TE} (HL : HandL H h c) (e0 : ∀ Q : VK, Q (.ref h) H → t0 σ H Q) (em : ∀ Q : VK, Q (.ref pt) H → tm σ H Q) (hp : H pt = some (.lst xs)) (ne : pt ≠ h) (x0 : 0 < xs.length) (x1 : xs.length ≤ 1000)
    (q : ∀ H' v, HandL H' h c → Same (er H [h]) H' → v ∈ xs → Q v H') : tCall sp_q_some [] E0 (tCons t0 (tCons tm tNil)) σ H Q :=
  e0 _ (em _ ⟨h, c, pt, xs, rfl, HL, hp, ne, x0, x1, q⟩)
def sp_q_moved_off : Sp := fun vs H Q _ => ∃ (h c p : Addr) (n : Nat) (s : Sh) (as : List Addr), vs = [.ref h, .ref p] ∧ HandL H h c ∧ HereL H p n s as ∧ h ∉ p :: as ∧ c ∉ p :: as ∧ n ≤ 64 ∧ Ok n s ∧
  ∀ H' v s', HandL H' h c → HereL H' p n s' as → Ok n s' → Q v H'
theorem ok_q_moved_off (T : Txt K mg A) : FnOk P w K mg base CX0 3 A.f_q_moved_off A.d_q_moved_off ["_law_hand_here", "_law_here"] sp_q_moved_off := by
  refine T.f_q_moved_off.ok sc_q_moved_off (fun vs H Q E h => ?_) (fun cdv A' outer s H vs Q E hr h => ?_)
  · obtain ⟨h, c, p, n, s, as, rfl, _⟩ := h; rfl
  · obtain ⟨h, c, p, n, s, as, rfl, HL, S, h1, c1, n2, k, q⟩ := h
    obtain ⟨xs, ht, hl⟩ := S.tops
    subst hl
    refine ⟨_, (pss_cons (ps_setLc (i := 2) (own := [("_law_house", 3)]) (g := gName 3) rfl sc_q_moved_off.nd rfl rfl (sw_true rfl rfl rfl (by decide +kernel)) (pi_range1 (by rfl) T.z_range (pa_cons (pe_callB call_len_seq (by rfl) T.z_len PySem.boot_len (pa_cons (pv 1) pa_nil)) pa_nil)) (blkOk_by (own := [("_law_house", 3)]) (N := ns_q_moved_off) (sc := defScope st_q_moved_off) (by decide +kernel)) (fun _ _ _ _ _ => pg_name (i := 3) sc_q_moved_off.nd rfl (Or.inl rfl)) (fun _ _ _ _ _ => (pts_one (PW.pt (pw_and (pt_cmpR op_notN (pe_ix (show IxR _ (rIxL K) from ix_list) (pe_ix (show IxR _ (rIxL K) from ix_list) (pv 1) (pv 3) (fun _ _ => rfl)) pe_int (fun _ _ => rfl)) pe_non (nomark _)) (pw_and1 (pt_not (pt_val (pe_call (ok_q_is_son T) (hr.mono (by decide)) (by rfl) T.g_q_is_son T.f_q_is_son.kp T.b_q_is_son .nil pass0 (pa_cons (pv 1) (pa_cons (pv 3) pa_nil)))))))))) (fun _ _ _ _ _ => (pv 3)))
      (pss_cons (ps_if (pt_cmpR op_eq (pe_callB call_len_seq (by rfl) T.z_len PySem.boot_len (pa_cons (pv 2) pa_nil)) pe_int (nomark _)) (pss_one (ps_ret pe_bl)) pss_nil)
      (pss_cons (ps_set (i := 3) sc_q_moved_off.nd rfl (Or.inl rfl) (pe_call (ok_q_some T) (hr.mono (by decide)) (by rfl) T.g_q_some T.f_q_some.kp T.b_q_some .nil pass0 (pa_cons (pv 0) (pa_cons (pv 2) pa_nil))))
      (pss_cons (ps_asg pe_non (pg_sub (pe_ix ix_list (pv 1) (pv 3) (fun _ _ => rfl)) pe_int set_list))
      (Evl.pss_cut (ps_if (pt_cmpR op_gt (pe_call (ok_q_draw T) (hr.mono (by decide)) (by rfl) T.g_q_draw T.f_q_draw.kp T.b_q_draw .nil pass0 (pa_cons (pv 0) (pa_cons pe_int pa_nil))) pe_int (nomark _)) (pss_cons (ps_set (i := 4) sc_q_moved_off.nd rfl (Or.inl rfl) (pe_lst pa_nil))
      (pss_cons (ps_for PassesOwn.never rfl (pi_range1 (by rfl) T.z_range (pa_cons (pe_callB call_len_seq (by rfl) T.z_len PySem.boot_len (pa_cons (pv 1) pa_nil)) pa_nil)) (pg_name (i := 5) sc_q_moved_off.nd rfl (Or.inl rfl))
      (pss_cons (ps_set (i := 6) sc_q_moved_off.nd rfl (Or.inl rfl) (pv 5))
      (pss_cons (ps_for PassesOwn.never rfl (pi_range1 (by rfl) T.z_range (pa_cons (pe_callB call_len_seq (by rfl) T.z_len PySem.boot_len (pa_cons (pv 1) pa_nil)) pa_nil)) (pg_name (i := 7) sc_q_moved_off.nd rfl (Or.inl rfl))
      (pss_one (ps_set (i := 6) sc_q_moved_off.nd rfl (Or.inl rfl) (pe_ifExp (pt_cmpR op_notN (pe_ix ix_list (pe_ix ix_list (pv 1) (pv 6) (fun _ _ => rfl)) pe_int (fun _ _ => rfl)) pe_non (nomark _)) (pe_ix ix_list (pe_ix ix_list (pv 1) (pv 6) (fun _ _ => rfl)) pe_int (fun _ _ => rfl)) (pv 6)))))
      (pss_one (ps_if (pt_cmpR op_ne (pv 6) (pv 3) (nomark _)) (pss_one (ps_expr (pe_bm PySem.F.plainAttrs_list PySem.F.slot_list_append PySem.F.type_list_append mt_append (pv 4) (pa_cons (pv 5) pa_nil)))) pss_nil)))))
      (pss_one (ps_asg (pe_ifExp (pt_cmpR op_gt (pe_callB call_len_seq (by rfl) T.z_len PySem.boot_len (pa_cons (pv 4) pa_nil)) pe_int (nomark _)) (pe_call (ok_q_some T) (hr.mono (by decide)) (by rfl) T.g_q_some T.f_q_some.kp T.b_q_some .nil pass0 (pa_cons (pv 0) (pa_cons (pv 4) pa_nil))) pe_non) (pg_sub (pe_ix ix_list (pv 1) (pv 3) (fun _ _ => rfl)) pe_int set_list))))) pss_nil)
      (pss_one (ps_ret pe_bl))))))), ?_⟩
    refine ⟨_, rfl, p, xs, rfl, .inl (SqL.of ht), (xs.length : Int), rfl, (range_len n2).1, (range_len n2).2, fun D nD => ?_⟩
    refine lc_range (lo := 0) (n := xs.length) (fun j H' => Same H H' ∧ ∃ l : List Nat, l.length ≤ j ∧ (∀ x ∈ l, x < xs.length ∧ isSon s x = false) ∧ H' D = some (.lst (intsV l))) ⟨same_new nD, [], Nat.le_refl 0, by simp, upd_same⟩ (fun j H' hj z => ?_) (fun H' z => ?_)
    · obtain ⟨m, l, hl, ml, hD⟩ := z
      rw [Int.zero_add]
      have S1 := S.mono m
      have more : ∀ H2, Same H' H2 → isSon s j = false → ∃ acc, H2 D = some (.lst acc) ∧ acc.length < sizeLine ∧ Same H (upd H2 D (.lst (acc ++ [.int (j : Int)]))) ∧ ∃ l : List Nat, l.length ≤ j + 1 ∧ (∀ x ∈ l, x < xs.length ∧ isSon s x = false) ∧ (upd H2 D (.lst (acc ++ [.int (j : Int)]))) D = some (.lst (intsV l)) := fun H2 m2 b => by
        refine ⟨_, m2 _ _ hD, by rw [intsV_len]; exact small1000 (by omega), Same.mut (m.trans m2) nD, l ++ [j], by rw [List.length_append]; show _ + 1 ≤ _; omega, fun x hx => ?_, by rw [upd_same, intsV_app]⟩
        rcases List.mem_append.mp hx with hx | hx
        · exact ml x hx
        · rw [List.mem_singleton.mp hx]; exact ⟨hj, b⟩
      refine ⟨rfl, ?_⟩
      try dsimp only [tSeq, tAsg, tNext, tIf, tOr, tAnd, tNot, tB, tTest, tCall, tIfS, tRet, tDrop]
      refine rd_op <| rd_here (v := ov (s j).up) S1 hj (k := 0) rfl (ev_v rfl) (ev_v rfl) ev_k ⟨rfl, _, rfl, iteB (fun b => ?_) (fun b => ?_)⟩
      · refine ⟨_, rfl, _, rfl, p, xs.length, s, as, j, rfl, S1, hj, fun u e => (k.lt e).2, fun H2 m2 => ⟨_, rfl, ?_⟩⟩
        refine iteB (fun b => ⟨_, rfl, more H2 m2 (by revert b; cases isSon s j <;> decide)⟩) (fun b => ⟨m.trans m2, l, by omega, ml, m2 _ _ hD⟩)
      · exact iteF ⟨m, l, by omega, ml, hD⟩
    · obtain ⟨m, l, hl, ml, hD⟩ := z
      have S1 := S.mono m
      have HL1 := HL.mono m
      have Dh : D ≠ h := (HL.fresh nD).1
      have hll := intsV_len l
      try dsimp only [tSeq, tAsg, tNext, tIf, tOr, tAnd, tNot, tB, tTest, tCall, tIfS, tRet, tDrop]
      refine ⟨_, rfl, D, _, rfl, .inl (SqL.of hD), rfl, _, rfl, iteB (fun b => ?_) (fun b => ?_)⟩
      · exact q H' _ s HL1 S1 k
      have l0 : 0 < (intsV l).length := by
        have := of_decide_eq_false b
        rcases Nat.eq_zero_or_pos (intsV l).length with z | z
        · exact absurd (by rw [z]; rfl) this
        · exact z
      refine rd_some HL1 (ev_v rfl) (ev_v rfl) hD Dh l0 (by omega) fun H2 v HL2 m2 hv => ?_
      obtain ⟨x, hx, rfl⟩ : ∃ x, x ∈ l ∧ V.int ((x : Nat) : Int) = v := by
        unfold intsV at hv; exact List.mem_map.mp hv
      obtain ⟨xn, ns⟩ := ml x hx
      simp only [List.mem_cons, not_or] at h1 c1
      have S2 := S1.hs m2 (fun z => h1.1 z.symm) h1.2
      try dsimp only [tSeq, tAsg, tNext, tIf, tOr, tAnd, tNot, tB, tTest, tCall, tIfS, tRet, tDrop]
      refine rd_setH (v := .non) (k := 0) (d := { s x with up := none }) S2.call xn (by decide) (ndV_setU _ none) (ev_v rfl) (ev_v rfl) ev_k fun H3 S3 => ?_
      obtain ⟨HL3, _, _⟩ := HL2.ret S3.ret (by simpa using h1) (by simpa using c1)
      have k3 := cut_ok k ns
      have ux : ((put s x { s x with up := none }) x).up = none := by rw [put_same]
      have S3 := S3.here
      generalize put s x { s x with up := none } = s3 at *
      refine ⟨fun σ H' => HandL H' h c ∧ (∃ s', HereL H' p xs.length s' as ∧ Ok xs.length s'), ?_, fun σ H' z => ?_⟩
      · refine rd_if ?_
        try dsimp only [tSeq, tAsg, tNext, tIf, tOr, tAnd, tNot, tB, tTest, tCall, tIfS, tRet, tDrop]
        refine rd_op <| rd_draw HL3 (by decide : 0 < 3) (by decide) (ev_v rfl) ev_k fun H4 r HL4 m4 _ => ⟨_, _, rfl, rfl, _, rfl, iteB (fun b => ?_) (fun b => ?_)⟩
        · have S4 := S3.hs m4 (fun z => h1.1 z.symm) h1.2
          have eL : (as.map V.ref).length = xs.length := by rw [List.length_map, S.len]
          refine ⟨Nat.zero_le _, fun pa na => ?_⟩
          obtain ⟨pah, pac⟩ := HL4.fresh na
          obtain ⟨pap, paa⟩ := S4.fresh na
          have S5 := S4.mono (same_new (o := .lst []) na)
          refine ⟨_, rfl, p, as.map V.ref, rfl, .inl (SqL.of S5.top), (xs.length : Int), (by rw [eL]), (range_len n2).1, (range_len n2).2, ?_⟩
          refine for_range (lo := 0) (n := xs.length) (fun j σ H' => HandL H' h c ∧ HereL H' p xs.length s3 as ∧ ∃ (l : List Nat) (v5 v6 v7 : Option V), l.length ≤ j ∧ (∀ o ∈ l, o < xs.length ∧ climb (U s3) xs.length o ≠ x) ∧ H' pa = some (.lst (intsV l)) ∧ σ = [some (.ref h), some (.ref p), some (.ref D), some (.int (x : Int)), some (.ref pa), v5, v6, v7])
            ⟨HL4.mono (same_new na), S5, [], none, none, none, Nat.le_refl 0, by simp, upd_same, rfl⟩ (fun j σ H5 hj z => ?_) (fun σ H5 z => ?_)
          · obtain ⟨HL5, S5, l, v5, v6, v7, hl, ml, hD, rfl⟩ := z
            rw [Int.zero_add]
            refine ⟨_, rfl, ?_⟩
            refine ⟨_, rfl, p, as.map V.ref, rfl, .inl (SqL.of S5.top), (xs.length : Int), (by rw [eL]), (range_len n2).1, (range_len n2).2, ?_⟩
            refine for_range (lo := 0) (n := xs.length) (fun t σ H' => H' = H5 ∧ ∃ v7, σ = [some (.ref h), some (.ref p), some (.ref D), some (.int (x : Int)), some (.ref pa), some (.int (j : Int)), some (.int ((climb (U s3) t j : Nat) : Int)), v7])
              ⟨rfl, _, rfl⟩ (fun t σ H6 ht z => ?_) (fun σ H6 z => ?_)
            · obtain ⟨rfl, v7, rfl⟩ := z
              have hc := climb_lt k3.cl hj t
              have ec : climb (U s3) (t + 1) j = (match U s3 (climb (U s3) t j) with | none => climb (U s3) t j | some p => p) := rfl
              rw [ec]
              generalize climb (U s3) t j = o at *
              try dsimp only [tSeq, tAsg, tNext, tIf, tOr, tAnd, tNot, tB, tTest, tCall, tIfS, tRet, tDrop]
              dsimp only [gName, List.set]
              refine rd_op <| rd_here (v := ov (s3 o).up) S5 hc (k := 0) rfl (ev_v rfl) (ev_v rfl) ev_k ⟨rfl, _, rfl, iteB (fun b => ?_) (fun b => ?_)⟩
              · refine rd_here (v := ov (s3 o).up) S5 hc (k := 0) rfl (ev_v rfl) (ev_v rfl) ev_k ⟨rfl, some (.int ((0 : Int) + (t : Int))), ?_⟩
                rw [show U s3 o = (s3 o).up from rfl]
                cases e : (s3 o).up with
                | none => rw [e] at b; cases b
                | some p => rfl
              · refine ⟨_, rfl, rfl, some (.int ((0 : Int) + (t : Int))), ?_⟩
                rw [show U s3 o = (s3 o).up from rfl]
                cases e : (s3 o).up with
                | none => rfl
                | some p => rw [e] at b; cases b
            · obtain ⟨rfl, v7, rfl⟩ := z
              refine ⟨_, rfl, _, rfl, rfl, _, rfl, iteB (fun b => ?_) (fun b => ?_)⟩
              · have ne : climb (U s3) xs.length j ≠ x := fun z => by rw [z] at b; simp at b
                refine ⟨_, rfl, .inl ⟨rfl, _, SqL.of hD⟩, _, rfl, pa, intsV l, _, rfl, rfl, hD, by rw [intsV_len]; exact small1000 (by omega), ?_⟩
                refine ⟨HL5.beside pah pac, S5.beside ⟨hD, pap, paa⟩, l ++ [j], _, _, _, by rw [List.length_append]; show _ + 1 ≤ _; omega, fun o ho => ?_, by rw [upd_same, intsV_app], rfl⟩
                rcases List.mem_append.mp ho with ho | ho
                · exact ml o ho
                · rw [List.mem_singleton.mp ho]; exact ⟨hj, ne⟩
              · exact ⟨HL5, S5, l, _, _, _, by omega, ml, hD, rfl⟩
          · obtain ⟨HL5, S5, l, v5, v6, v7, hl, ml, hD, rfl⟩ := z
            dsimp only
            refine rd_asg ?_
            have hll := intsV_len l
            dsimp only [tIf]
            try dsimp only [tSeq, tAsg, tNext, tIf, tOr, tAnd, tNot, tB, tTest, tCall, tIfS, tRet, tDrop]
            refine rd_op <| ⟨_, rfl, pa, _, rfl, .inl (SqL.of hD), ?_⟩
            refine ⟨_, _, rfl, rfl, _, rfl, iteB (fun b => ?_) (fun b => ?_)⟩
            · have l0 : 0 < (intsV l).length := by have := of_decide_eq_true b; omega
              refine rd_some HL5 (ev_v rfl) (ev_v rfl) hD pah l0 (by omega) fun H6 v HL6 m6 hv => ?_
              obtain ⟨o, ho, rfl⟩ : ∃ o, o ∈ l ∧ V.int ((o : Nat) : Int) = v := by
                unfold intsV at hv; exact List.mem_map.mp hv
              obtain ⟨on, ne⟩ := ml o ho
              have S6 := S5.hs m6 (fun z => h1.1 z.symm) h1.2
              refine rd_setH (v := .int (o : Int)) (k := 0) (d := { s3 x with up := some o }) S6.call xn (by decide) (ndV_setU _ (some o)) (ev_v rfl) (ev_v rfl) ev_k fun H7 S7 => ?_
              obtain ⟨HL7, _, _⟩ := HL6.ret S7.ret (by simpa using h1) (by simpa using c1)
              exact ⟨HL7, _, S7.here, hang_ok k3 ux xn on (climb_root k3.cl k3.ac on ux ne)⟩
            · refine ev_k _ ?_
              refine rd_setH (v := .non) (k := 0) (d := { s3 x with up := none }) S5.call xn (by decide) (ndV_setU _ none) (ev_v rfl) (ev_v rfl) ev_k fun H7 S7 => ?_
              obtain ⟨HL7, _, _⟩ := HL5.ret S7.ret (by simpa using h1) (by simpa using c1)
              exact ⟨HL7, _, S7.here, cut_ok k3 (by unfold isSon; rw [ux])⟩
        · exact ⟨HL4, s3, S3.hs m4 (fun z => h1.1 z.symm) h1.2, k3⟩
      · obtain ⟨HL4, s', S4, k4⟩ := z
        exact q H' _ s' HL4 S4 k4
end
end K13
namespace K13
open PySem PySem.Spec PyProof.Rows L2
section
variable {P : Program} {w : World} {K : PySem.W.Frag} {mg : Str → Option Value} {base : Heap} {A : Ad}
/-- elders as a row of values -/
def parV (n : Nat) (Par : Nat → Option Nat) : List V := (List.range n).map fun i => ov (Par i)
theorem parV_len (n : Nat) (f : Nat → Option Nat) : (parV n f).length = n := by unfold parV; rw [List.length_map, List.length_range]
theorem parV_get {n i : Nat} (f : Nat → Option Nat) (h : i < n) : (parV n f)[i]? = some (ov (f i)) := by
  unfold parV
  rw [List.getElem?_map, List.getElem?_eq_getElem (by rw [List.length_range]; exact h), List.getElem_range]
  rfl
theorem parV_set {n i : Nat} {o : Option Nat} (f : Nat → Option Nat) : (parV n f).set i (ov o) = parV n (fun j => if j = i then o else f j) := by
  refine List.ext_getElem? fun j => ?_
  rw [List.getElem?_set]
  by_cases e : i = j
  · subst e
    rw [if_pos rfl, parV_len]
    by_cases h : i < n
    · rw [if_pos h, parV_get _ h, if_pos rfl]
    · rw [if_neg h, List.getElem?_eq_none (by rw [parV_len]; omega)]
  · rw [if_neg e]
    by_cases h : j < n
    · rw [parV_get _ h, parV_get _ h, if_neg (fun z => e z.symm)]
    · rw [List.getElem?_eq_none (by rw [parV_len]; omega), List.getElem?_eq_none (by rw [parV_len]; omega)]
theorem parV_none (n : Nat) : (List.replicate n [V.non]).flatten = parV n (fun _ => none) := by
  induction n with
  | zero => rfl
  | succ n ih =>
    rw [List.replicate_succ', List.flatten_append, ih]
    show parV n (fun _ => none) ++ [V.non] = parV (n + 1) (fun _ => none)
    unfold parV
    rw [List.range_succ, List.map_append]
    rfl
theorem rd_replN {σ : L2.St} {H : Hp} {Q : VK} {n : Nat} {tn : TE} (hn : n ≤ 64) (en : ∀ H', Same H H' → ∀ Q : VK, Q (.int (n : Int)) H' → tn σ H' Q) (q : ∀ p H', H p = none → Same H H' → H' p = some (.lst (parV n fun _ => none)) → Q (.ref p) H') :
    tOp rRep (tLst (tCons (tC .non) tNil)) tn σ H Q := by
  refine ⟨size64 (by show 1 ≤ 1000; decide), fun p np => en _ (same_new np) _ ⟨p, (n : Int), _, rfl, rfl, upd_same, ?_, ?_, ?_, fun r nr => ?_⟩⟩
  · omega
  · omega
  · show 1 * (n : Int).toNat ≤ sizeLine
    exact size64 (by omega)
  · refine q r _ ((same_new np).free nr) ((same_new np).trans (same_new nr)) ?_
    rw [upd_same, Int.toNat_natCast]
    exact congrArg (fun y => some (HO.lst y)) (parV_none n)
theorem rgV_ints (n : Nat) : rgV 0 (n : Int) = intsV (List.range n) := by
  unfold rgV intsV
  rw [show ((n : Int) - 0).toNat = n from by omega]
  exact List.map_congr_left fun i _ => by rw [Int.zero_add]
theorem perm_map' {α β : Type} {f : α → β} {l1 l2 : List β} (p : l1.Perm l2) : ∀ l : List α, l2 = l.map f → ∃ l' : List α, l1 = l'.map f ∧ l'.Perm l := by
  induction p with
  | nil => intro l e; cases l with
    | nil => exact ⟨[], rfl, .nil⟩
    | cons => cases e
  | cons x p ih => intro l e; cases l with
    | nil => cases e
    | cons y l =>
      obtain ⟨e1, e2⟩ := List.cons.inj e
      obtain ⟨l', a, b⟩ := ih l e2
      exact ⟨y :: l', by rw [a, e1]; rfl, .cons _ b⟩
  | swap x y m => intro l e; cases l with
    | nil => cases e
    | cons a l => cases l with
      | nil => cases e
      | cons b l =>
        obtain ⟨e1, e2⟩ := List.cons.inj e
        obtain ⟨e2, e3⟩ := List.cons.inj e2
        exact ⟨b :: a :: l, by rw [e1, e2, e3]; rfl, .swap _ _ _⟩
  | trans _ _ ih1 ih2 => intro l e
                         obtain ⟨l2, a, b⟩ := ih2 l e
                         obtain ⟨l1, c, d⟩ := ih1 l2 a
                         exact ⟨l1, c, d.trans b⟩
theorem rd_shufR {σ : L2.St} {H : Hp} {Q : VK} {h c : Addr} {n : Nat} {t0 tn : TE} (HL : HandL H h c) (n2 : n ≤ 64) (e0 : ∀ Q : VK, Q (.ref h) H → t0 σ H Q) (en : ∀ Q : VK, Q (.int (n : Int)) H → tn σ H Q)
    (q : ∀ H' r ord, HandL H' h c → Same (er H [h]) H' → H r = none → H' r = some (.lst (intsV ord)) → ord.Perm (List.range n) → Q (.ref r) H') : tCall sp_q_shuffled [] E0 (tCons t0 (tCons (tLstRg (tRg1 tn)) tNil)) σ H Q := by
  refine e0 _ (en _ ⟨(n : Int), rfl, ?_, fun pt nt => ?_⟩)
  · exact RgOk.of_le (by decide) (by omega) (by decide) (by omega)
  · obtain ⟨th, tc⟩ := HL.fresh nt
    refine ⟨h, c, pt, _, rfl, HL.mono (same_new nt), upd_same, by rw [rgV_length]; omega, fun H' r ys HL' m nr hr pm => ?_⟩
    rw [rgV_ints] at pm
    obtain ⟨ord, rfl, po⟩ := perm_map' pm _ rfl
    have m' : Same (er H [h]) H' := Hs.trans (Hs.of (same_new nt)) m
    exact q H' r ord HL' m' ((same_new nt).free nr) hr po
theorem rd_near {σ : L2.St} {H : Hp} {Q : VK} {h c : Addr} {kind at' : Nat} (HL : HandL H h c) (e0 : σ[0]? = some (some (.ref h))) (e4 : σ[4]? = some (some (.int (kind : Int)))) (e5 : σ[5]? = some (some (.int ((1 + at' : Nat) : Int)))) (a2 : at' ≤ 64)
    (q : ∀ H' r, HandL H' h c → Same (er H [h]) H' → r < 1 + at' → Q (.int (r : Int)) H') :
    tIf (tOr (tTest (tOp rEq (tVar 4) (tC (.int 0)))) (tAnd (tTest (tOp rEq (tVar 4) (tC (.int 1)))) (tTest (tOp (rI0 fun i j => V.bl (decide (j < i))) (tCall sp_q_draw [] E0 (tCons (tVar 0) (tCons (tC (.int 3)) tNil))) (tC (.int 0))))))
      (tOp (rI0 fun i j => V.int (i - j)) (tVar 5) (tC (.int 1))) (tCall sp_q_draw [] E0 (tCons (tVar 0) (tCons (tVar 5) tNil))) σ H Q := by
  have one : ∀ H', HandL H' h c → Same (er H [h]) H' → tOp (rI0 fun i j => V.int (i - j)) (tVar 5) (tC (.int 1)) σ H' Q := fun H' HL' m => by
    refine ev_sub (k := ((at' : Nat) : Int)) (ev_v e5) ev_k (by omega) _ (q H' at' HL' m (by omega))
  have two : ∀ H', HandL H' h c → Same (er H [h]) H' → tCall sp_q_draw [] E0 (tCons (tVar 0) (tCons (tVar 5) tNil)) σ H' Q := fun H' HL' m =>
    rd_draw (m := 1 + at') HL' (by omega) (by omega) (ev_v e0) (ev_v e5) fun H2 r HL2 m2 hr => q H2 r HL2 (Hs.trans m m2) hr
  refine ⟨_, e4, rfl, _, rfl, iteB (fun b => iteT (one H HL (er_same _ _))) (fun b => ⟨_, e4, rfl, _, rfl, iteB (fun b => ?_) (fun b => iteF (two H HL (er_same _ _)))⟩)⟩
  exact rd_op <| rd_draw HL (by decide : 0 < 3) (by decide) (ev_v e0) ev_k fun H' r HL' m' _ => ⟨_, _, rfl, rfl, _, rfl, iteB (fun _ => one H' HL' m') (fun _ => two H' HL' m')⟩
theorem c_orD {σ : L2.St} {H : Hp} {Q : Bool → Hp → Prop} {h c : Addr} {kind m : Nat} (HL : HandL H h c) (e0 : σ[0]? = some (some (.ref h))) (e4 : σ[4]? = some (some (.int (kind : Int)))) (q : ∀ H' b, HandL H' h c → Same (er H [h]) H' → Q b H') :
    tOr (tTest (tOp rEq (tVar 4) (tC (.int 0)))) (tTest (tOp (rI0 fun i j => V.bl (decide (j < i))) (tCall sp_q_draw [] E0 (tCons (tVar 0) (tCons (tC (.int 6)) tNil))) (tC (.int 0)))) σ H Q := by
  refine ⟨_, e4, rfl, _, rfl, iteB (fun b => q H _ HL (er_same _ _)) (fun b => ?_)⟩
  exact rd_op <| rd_draw HL (by decide : 0 < 6) (by decide) (ev_v e0) ev_k fun H' r HL' m' _ => ⟨_, _, rfl, rfl, _, rfl, q H' _ HL' m'⟩
def sp_q_trees : Sp := fun vs H Q _ => ∃ (h c : Addr) (n : Nat), vs = [.ref h, .int (n : Int)] ∧ HandL H h c ∧ 1 ≤ n ∧ n ≤ 64 ∧
  ∀ H' r pa wa Par (wo : List Int), HandL H' h c → Same (er H [h]) H' → H' r = some (.tup [.ref pa, .ref wa]) → H' pa = some (.tup (parV n Par)) → H' wa = some (.tup (wo.map V.int)) → wo.length = n → Cl n Par → Acyc Par → Q (.ref r) H'
theorem ok_q_trees (T : Txt K mg A) : FnOk P w K mg base CX0 3 A.f_q_trees A.d_q_trees ["_law_hand_here", "_law_many"] sp_q_trees := by
  refine T.f_q_trees.ok sc_q_trees (fun vs H Q E h => ?_) (fun cdv A' outer s H vs Q E hr h => ?_)
  · obtain ⟨h, c, n, rfl, _⟩ := h; rfl
  · obtain ⟨h, c, n, rfl, HL, n1, n2, q⟩ := h
    refine ⟨_, (pss_cons (ps_par3 (i := 2) (j := 3) (l := 4) rfl sc_q_trees.nd rfl rfl rfl (by decide) (by decide) (by decide) rfl rfl rfl (pa_cons (pe_call (ok_q_shuffled T) (hr.mono (by decide)) (by rfl) T.g_q_shuffled T.f_q_shuffled.kp T.b_q_shuffled .nil pass0 (pa_cons (pv 0) (pa_cons (pe_listRg rfl (by rfl) T.z_list (prg_1 (by rfl) T.z_range (pv 1))) pa_nil))) (pa_cons (pe_op op_rep (pe_lst (pa_cons pe_non pa_nil)) (pv 1)) (pa_cons (pe_call (ok_q_draw T) (hr.mono (by decide)) (by rfl) T.g_q_draw T.f_q_draw.kp T.b_q_draw .nil pass0 (pa_cons (pv 0) (pa_cons pe_int pa_nil))) pa_nil))) (by rfl))
      (pss_cons (ps_for PassesOwn.never rfl (pi_range2 (by rfl) T.z_range (pa_cons pe_int (pa_cons (pv 1) pa_nil))) (pg_name (i := 5) sc_q_trees.nd rfl (Or.inl rfl))
      (pss_cons (ps_set (i := 6) sc_q_trees.nd rfl (Or.inl rfl) (pe_ifExp (PW.pt (pw_or (pt_cmpR op_eq (pv 4) pe_int (nomark _)) (pw_or1 (PW.pt (pw_and (pt_cmpR op_eq (pv 4) pe_int (nomark _)) (pw_and1 (pt_cmpR op_gt (pe_call (ok_q_draw T) (hr.mono (by decide)) (by rfl) T.g_q_draw T.f_q_draw.kp T.b_q_draw .nil pass0 (pa_cons (pv 0) (pa_cons pe_int pa_nil))) pe_int (nomark _)))))))) (pe_op op_sub (pv 5) pe_int) (pe_call (ok_q_draw T) (hr.mono (by decide)) (by rfl) T.g_q_draw T.f_q_draw.kp T.b_q_draw .nil pass0 (pa_cons (pv 0) (pa_cons (pv 5) pa_nil)))))
      (pss_one (ps_if (PW.pt (pw_or (pt_cmpR op_eq (pv 4) pe_int (nomark _)) (pw_or1 (pt_cmpR op_gt (pe_call (ok_q_draw T) (hr.mono (by decide)) (by rfl) T.g_q_draw T.f_q_draw.kp T.b_q_draw .nil pass0 (pa_cons (pv 0) (pa_cons pe_int pa_nil))) pe_int (nomark _))))) (pss_one (ps_asg (pe_ix ix_list (pv 2) (pv 6) (fun _ _ => rfl)) (pg_sub (pv 3) (pe_ix ix_list (pv 2) (pv 5) (fun _ _ => rfl)) set_list))) pss_nil))))
      (pss_cons (ps_setLc (i := 7) (own := [("_law_house", 8)]) (g := gName 8) (tt := tYes) rfl sc_q_trees.nd rfl rfl (sw_true rfl rfl rfl (by decide +kernel)) (pi_range1 (by rfl) T.z_range (pa_cons (pv 1) pa_nil)) (blkOk_by (own := [("_law_house", 8)]) (N := ns_q_trees) (sc := defScope st_q_trees) (by decide +kernel)) (fun _ _ _ _ _ => pg_name (i := 8) sc_q_trees.nd rfl (Or.inl rfl)) (fun _ _ _ _ _ => pts_nil) (fun _ _ _ _ _ => (pe_call (ok_q_some T) (hr.mono (by decide)) (by rfl) T.g_q_some T.f_q_some.kp T.b_q_some .nil pass0 (pa_cons (pv 0) (pa_cons (pe_lst (pa_cons pe_int (pa_cons pe_int (pa_cons (pe_un un_neg pe_int) (pa_cons pe_int (pa_cons pe_int (pa_cons pe_int (pa_cons (pe_op op_sub (pe_call (ok_q_draw T) (hr.mono (by decide)) (by rfl) T.g_q_draw T.f_q_draw.kp T.b_q_draw .nil pass0 (pa_cons (pv 0) (pa_cons pe_int pa_nil))) pe_int) pa_nil)))))))) pa_nil)))))
      (pss_one (ps_ret (pe_tup (pa_cons (pe_callTy call_tuple_of (by rfl) T.z_tuple (by decide +kernel) (pa_cons (pv 3) pa_nil)) (pa_cons (pe_callTy call_tuple_of (by rfl) T.z_tuple (by decide +kernel) (pa_cons (pv 7) pa_nil)) pa_nil)))))))), ?_⟩
    dsimp only [tSeq, tPar3]
    refine rd_cons <| rd_shufR HL n2 (ev_v rfl) (ev_v rfl) fun H1 po ord HL1 m1 npo hpo pm => ?_
    refine rd_cons <| rd_replN n2 (fun H' s' Q' q' => ⟨_, rfl, q'⟩) fun pp H2 npp s2 hpp => ?_
    refine rd_cons <| rd_draw (HL1.mono s2) (by decide : 0 < 4) (by decide) (ev_v rfl) ev_k fun H3 kind HL3 m3 _ => ?_
    refine ⟨_, _, _, rfl, ?_⟩
    obtain ⟨poh, poc⟩ := HL.fresh npo
    obtain ⟨pph, ppc⟩ := HL1.fresh npp
    have ppo : po ≠ pp := fun z => by subst z; rw [npp] at hpo; cases hpo
    have nppH : H pp = none := by
      have := m1.free npp
      rw [er_out (by simpa using pph)] at this; exact this
    have nppE : er H [h] pp = none := by rw [er_out (by simpa using pph)]; exact nppH
    have hpo3 := Hs.at m3 (s2 _ _ hpo) poh
    have hpp3 := Hs.at m3 hpp pph
    have m13 : Same (er H [h]) H3 := Hs.trans m1 (Hs.trans (Hs.of s2) m3)
    have lo : ord.length = n := by rw [pm.length_eq, List.length_range]
    have mo : ∀ x ∈ ord, x < n := fun x hx => List.mem_range.mp (pm.mem_iff.mp hx)
    have ndo : ord.Nodup := pm.nodup_iff.mpr List.nodup_range
    refine ⟨_, rfl, 1, (n : Int), rfl, ⟨by decide, by decide, by omega, by omega⟩, ?_⟩
    rw [show ((n : Int) - 1).toNat = n - 1 from by omega]
    refine for_range (lo := 1) (n := n - 1) (fun j σ H' => HandL H' h c ∧ Same (er H [h]) H' ∧ H' po = some (.lst (intsV ord)) ∧ ∃ (Par : Nat → Option Nat) (v5 v6 : Option V), H' pp = some (.lst (parV n Par)) ∧ (∀ x q, Par x = some q → ∃ i j : Nat, j < i ∧ ord[i]? = some x ∧ ord[j]? = some q) ∧
        σ = [some (.ref h), some (.int (n : Int)), some (.ref po), some (.ref pp), some (.int (kind : Int)), v5, v6, none, none])
      ⟨HL3, m13, hpo3, _, none, none, hpp3, (fun x q e => by cases e), rfl⟩ (fun j σ H4 hj z => ?_) (fun σ H4 z => ?_)
    · obtain ⟨HL4, m4, hpo4, Par, v5, v6, hpp4, inv, rfl⟩ := z
      rw [show ((1 : Int) + (j : Int)) = ((1 + j : Nat) : Int) from by omega]
      dsimp only [tSeq, tAsg, gName, List.set]
      refine rd_near (at' := j) HL4 rfl rfl rfl (by omega) fun H5 r HL5 m5 hr => ?_
      refine rd_if <| c_orD (kind := kind) (m := 6) HL5 rfl rfl fun H6 b HL6 m6 => ?_
      have m46 : Same (er H4 [h]) H6 := Hs.trans m5 m6
      have hpo6 := Hs.at m46 hpo4 poh
      have hpp6 := Hs.at m46 hpp4 pph
      have r1 : r < ord.length := by omega
      have j1 : 1 + j < ord.length := by omega
      refine iteB (fun b => ?_) (fun b => ⟨HL6, Hs.trans m4 m46, hpo6, Par, _, _, hpp6, inv, rfl⟩)
      refine rd_asg <| rd_il (k := r) hpo6 (intsV_get (List.getElem?_eq_getElem r1)) (ev_v rfl) (ev_v rfl) ?_
      refine rd_setL (k := ord[1 + j]) hpp6 (by rw [parV_len]; exact mo _ (List.getElem_mem j1)) (ev_v rfl) (fun Q' q' => rd_il (k := 1 + j) hpo6 (intsV_get (List.getElem?_eq_getElem j1)) (ev_v rfl) (ev_v rfl) q') ?_
      refine ⟨HL6.beside pph ppc, Same.mut (Hs.trans m4 m46) nppE, by rw [upd_ne ppo]; exact hpo6, fun i => if i = ord[1 + j] then some ord[r] else Par i, _, _, ?_, fun x q e => ?_, rfl⟩
      · rw [upd_same]
        exact congrArg (fun y => some (HO.lst y)) (parV_set (o := some ord[r]) Par)
      · dsimp only at e
        split at e
        · next z => subst z; cases e; exact ⟨1 + j, r, by omega, List.getElem?_eq_getElem j1, List.getElem?_eq_getElem r1⟩
        · exact inv x q e
    · obtain ⟨HL4, m4, hpo4, Par, v5, v6, hpp4, inv, rfl⟩ := z
      dsimp only
      refine ⟨_, rfl, (n : Int), rfl, (range_len n2).1, (range_len n2).2, fun D nD => ?_⟩
      obtain ⟨Dh, Dc⟩ := HL4.fresh nD
      have Dpp : pp ≠ D := fun z => by subst z; rw [nD] at hpp4; cases hpp4
      have nDE : er H [h] D = none := m4.free nD
      refine lc_range (lo := 0) (n := n) (fun j H' => HandL H' h c ∧ Same (er H [h]) H' ∧ H' pp = some (.lst (parV n Par)) ∧ ∃ wo : List Int, wo.length = j ∧ H' D = some (.lst (wo.map V.int))) ⟨HL4.beside Dh Dc, Same.mut m4 nDE, by rw [upd_ne Dpp]; exact hpp4, [], rfl, upd_same⟩ (fun j H5 hj z => ?_) (fun H5 z => ?_)
      · obtain ⟨HL5, m5, hpp5, wo, hw, hD⟩ := z
        refine ⟨rfl, rd_yes (iteT ⟨_, rfl, ?_⟩)⟩
        dsimp only
        refine rd_cons ?_
        dsimp only [tLst]
        refine rd_cons <| ev_k _ <| rd_cons <| ev_k _ <| rd_cons <| ev_neg (j := -1) ev_k rfl _ <| rd_cons <| ev_k _ <| rd_cons <| ev_k _ <| rd_cons <| ev_k _ <| rd_cons <| rd_op <| rd_draw HL5 (by decide : 0 < 100) (by decide) (ev_v rfl) ev_k fun H6 r HL6 m6 _ => ⟨_, _, rfl, rfl, rd_nil ⟨size64 (by show 7 ≤ 1000; decide), fun pt npt => rd_nil ?_⟩⟩
        obtain ⟨pth, ptc⟩ := HL6.fresh npt
        refine ⟨h, c, pt, _, rfl, HL6.mono (same_new npt), upd_same, pth, (by show 0 < 7; decide), (by show 7 ≤ 1000; decide), fun H7 v HL7 m7 hv => ?_⟩
        obtain ⟨i, rfl⟩ : ∃ i : Int, v = .int i := by
          simp only [List.mem_cons, List.not_mem_nil, or_false] at hv
          rcases hv with e | e | e | e | e | e | e <;> exact ⟨_, e⟩
        have m57 := Hs.trans m6 (Hs.trans (Hs.of (same_new npt)) m7)
        exact ⟨_, Hs.at m57 hD Dh, (by rw [List.length_map]; exact small1000 (by omega)), HL7.beside Dh Dc, Same.mut (Hs.trans m5 m57) nDE, (by rw [upd_ne Dpp]; exact Hs.at m57 hpp5 pph), wo ++ [i], (by rw [List.length_append, hw]; rfl), (by rw [upd_same, List.map_append]; rfl)⟩
      · obtain ⟨HL5, m5, hpp5, wo, hw, hD⟩ := z
        refine ⟨_, rfl, pp, _, rfl, .inl ⟨SqL.of hpp5, fun pa npa => ?_⟩⟩
        have s6 : Same H5 (upd H5 pa (.tup (parV n Par))) := same_new npa
        refine ⟨_, rfl, D, _, rfl, .inl ⟨SqL.of (s6 _ _ hD), fun wa nwa => ⟨size64 (by show 2 ≤ 1000; decide), fun r nr => ?_⟩⟩⟩
        have s7 : Same (upd H5 pa (.tup (parV n Par))) (upd (upd H5 pa (.tup (parV n Par))) wa (.tup (wo.map V.int))) := same_new nwa
        have s8 := same_new (o := .tup [.ref pa, .ref wa]) nr
        refine q _ r pa wa Par wo (HL5.mono (s6.trans (s7.trans s8))) (m5.trans (s6.trans (s7.trans s8))) upd_same (s8 _ _ (s7 _ _ upd_same)) (s8 _ _ upd_same) hw ?_ ?_
        · refine ⟨fun x q e => ?_, fun x hx => ?_⟩
          · obtain ⟨i, j, _, _, e2⟩ := inv x q e
            exact mo _ (List.mem_of_getElem? e2)
          · cases e : Par x with
            | none => rfl
            | some q =>
              obtain ⟨i, j, _, e1, _⟩ := inv x q e
              have := mo _ (List.mem_of_getElem? e1)
              omega
        · refine ⟨fun x => Classical.epsilon fun i => ord[i]? = some x, fun x q e => ?_⟩
          obtain ⟨i, j, ij, e1, e2⟩ := inv x q e
          have z1 : ord[Classical.epsilon fun i => ord[i]? = some x]? = some x := Classical.epsilon_spec (p := fun i => ord[i]? = some x) ⟨i, e1⟩
          have z2 : ord[Classical.epsilon fun i => ord[i]? = some q]? = some q := Classical.epsilon_spec (p := fun i => ord[i]? = some q) ⟨j, e2⟩
          have y1 := nd_ix ndo z1 e1
          have y2 := nd_ix ndo z2 e2
          show (Classical.epsilon fun i => ord[i]? = some q) < (Classical.epsilon fun i => ord[i]? = some x)
          rw [y1, y2]; exact ij
end
end K13
namespace K13
open PySem PySem.Spec PyProof.Rows L2
section
variable {P : Program} {w : World} {K : PySem.W.Frag} {mg : Str → Option Value} {base : Heap} {A : Ad}
/-! ### frames -/
theorem Er.of {H H1 : Hp} {l : List Addr} (a : Same H H1) : Same (er H l) H1 := (er_same _ _).trans a
theorem Er.at {H H1 : Hp} {l : List Addr} {b : Addr} {o : HO} (a : Same (er H l) H1) (e : H b = some o) (ne : b ∉ l) : H1 b = some o := a _ _ (by rw [er_out ne]; exact e)
theorem Er.trans {H H1 H2 : Hp} {l : List Addr} (a : Same (er H l) H1) (b : Same (er H1 l) H2) : Same (er H l) H2 := fun x o e => by
  have ne : x ∉ l := fun z => by rw [er_in z] at e; cases e
  exact Er.at b (a _ _ e) ne
theorem Er.sub {H H1 : Hp} {l l' : List Addr} (hs : ∀ x ∈ l, x ∈ l') (a : Same (er H l) H1) : Same (er H l') H1 := fun x o e => by
  have ne : x ∉ l' := fun z => by rw [er_in z] at e; cases e
  rw [er_out ne] at e
  exact Er.at a e (fun z => ne (hs x z))
theorem Er.mut {H H1 : Hp} {l : List Addr} {x : Addr} {o : HO} (a : Same (er H l) H1) (hx : x ∈ l) : Same (er H l) (upd H1 x o) := Same.mut a (er_in hx)
/-! ### lists of lists that are being laid -/
structure PL (H : Hp) (p h c : Addr) (n : Nat) (s : Sh) (as : List Addr) (dn : Nat → Prop) : Prop where
  len : as.length = n
  top : H p = some (.lst (as.map V.ref))
  row : ∀ i a, dn i → as[i]? = some a → H a = some (.lst (ndV (s i))) ∧ a ≠ p ∧ a ≠ h ∧ a ≠ c
  inj : ∀ i j a, dn i → dn j → as[i]? = some a → as[j]? = some a → i = j
theorem PL.hs {H H1 : Hp} {p h c : Addr} {n : Nat} {s : Sh} {as : List Addr} {dn : Nat → Prop} (S : PL H p h c n s as dn) (m : Same (er H [h]) H1) (ph : p ≠ h) : PL H1 p h c n s as dn :=
  ⟨S.len, Hs.at m S.top ph, fun i a d e => let ⟨x, y, z, u⟩ := S.row i a d e; ⟨Hs.at m x z, y, z, u⟩, S.inj⟩
theorem PL.sub {H : Hp} {p h c : Addr} {n : Nat} {s : Sh} {as : List Addr} {dn dn' : Nat → Prop} (S : PL H p h c n s as dn) (d : ∀ i, dn' i → dn i) : PL H p h c n s as dn' :=
  ⟨S.len, S.top, fun i a x e => S.row i a (d i x) e, fun i j a x y => S.inj i j a (d i x) (d j y)⟩
theorem PL.newRow {H : Hp} {p h c b : Addr} {n i : Nat} {s : Sh} {as : List Addr} {dn : Nat → Prop} {d : Nd} (S : PL H p h c n s as dn) (hi : i < n) (nb : H b = none) (bh : b ≠ h) (bc : b ≠ c) :
    PL (upd (upd H b (.lst (ndV d))) p (.lst ((as.map V.ref).set i (.ref b)))) p h c n (put s i d) (as.set i b) (fun j => dn j ∨ j = i) := by
  have bp : b ≠ p := fun z => by subst z; rw [S.top] at nb; cases nb
  have ba : ∀ j a, dn j → as[j]? = some a → a ≠ b := fun j a x e z => by have := (S.row j a x e).1; rw [z, nb] at this; cases this
  have hl := S.len
  have gt : ∀ j a, (as.set i b)[j]? = some a → (j = i ∧ a = b) ∨ (j ≠ i ∧ as[j]? = some a) := fun j a e => by
    rw [List.getElem?_set] at e
    split at e
    · next z =>
      split at e
      · cases e; exact .inl ⟨z.symm, rfl⟩
      · cases e
    · next z => exact .inr ⟨fun y => z y.symm, e⟩
  refine ⟨by rw [List.length_set]; exact hl, by rw [upd_same, List.map_set], fun j a x e => ?_, fun j k a x y e1 e2 => ?_⟩
  · rcases gt j a e with ⟨rfl, rfl⟩ | ⟨ne, e⟩
    · exact ⟨by rw [upd_ne bp, upd_same, put_same], bp, bh, bc⟩
    · have x : dn j := x.resolve_right ne
      obtain ⟨r1, r2, r3, r4⟩ := S.row j a x e
      exact ⟨by rw [upd_ne r2, upd_ne (ba j a x e), put_ne ne]; exact r1, r2, r3, r4⟩
  · rcases gt j a e1 with ⟨y1, y2⟩ | ⟨y1, y2⟩
    · rcases gt k a e2 with ⟨z1, z2⟩ | ⟨z1, z2⟩
      · rw [y1, z1]
      · exact absurd y2 (ba k a (y.resolve_right z1) z2)
    · rcases gt k a e2 with ⟨z1, z2⟩ | ⟨z1, z2⟩
      · exact absurd z2 (ba j a (x.resolve_right y1) y2)
      · exact S.inj j k a (x.resolve_right y1) (y.resolve_right z1) y2 z2
theorem PL.here {H : Hp} {p h c : Addr} {n : Nat} {s : Sh} {as : List Addr} {dn : Nat → Prop} (S : PL H p h c n s as dn) (all : ∀ i, i < n → dn i) : HereL H p n s as ∧ h ∉ as ∧ c ∉ as := by
  have al : ∀ i a, as[i]? = some a → dn i := fun i a e => all i (by have := (List.getElem?_eq_some_iff.mp e).1; rw [S.len] at this; exact this)
  have mm : ∀ a ∈ as, a ≠ p ∧ a ≠ h ∧ a ≠ c := fun a ha => by
    obtain ⟨i, hi, e⟩ := List.getElem_of_mem ha
    have e' : as[i]? = some a := by rw [List.getElem?_eq_getElem hi, e]
    exact (S.row i a (al i a e') e').2
  refine ⟨⟨S.len, ?_, fun z => (mm p z).1 rfl, S.top, fun i a e => (S.row i a (al i a e) e).1⟩, fun z => (mm h z).2.1 rfl, fun z => (mm c z).2.2 rfl⟩
  refine List.nodup_iff_pairwise_ne.mpr ?_
  rw [List.pairwise_iff_getElem]
  intro i j hi hj ij z
  have e1 : as[i]? = some as[i] := List.getElem?_eq_getElem hi
  have e2 : as[j]? = some as[i] := by rw [List.getElem?_eq_getElem hj, z]
  have := S.inj i j _ (al i _ e1) (al j _ e2) e1 e2
  omega
theorem PL.ne_ints {H : Hp} {p h c pt : Addr} {n : Nat} {s : Sh} {as : List Addr} {dn : Nat → Prop} {l : List Nat} (S : PL H p h c n s as dn) (e : H pt = some (.lst (intsV l))) (hl : 0 < l.length) : pt ≠ p := fun z => by
  subst z
  rw [S.top] at e
  have e := HO.lst.inj (Option.some.inj e)
  cases l with
  | nil => exact absurd hl (by decide)
  | cons x l => cases as with
    | nil => cases e
    | cons a r => cases (List.cons.inj e).1
/-- turned or not -/
theorem rd_revIf {σ : L2.St} {H : Hp} {Q : VK} {h pt : Addr} {l : List Nat} {b : Bool} {tt : TT} {te : TE} (et : ∀ Q : Bool → Hp → Prop, Q b H → tt σ H Q) (ee : ∀ Q : VK, Q (.ref pt) H → te σ H Q) (hp : H pt = some (.lst (intsV l))) (ph : pt ≠ h) (hh : ∃ o, H h = some o)
    (q : ∀ H' pt' l', Same H H' → H' pt' = some (.lst (intsV l')) → pt' ≠ h → (l' = l ∨ l' = l.reverse) → Q (.ref pt') H') : tIf tt (tRevL K te) te σ H Q := by
  refine et _ (iteB (fun _ => ee _ ⟨pt, _, rfl, SqL.of hp, fun r nr => ?_⟩) (fun _ => ee _ (q H pt l (Same.refl _) hp ph (.inl rfl))))
  refine q _ r l.reverse (same_new nr) (by rw [upd_same]; unfold intsV; rw [List.map_reverse]) (fun z => by subst z; obtain ⟨o, e⟩ := hh; rw [nr] at e; cases e) (.inr rfl)
theorem rd_someL {σ : L2.St} {H : Hp} {Q : VK} {h c : Addr} {t0 : TE} {ta : TA} (HL : HandL H h c) (e0 : ∀ Q : VK, Q (.ref h) H → t0 σ H Q) (Pv : V → Prop)
    (ea : ∀ R : List V → Hp → Prop, (∀ H1 xs, HandL H1 h c → Same (er H [h]) H1 → 0 < xs.length → xs.length ≤ 1000 → (∀ v ∈ xs, Pv v) → R xs H1) → ta σ H R)
    (q : ∀ H' v, HandL H' h c → Same (er H [h]) H' → Pv v → Q v H') : tCall sp_q_some [] E0 (tCons t0 (tCons (tLst ta) tNil)) σ H Q := by
  refine e0 _ (ea _ fun H1 xs HL1 m1 x0 x1 hv => ⟨size64 x1, fun pt npt => ?_⟩)
  refine ⟨h, c, pt, xs, rfl, HL1.mono (same_new npt), upd_same, (HL1.fresh npt).1, x0, x1, fun H2 v HL2 m2 hm => ?_⟩
  exact q H2 v HL2 (Hs.trans m1 (Hs.trans (Hs.of (same_new npt)) m2)) (hv v hm)
theorem ev_lenL {σ : L2.St} {H : Hp} {pt : Addr} {xs : List V} {k : Nat} {te : TE} (hp : H pt = some (.lst xs)) (hk : xs.length = k) (ee : ∀ Q : VK, Q (.ref pt) H → te σ H Q) (Q : VK) (q : Q (.int (k : Int)) H) : tCB (rLenQ K) (tCons te tNil) σ H Q :=
  ee _ ⟨pt, xs, rfl, .inl (SqL.of hp), by rw [hk]; exact q⟩
def sp_q_planted (f : Nat) : Sp := fun vs H Q _ => ∃ (h c p pt wa : Addr) (n : Nat) (part : List Nat) (u : Option Nat) (g : Int) (wo : List Int) (s : Sh) (as : List Addr) (dn : Nat → Prop), vs = [.ref h, .ref pt, ov u, .int g, .ref wa, .ref p] ∧
  HandL H h c ∧ p ≠ h ∧ p ≠ c ∧ H pt = some (.lst (intsV part)) ∧ pt ≠ h ∧ part.length < f ∧ part.Nodup ∧ (∀ i ∈ part, i < n) ∧ n ≤ 64 ∧ H wa = some (.tup (wo.map V.int)) ∧ wo.length = n ∧ PL H p h c n s as dn ∧
  ∀ H' s' as' r, HandL H' h c → Same (er H [h, p]) H' → PL H' p h c n s' as' (fun i => dn i ∨ i ∈ part) → Planted s s' part u r → Q (ov r) H'
theorem planted_none : FnOk P w K mg base CX0 3 A.f_q_planted A.d_q_planted ["_law_hand_here", "_law_part", "_law_up", "_law_given", "_law_worths", "_law_here"] (sp_q_planted 0) := by
  have no : ∀ vs H Q E, ¬ sp_q_planted 0 vs H Q E := fun vs H Q E h => by
    obtain ⟨h, c, p, pt, wa, n, part, u, g, wo, s, as, dn, _, _, _, _, _, _, z, _⟩ := h
    omega
  exact ⟨fun vs H Q E h => absurd h (no vs H Q E), fun A outer s H args us vs Q E _ _ _ _ h => absurd h (no vs H Q E)⟩
theorem planted_more (T : Txt K mg A) {f : Nat} (G : FnOk P w K mg base CX0 (f + 3) A.f_q_planted A.d_q_planted ["_law_hand_here", "_law_part", "_law_up", "_law_given", "_law_worths", "_law_here"] (sp_q_planted f)) : FnOk P w K mg base CX0 (f + 1 + 3) A.f_q_planted A.d_q_planted ["_law_hand_here", "_law_part", "_law_up", "_law_given", "_law_worths", "_law_here"] (sp_q_planted (f + 1)) := by
  refine T.f_q_planted.ok sc_q_planted (fun vs H Q E h => ?_) (fun cdv A' outer s H vs Q E hr h => ?_)
  · obtain ⟨h, c, p, pt, wa, n, part, u, g, wo, s, as, dn, rfl, _⟩ := h; rfl
  · obtain ⟨h, c, p, pt, wa, n, part, u, g, wo, s, as, dn, rfl, HL, ph, pc, hpt, pth, hf, nd, lt, n2, hwa, lw, S, q⟩ := h
    refine ⟨_, (pss_cons (ps_if (pt_cmpR op_eq (pe_callB call_len_seq (by rfl) T.z_len PySem.boot_len (pa_cons (pv 1) pa_nil)) pe_int (nomark _)) (pss_one (ps_ret pe_non)) pss_nil)
      (pss_cons (ps_par (i := 6) (j := 7) rfl sc_q_planted.nd rfl rfl (by decide) rfl rfl (pa_cons (pe_cmpR op_eq (pe_call (ok_q_draw T) (hr.mono (by omega)) (by rfl) T.g_q_draw T.f_q_draw.kp T.b_q_draw .nil pass0 (pa_cons (pv 0) (pa_cons pe_int pa_nil))) pe_int (nomark _)) (pa_cons (pe_call (ok_q_some T) (hr.mono (by omega)) (by rfl) T.g_q_some T.f_q_some.kp T.b_q_some .nil pass0 (pa_cons (pv 0) (pa_cons (pe_lst (pa_cons pe_int (pa_cons pe_int (pa_cons pe_int (pa_cons pe_int (pa_cons (pe_un un_neg pe_int) (pa_cons pe_int pa_nil))))))) pa_nil))) pa_nil)) (by rfl))
      (pss_cons (ps_set (i := 1) sc_q_planted.nd rfl (Or.inl rfl) (pe_ifExp (pt_val (pv 6)) (pe_revL (pv 1)) (pv 1)))
      (pss_cons (ps_set (i := 8) sc_q_planted.nd rfl (Or.inl rfl) (pe_call (ok_q_some T) (hr.mono (by omega)) (by rfl) T.g_q_some T.f_q_some.kp T.b_q_some .nil pass0 (pa_cons (pv 0) (pa_cons (pe_lst (pa_cons pe_int (pa_cons (pe_op op_sub (pe_callB call_len_seq (by rfl) T.z_len PySem.boot_len (pa_cons (pv 1) pa_nil)) pe_int) (pa_cons (pe_call (ok_q_draw T) (hr.mono (by omega)) (by rfl) T.g_q_draw T.f_q_draw.kp T.b_q_draw .nil pass0 (pa_cons (pv 0) (pa_cons (pe_callB call_len_seq (by rfl) T.z_len PySem.boot_len (pa_cons (pv 1) pa_nil)) pa_nil))) (pa_cons (pe_call (ok_q_draw T) (hr.mono (by omega)) (by rfl) T.g_q_draw T.f_q_draw.kp T.b_q_draw .nil pass0 (pa_cons (pv 0) (pa_cons (pe_callB call_len_seq (by rfl) T.z_len PySem.boot_len (pa_cons (pv 1) pa_nil)) pa_nil))) pa_nil))))) pa_nil))))
      (pss_cons (ps_set (i := 9) sc_q_planted.nd rfl (Or.inl rfl) (pe_ix ix_list (pv 1) (pv 8) (fun _ _ => rfl)))
      (pss_cons (ps_set (i := 10) sc_q_planted.nd rfl (Or.inl rfl) (pe_call (G) (hr.mono (by omega)) (by rfl) T.g_q_planted T.f_q_planted.kp T.b_q_planted .nil pass0 (pa_cons (pv 0) (pa_cons (pe_slice sl_list (pv 1) po_none (po_some (pv 8))) (pa_cons (pv 9) (pa_cons (pe_op op_add (pv 3) (pv 7)) (pa_cons (pv 4) (pa_cons (pv 5) pa_nil))))))))
      (pss_cons (ps_set (i := 11) sc_q_planted.nd rfl (Or.inl rfl) (pe_call (G) (hr.mono (by omega)) (by rfl) T.g_q_planted T.f_q_planted.kp T.b_q_planted .nil pass0 (pa_cons (pv 0) (pa_cons (pe_slice sl_list (pv 1) (po_some (pe_op op_add (pv 8) pe_int)) po_none) (pa_cons (pv 9) (pa_cons (pe_op op_add (pv 3) (pv 7)) (pa_cons (pv 4) (pa_cons (pv 5) pa_nil))))))))
      (pss_cons (ps_asg (pe_lst (pa_cons (pv 2) (pa_cons (pv 10) (pa_cons (pv 11) (pa_cons (pv 6) (pa_cons (pv 7) (pa_cons (pe_op op_sub (pe_ix ix_tup (pv 4) (pv 9) (fun _ _ => rfl)) (pv 3)) pa_nil))))))) (pg_sub (pv 5) (pv 9) set_list))
      (pss_one (ps_ret (pv 9))))))))))), ?_⟩
    have hl := intsV_len part
    refine ⟨_, rfl, pt, _, rfl, .inl (SqL.of hpt), rfl, _, rfl, iteB (fun b => ?_) (fun b => ?_)⟩
    · have z : part = [] := List.eq_nil_of_length_eq_zero (by have := of_decide_eq_true b; have := V.int.inj this; omega)
      subst z
      exact q H s as none HL (er_same _ _) (S.sub fun i => by simp) (Planted.none s u)
    have l0 : 0 < part.length := by
      refine Nat.pos_of_ne_zero fun z => of_decide_eq_false b ?_
      rw [hl, z]; rfl
    dsimp only [tNext, tSeq, tPar]
    refine rd_cons <| rd_op <| rd_draw HL (by decide : 0 < 3) (by decide) (ev_v rfl) ev_k fun H1 tz HL1 m1 _ => ⟨rfl, ?_⟩
    refine rd_cons <| rd_someL HL1 (ev_v rfl) (fun v => ∃ i : Int, v = .int i) (fun R r => rd_cons <| ev_k _ <| rd_cons <| ev_k _ <| rd_cons <| ev_k _ <| rd_cons <| ev_k _ <| rd_cons <| ev_neg (j := -2) ev_k rfl _ <| rd_cons <| ev_k _ <| rd_nil <| r _ _ HL1 (er_same _ _) (by show 0 < 6; decide) (by show 6 ≤ 1000; decide) fun v hv => ?_) fun H2 v HL2 m2 hv => ?_
    · simp only [List.mem_cons, List.not_mem_nil, or_false] at hv
      rcases hv with e | e | e | e | e | e <;> exact ⟨_, e⟩
    obtain ⟨ad, rfl⟩ := hv
    generalize decide (V.int (tz : Int) = V.int 0) = tn
    refine ⟨_, _, rfl, ?_⟩
    have m12 := Hs.trans m1 m2
    have hpt2 := Hs.at m12 hpt pth
    have hlen : part.length ≤ n := nodup_le n part nd lt
    refine rd_asg <| rd_revIf (h := h) (l := part) (b := tn) (pt := pt) (c_val (ev_v rfl)) (ev_v rfl) hpt2 pth HL2.trk.1 fun H3 pt' l' s3 hp3 pth' el => ?_
    have le : l'.length = part.length := by
      rcases el with rfl | rfl
      · rfl
      · exact List.length_reverse
    have me : ∀ i, i ∈ l' ↔ i ∈ part := fun i => by
      rcases el with rfl | rfl
      · exact Iff.rfl
      · exact List.mem_reverse
    have nd' : l'.Nodup := by
      rcases el with rfl | rfl
      · exact nd
      · exact (List.reverse_perm part).nodup_iff.mpr nd
    clear el
    have HL3 := HL2.mono s3
    have hl3 := intsV_len l'
    refine rd_asg <| rd_someL HL3 (ev_v rfl) (fun v => ∃ j : Nat, v = .int (j : Int) ∧ j < l'.length) (fun R r => ?_) fun H4 v HL4 m4 hv => ?_
    · refine rd_cons <| ev_k _ <| rd_cons <| rd_op <| ev_lenL (k := l'.length) hp3 hl3 (ev_v rfl) _ ⟨_, _, rfl, rfl, ?_⟩
      refine rd_cons <| rd_draw (m := l'.length) HL3 (by omega) (by omega) (ev_v rfl) (ev_lenL hp3 hl3 (ev_v rfl)) fun H4 r1 HL4 m4 hr1 => ?_
      refine rd_cons <| rd_draw (m := l'.length) HL4 (by omega) (by omega) (ev_v rfl) (ev_lenL (Hs.at m4 hp3 pth') hl3 (ev_v rfl)) fun H5 r2 HL5 m5 hr2 => ?_
      refine rd_nil <| r _ _ HL5 (Hs.trans m4 m5) (by show 0 < 4; decide) (by show 4 ≤ 1000; decide) fun v hv => ?_
      simp only [List.mem_cons, List.not_mem_nil, or_false] at hv
      rcases hv with e | e | e | e
      · exact ⟨0, e, by omega⟩
      · exact ⟨l'.length - 1, by rw [e]; exact congrArg V.int (by omega), by omega⟩
      · exact ⟨r1, e, hr1⟩
      · exact ⟨r2, e, hr2⟩
    obtain ⟨j, rfl, hj⟩ := hv
    have m04 : Same (er H [h]) H4 := Hs.trans m12 (Hs.trans (Hs.of s3) m4)
    have hp4 := Hs.at m4 hp3 pth'
    refine rd_asg <| rd_il (k := j) hp4 (intsV_get (List.getElem?_eq_getElem hj)) (ev_v rfl) (ev_v rfl) ?_
    have sp : l'.take j ++ l'[j] :: l'.drop (j + 1) = l' := by rw [← List.drop_eq_getElem_cons hj, List.take_append_drop]
    have wh : wa ≠ h := fun z => by obtain ⟨_, _, _, _, _, _, e, _⟩ := HL; rw [z, e] at hwa; cases hwa
    have wp : wa ≠ p := fun z => by rw [z, S.top] at hwa; cases hwa
    have S4 := S.hs m04 ph
    have hwa4 := Hs.at m04 hwa wh
    have p'p : pt' ≠ p := S4.ne_ints hp4 (by omega)
    have lln : (l'.take j).length + (l'.drop (j + 1)).length + 1 = l'.length := by rw [List.length_take, List.length_drop]; omega
    have e1 : cutV (intsV l') none (some (j : Int)) = intsV (l'.take j) := by rw [cut_to _ (by omega)]; unfold intsV; rw [List.map_take]
    have e2 : cutV (intsV l') (some ((j + 1 : Nat) : Int)) none = intsV (l'.drop (j + 1)) := by rw [cut_from _ (by omega)]; unfold intsV; rw [List.map_drop]
    generalize l'[j] = x at *
    generalize l'.take j = l1 at *
    generalize l'.drop (j + 1) = l2 at *
    have nds : (l1 ++ x :: l2).Nodup := by rw [sp]; exact nd'
    have ms : ∀ i, i ∈ part ↔ (i ∈ l1 ∨ i = x ∨ i ∈ l2) := fun i => by rw [← me, ← sp, List.mem_append, List.mem_cons]
    obtain ⟨nd1, nd2, _⟩ := List.nodup_append.mp nds
    have nd2 := (List.nodup_cons.mp nd2).2
    have hx : x < n := lt x ((ms x).mpr (.inr (.inl rfl)))
    refine ⟨_, rfl, _, rfl, rd_no ⟨_, rfl, _, rfl, rd_slL hp4 fun p1 H5 s5 np1 hp1 => ?_⟩⟩
    dsimp only
    rw [e1] at hp1
    refine ⟨_, rfl, _, rfl, _, rfl, _, _, rfl, rfl, _, rfl, _, rfl, ?_⟩
    have S5 : PL H5 p h c n s as dn := S4.hs (Hs.of s5) ph
    have HL5 := HL4.mono s5
    have lt1 : ∀ i ∈ l1, i < n := fun i hi => lt i ((ms i).mpr (.inl hi))
    have lt2 : ∀ i ∈ l2, i < n := fun i hi => lt i ((ms i).mpr (.inr (.inr hi)))
    refine ⟨h, c, p, p1, wa, n, l1, some x, g + ad, wo, s, as, dn, rfl, HL5, ph, pc, hp1, (HL4.fresh np1).1, by omega, nd1, lt1, n2, s5 _ _ hwa4, lw, S5, fun H6 s1 as1 r1 HL6 m6 S6 P1 => ?_⟩
    have hpn : pt' ∉ [h, p] := by simp [pth', p'p]
    have wan : wa ∉ [h, p] := by simp [wh, wp]
    have hp6 : H6 pt' = some (.lst (intsV l')) := Er.at m6 (s5 _ _ hp4) hpn
    have hwa6 := Er.at m6 (s5 _ _ hwa4) wan
    refine ⟨_, rfl, _, rfl, _, rfl, _, _, rfl, rfl, (j : Int) + 1, rfl, rd_no (rd_slL hp6 fun p2 H7 s7 np2 hp2 => ?_)⟩
    rw [show ((j : Int) + 1) = ((j + 1 : Nat) : Int) from rfl, e2] at hp2
    refine ⟨_, rfl, _, rfl, _, rfl, _, _, rfl, rfl, _, rfl, _, rfl, ?_⟩
    refine ⟨h, c, p, p2, wa, n, l2, some x, g + ad, wo, s1, as1, _, rfl, HL6.mono s7, ph, pc, hp2, (HL6.fresh np2).1, by omega, nd2, lt2, n2, s7 _ _ hwa6, lw, S6.hs (Hs.of s7) ph, fun H8 s2 as2 r2 HL8 m8 S8 P2 => ?_⟩
    have hwa8 := Er.at m8 (s7 _ _ hwa6) wan
    have wx : (wo.map V.int)[x]? = some (.int (wo[x]'(by omega))) := by rw [List.getElem?_map, List.getElem?_eq_getElem (by omega)]; rfl
    generalize wo[x]'(by omega) = wv at wx
    dsimp only [tSeq, tAsg, tLst, gName, List.set]
    refine rd_cons <| ev_v rfl _ <| rd_cons <| ev_v rfl _ <| rd_cons <| ev_v rfl _ <| rd_cons <| ev_v rfl _ <| rd_cons <| ev_v rfl _ <| rd_cons <| rd_op <| rd_it (k := x) hwa8 wx (ev_v rfl) (ev_v rfl) ⟨_, rfl, _, _, rfl, rfl, rd_nil ⟨size64 (by show 6 ≤ 1000; decide), fun b nb => ?_⟩⟩
    obtain ⟨bh, bc⟩ := HL8.fresh nb
    have S9 := S8.newRow (d := ⟨u, r1, r2, tn, ad, wv - g⟩) hx nb bh bc
    have bp : p ≠ b := fun z => by subst z; rw [S8.top] at nb; cases nb
    refine ⟨_, rfl, _, rfl, p, as2.map V.ref, (x : Int), x, rfl, rfl, by rw [upd_ne bp]; exact S8.top, ixN_nat (by rw [List.length_map, S8.len]; exact hx), ?_⟩
    refine ⟨_, rfl, q _ _ _ (some x) ((HL8.beside bh bc).beside ph pc) ?_ (S9.sub fun i hi => ?_) ((Planted.node (s := s) nds P1 P2).mem (fun i => by rw [sp]; exact me i) (by rw [sp]; exact le))⟩
    · have m48 : Same (er H [h, p]) H8 := Er.trans (Er.sub (by simp) m04) (Er.trans (Er.of s5) (Er.trans m6 (Er.trans (Er.of s7) m8)))
      have nbE : er H [h, p] b = none := m48.free nb
      exact Er.mut (Same.mut m48 nbE) (by simp)
    · rcases hi with hi | hi
      · exact .inl (.inl (.inl hi))
      · rcases (ms i).mp hi with hi | hi | hi
        · exact .inl (.inl (.inr hi))
        · exact .inr hi
        · exact .inl (.inr hi)
theorem ok_q_planted (T : Txt K mg A) : ∀ f, FnOk P w K mg base CX0 (f + 3) A.f_q_planted A.d_q_planted ["_law_hand_here", "_law_part", "_law_up", "_law_given", "_law_worths", "_law_here"] (sp_q_planted f)
  | 0 => planted_none
  | f + 1 => planted_more T (ok_q_planted T f)
end
end K13
namespace K13
open PySem PySem.Spec PyProof.Rows L2
section
variable {P : Program} {w : World} {K : PySem.W.Frag} {mg : Str → Option Value} {base : Heap} {A : Ad}
theorem ev_lenT {σ : L2.St} {H : Hp} {pt : Addr} {xs : List V} {k : Nat} {te : TE} (hp : H pt = some (.tup xs)) (hk : xs.length = k) (ee : ∀ Q : VK, Q (.ref pt) H → te σ H Q) (Q : VK) (q : Q (.int (k : Int)) H) : tCB (rLenQ K) (tCons te tNil) σ H Q :=
  ee _ ⟨pt, xs, rfl, .inr (SqT.of hp), by rw [hk]; exact q⟩
/-- lists of numbers, by their addresses -/
structure RowsL (H : Hp) (h pf : Addr) (ras : List Addr) (rows : List (List Nat)) : Prop where
  len : ras.length = rows.length
  row : ∀ (i : Nat) (a : Addr) (l : List Nat), ras[i]? = some a → rows[i]? = some l → H a = some (.lst (intsV l))
  nh : ∀ a ∈ ras, a ≠ h ∧ a ≠ pf
  trk : ∀ a ∈ ras, ∃ o, H a = some o
theorem RowsL.nil (H : Hp) (h pf : Addr) : RowsL H h pf [] [] := ⟨rfl, fun i a l e => by simp at e, by simp, by simp⟩
theorem RowsL.beside {H : Hp} {h pf b : Addr} {ras : List Addr} {rows : List (List Nat)} {o : HO} (R : RowsL H h pf ras rows) (hb : b ∉ ras) : RowsL (upd H b o) h pf ras rows :=
  ⟨R.len, fun i a l e f => by rw [upd_ne (fun z => hb (by rw [← z]; exact List.mem_of_getElem? e))]; exact R.row i a l e f, R.nh, fun a ha => by
    rw [upd_ne (fun z => hb (by rw [← z]; exact ha))]; exact R.trk a ha⟩
theorem RowsL.fresh {H : Hp} {h pf b : Addr} {ras : List Addr} {rows : List (List Nat)} (R : RowsL H h pf ras rows) (nb : H b = none) : b ∉ ras := fun z => by
  obtain ⟨o, e⟩ := R.trk b z
  rw [nb] at e; cases e
theorem RowsL.hs {H H1 : Hp} {h pf : Addr} {ras : List Addr} {rows : List (List Nat)} (R : RowsL H h pf ras rows) (m : Same (er H [h]) H1) : RowsL H1 h pf ras rows :=
  ⟨R.len, fun i a l e f => Hs.at m (R.row i a l e f) (R.nh a (List.mem_of_getElem? e)).1, R.nh, fun a ha => let ⟨o, e⟩ := R.trk a ha; ⟨o, Hs.at m e (R.nh a ha).1⟩⟩
theorem RowsL.push {H : Hp} {h pf b : Addr} {ras : List Addr} {rows : List (List Nat)} {l : List Nat} (R : RowsL H h pf ras rows) (hb : H b = some (.lst (intsV l))) (bh : b ≠ h) (bp : b ≠ pf) : RowsL H h pf (ras ++ [b]) (rows ++ [l]) := by
  have hl := R.len
  refine ⟨by rw [List.length_append, List.length_append, hl]; rfl, fun i a l' e f => ?_, fun a ha => ?_, fun a ha => ?_⟩
  · by_cases z : i < ras.length
    · rw [List.getElem?_append_left z] at e
      rw [List.getElem?_append_left (by omega)] at f
      exact R.row i a l' e f
    · rw [List.getElem?_append_right (by omega)] at e
      have z0 : i - ras.length = 0 := by
        have := (List.getElem?_eq_some_iff.mp e).1
        simp at this; omega
      rw [List.getElem?_append_right (by omega), ← hl, z0] at f
      rw [z0] at e
      cases e; cases f
      exact hb
  · rcases List.mem_append.mp ha with ha | ha
    · exact R.nh a ha
    · rw [List.mem_singleton.mp ha]; exact ⟨bh, bp⟩
  · rcases List.mem_append.mp ha with ha | ha
    · exact R.trk a ha
    · rw [List.mem_singleton.mp ha]; exact ⟨_, hb⟩
theorem c_top {σ : L2.St} {H : Hp} {Q : Bool → Hp → Prop} {pa pg : Addr} {n j : Nat} {Par G : Nat → Option Nat} (cl : Cl n Par) (hpa : H pa = some (.tup (parV n Par))) (hpg : H pg = some (.lst (parV n G))) (hj : j < n)
    (e1 : σ[1]? = some (some (.ref pa))) (e3 : σ[3]? = some (some (.ref pg))) (e4 : σ[4]? = some (some (.int (j : Int)))) (q : ∀ b, (b = true ↔ Top Par G j) → Q b H) :
    tOr (tTest (tOp (fun x y H Q => y = V.non ∧ Q (V.bl (decide (x = V.non))) H) (tOp (rIxT K) (tVar 1) (tVar 4)) (tC .non))) (tTest (tOp rNe (tOp (rIxL K) (tVar 3) (tOp (rIxT K) (tVar 1) (tVar 4))) (tVar 4))) σ H Q := by
  refine rd_op <| rd_it (k := j) hpa (parV_get Par hj) (ev_v e1) (ev_v e4) ⟨rfl, _, rfl, iteB (fun b => ?_) (fun b => ?_)⟩
  · refine q true ⟨fun _ p e => ?_, fun _ => rfl⟩
    rw [e] at b; cases b
  · cases e : Par j with
    | none => rw [e] at b; cases b
    | some p =>
      have hp := cl.below _ _ e
      refine rd_op <| rd_op <| ev_v e3 _ <| rd_it (k := j) hpa (parV_get Par hj) (ev_v e1) (ev_v e4) ?_
      rw [e]
      refine rd_ixL (j := p) hpg (parV_get G hp) ⟨_, e4, scal_ov _ (some j), _, rfl, q _ ⟨fun h p' e' z => ?_, fun h => ?_⟩⟩
      · rw [e] at e'; cases e'
        rw [z] at h; simp [ov] at h
      · have := h p e
        have : ¬ ov (G p) = V.int (j : Int) := fun z => this (ov_int.mp z)
        simp [this]
def sp_q_rows_of : Sp := fun vs H Q _ => ∃ (h c pa : Addr) (n : Nat) (Par : Nat → Option Nat), vs = [.ref h, .ref pa] ∧ HandL H h c ∧ H pa = some (.tup (parV n Par)) ∧ n ≤ 64 ∧ Cl n Par ∧ Acyc Par ∧
  ∀ H' r ras rows, HandL H' h c → Same (er H [h]) H' → H r = none → H' r = some (.lst (ras.map V.ref)) → RowsL H' h r ras rows → RowsOf n Par rows → Q (.ref r) H'
theorem ok_q_rows_of (T : Txt K mg A) : FnOk P w K mg base CX0 3 A.f_q_rows_of A.d_q_rows_of ["_law_hand_here", "_law_parents"] sp_q_rows_of := by
  refine T.f_q_rows_of.ok sc_q_rows_of (fun vs H Q E h => ?_) (fun cdv A' outer s H vs Q E hr h => ?_)
  · obtain ⟨h, c, pa, n, Par, rfl, _⟩ := h; rfl
  · obtain ⟨h, c, pa, n, Par, rfl, HL, hpa, n2, cl, ac, q⟩ := h
    refine ⟨_, (pss_cons (ps_par (i := 2) (j := 3) rfl sc_q_rows_of.nd rfl rfl (by decide) rfl rfl (pa_cons (pe_callB call_len_seq (by rfl) T.z_len PySem.boot_len (pa_cons (pv 1) pa_nil)) (pa_cons (pe_op op_rep (pe_lst (pa_cons pe_non pa_nil)) (pe_callB call_len_seq (by rfl) T.z_len PySem.boot_len (pa_cons (pv 1) pa_nil))) pa_nil)) (by rfl))
      (pss_cons (ps_for PassesOwn.never rfl (pi_list (pe_call (ok_q_shuffled T) (hr.mono (by decide)) (by rfl) T.g_q_shuffled T.f_q_shuffled.kp T.b_q_shuffled .nil pass0 (pa_cons (pv 0) (pa_cons (pe_listRg rfl (by rfl) T.z_list (prg_1 (by rfl) T.z_range (pv 2))) pa_nil)))) (pg_name (i := 4) sc_q_rows_of.nd rfl (Or.inl rfl))
      (pss_one (ps_if (PW.pt (pw_and (pt_cmpR op_notN (pe_ix ix_tup (pv 1) (pv 4) (fun _ _ => rfl)) pe_non (nomark _)) (pw_and1 (pt_cmpR op_gt (pe_call (ok_q_draw T) (hr.mono (by decide)) (by rfl) T.g_q_draw T.f_q_draw.kp T.b_q_draw .nil pass0 (pa_cons (pv 0) (pa_cons pe_int pa_nil))) pe_int (nomark _))))) (pss_one (ps_asg (pv 4) (pg_sub (pv 3) (pe_ix ix_tup (pv 1) (pv 4) (fun _ _ => rfl)) set_list))) pss_nil)))
      (pss_cons (ps_set (i := 5) sc_q_rows_of.nd rfl (Or.inl rfl) (pe_lst pa_nil))
      (pss_cons (ps_for PassesOwn.never rfl (pi_range1 (by rfl) T.z_range (pa_cons (pv 2) pa_nil)) (pg_name (i := 4) sc_q_rows_of.nd rfl (Or.inl rfl))
      (pss_one (ps_if (PW.pt (pw_or (pt_cmpR op_isN (pe_ix ix_tup (pv 1) (pv 4) (fun _ _ => rfl)) pe_non (nomark _)) (pw_or1 (pt_cmpR op_ne (pe_ix ix_list (pv 3) (pe_ix ix_tup (pv 1) (pv 4) (fun _ _ => rfl)) (fun _ _ => rfl)) (pv 4) (nomark _))))) (pss_cons (ps_set (i := 6) sc_q_rows_of.nd rfl (Or.inl rfl) (pe_lst (pa_cons (pv 4) pa_nil)))
      (pss_cons (ps_for PassesOwn.never rfl (pi_range1 (by rfl) T.z_range (pa_cons (pv 2) pa_nil)) (pg_name (i := 7) sc_q_rows_of.nd rfl (Or.inl rfl))
      (pss_one (ps_if (pt_cmpR op_notN (pe_ix ix_list (pv 3) (pe_ix ix_list (pv 6) (pe_un un_neg pe_int) (fun _ _ => rfl)) (fun _ _ => rfl)) pe_non (nomark _)) (pss_one (ps_expr (pe_bm PySem.F.plainAttrs_list PySem.F.slot_list_append PySem.F.type_list_append mt_append (pv 6) (pa_cons (pe_ix ix_list (pv 3) (pe_ix ix_list (pv 6) (pe_un un_neg pe_int) (fun _ _ => rfl)) (fun _ _ => rfl)) pa_nil)))) pss_nil)))
      (pss_one (ps_expr (pe_bm PySem.F.plainAttrs_list PySem.F.slot_list_append PySem.F.type_list_append mt_append (pv 5) (pa_cons (pv 6) pa_nil)))))) pss_nil)))
      (pss_one (ps_ret (pv 5))))))), ?_⟩
    have pl := parV_len n Par
    have pah : pa ≠ h := fun z => by obtain ⟨_, _, _, _, _, _, e, _⟩ := HL; rw [z, e] at hpa; cases hpa
    dsimp only [tSeq, tPar]
    refine rd_cons <| ev_lenT hpa pl (ev_v rfl) _ ?_
    refine rd_cons <| rd_replN n2 (fun H' s' => ev_lenT (s' _ _ hpa) pl (ev_v rfl)) fun pg H1 npg s1 hpg => ?_
    refine ⟨_, _, rfl, ?_⟩
    obtain ⟨pgh, pgc⟩ := HL.fresh npg
    have HL1 := HL.mono s1
    refine rd_shufR HL1 n2 (ev_v rfl) (ev_v rfl) fun H2 po ord HL2 m2 npo hpo pm => ?_
    obtain ⟨poh, poc⟩ := HL1.fresh npo
    have pgo : pg ≠ po := fun z => by subst z; rw [npo] at hpg; cases hpg
    have npgE : er H [h] pg = none := by rw [er_out (by simpa using pgh)]; exact npg
    have m02 : Same (er H [h]) H2 := Hs.trans (Hs.of s1) m2
    have mo : ∀ x ∈ ord, x < n := fun x hx => List.mem_range.mp (pm.mem_iff.mp hx)
    refine ⟨po, rfl, ⟨_, SqL.of hpo⟩, ?_⟩
    refine for_list (xs := intsV ord) (fun j σ H' => HandL H' h c ∧ Same (er H [h]) H' ∧ H' po = some (.lst (intsV ord)) ∧ ∃ (G : Nat → Option Nat) (v4 : Option V), H' pg = some (.lst (parV n G)) ∧ (∀ q x, G q = some x → Par x = some q) ∧
        σ = [some (.ref h), some (.ref pa), some (.int (n : Int)), some (.ref pg), v4, none, none, none])
      ⟨HL2, m02, hpo, _, none, Hs.at m2 hpg pgh, (fun q x e => by cases e), rfl⟩ (fun j σ H' _ z => SqL.of z.2.2.1) (fun j v σ H3 hj z => ?_) (fun σ H3 z => ?_)
    · obtain ⟨HL3, m3, hpo3, G, v4, hpg3, gp, rfl⟩ := z
      have hjl : j < ord.length := by have := (List.getElem?_eq_some_iff.mp hj).1; rw [intsV_len] at this; exact this
      rw [intsV_get (List.getElem?_eq_getElem hjl)] at hj; cases hj
      have hx := mo _ (List.getElem_mem hjl)
      generalize ord[j] = x at hx
      have hpa3 := Hs.at m3 hpa pah
      dsimp only [gName, List.set]
      refine rd_if ?_
      dsimp only [tAnd, tTest]
      refine rd_op <| rd_it (k := x) hpa3 (parV_get Par hx) (ev_v rfl) (ev_v rfl) ⟨rfl, _, rfl, iteB (fun b => ?_) (fun b => iteF ?_)⟩
      · cases e : Par x with
        | none => rw [e] at b; cases b
        | some p =>
          have hp := cl.below _ _ e
          refine rd_op <| rd_draw HL3 (by decide : 0 < 5) (by decide) (ev_v rfl) ev_k fun H4 r HL4 m4 _ => ⟨_, _, rfl, rfl, _, rfl, iteB (fun b => ?_) (fun b => ?_)⟩
          · have hpa4 := Hs.at m4 hpa3 pah
            have hpg4 := Hs.at m4 hpg3 pgh
            have gx := parV_get Par hx
            rw [e] at gx
            refine rd_asg <| ev_v rfl _ <| rd_setL (k := p) hpg4 (by rw [parV_len]; exact hp) (ev_v rfl) (fun Q' q' => rd_it (k := x) hpa4 gx (ev_v rfl) (ev_v rfl) q') ?_
            refine ⟨HL4.beside pgh pgc, Same.mut (Hs.trans m3 m4) npgE, by rw [upd_ne pgo.symm]; exact Hs.at m4 hpo3 poh, fun i => if i = p then some x else G i, _, ?_, fun q y ey => ?_, rfl⟩
            · rw [upd_same]; exact congrArg (fun y => some (HO.lst y)) (parV_set (o := some x) G)
            · dsimp only at ey
              split at ey
              · next z => cases ey; rw [z]; exact e
              · exact gp q y ey
          · exact ⟨HL4, Hs.trans m3 m4, Hs.at m4 hpo3 poh, G, _, Hs.at m4 hpg3 pgh, gp, rfl⟩
      · exact ⟨HL3, m3, hpo3, G, _, hpg3, gp, rfl⟩
    · obtain ⟨HL3, m3, hpo3, G, v4, hpg3, gp, rfl⟩ := z
      have hpa3 := Hs.at m3 hpa pah
      refine ⟨Nat.zero_le _, fun pf npf => ?_⟩
      obtain ⟨pfh, pfc⟩ := HL3.fresh npf
      have pfg : pg ≠ pf := fun z => by subst z; rw [npf] at hpg3; cases hpg3
      have npfE : er H [h] pf = none := m3.free npf
      have npfH : H pf = none := by rw [er_out (by simpa using pfh)] at npfE; exact npfE
      refine ⟨_, rfl, (n : Int), rfl, (range_len n2).1, (range_len n2).2, ?_⟩
      refine for_range (lo := 0) (n := n) (fun j σ H' => HandL H' h c ∧ Same (er H [h]) H' ∧ H' pg = some (.lst (parV n G)) ∧ ∃ (ras : List Addr) (rows : List (List Nat)) (v4 v6 v7 : Option V), H' pf = some (.lst (ras.map V.ref)) ∧ RowsL H' h pf ras rows ∧ RowsG n Par G j rows ∧ ras.length ≤ j ∧ pg ∉ ras ∧ c ∉ ras ∧
          σ = [some (.ref h), some (.ref pa), some (.int (n : Int)), some (.ref pg), v4, some (.ref pf), v6, v7])
        ⟨HL3.beside pfh pfc, Same.mut m3 npfE, by rw [upd_ne pfg]; exact hpg3, [], [], _, none, none, upd_same, RowsL.nil _ _ _, RowsG.start, Nat.le_refl 0, by simp, by simp, rfl⟩ (fun j σ H4 hj z => ?_) (fun σ H4 z => ?_)
      · obtain ⟨HL4, m4, hpg4, ras, rows, v4, v6, v7, hpf4, RL, RG, rl, gr, cr, rfl⟩ := z
        rw [Int.zero_add]
        have hpa4 := Hs.at m4 hpa pah
        dsimp only [gName, List.set]
        refine rd_if <| c_top cl hpa4 hpg4 hj rfl rfl rfl fun b hb => iteB (fun z => ?_) (fun z => ?_)
        · have T := hb.mp z
          refine ⟨_, rfl, size64 (by show 1 ≤ 1000; decide), fun pr npr => ?_⟩
          obtain ⟨prh, prc⟩ := HL4.fresh npr
          have prf : pr ≠ pf := fun z => by subst z; rw [npr] at hpf4; cases hpf4
          have prg : pr ≠ pg := fun z => by subst z; rw [npr] at hpg4; cases hpg4
          have prr := RL.fresh npr
          have nprE : er H [h] pr = none := m4.free npr
          refine ⟨_, rfl, (n : Int), rfl, (range_len n2).1, (range_len n2).2, ?_⟩
          refine for_range (lo := 0) (n := n) (fun m σ H' => HandL H' h c ∧ Same (er H [h]) H' ∧ H' pg = some (.lst (parV n G)) ∧ H' pf = some (.lst (ras.map V.ref)) ∧ RowsL H' h pf ras rows ∧ ∃ (l : List Nat) (x : Nat) (v7 : Option V), H' pr = some (.lst (intsV (l ++ [x]))) ∧ RowOf G j (l ++ [x]) ∧ (Full G (l ++ [x]) ∨ (l ++ [x]).length = m + 1) ∧
              σ = [some (.ref h), some (.ref pa), some (.int (n : Int)), some (.ref pg), some (.int (j : Int)), some (.ref pf), some (.ref pr), v7])
            ⟨HL4.beside prh prc, Same.mut m4 nprE, by rw [upd_ne prg.symm]; exact hpg4, by rw [upd_ne prf.symm]; exact hpf4, RL.beside prr, [], j, _, upd_same, RowOf.one G j, .inr rfl, rfl⟩ (fun m σ H5 hm z => ?_) (fun σ H5 z => ?_)
          · obtain ⟨HL5, m5, hpg5, hpf5, RL5, l, x, v7, hpr5, Rl, fl, rfl⟩ := z
            have hx : x < n := Rl.lt cl gp hj x (by simp)
            have hll : (l ++ [x]).length ≤ n := nodup_le n _ (Rl.nodup ac gp) (Rl.lt cl gp hj)
            rw [intsV_app] at hpr5
            dsimp only [gName, List.set]
            refine rd_if ?_
            dsimp only [tTest]
            have last : ∀ Q : VK, Q (ov (G x)) H5 → tOp (rIxL K) (tVar 3) (tOp (rIxL K) (tVar 6) (tUn (rU fun i => V.int (-i)) (tC (V.int 1)))) [some (V.ref h), some (V.ref pa), some (V.int (n : Int)), some (V.ref pg), some (V.int (j : Int)), some (V.ref pf), some (V.ref pr), some (V.int ((0 : Int) + (m : Int)))] H5 Q := fun Q' q' =>
              rd_op <| ev_v rfl _ <| rd_last hpr5 (ev_v rfl) (ev_neg (j := -1) ev_k rfl) <| rd_ixL (j := x) hpg5 (parV_get G hx) q'
            refine rd_op <| last _ ⟨rfl, _, rfl, iteB (fun b => ?_) (fun b => ?_)⟩
            · cases e : G x with
              | none => rw [e] at b; cases b
              | some y =>
                rw [e] at last
                refine ⟨_, rfl, .inl ⟨rfl, _, SqL.of hpr5⟩, last _ ?_⟩
                refine ⟨pr, intsV l ++ [.int (x : Int)], _, rfl, rfl, hpr5, ?_, ?_⟩
                · rw [← intsV_app, intsV_len]; exact small1000 (by omega)
                · refine ⟨HL5.beside prh prc, Same.mut m5 nprE, by rw [upd_ne prg.symm]; exact hpg5, by rw [upd_ne prf.symm]; exact hpf5, RL5.beside prr, l ++ [x], y, _, ?_, Rl.more e, ?_, rfl⟩
                  · rw [upd_same, ← intsV_app]; exact congrArg (fun y => some (HO.lst y)) (intsV_app (l ++ [x]) y).symm
                  · rcases fl with f | f
                    · have := f x (by simp)
                      rw [e] at this; cases this
                    · right; rw [List.length_append, f]; rfl
            · refine ⟨HL5, m5, hpg5, hpf5, RL5, l, x, _, by rw [intsV_app]; exact hpr5, Rl, .inl ?_, rfl⟩
              intro x' e'
              simp at e'
              subst e'
              cases e : G x with
              | none => rfl
              | some y => rw [e] at b; cases b
          · obtain ⟨HL5, m5, hpg5, hpf5, RL5, l, x, v7, hpr5, Rl, fl, rfl⟩ := z
            refine ⟨_, rfl, .inl ⟨rfl, _, SqL.of hpf5⟩, _, rfl, pf, _, _, rfl, rfl, hpf5, by rw [List.length_map]; exact small1000 (by omega), ?_⟩
            have pfr : pf ∉ ras := fun z => (RL5.nh pf z).2 rfl
            refine ⟨HL5.beside pfh pfc, Same.mut m5 npfE, by rw [upd_ne pfg]; exact hpg5, ras ++ [pr], rows ++ [l ++ [x]], _, _, _, ?_, ?_, RG.more hj T Rl (Rl.full cl ac gp hj fl), by rw [List.length_append]; show _ + 1 ≤ _; omega, ?_, ?_, rfl⟩
            · rw [upd_same, List.map_append]; rfl
            · exact (RL5.beside pfr).push (by rw [upd_ne prf]; exact hpr5) prh prf
            · simp [gr, prg.symm]
            · simp [cr, prc.symm]
        · refine ⟨HL4, m4, hpg4, ras, rows, _, _, _, hpf4, RL, RG.skip (fun T => ?_), by omega, gr, cr, rfl⟩
          rw [hb.mpr T] at z; cases z
      · obtain ⟨HL4, m4, hpg4, ras, rows, v4, v6, v7, hpf4, RL, RG, rl, gr, cr, rfl⟩ := z
        exact ⟨_, rfl, q H4 pf ras rows HL4 m4 npfH hpf4 RL (RG.done cl ac gp)⟩
end
end K13
namespace K13
open PySem PySem.Spec PyProof.Rows L2
section
variable {P : Program} {w : World} {K : PySem.W.Frag} {mg : Str → Option Value} {base : Heap} {A : Ad}
theorem Er.drop {H H1 H2 : Hp} {h p : Addr} (a : Same (er H [h]) H1) (np : H p = none) (b : Same (er H1 [h, p]) H2) : Same (er H [h]) H2 := fun x o e => by
  have ne : x ≠ h := fun z => by rw [z, er_in (by simp)] at e; cases e
  have np' : x ≠ p := fun z => by rw [z, er_out (by intro y; rw [← z] at y; simp at y; exact ne y), np] at e; cases e
  exact Er.at b (a _ _ e) (by simp [ne, np'])
theorem RowsL.er {H H1 : Hp} {h p pf : Addr} {ras : List Addr} {rows : List (List Nat)} (R : RowsL H h pf ras rows) (m : Same (er H [h, p]) H1) (hp : p ∉ ras) : RowsL H1 h pf ras rows := by
  have k : ∀ a ∈ ras, a ∉ [h, p] := fun a ha z => by
    have := (R.nh a ha).1
    simp [this] at z; subst z; exact hp ha
  exact ⟨R.len, fun i a l e f => Er.at m (R.row i a l e f) (k a (List.mem_of_getElem? e)), R.nh, fun a ha => let ⟨o, e⟩ := R.trk a ha; ⟨o, Er.at m e (k a ha)⟩⟩
theorem refs_rep (n : Nat) (e : Addr) : (List.replicate n [V.ref e]).flatten = (List.replicate n e).map V.ref := by
  induction n with
  | zero => rfl
  | succ n ih => rw [List.replicate_succ, List.replicate_succ, List.flatten_cons, ih]; rfl
def sp_q_laid : Sp := fun vs H Q _ => ∃ (h c pa wa : Addr) (n : Nat) (Par : Nat → Option Nat) (wo : List Int), vs = [.ref h, .ref pa, .ref wa] ∧ HandL H h c ∧ H pa = some (.tup (parV n Par)) ∧ H wa = some (.tup (wo.map V.int)) ∧ wo.length = n ∧ n ≤ 64 ∧ Cl n Par ∧ Acyc Par ∧
  ∀ H' p s as, HandL H' h c → Same (er H [h]) H' → p ≠ h → p ≠ c → h ∉ as → c ∉ as → HereL H' p n s as → Ok n s → Q (.ref p) H'
theorem ok_q_laid (T : Txt K mg A) : FnOk P w K mg base CX0 69 A.f_q_laid A.d_q_laid ["_law_hand_here", "_law_parents", "_law_worths"] sp_q_laid := by
  refine T.f_q_laid.ok sc_q_laid (fun vs H Q E h => ?_) (fun cdv A' outer s H vs Q E hr h => ?_)
  · obtain ⟨h, c, pa, wa, n, Par, wo, rfl, _⟩ := h; rfl
  · obtain ⟨h, c, pa, wa, n, Par, wo, rfl, HL, hpa, hwa, lw, n2, cl, ac, q⟩ := h
    have G := ok_q_planted (P := P) (w := w) (base := base) T 65
    refine ⟨_, (pss_cons (ps_set (i := 3) sc_q_laid.nd rfl (Or.inl rfl) (pe_op op_rep (pe_lst (pa_cons (pe_lst pa_nil) pa_nil)) (pe_callB call_len_seq (by rfl) T.z_len PySem.boot_len (pa_cons (pv 1) pa_nil))))
      (pss_cons (ps_for PassesOwn.never rfl (pi_list (pe_call (ok_q_rows_of T) (hr.mono (by decide)) (by rfl) T.g_q_rows_of T.f_q_rows_of.kp T.b_q_rows_of .nil pass0 (pa_cons (pv 0) (pa_cons (pv 1) pa_nil)))) (pg_name (i := 4) sc_q_laid.nd rfl (Or.inl rfl))
      (pss_one (ps_expr (pe_call G (hr.mono (by decide)) (by rfl) T.g_q_planted T.f_q_planted.kp T.b_q_planted .nil pass0 (pa_cons (pv 0) (pa_cons (pv 4) (pa_cons (pe_ix ix_tup (pv 1) (pe_ix ix_list (pv 4) pe_int (fun _ _ => rfl)) (fun _ _ => rfl)) (pa_cons pe_int (pa_cons (pv 2) (pa_cons (pv 3) pa_nil))))))))))
      (pss_one (ps_ret (pv 3))))), ?_⟩
    have pl := parV_len n Par
    have pah : pa ≠ h := fun z => by obtain ⟨_, _, _, _, _, _, e, _⟩ := HL; rw [z, e] at hpa; cases hpa
    have wah : wa ≠ h := fun z => by obtain ⟨_, _, _, _, _, _, e, _⟩ := HL; rw [z, e] at hwa; cases hwa
    dsimp only [tSeq]
    refine rd_asg ?_
    refine ⟨Nat.zero_le _, fun e0 ne0 => ⟨size64 (by show 1 ≤ 1000; decide), fun e1 ne1 => ?_⟩⟩
    have s1 : Same H (upd (upd H e0 (.lst [])) e1 (.lst [.ref e0])) := (same_new ne0).trans (same_new ne1)
    have h1 : (upd (upd H e0 (.lst [])) e1 (.lst [.ref e0])) e1 = some (.lst [.ref e0]) := upd_same
    generalize upd (upd H e0 (.lst [])) e1 (.lst [.ref e0]) = H1 at s1 h1
    refine ev_lenT (s1 _ _ hpa) pl (ev_v rfl) _ ⟨e1, (n : Int), _, rfl, rfl, h1, by omega, by omega, ?_, fun p np => ?_⟩
    · show 1 * (n : Int).toNat ≤ sizeLine
      exact size64 (by omega)
    have s2 : Same H (upd H1 p (.lst (List.replicate (n : Int).toNat [V.ref e0]).flatten)) := s1.trans (same_new np)
    have hp : (upd H1 p (.lst (List.replicate (n : Int).toNat [V.ref e0]).flatten)) p = some (.lst ((List.replicate n e0).map V.ref)) := by
      rw [upd_same, Int.toNat_natCast]; exact congrArg (fun y => some (HO.lst y)) (refs_rep n e0)
    generalize upd H1 p (.lst (List.replicate (n : Int).toNat [V.ref e0]).flatten) = H2 at *
    have npH : H p = none := s1.free np
    have HL2 := HL.mono s2
    obtain ⟨ph, pc⟩ := HL.fresh npH
    refine ⟨_, rfl, _, rfl, h, c, pa, n, Par, rfl, HL2, s2 _ _ hpa, n2, cl, ac, fun H3 r ras rows HL3 m3 nr hr RL RO => ?_⟩
    refine ⟨r, rfl, ⟨_, SqL.of hr⟩, ?_⟩
    obtain ⟨rh, rc⟩ := HL2.fresh nr
    have rp : r ≠ p := fun z => by subst z; rw [nr] at hp; cases hp
    have m03 : Same (er H [h]) H3 := Hs.trans (Hs.of s2) m3
    have S3 : PL H3 p h c n (fun _ => blank) (List.replicate n e0) (fun i => ∃ l ∈ rows.take 0, i ∈ l) := ⟨List.length_replicate, Hs.at m3 hp ph, fun i a d => by obtain ⟨l, z, _⟩ := d; simp at z, fun i j a d => by obtain ⟨l, z, _⟩ := d; simp at z⟩
    have pras : p ∉ ras := fun z => by
      obtain ⟨i, hi, e⟩ := List.getElem_of_mem z
      have hi' : i < rows.length := by rw [← RL.len]; exact hi
      have e1 : rows[i]? = some rows[i] := List.getElem?_eq_getElem hi'
      have e2 := RL.row i p rows[i] (by rw [List.getElem?_eq_getElem hi, e]) e1
      obtain ⟨t, ht⟩ := RO.ne _ (List.getElem_mem hi')
      exact S3.ne_ints e2 (by cases z : rows[i] with | nil => rw [z] at ht; cases ht | cons => exact Nat.zero_lt_succ _) rfl
    have hrl : (ras.map V.ref).length = rows.length := by rw [List.length_map, RL.len]
    refine for_list (xs := ras.map V.ref) (fun k σ H' => HandL H' h c ∧ Same (er H [h]) H' ∧ H' r = some (.lst (ras.map V.ref)) ∧ RowsL H' h r ras rows ∧ ∃ (s : Sh) (as : List Addr) (v4 : Option V), PL H' p h c n s as (fun i => ∃ l ∈ rows.take k, i ∈ l) ∧ (∀ l ∈ rows.take k, ∀ t, l[0]? = some t → ∃ rt, Planted s s l (Par t) rt) ∧ (∀ i, n ≤ i → s i = blank) ∧
        σ = [some (.ref h), some (.ref pa), some (.ref wa), some (.ref p), v4])
      ⟨HL3, m03, hr, RL, _, _, none, S3, (fun l hl => by simp at hl), (fun i _ => rfl), rfl⟩ (fun k σ H' _ z => SqL.of z.2.2.1) (fun k v σ H4 hk z => ?_) (fun σ H4 z => ?_)
    · obtain ⟨HL4, m4, hr4, RL4, s, as, v4, S4, PP, BB, rfl⟩ := z
      have hkl : k < ras.length := by have := (List.getElem?_eq_some_iff.mp hk).1; rw [List.length_map] at this; exact this
      have hkr : k < rows.length := by rw [← RL.len]; exact hkl
      have ea : ras[k]? = some ras[k] := List.getElem?_eq_getElem hkl
      have er' : rows[k]? = some rows[k] := List.getElem?_eq_getElem hkr
      rw [List.getElem?_map, ea] at hk; cases hk
      have hrow := RL4.row k _ _ ea er'
      have hra := (RL4.nh _ (List.getElem_mem hkl)).1
      have lm : rows[k] ∈ rows := List.getElem_mem hkr
      have tk : rows.take (k + 1) = rows.take k ++ [rows[k]] := by rw [List.take_add_one, er']; rfl
      rw [tk]
      have old : ∀ l' ∈ rows.take k, ∀ x, x ∈ l' → x ∉ rows[k] := fun l' hl' x h1 h2 => by
        obtain ⟨i, hi, e⟩ := List.getElem_of_mem hl'
        have hik : i < k := by rw [List.length_take] at hi; omega
        have e1 : rows[i]? = some l' := by
          rw [List.getElem?_eq_getElem (by omega), ← e, List.getElem_take]
        have := RO.dj i k l' _ e1 er' ⟨x, h1, h2⟩
        omega
      have old' : ∀ l' ∈ rows.take k, l' ∈ rows := fun l' h => List.mem_of_mem_take h
      generalize rows[k] = l at *
      generalize ras[k] = a at *
      obtain ⟨t, ht⟩ := RO.ne l lm
      have tn : t < n := RO.lt l lm t (List.mem_of_getElem? ht)
      have hpa4 := Hs.at m4 hpa pah
      have hwa4 := Hs.at m4 hwa wah
      have ll : l.length ≤ n := nodup_le n l (RO.nd l lm) (RO.lt l lm)
      refine ⟨_, rfl, _, rfl, ?_⟩
      dsimp only
      refine rd_cons <| rd_op <| ev_v rfl _ <| rd_il (k := 0) hrow (intsV_get ht) (ev_v rfl) ev_k <| rd_ixT (j := t) hpa4 (parV_get Par tn) ?_
      refine ⟨_, rfl, _, rfl, ?_⟩
      refine ⟨h, c, p, a, wa, n, l, Par t, 0, wo, s, as, _, rfl, HL4, ph, pc, hrow, hra, by omega, RO.nd l lm, RO.lt l lm, n2, hwa4, lw, S4, fun H5 s' as' r' HL5 m5 S5 P5 => ?_⟩
      refine ⟨HL5, Er.drop m4 npH m5, Er.at m5 hr4 (by simp [rh, rp]), RL4.er m5 pras, s', as', _, S5.sub (fun i hi => ?_), fun l' hl' t' ht' => ?_, fun i hi => ?_, rfl⟩
      · obtain ⟨l', h1, h2⟩ := hi
        rcases List.mem_append.mp h1 with h1 | h1
        · exact .inl ⟨l', h1, h2⟩
        · rw [List.mem_singleton.mp h1] at h2; exact .inr h2
      · rcases List.mem_append.mp hl' with h1 | h1
        · obtain ⟨rt, Q'⟩ := PP l' h1 t' ht'
          exact ⟨rt, Q'.here fun i hi => P5.out i (old l' h1 i hi)⟩
        · rw [List.mem_singleton.mp h1] at ht' ⊢
          rw [ht] at ht'; cases ht'
          exact ⟨r', P5.here fun _ _ => rfl⟩
      · rw [P5.out i (fun z => by have := RO.lt l lm i z; omega)]; exact BB i hi
    · obtain ⟨HL4, m4, hr4, RL4, s, as, v4, S4, PP, BB, rfl⟩ := z
      rw [hrl, List.take_length] at S4 PP
      obtain ⟨HH, hh, hc⟩ := S4.here fun i hi => RO.all i hi
      exact ⟨_, rfl, q H4 p s as HL4 m4 ph pc hh hc HH (rows_ok cl ac RO PP BB)⟩
end
end K13
namespace K13
open PySem PySem.Spec PyProof.Rows L2
section
variable {P : Program} {w : World} {K : PySem.W.Frag} {mg : Str → Option Value} {base : Heap} {A : Ad}
/-! ### shapes compared -/
def optD : Option Nat → PyData
  | none => .none
  | some i => .int (i : Int)
def ndD (d : Nd) : PyData := .tuple [optD d.up, optD d.l, optD d.r, .bool d.t, .int d.a, .int d.v]
def datA : Nat → (Nat → Nd) → List PyData
  | 0, _ => []
  | n + 1, f => ndD (f 0) :: datA n (fun i => f (i + 1))
theorem dp_ov (H : Hp) (o : Option Nat) : Dp K H (ov o) (optD o) := by
  cases o with
  | none => exact .non
  | some i => exact .int _
theorem dp_all {H : Hp} : ∀ (ps : List Addr) (f : Nat → Nd), (∀ (i : Nat) (p : Addr), ps[i]? = some p → H p = some (.tup (ndV (f i)))) → DpAll K H (ps.map V.ref) (datA ps.length f)
  | [], f, h => .nil
  | p :: r, f, h => .cons (.tup (SqT.of (h 0 p rfl)) (.cons (dp_ov H _) (.cons (dp_ov H _) (.cons (dp_ov H _) (.cons (.bl _) (.cons (.int _) (.cons (.int _) .nil))))))) (dp_all r (fun i => f (i + 1)) fun i q e => h (i + 1) q (by rw [List.getElem?_cons_succ]; exact e))
theorem lay_opt (o : Option Nat) : PyData.canLay0 (optD o) = true := by cases o <;> simp [optD, PyData.canLay0]
theorem lay_all : ∀ (n : Nat) (f : Nat → Nd), PyData.canLayAll0 (datA n f) = true
  | 0, f => by simp [datA, PyData.canLayAll0]
  | n + 1, f => by simp [datA, PyData.canLayAll0, ndD, PyData.canLay0, lay_opt, lay_all n]
theorem dep_opt (o : Option Nat) : PyData.depth (optD o) = 0 := by cases o <;> simp [optD, PyData.depth]
theorem dep_all : ∀ (n : Nat) (f : Nat → Nd), PyData.depthAll (datA n f) ≤ 1
  | 0, f => by simp [datA, PyData.depthAll]
  | n + 1, f => by
    have := dep_all n (fun i => f (i + 1))
    simp only [datA, PyData.depthAll, ndD, PyData.depth, dep_opt]
    omega
theorem shaped_all (n : Nat) (f : Nat → Nd) : SeqAt.shaped (.tuple (datA n f)) = true := by
  have h1 := dep_all n f
  have h2 : PyData.depth (.tuple (datA n f)) ≤ 64 := by simp only [PyData.depth]; omega
  show (PyData.canLay0 (.tuple (datA n f)) && decide (PyData.depth (.tuple (datA n f)) ≤ 64)) = true
  rw [Bool.and_eq_true]
  exact ⟨by simp only [PyData.canLay0]; exact lay_all n f, decide_eq_true h2⟩
theorem rd_neSh {H : Hp} {Q : VK} {a b : Addr} {n : Nat} {s : Sh} (S : ShT H a n s) (R : ShT H b n s) (q : Q (.bl false) H) : rNeD K (.ref a) (.ref b) H Q := by
  obtain ⟨ps, z1, z2, z3⟩ := S
  obtain ⟨qs, y1, y2, y3⟩ := R
  subst z1
  refine ⟨.tuple (datA ps.length s), .tuple (datA ps.length s), .tup (SqT.of z2) (dp_all ps s fun i p e => z3 i p e), ?_, shaped_all _ _, shaped_all _ _, ?_⟩
  · rw [← y1]; exact .tup (SqT.of y2) (dp_all qs s fun i p e => y3 i p e)
  · rw [SeqAt.eqv_refl _ (SeqAt.canLay_of_shaped (shaped_all _ _))]; exact q
theorem ShT.ret {H H' : Hp} {f p : Addr} {n n' : Nat} {s s' : Sh} {as as' : List Addr} (S : ShT H f n s) (L : HereL H p n' s' as) (r : Ret H H' p as as') : ShT H' f n s := by
  obtain ⟨ps, z1, z2, z3⟩ := S
  exact ⟨ps, z1, r.tup L z2, fun i p e => r.tup L (z3 i p e)⟩
theorem rd_forD {σ : L2.St} {H : Hp} {D : Ends} {h c : Addr} {g : TG} {tb : TS} {t0 tm : TE} {m : Nat} (HL : HandL H h c) (m0 : 0 < m) (m1 : m ≤ 1000) (e0 : ∀ Q : VK, Q (.ref h) H → t0 σ H Q) (em : ∀ Q : VK, Q (.int (m : Int)) H → tm σ H Q)
    (q : ∀ H' r, HandL H' h c → Same (er H [h]) H' → r < m → ∃ Pv : Nat → L2.St → Hp → Prop, Pv 0 σ H' ∧ (∀ i σ H, i < 4 + r → Pv i σ H → g (.int (i : Int)) σ H fun σ2 H2 => tb { D with nx := Pv (i + 1), ct := Pv (i + 1), bk := D.nx } σ2 H2) ∧ (∀ σ H, Pv (4 + r) σ H → D.nx σ H)) :
    tFor (iRng1 (tCons (tOp (rI0 fun i j => V.int (i + j)) (tC (.int 4)) (tCall sp_q_draw [] E0 (tCons t0 (tCons tm tNil)))) tNil)) g tb D σ H := by
  unfold tFor iRng1
  refine rd_cons <| rd_op <| ev_k _ <| rd_draw HL m0 (by omega) e0 em fun H' r HL' m' hr => ⟨_, _, rfl, rfl, rd_nil ⟨((4 + r : Nat) : Int), rfl, by omega, by omega, ?_⟩⟩
  obtain ⟨Pv, p0, ps, pd⟩ := q H' r HL' m' hr
  rw [Int.toNat_natCast]
  refine for_range (lo := 0) (n := 4 + r) Pv p0 (fun i σ H hi z => ?_) pd
  rw [Int.zero_add]
  exact ps i σ H hi z
theorem ev_pp {σ : L2.St} {H : Hp} {rt pp f : Addr} {xs : List V} {k : Nat} {v : V} (e : σ[11]? = some (some (.ref rt))) (hr : H rt = some (.tup [.ref f, .ref pp])) (hp : H pp = some (.tup xs)) (hv : xs[k]? = some v) (Q : VK) (q : Q v H) :
    tOp (rIxT K) (tOp (rIxT K) (tVar 11) (tC (.int 1))) (tC (.int (k : Int))) σ H Q := rd_it (k := k) hp hv (fun Q' q' => rd_it (k := 1) hr rfl (ev_v e) ev_k q') ev_k q
def sp_law (K : PySem.W.Frag) : Sp := fun vs H Q _ => ∃ (a : Addr) (ns : List Int), vs = [.ref a] ∧ SqL K H a (ns.map V.int) ∧ ns.length ≤ 63 ∧ ∀ H', Q (.bl true) H'
theorem ok_law (T : Txt K mg A) : FnOk P w K mg base CX0 75 A.f_law A.d_law ["_law_script"] (sp_law K) := by
  refine T.f_law.ok sc_law (fun vs H Q E h => ?_) (fun cdv A' outer s H vs Q E hr h => ?_)
  · obtain ⟨a, ns, rfl, _⟩ := h; rfl
  · obtain ⟨a, ns, rfl, hS, hl, q⟩ := h
    refine ⟨_, (pss_cons (ps_set (i := 1) sc_law.nd rfl (Or.inl rfl) (pe_call (ok_q_hand T) (hr.mono (by decide)) (by rfl) T.g_q_hand T.f_q_hand.kp T.b_q_hand .nil pass0 (pa_cons (pv 0) pa_nil)))
      (pss_cons (ps_set (i := 2) sc_law.nd rfl (Or.inl rfl) (pe_call (ok_q_some T) (hr.mono (by decide)) (by rfl) T.g_q_some T.f_q_some.kp T.b_q_some .nil pass0 (pa_cons (pv 1) (pa_cons (pe_lst (pa_cons pe_int (pa_cons pe_int (pa_cons pe_int (pa_cons pe_int (pa_cons pe_int (pa_cons (pe_op op_add pe_int (pe_call (ok_q_draw T) (hr.mono (by decide)) (by rfl) T.g_q_draw T.f_q_draw.kp T.b_q_draw .nil pass0 (pa_cons (pv 1) (pa_cons pe_int pa_nil)))) (pa_cons (pe_op op_add pe_int (pe_call (ok_q_draw T) (hr.mono (by decide)) (by rfl) T.g_q_draw T.f_q_draw.kp T.b_q_draw .nil pass0 (pa_cons (pv 1) (pa_cons pe_int pa_nil)))) pa_nil)))))))) pa_nil))))
      (Evl.pss_cut (ps_if (pt_cmpR op_eq (pe_call (ok_q_draw T) (hr.mono (by decide)) (by rfl) T.g_q_draw T.f_q_draw.kp T.b_q_draw .nil pass0 (pa_cons (pv 1) (pa_cons pe_int pa_nil))) pe_int (nomark _)) (pss_one (ps_set (i := 3) sc_law.nd rfl (Or.inl rfl) (pe_call (ok_q_steep T) (hr.mono (by decide)) (by rfl) T.g_q_steep T.f_q_steep.kp T.b_q_steep .nil pass0 (pa_cons (pv 1) (pa_cons (pv 2) pa_nil))))) (pss_cons (ps_asg (pe_call (ok_q_trees T) (hr.mono (by decide)) (by rfl) T.g_q_trees T.f_q_trees.kp T.b_q_trees .nil pass0 (pa_cons (pv 1) (pa_cons (pv 2) pa_nil))) (pg_tup rfl (pgs_cons (pg_name (i := 4) sc_law.nd rfl (Or.inl rfl)) (pgs_cons (pg_name (i := 5) sc_law.nd rfl (Or.inl rfl)) pgs_nil))))
      (pss_one (ps_set (i := 3) sc_law.nd rfl (Or.inl rfl) (pe_call (ok_q_laid T) (hr.mono (by decide)) (by rfl) T.g_q_laid T.f_q_laid.kp T.b_q_laid .nil pass0 (pa_cons (pv 1) (pa_cons (pv 4) (pa_cons (pv 5) pa_nil))))))))
      (pss_cons (ps_par3 (i := 6) (j := 7) (l := 8) rfl sc_law.nd rfl rfl rfl (by decide) (by decide) (by decide) rfl rfl rfl (pa_cons (pe_call (ok_q_potential T) (hr.mono (by decide)) (by rfl) T.g_q_potential T.f_q_potential.kp T.b_q_potential .nil pass0 (pa_cons (pv 3) pa_nil)) (pa_cons pe_int (pa_cons pe_int pa_nil))) (by rfl))
      (pss_cons (ps_for PassesOwn.never rfl (pi_range1 (by rfl) T.z_range (pa_cons (pe_op op_add pe_int (pe_call (ok_q_draw T) (hr.mono (by decide)) (by rfl) T.g_q_draw T.f_q_draw.kp T.b_q_draw .nil pass0 (pa_cons (pv 1) (pa_cons pe_int pa_nil)))) pa_nil)) (pg_name (i := 9) sc_law.nd rfl (Or.inl rfl))
      (pss_cons (ps_set (i := 10) sc_law.nd rfl (Or.inl rfl) (pe_call (ok_q_some T) (hr.mono (by decide)) (by rfl) T.g_q_some T.f_q_some.kp T.b_q_some .nil pass0 (pa_cons (pv 1) (pa_cons (pe_lst (pa_cons (pe_call (ok_q_draw T) (hr.mono (by decide)) (by rfl) T.g_q_draw T.f_q_draw.kp T.b_q_draw .nil pass0 (pa_cons (pv 1) (pa_cons (pv 2) pa_nil))) (pa_cons (pe_call (ok_q_deepest T) (hr.mono (by decide)) (by rfl) T.g_q_deepest T.f_q_deepest.kp T.b_q_deepest .nil pass0 (pa_cons (pv 3) pa_nil)) pa_nil))) pa_nil))))
      (pss_cons (ps_set (i := 11) sc_law.nd rfl (Or.inl rfl) (pe_call (ok_reached T) (hr.mono (by decide)) (by rfl) T.g_reached T.f_reached.kp T.b_reached .nil pass0 (pa_cons (pe_call (ok_q_shape T) (hr.mono (by decide)) (by rfl) T.g_q_shape T.f_q_shape.kp T.b_q_shape .nil pass0 (pa_cons (pv 3) pa_nil)) (pa_cons (pv 10) pa_nil))))
      (pss_cons (ps_asg (pe_call (ok_q_reach T) (hr.mono (by decide)) (by rfl) T.g_q_reach T.f_q_reach.kp T.b_q_reach .nil pass0 (pa_cons (pv 3) (pa_cons (pv 10) pa_nil))) (pg_tup rfl (pgs_cons (pg_name (i := 12) sc_law.nd rfl (Or.inl rfl)) (pgs_cons (pg_name (i := 13) sc_law.nd rfl (Or.inl rfl)) pgs_nil))))
      (pss_cons (ps_if (PW.pt (pw_or (pt_not (pt_val (pe_call (ok_q_is T) (hr.mono (by decide)) (by rfl) T.g_q_is T.f_q_is.kp T.b_q_is .nil pass0 (pa_cons (pe_ix ix_tup (pv 11) pe_int (fun _ _ => rfl)) (pa_cons (pv 12) pa_nil))))) (pw_or (pt_cmpR (op_neD hr.units) (pe_ix ix_tup (pv 11) pe_int (fun _ _ => rfl)) (pe_call (ok_q_shape T) (hr.mono (by decide)) (by rfl) T.g_q_shape T.f_q_shape.kp T.b_q_shape .nil pass0 (pa_cons (pv 3) pa_nil)) (nomark _)) (pw_or1 (pt_cmpR op_notBl (pe_call (ok_is_paper T) (hr.mono (by decide)) (by rfl) T.g_is_paper T.f_is_paper.kp T.b_is_paper .nil pass0 (pa_cons (pv 2) (pa_cons (pe_ix ix_tup (pv 11) pe_int (fun _ _ => rfl)) pa_nil))) pe_bl (nomark _)))))) (pss_one (ps_ret pe_bl)) pss_nil)
      (pss_cons (ps_if (pt_cmpR op_gt (pe_op op_add (pe_op op_add (pe_op op_add (pe_ix ix_tup (pe_ix ix_tup (pv 11) pe_int (fun _ _ => rfl)) pe_int (fun _ _ => rfl)) (pe_ix ix_tup (pe_ix ix_tup (pv 11) pe_int (fun _ _ => rfl)) pe_int (fun _ _ => rfl))) (pe_ix ix_tup (pe_ix ix_tup (pv 11) pe_int (fun _ _ => rfl)) pe_int (fun _ _ => rfl))) (pe_op op_mul pe_int (pe_ix ix_tup (pe_ix ix_tup (pv 11) pe_int (fun _ _ => rfl)) pe_int (fun _ _ => rfl)))) (pe_op op_add (pe_op op_mul pe_int (pe_call (ok_q_rank T) (hr.mono (by decide)) (by rfl) T.g_q_rank T.f_q_rank.kp T.b_q_rank .nil pass0 (pa_cons (pv 2) pa_nil))) pe_int) (nomark _)) (pss_one (ps_ret pe_bl)) pss_nil)
      (pss_cons (ps_set (i := 7) sc_law.nd rfl (Or.inl rfl) (pe_op op_add (pv 7) (pe_ix ix_tup (pe_ix ix_tup (pv 11) pe_int (fun _ _ => rfl)) pe_int (fun _ _ => rfl))))
      (pss_one (ps_if (pt_cmpR op_eq (pe_call (ok_q_draw T) (hr.mono (by decide)) (by rfl) T.g_q_draw T.f_q_draw.kp T.b_q_draw .nil pass0 (pa_cons (pv 1) (pa_cons pe_int pa_nil))) pe_int (nomark _)) (pss_cons (ps_set (i := 14) sc_law.nd rfl (Or.inl rfl) (pe_call (ok_q_potential T) (hr.mono (by decide)) (by rfl) T.g_q_potential T.f_q_potential.kp T.b_q_potential .nil pass0 (pa_cons (pv 3) pa_nil)))
      (pss_cons (ps_expr (pe_call (ok_q_moved_off T) (hr.mono (by decide)) (by rfl) T.g_q_moved_off T.f_q_moved_off.kp T.b_q_moved_off .nil pass0 (pa_cons (pv 1) (pa_cons (pv 3) pa_nil))))
      (pss_one (ps_set (i := 8) sc_law.nd rfl (Or.inl rfl) (pe_op op_sub (pe_op op_add (pv 8) (pe_call (ok_q_potential T) (hr.mono (by decide)) (by rfl) T.g_q_potential T.f_q_potential.kp T.b_q_potential .nil pass0 (pa_cons (pv 3) pa_nil))) (pv 14)))))) pss_nil)))))))))
      (pss_one (ps_ret (pe_cmpR op_eq (pe_op op_add (pe_op op_add (pv 6) (pv 7)) (pv 8)) (pe_call (ok_q_potential T) (hr.mono (by decide)) (by rfl) T.g_q_potential T.f_q_potential.kp T.b_q_potential .nil pass0 (pa_cons (pv 3) pa_nil)) (nomark _))))))))), ?_⟩
    dsimp only [tSeq]
    refine rd_asg ⟨_, rfl, a, ns, rfl, hS, hl, fun h c H1 m1 nh nc HL1 => ?_⟩
    dsimp only [tSeq, gName]
    refine rd_asg <| rd_someL HL1 (ev_v rfl) (fun v => ∃ n : Nat, v = .int (n : Int) ∧ 1 ≤ n ∧ n ≤ 64) (fun R r => ?_) fun H2 v HL2 m2 hv => ?_
    · refine rd_cons <| ev_k _ <| rd_cons <| ev_k _ <| rd_cons <| ev_k _ <| rd_cons <| ev_k _ <| rd_cons <| ev_k _ <| rd_cons <| rd_op <| ev_k _ <| rd_draw HL1 (by decide : 0 < 64) (by decide) (ev_v rfl) ev_k fun H2 r1 HL2 m2 hr1 => ⟨_, _, rfl, rfl, ?_⟩
      refine rd_cons <| rd_op <| ev_k _ <| rd_draw HL2 (by decide : 0 < 10) (by decide) (ev_v rfl) ev_k fun H3 r2 HL3 m3 hr2 => ⟨_, _, rfl, rfl, ?_⟩
      refine rd_nil <| r _ _ HL3 (Hs.trans m2 m3) (by show 0 < 7; decide) (by show 7 ≤ 1000; decide) fun v hv => ?_
      simp only [List.mem_cons, List.not_mem_nil, or_false] at hv
      rcases hv with e | e | e | e | e | e | e
      · exact ⟨64, e, by decide, by decide⟩
      · exact ⟨64, e, by decide, by decide⟩
      · exact ⟨33, e, by decide, by decide⟩
      · exact ⟨32, e, by decide, by decide⟩
      · exact ⟨31, e, by decide, by decide⟩
      · exact ⟨1 + r1, by rw [e]; exact congrArg V.int (by omega), by omega, by omega⟩
      · exact ⟨1 + r2, by rw [e]; exact congrArg V.int (by omega), by omega, by omega⟩
    obtain ⟨n, rfl, n1, n2⟩ := hv
    refine ⟨fun σ H' => HandL H' h c ∧ ∃ (p : Addr) (s : Sh) (as : List Addr) (v4 v5 : Option V), HereL H' p n s as ∧ Ok n s ∧ h ∉ p :: as ∧ c ∉ p :: as ∧
      σ = [some (.ref a), some (.ref h), some (.int (n : Int)), some (.ref p), v4, v5, none, none, none, none, none, none, none, none, none], ?_, fun σ H3 z => ?_⟩
    · refine rd_if ?_
      dsimp only [tTest]
      refine rd_op <| rd_draw HL2 (by decide : 0 < 2) (by decide) (ev_v rfl) ev_k fun H3 r HL3 m3 _ => ⟨rfl, _, rfl, iteB (fun b => ?_) (fun b => ?_)⟩
      · refine ⟨_, rfl, _, rfl, h, c, n, rfl, HL3, n2, fun p H4 s as HL4 m4 np na S k => ?_⟩
        obtain ⟨ph, pc⟩ := HL3.fresh np
        have ah : h ∉ as := fun z => by obtain ⟨_, e⟩ := HL3.trk.1; rw [na h z] at e; cases e
        have ac : c ∉ as := fun z => by obtain ⟨_, e⟩ := HL3.trk.2; rw [na c z] at e; cases e
        exact ⟨HL4, p, s, as, _, _, S, k, by simp [ph.symm, ah], by simp [pc.symm, ac], rfl⟩
      · refine ⟨_, rfl, _, rfl, h, c, n, rfl, HL3, n1, n2, fun H4 r pa wa Par wo HL4 m4 hr hpa hwa lw cl ac => ?_⟩
        refine ⟨r, _, rfl, SqT.of hr, rfl, _, _, rfl, _, _, rfl, rfl, ?_⟩
        refine ⟨_, rfl, _, rfl, _, rfl, h, c, pa, wa, n, Par, wo, rfl, HL4, hpa, hwa, lw, n2, cl, ac, fun H5 p s as HL5 m5 ph pc ah ac' S k => ?_⟩
        exact ⟨HL5, p, s, as, _, _, S, k, by simp [ph.symm, ah], by simp [pc.symm, ac'], rfl⟩
    · obtain ⟨HL3, p, s0, as0, v4, v5, S3, k3, h3, c3, rfl⟩ := z
      refine ⟨_, rfl, p, n, s0, as0, rfl, S3, n2, k3, fun H4 m4 => ?_⟩
      refine ⟨_, _, _, rfl, ?_⟩
      have HL4 := HL3.mono m4
      have S4 := S3.mono m4
      have nph : p ≠ h := fun z => h3 (by rw [z]; simp)
      dsimp only [tSeq]
      refine rd_forD HL4 (by decide : 0 < 20) (by decide) (ev_v rfl) ev_k fun H5 r HL5 m5 hr => ?_
      have S5 := S4.hs m5 nph (fun z => h3 (by simp [z]))
      refine ⟨(fun i σ H' => HandL H' h c ∧ ∃ (s : Sh) (as : List Addr) (g m : Int) (v9 v10 v11 v12 v13 v14 : Option V), HereL H' p n s as ∧ Ok n s ∧ h ∉ p :: as ∧ c ∉ p :: as ∧ (Phi n (U s0) : Int) + g + m = (Phi n (U s) : Int) ∧
          σ = [some (.ref a), some (.ref h), some (.int (n : Int)), some (.ref p), v4, v5, some (.int ((Phi n (U s0) : Nat) : Int)), some (.int g), some (.int m), v9, v10, v11, v12, v13, v14]),
        ⟨HL5, s0, as0, 0, 0, none, none, none, none, none, none, S5, k3, h3, c3, (by omega), rfl⟩, (fun i σ H6 hi z => ?_), (fun σ H6 z => ?_)⟩
      · obtain ⟨HL6, s, as, g, m, v9, v10, v11, v12, v13, v14, S6, k, h6, c6, inv, rfl⟩ := z
        have ph : p ≠ h := nph
        have ah : h ∉ as := fun z => h6 (by simp [z])
        dsimp only [tSeq, gName, List.set]
        refine rd_asg <| rd_someL HL6 (ev_v rfl) (fun v => ∃ x : Nat, v = .int (x : Int) ∧ x < n) (fun R r => ?_) fun H7 v HL7 m7 hv => ?_
        · refine rd_cons <| rd_draw (m := n) HL6 (by omega) (by omega) (ev_v rfl) (ev_v rfl) fun H7 x1 HL7 m7 hx1 => ?_
          refine rd_cons <| ⟨_, rfl, p, n, s, as, rfl, S6.hs m7 ph ah, n1, n2, k, fun b H8 m8 hb => ?_⟩
          refine rd_nil <| r _ _ (HL7.mono m8) (Hs.trans m7 (Hs.of m8)) (by show 0 < 2; decide) (by show 2 ≤ 1000; decide) fun v hv => ?_
          simp only [List.mem_cons, List.not_mem_nil, or_false] at hv
          rcases hv with e | e
          · exact ⟨x1, e, hx1⟩
          · exact ⟨b, e, hb⟩
        obtain ⟨x, rfl, hx⟩ := hv
        have S7 := S6.hs m7 ph ah
        have RO := reach_of k hx
        dsimp only [gName, List.set]
        refine rd_asg ?_
        refine ⟨_, rfl, p, n, s, as, rfl, S7, n2, fun q1 H8 m8 Sq => ⟨_, rfl, q1, n, s, x, rfl, Sq, n1, n2, k, hx, fun rt f pp H9 m9 hrt F hpp => ?_⟩⟩
        have S9 := S7.mono (m8.trans m9)
        have HL9 := HL7.mono (m8.trans m9)
        refine ⟨_, rfl, _, rfl, er H9 (p :: as), p, n, s, as, x, rfl, S9.call, n2, k, hx, fun r2 pp2 pm l H10 as' S10 hr2 hpp2 hpm => ?_⟩
        refine ⟨r2, _, rfl, SqT.of hr2, rfl, _, _, rfl, _, _, rfl, rfl, ?_⟩
        have RT := S10.ret
        obtain ⟨HL10, h10, c10⟩ := HL9.ret RT h6 c6
        have hrt10 := RT.tup S9 hrt
        have hpp10 := RT.tup S9 hpp
        have F10 := F.ret S9 RT
        have S10 := S10.here
        have h11 : h ∉ p :: as' := by simp [ph.symm, h10]
        have c11 : c ∉ p :: as' := by
          have : c ≠ p := fun z => c6 (by simp [z])
          simp [this, c10]
        dsimp only [tSeq, gName, List.set]
        refine rd_if ?_
        dsimp only [tOr, tNot, tB, tTest, tCall]
        refine rd_cons <| rd_it (k := 1) hrt10 rfl (ev_v rfl) ev_k ⟨_, rfl, ?_⟩
        refine ⟨pp, pp2, [((paperOf n s x).first : Int), ((paperOf n s x).met : Int), ((paperOf n s x).last : Int), (Phi n (U (reach n s x)) : Int) - (Phi n (U s) : Int)], rfl, hpp10, hpp2, (by show 4 ≤ 900; decide), fun H11 m11 => ⟨_, rfl, iteF ?_⟩⟩
        have S11 := S10.mono m11
        refine rd_op <| rd_it (k := 0) (m11 _ _ hrt10) rfl (ev_v rfl) ev_k ?_
        refine ⟨_, rfl, p, n, _, as', rfl, S11, n2, fun q2 H12 m12 Sq2 => rd_neSh ((F10.mono m11).mono m12) Sq2 ⟨_, rfl, iteF ?_⟩⟩
        have m1012 := m11.trans m12
        have hrt12 := m1012 _ _ hrt10
        have hpp12 := m1012 _ _ hpp10
        have S12 := S10.mono m1012
        have HL12 := HL10.mono m1012
        refine rd_op <| ⟨_, rfl, rd_it (k := 1) hrt12 rfl (ev_v rfl) ev_k ?_⟩
        refine ⟨pp, n, (paperOf n s x).first, (paperOf n s x).met, (paperOf n s x).last, _, rfl, n1, n2, hpp12, RO.one, RO.half, RO.fact, ?_⟩
        refine ⟨true, true, rfl, rfl, _, rfl, iteF ?_⟩
        dsimp only [tNext, tSeq]
        have fact := RO.fact
        refine rd_if ?_
        dsimp only [tTest]
        refine rd_op <| ev_add (ev_add (ev_add (ev_pp (k := 0) rfl hrt12 hpp12 rfl) (ev_pp (k := 1) rfl hrt12 hpp12 rfl) rfl) (ev_pp (k := 2) rfl hrt12 hpp12 rfl) rfl) (fun Q' q' => rd_op <| ev_k _ <| ev_pp (k := 3) rfl hrt12 hpp12 rfl _ ⟨_, _, rfl, rfl, .inl ⟨by decide, by decide⟩, q'⟩) rfl _ ?_
        refine rd_op <| rd_op <| ev_k _ <| ⟨_, rfl, n, rfl, n2, _, _, rfl, rfl, .inl ⟨by decide, by decide⟩, _, _, rfl, rfl, _, _, rfl, rfl, _, rfl, iteB (fun b => ?_) (fun b => ?_)⟩
        · exact absurd (of_decide_eq_true b) (by show ¬ ((30 * ((lg n : Nat) : Int) + 7) < _); omega)
        refine rd_asg <| ev_add (ev_v rfl) (ev_pp (k := 3) rfl hrt12 hpp12 rfl) rfl _ ?_
        dsimp only [gName, List.set]
        refine rd_if ?_
        dsimp only [tTest]
        refine rd_op <| rd_draw HL12 (by decide : 0 < 4) (by decide) (ev_v rfl) ev_k fun H13 r13 HL13 m13 _ => ⟨rfl, _, rfl, iteB (fun b => ?_) (fun b => ?_)⟩
        · have S13 := S12.hs m13 ph h10
          refine ⟨_, rfl, p, n, _, as', rfl, S13, n2, RO.ok, fun H14 m14 => ?_⟩
          refine ⟨_, rfl, _, rfl, h, c, p, n, _, as', rfl, HL13.mono m14, S13.mono m14, h11, c11, n2, RO.ok, fun H15 v15 s15 HL15 S15 k15 => ?_⟩
          refine ⟨_, rfl, _, rfl, p, n, s15, as', rfl, S15, n2, k15, fun H16 m16 => ⟨_, _, rfl, rfl, _, rfl, _, _, rfl, rfl, ?_⟩⟩
          exact ⟨HL15.mono m16, s15, as', _, _, _, _, _, _, _, _, S15.mono m16, k15, h11, c11, (by omega), rfl⟩
        · exact ⟨HL13, _, as', _, m, _, _, _, _, _, _, S12.hs m13 ph h10, RO.ok, h11, c11, (by omega), rfl⟩
      · obtain ⟨HL6, s, as, g, m, v9, v10, v11, v12, v13, v14, S6, k, h6, c6, inv, rfl⟩ := z
        refine ⟨_, rfl, _, rfl, _, _, rfl, rfl, _, rfl, _, _, rfl, rfl, _, rfl, p, n, s, as, rfl, S6, n2, k, fun H7 m7 => ⟨rfl, ?_⟩⟩
        exact qb (decide_eq_true (congrArg V.int inv)) (q H7)
end
end K13
namespace K13
open PySem PySem.Spec PyProof.Rows L2
theorem def_mk {K : PySem.W.Frag} {h : Heap} {mg : Str → Option Value} {x : Str} {st : Stmt} {f : Addr} {oc : Value} {od an : Option Addr} {osl : Array (Option Value)} {kV doc pm cdv ct : Value} (X : K.In h) (G : h.Ns mainGlobals mg)
    (a : PySem.W.nsIn K mainGlobals x = some (some (.ref f))) (l : K.lookup f = some ⟨oc, od, .func (PySem.W.fnOf x x (defArgs st) (defBody st) (defScope st) .none kV doc pm an cdv ct), osl⟩)
    (c : PySem.W.codeIn K cdv x = true) (k : PySem.W.keepIn K (.ref f) = true) : ∃ f fd, mg x = some (.ref f) ∧ Fun K x x st f fd := ⟨f, _, PySem.W.mg_of X G a, fun_mk l c k⟩
theorem const_mk {K : PySem.W.Frag} {h : Heap} {mg : Str → Option Value} {x : Str} {i : Int} {t : Tok} (X : K.In h) (G : h.Ns mainGlobals mg) (a : PySem.W.nsIn K mainGlobals x = some (some (.int i t))) : ∃ t, mg x = some (.int i t) := ⟨t, PySem.W.mg_of X G a⟩
theorem walk {l : PySem.W.OpenLaw} {q : Program} {loose : List Str} {XP : (Str → Option Value) → Heap → Prop} {YP : World → Heap → Prop} {d : DefRec} {K : Params → PySem.W.Frag} (hn : l.most = some 63) (hdf : d.params.defaults = [])
    (hY : ∀ (w : World) (h : Heap), YP w h → (K w.params).In h)
    (F : ∀ (w : World) (mg : Str → Option Value) (fa : Addr) (h : Heap), (K w.params).In h → h.Ns mainGlobals mg → mg d.name = some (.ref fa) →
      ∃ fd : FuncData, (∀ (s : Shared) (u : Value), BindsTo s fd ⟨[u], []⟩ [("_law_script", u)]) ∧ ∀ base : Heap, (K w.params).In base → base.Ns mainGlobals mg → FnOk l.prog w (K w.params) mg base CX0 75 fa fd ["_law_script"] (sp_law (K w.params))) :
    PySem.W.WalkO q loose XP YP l.row.toRowW d [] (fun f vs => PySem.call f vs) :=
  L2.walk_of (n := 63) (k := 75) (x := "_law_script") (CX := fun _ => CX0) (sp := fun w => sp_law (K w.params)) hn (by decide) hdf ⟨rfl, by decide, by decide⟩ hY F (fun _ _ a ns hl _ hS => ⟨a, ns, rfl, hS, hl, fun _ => rfl⟩) fun _ _ _ _ _ z => z
end K13
open PySem PySem.W PyProof.Rows K13
set_option maxRecDepth 100000 in
set_option maxHeartbeats 0 in
theorem PySem.Challenge.cw_cutlinked_k13_whole_papers_of_reachings_holds : PySem.Challenge.rw_cutlinked_k13_whole_papers_of_reachings.Holds := by
  w_on; o_law; k_head; (case hw => w_witness2)
  k_fill
  refine K13.walk (l := PySem.Challenge.rw_cutlinked_k13_whole_papers_of_reachings) rfl rfl (fun w h Y => PySem.W.kIn_of Y) ?F
  case F =>
    intro w mg fa h KX G hmg
    obtain ⟨f_is_integer, d_is_integer, g_is_integer, F_is_integer⟩ := def_mk (x := "is_integer") (st := st_is_integer) KX G (by k_is) (by k_is) (by k_is) (by k_is)
    obtain ⟨f_is_within, d_is_within, g_is_within, F_is_within⟩ := def_mk (x := "is_within") (st := st_is_within) KX G (by k_is) (by k_is) (by k_is) (by k_is)
    obtain ⟨f_is_number, d_is_number, g_is_number, F_is_number⟩ := def_mk (x := "is_number") (st := st_is_number) KX G (by k_is) (by k_is) (by k_is) (by k_is)
    obtain ⟨f_is_below, d_is_below, g_is_below, F_is_below⟩ := def_mk (x := "is_below") (st := st_is_below) KX G (by k_is) (by k_is) (by k_is) (by k_is)
    obtain ⟨f_is_sized, d_is_sized, g_is_sized, F_is_sized⟩ := def_mk (x := "is_sized") (st := st_is_sized) KX G (by k_is) (by k_is) (by k_is) (by k_is)
    obtain ⟨f_check_within, d_check_within, g_check_within, F_check_within⟩ := def_mk (x := "check_within") (st := st_check_within) KX G (by k_is) (by k_is) (by k_is) (by k_is)
    obtain ⟨f_replaced, d_replaced, g_replaced, F_replaced⟩ := def_mk (x := "replaced") (st := st_replaced) KX G (by k_is) (by k_is) (by k_is) (by k_is)
    obtain ⟨f_check_house, d_check_house, g_check_house, F_check_house⟩ := def_mk (x := "check_house") (st := st_check_house) KX G (by k_is) (by k_is) (by k_is) (by k_is)
    obtain ⟨f_is_place, d_is_place, g_is_place, F_is_place⟩ := def_mk (x := "is_place") (st := st_is_place) KX G (by k_is) (by k_is) (by k_is) (by k_is)
    obtain ⟨f_is_part, d_is_part, g_is_part, F_is_part⟩ := def_mk (x := "is_part") (st := st_is_part) KX G (by k_is) (by k_is) (by k_is) (by k_is)
    obtain ⟨f_sons_of, d_sons_of, g_sons_of, F_sons_of⟩ := def_mk (x := "sons_of") (st := st_sons_of) KX G (by k_is) (by k_is) (by k_is) (by k_is)
    obtain ⟨f_comes_out, d_comes_out, g_comes_out, F_comes_out⟩ := def_mk (x := "comes_out") (st := st_comes_out) KX G (by k_is) (by k_is) (by k_is) (by k_is)
    obtain ⟨f_is_right_shape, d_is_right_shape, g_is_right_shape, F_is_right_shape⟩ := def_mk (x := "is_right_shape") (st := st_is_right_shape) KX G (by k_is) (by k_is) (by k_is) (by k_is)
    obtain ⟨f_check_shape, d_check_shape, g_check_shape, F_check_shape⟩ := def_mk (x := "check_shape") (st := st_check_shape) KX G (by k_is) (by k_is) (by k_is) (by k_is)
    obtain ⟨f_is_son, d_is_son, g_is_son, F_is_son⟩ := def_mk (x := "is_son") (st := st_is_son) KX G (by k_is) (by k_is) (by k_is) (by k_is)
    obtain ⟨f_rank_of, d_rank_of, g_rank_of, F_rank_of⟩ := def_mk (x := "rank_of") (st := st_rank_of) KX G (by k_is) (by k_is) (by k_is) (by k_is)
    obtain ⟨f_all_weights, d_all_weights, g_all_weights, F_all_weights⟩ := def_mk (x := "all_weights") (st := st_all_weights) KX G (by k_is) (by k_is) (by k_is) (by k_is)
    obtain ⟨f_sum_of_ranks, d_sum_of_ranks, g_sum_of_ranks, F_sum_of_ranks⟩ := def_mk (x := "sum_of_ranks") (st := st_sum_of_ranks) KX G (by k_is) (by k_is) (by k_is) (by k_is)
    obtain ⟨f_changed, d_changed, g_changed, F_changed⟩ := def_mk (x := "changed") (st := st_changed) KX G (by k_is) (by k_is) (by k_is) (by k_is)
    obtain ⟨f_with_more, d_with_more, g_with_more, F_with_more⟩ := def_mk (x := "with_more") (st := st_with_more) KX G (by k_is) (by k_is) (by k_is) (by k_is)
    obtain ⟨f_after_handing, d_after_handing, g_after_handing, F_after_handing⟩ := def_mk (x := "after_handing") (st := st_after_handing) KX G (by k_is) (by k_is) (by k_is) (by k_is)
    obtain ⟨f_side_of, d_side_of, g_side_of, F_side_of⟩ := def_mk (x := "side_of") (st := st_side_of) KX G (by k_is) (by k_is) (by k_is) (by k_is)
    obtain ⟨f_after_turn, d_after_turn, g_after_turn, F_after_turn⟩ := def_mk (x := "after_turn") (st := st_after_turn) KX G (by k_is) (by k_is) (by k_is) (by k_is)
    obtain ⟨f_down_to, d_down_to, g_down_to, F_down_to⟩ := def_mk (x := "down_to") (st := st_down_to) KX G (by k_is) (by k_is) (by k_is) (by k_is)
    obtain ⟨f_after_step, d_after_step, g_after_step, F_after_step⟩ := def_mk (x := "after_step") (st := st_after_step) KX G (by k_is) (by k_is) (by k_is) (by k_is)
    obtain ⟨f_to_top, d_to_top, g_to_top, F_to_top⟩ := def_mk (x := "to_top") (st := st_to_top) KX G (by k_is) (by k_is) (by k_is) (by k_is)
    obtain ⟨f_met_from, d_met_from, g_met_from, F_met_from⟩ := def_mk (x := "met_from") (st := st_met_from) KX G (by k_is) (by k_is) (by k_is) (by k_is)
    obtain ⟨f_spliced, d_spliced, g_spliced, F_spliced⟩ := def_mk (x := "spliced") (st := st_spliced) KX G (by k_is) (by k_is) (by k_is) (by k_is)
    obtain ⟨f_after_reaching, d_after_reaching, g_after_reaching, F_after_reaching⟩ := def_mk (x := "after_reaching") (st := st_after_reaching) KX G (by k_is) (by k_is) (by k_is) (by k_is)
    obtain ⟨f_reached, d_reached, g_reached, F_reached⟩ := def_mk (x := "reached") (st := st_reached) KX G (by k_is) (by k_is) (by k_is) (by k_is)
    obtain ⟨f_most_of, d_most_of, g_most_of, F_most_of⟩ := def_mk (x := "most_of") (st := st_most_of) KX G (by k_is) (by k_is) (by k_is) (by k_is)
    obtain ⟨f_is_paper, d_is_paper, g_is_paper, F_is_paper⟩ := def_mk (x := "is_paper") (st := st_is_paper) KX G (by k_is) (by k_is) (by k_is) (by k_is)
    obtain ⟨f_q_hand, d_q_hand, g_q_hand, F_q_hand⟩ := def_mk (x := "_law_hand") (st := st_q_hand) KX G (by k_is) (by k_is) (by k_is) (by k_is)
    obtain ⟨f_q_draw, d_q_draw, g_q_draw, F_q_draw⟩ := def_mk (x := "_law_draw") (st := st_q_draw) KX G (by k_is) (by k_is) (by k_is) (by k_is)
    obtain ⟨f_q_some, d_q_some, g_q_some, F_q_some⟩ := def_mk (x := "_law_some") (st := st_q_some) KX G (by k_is) (by k_is) (by k_is) (by k_is)
    obtain ⟨f_q_shuffled, d_q_shuffled, g_q_shuffled, F_q_shuffled⟩ := def_mk (x := "_law_shuffled") (st := st_q_shuffled) KX G (by k_is) (by k_is) (by k_is) (by k_is)
    obtain ⟨f_q_is, d_q_is, g_q_is, F_q_is⟩ := def_mk (x := "_law_is") (st := st_q_is) KX G (by k_is) (by k_is) (by k_is) (by k_is)
    obtain ⟨f_q_trees, d_q_trees, g_q_trees, F_q_trees⟩ := def_mk (x := "_law_trees") (st := st_q_trees) KX G (by k_is) (by k_is) (by k_is) (by k_is)
    obtain ⟨f_q_rows_of, d_q_rows_of, g_q_rows_of, F_q_rows_of⟩ := def_mk (x := "_law_rows_of") (st := st_q_rows_of) KX G (by k_is) (by k_is) (by k_is) (by k_is)
    obtain ⟨f_q_planted, d_q_planted, g_q_planted, F_q_planted⟩ := def_mk (x := "_law_planted") (st := st_q_planted) KX G (by k_is) (by k_is) (by k_is) (by k_is)
    obtain ⟨f_q_laid, d_q_laid, g_q_laid, F_q_laid⟩ := def_mk (x := "_law_laid") (st := st_q_laid) KX G (by k_is) (by k_is) (by k_is) (by k_is)
    obtain ⟨f_q_shape, d_q_shape, g_q_shape, F_q_shape⟩ := def_mk (x := "_law_shape") (st := st_q_shape) KX G (by k_is) (by k_is) (by k_is) (by k_is)
    obtain ⟨f_q_is_son, d_q_is_son, g_q_is_son, F_q_is_son⟩ := def_mk (x := "_law_is_son") (st := st_q_is_son) KX G (by k_is) (by k_is) (by k_is) (by k_is)
    obtain ⟨f_q_hand_on, d_q_hand_on, g_q_hand_on, F_q_hand_on⟩ := def_mk (x := "_law_hand_on") (st := st_q_hand_on) KX G (by k_is) (by k_is) (by k_is) (by k_is)
    obtain ⟨f_q_turn_up, d_q_turn_up, g_q_turn_up, F_q_turn_up⟩ := def_mk (x := "_law_turn_up") (st := st_q_turn_up) KX G (by k_is) (by k_is) (by k_is) (by k_is)
    obtain ⟨f_q_side, d_q_side, g_q_side, F_q_side⟩ := def_mk (x := "_law_side") (st := st_q_side) KX G (by k_is) (by k_is) (by k_is) (by k_is)
    obtain ⟨f_q_step_up, d_q_step_up, g_q_step_up, F_q_step_up⟩ := def_mk (x := "_law_step_up") (st := st_q_step_up) KX G (by k_is) (by k_is) (by k_is) (by k_is)
    obtain ⟨f_q_weights, d_q_weights, g_q_weights, F_q_weights⟩ := def_mk (x := "_law_weights") (st := st_q_weights) KX G (by k_is) (by k_is) (by k_is) (by k_is)
    obtain ⟨f_q_rank, d_q_rank, g_q_rank, F_q_rank⟩ := def_mk (x := "_law_rank") (st := st_q_rank) KX G (by k_is) (by k_is) (by k_is) (by k_is)
    obtain ⟨f_q_potential, d_q_potential, g_q_potential, F_q_potential⟩ := def_mk (x := "_law_potential") (st := st_q_potential) KX G (by k_is) (by k_is) (by k_is) (by k_is)
    obtain ⟨f_q_down_to, d_q_down_to, g_q_down_to, F_q_down_to⟩ := def_mk (x := "_law_down_to") (st := st_q_down_to) KX G (by k_is) (by k_is) (by k_is) (by k_is)
    obtain ⟨f_q_reach, d_q_reach, g_q_reach, F_q_reach⟩ := def_mk (x := "_law_reach") (st := st_q_reach) KX G (by k_is) (by k_is) (by k_is) (by k_is)
    obtain ⟨f_q_steep, d_q_steep, g_q_steep, F_q_steep⟩ := def_mk (x := "_law_steep") (st := st_q_steep) KX G (by k_is) (by k_is) (by k_is) (by k_is)
    obtain ⟨f_q_moved_off, d_q_moved_off, g_q_moved_off, F_q_moved_off⟩ := def_mk (x := "_law_moved_off") (st := st_q_moved_off) KX G (by k_is) (by k_is) (by k_is) (by k_is)
    obtain ⟨f_q_deepest, d_q_deepest, g_q_deepest, F_q_deepest⟩ := def_mk (x := "_law_deepest") (st := st_q_deepest) KX G (by k_is) (by k_is) (by k_is) (by k_is)
    obtain ⟨f_law, d_law, g_law, F_law⟩ := def_mk (x := "law") (st := st_law) KX G (by k_is) (by k_is) (by k_is) (by k_is)
    obtain ⟨t_MOST_HOUSES, k_MOST_HOUSES⟩ := const_mk (x := "MOST_HOUSES") (i := 64) KX G (by k_is)
    obtain ⟨t_UP, k_UP⟩ := const_mk (x := "UP") (i := 0) KX G (by k_is)
    obtain ⟨t_LEFT, k_LEFT⟩ := const_mk (x := "LEFT") (i := 1) KX G (by k_is)
    obtain ⟨t_RIGHT, k_RIGHT⟩ := const_mk (x := "RIGHT") (i := 2) KX G (by k_is)
    obtain ⟨t_TURNED, k_TURNED⟩ := const_mk (x := "TURNED") (i := 3) KX G (by k_is)
    obtain ⟨t_ADDED, k_ADDED⟩ := const_mk (x := "ADDED") (i := 4) KX G (by k_is)
    obtain ⟨t_VALUE, k_VALUE⟩ := const_mk (x := "VALUE") (i := 5) KX G (by k_is)
    obtain ⟨t_PARTS, k_PARTS⟩ := const_mk (x := "PARTS") (i := 6) KX G (by k_is)
    obtain ⟨t_TIMES, k_TIMES⟩ := const_mk (x := "TIMES") (i := 5) KX G (by k_is)
    obtain ⟨t_MOST_BY_RANK, k_MOST_BY_RANK⟩ := const_mk (x := "MOST_BY_RANK") (i := 30) KX G (by k_is)
    obtain ⟨t_MOST_BESIDE, k_MOST_BESIDE⟩ := const_mk (x := "MOST_BESIDE") (i := 7) KX G (by k_is)
    have z_len := PySem.W.mg_none_of (n := "len") KX G (by k_is)
    have z_isinstance := PySem.W.mg_none_of (n := "isinstance") KX G (by k_is)
    have z_all := PySem.W.mg_none_of (n := "all") KX G (by k_is)
    have z_sum := PySem.W.mg_none_of (n := "sum") KX G (by k_is)
    have z_abs := PySem.W.mg_none_of (n := "abs") KX G (by k_is)
    have z_int := PySem.W.mg_none_of (n := "int") KX G (by k_is)
    have z_tuple := PySem.W.mg_none_of (n := "tuple") KX G (by k_is)
    have z_list := PySem.W.mg_none_of (n := "list") KX G (by k_is)
    have z_range := PySem.W.mg_none_of (n := "range") KX G (by k_is)
    have z_enumerate := PySem.W.mg_none_of (n := "enumerate") KX G (by k_is)
    have z_bool := PySem.W.mg_none_of (n := "bool") KX G (by k_is)
    have z_dict := PySem.W.mg_none_of (n := "dict") KX G (by k_is)
    have T : K13.Txt _ mg ⟨f_is_integer, d_is_integer, f_is_within, d_is_within, f_is_number, d_is_number, f_is_below, d_is_below, f_is_sized, d_is_sized, f_check_within, d_check_within, f_replaced, d_replaced, f_check_house, d_check_house, f_is_place, d_is_place, f_is_part, d_is_part, f_sons_of, d_sons_of, f_comes_out, d_comes_out, f_is_right_shape, d_is_right_shape, f_check_shape, d_check_shape, f_is_son, d_is_son, f_rank_of, d_rank_of, f_all_weights, d_all_weights, f_sum_of_ranks, d_sum_of_ranks, f_changed, d_changed, f_with_more, d_with_more, f_after_handing, d_after_handing, f_side_of, d_side_of, f_after_turn, d_after_turn, f_down_to, d_down_to, f_after_step, d_after_step, f_to_top, d_to_top, f_met_from, d_met_from, f_spliced, d_spliced, f_after_reaching, d_after_reaching, f_reached, d_reached, f_most_of, d_most_of, f_is_paper, d_is_paper, f_q_hand, d_q_hand, f_q_draw, d_q_draw, f_q_some, d_q_some, f_q_shuffled, d_q_shuffled, f_q_is, d_q_is, f_q_trees, d_q_trees, f_q_rows_of, d_q_rows_of, f_q_planted, d_q_planted, f_q_laid, d_q_laid, f_q_shape, d_q_shape, f_q_is_son, d_q_is_son, f_q_hand_on, d_q_hand_on, f_q_turn_up, d_q_turn_up, f_q_side, d_q_side, f_q_step_up, d_q_step_up, f_q_weights, d_q_weights, f_q_rank, d_q_rank, f_q_potential, d_q_potential, f_q_down_to, d_q_down_to, f_q_reach, d_q_reach, f_q_steep, d_q_steep, f_q_moved_off, d_q_moved_off, f_q_deepest, d_q_deepest, f_law, d_law, t_MOST_HOUSES, t_UP, t_LEFT, t_RIGHT, t_TURNED, t_ADDED, t_VALUE, t_PARTS, t_TIMES, t_MOST_BY_RANK, t_MOST_BESIDE⟩ := ⟨
      g_is_integer, F_is_integer, (F_is_integer.binds fun _ _ _ _ _ _ us hl => match us, hl with | [_], _ => rfl), g_is_within, F_is_within, (F_is_within.binds fun _ _ _ _ _ _ us hl => match us, hl with | [_, _, _], _ => rfl), g_is_number, F_is_number, (F_is_number.binds fun _ _ _ _ _ _ us hl => match us, hl with | [_], _ => rfl), g_is_below, F_is_below, (F_is_below.binds fun _ _ _ _ _ _ us hl => match us, hl with | [_, _], _ => rfl), g_is_sized, F_is_sized, (F_is_sized.binds fun _ _ _ _ _ _ us hl => match us, hl with | [_, _, _], _ => rfl), g_check_within, F_check_within, (F_check_within.binds fun _ _ _ _ _ _ us hl => match us, hl with | [_, _, _], _ => rfl), g_replaced, F_replaced, (F_replaced.binds fun _ _ _ _ _ _ us hl => match us, hl with | [_, _, _], _ => rfl), g_check_house, F_check_house, (F_check_house.binds fun _ _ _ _ _ _ us hl => match us, hl with | [_, _], _ => rfl), g_is_place, F_is_place, (F_is_place.binds fun _ _ _ _ _ _ us hl => match us, hl with | [_, _], _ => rfl), g_is_part, F_is_part, (F_is_part.binds fun _ _ _ _ _ _ us hl => match us, hl with | [_, _], _ => rfl), g_sons_of, F_sons_of, (F_sons_of.binds fun _ _ _ _ _ _ us hl => match us, hl with | [_, _], _ => rfl), g_comes_out, F_comes_out, (F_comes_out.binds fun _ _ _ _ _ _ us hl => match us, hl with | [_, _], _ => rfl), g_is_right_shape, F_is_right_shape, (F_is_right_shape.binds fun _ _ _ _ _ _ us hl => match us, hl with | [_], _ => rfl), g_check_shape, F_check_shape, (F_check_shape.binds fun _ _ _ _ _ _ us hl => match us, hl with | [_], _ => rfl), g_is_son, F_is_son, (F_is_son.binds fun _ _ _ _ _ _ us hl => match us, hl with | [_, _], _ => rfl), g_rank_of, F_rank_of, (F_rank_of.binds fun _ _ _ _ _ _ us hl => match us, hl with | [_], _ => rfl), g_all_weights, F_all_weights, (F_all_weights.binds fun _ _ _ _ _ _ us hl => match us, hl with | [_], _ => rfl), g_sum_of_ranks, F_sum_of_ranks, (F_sum_of_ranks.binds fun _ _ _ _ _ _ us hl => match us, hl with | [_], _ => rfl), g_changed, F_changed, (F_changed.binds fun _ _ _ _ _ _ us hl => match us, hl with | [_, _, _, _], _ => rfl), g_with_more, F_with_more, (F_with_more.binds fun _ _ _ _ _ _ us hl => match us, hl with | [_, _], _ => rfl), g_after_handing, F_after_handing, (F_after_handing.binds fun _ _ _ _ _ _ us hl => match us, hl with | [_, _], _ => rfl), g_side_of, F_side_of, (F_side_of.binds fun _ _ _ _ _ _ us hl => match us, hl with | [_, _], _ => rfl), g_after_turn, F_after_turn, (F_after_turn.binds fun _ _ _ _ _ _ us hl => match us, hl with | [_, _], _ => rfl), g_down_to, F_down_to, (F_down_to.binds fun _ _ _ _ _ _ us hl => match us, hl with | [_, _], _ => rfl), g_after_step, F_after_step, (F_after_step.binds fun _ _ _ _ _ _ us hl => match us, hl with | [_, _], _ => rfl), g_to_top, F_to_top, (F_to_top.binds fun _ _ _ _ _ _ us hl => match us, hl with | [_, _], _ => rfl), g_met_from, F_met_from, (F_met_from.binds fun _ _ _ _ _ _ us hl => match us, hl with | [_, _], _ => rfl), g_spliced, F_spliced, (F_spliced.binds fun _ _ _ _ _ _ us hl => match us, hl with | [_, _], _ => rfl), g_after_reaching, F_after_reaching, (F_after_reaching.binds fun _ _ _ _ _ _ us hl => match us, hl with | [_, _, _], _ => rfl), g_reached, F_reached, (F_reached.binds fun _ _ _ _ _ _ us hl => match us, hl with | [_, _], _ => rfl), g_most_of, F_most_of, (F_most_of.binds fun _ _ _ _ _ _ us hl => match us, hl with | [_], _ => rfl), g_is_paper, F_is_paper, (F_is_paper.binds fun _ _ _ _ _ _ us hl => match us, hl with | [_, _], _ => rfl), g_q_hand, F_q_hand, (F_q_hand.binds fun _ _ _ _ _ _ us hl => match us, hl with | [_], _ => rfl), g_q_draw, F_q_draw, (F_q_draw.binds fun _ _ _ _ _ _ us hl => match us, hl with | [_, _], _ => rfl), g_q_some, F_q_some, (F_q_some.binds fun _ _ _ _ _ _ us hl => match us, hl with | [_, _], _ => rfl), g_q_shuffled, F_q_shuffled, (F_q_shuffled.binds fun _ _ _ _ _ _ us hl => match us, hl with | [_, _], _ => rfl), g_q_is, F_q_is, (F_q_is.binds fun _ _ _ _ _ _ us hl => match us, hl with | [_, _], _ => rfl), g_q_trees, F_q_trees, (F_q_trees.binds fun _ _ _ _ _ _ us hl => match us, hl with | [_, _], _ => rfl), g_q_rows_of, F_q_rows_of, (F_q_rows_of.binds fun _ _ _ _ _ _ us hl => match us, hl with | [_, _], _ => rfl), g_q_planted, F_q_planted, (F_q_planted.binds fun _ _ _ _ _ _ us hl => match us, hl with | [_, _, _, _, _, _], _ => rfl), g_q_laid, F_q_laid, (F_q_laid.binds fun _ _ _ _ _ _ us hl => match us, hl with | [_, _, _], _ => rfl), g_q_shape, F_q_shape, (F_q_shape.binds fun _ _ _ _ _ _ us hl => match us, hl with | [_], _ => rfl), g_q_is_son, F_q_is_son, (F_q_is_son.binds fun _ _ _ _ _ _ us hl => match us, hl with | [_, _], _ => rfl), g_q_hand_on, F_q_hand_on, (F_q_hand_on.binds fun _ _ _ _ _ _ us hl => match us, hl with | [_, _], _ => rfl), g_q_turn_up, F_q_turn_up, (F_q_turn_up.binds fun _ _ _ _ _ _ us hl => match us, hl with | [_, _], _ => rfl), g_q_side, F_q_side, (F_q_side.binds fun _ _ _ _ _ _ us hl => match us, hl with | [_, _], _ => rfl), g_q_step_up, F_q_step_up, (F_q_step_up.binds fun _ _ _ _ _ _ us hl => match us, hl with | [_, _], _ => rfl), g_q_weights, F_q_weights, (F_q_weights.binds fun _ _ _ _ _ _ us hl => match us, hl with | [_], _ => rfl), g_q_rank, F_q_rank, (F_q_rank.binds fun _ _ _ _ _ _ us hl => match us, hl with | [_], _ => rfl), g_q_potential, F_q_potential, (F_q_potential.binds fun _ _ _ _ _ _ us hl => match us, hl with | [_], _ => rfl), g_q_down_to, F_q_down_to, (F_q_down_to.binds fun _ _ _ _ _ _ us hl => match us, hl with | [_, _], _ => rfl), g_q_reach, F_q_reach, (F_q_reach.binds fun _ _ _ _ _ _ us hl => match us, hl with | [_, _], _ => rfl), g_q_steep, F_q_steep, (F_q_steep.binds fun _ _ _ _ _ _ us hl => match us, hl with | [_, _], _ => rfl), g_q_moved_off, F_q_moved_off, (F_q_moved_off.binds fun _ _ _ _ _ _ us hl => match us, hl with | [_, _], _ => rfl), g_q_deepest, F_q_deepest, (F_q_deepest.binds fun _ _ _ _ _ _ us hl => match us, hl with | [_], _ => rfl), g_law, F_law, (F_law.binds fun _ _ _ _ _ _ us hl => match us, hl with | [_], _ => rfl), k_MOST_HOUSES, k_UP, k_LEFT, k_RIGHT, k_TURNED, k_ADDED, k_VALUE, k_PARTS, k_TIMES, k_MOST_BY_RANK, k_MOST_BESIDE, z_len, z_isinstance, z_all, z_sum, z_abs, z_int, z_tuple, z_list, z_range, z_enumerate, z_bool, z_dict⟩
    have e := hmg.symm.trans g_law
    cases e
    refine ⟨d_law, fun s v => ?_, fun base _ _ => K13.ok_law T⟩
    obtain ⟨oc, od, kV, doc, pm, an, cdv, ct, osl, rfl, lk, hcd⟩ := F_law.ex
    exact .of_eq rfl


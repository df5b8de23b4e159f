import PyProof.Rows.All
import Wide.All
import OpenK.AllK
import Wide.FinOn
import HandS.ForMost
import HandS.Wide
import HandS.Evl
import HandS.Codes
import HandS.Lambda
import HandS.AnyAll
import HandS.EndTab
import HandS.GenList
import HandS.ListItems
import HandS.StrMore
import HandS.Style
import HandS.DictEq
import HandS.Sort
import HandS.SortInts
import HandS.CallLocal
import HandS.DictTup
import KE.KItemsList
import KE.KDictSum
import PyProof.GenArm
import PyProof.GenQ
import HandS.Base
import HandS.Nested
import HandS.Replace
import KE.KDictDisplayH
import KE.KDictCopyH
import HandS.More
import HandS.Conv
import KE.KStateDown
import HandS.Head0
import HandS.Head1
import HandS.Head2
import HandS.HeadHook1
import HandS.HeadHook2
import HandS.HeadHook3
import HandS.HeadHook4
import HandS.HeadWalk
import Lean
import PySem.Challenge.RW_luckwright_k63_whole_counting_at_any_siz
set_option Elab.async false
set_option linter.all false
/-! M1 -/
section
set_option autoImplicit false
namespace KM
/-! functionals of dicts -/
def ms {α : Type} (kvs : List (α × Int)) (φ : α → Int) : Int := (kvs.map fun p => p.2 * φ p.1).sum
section
variable {α : Type}
@[simp] theorem ms_nil (φ : α → Int) : ms [] φ = 0 := rfl
@[simp] theorem ms_cons (p : α × Int) (l : List (α × Int)) (φ : α → Int) : ms (p :: l) φ = p.2 * φ p.1 + ms l φ := by simp [ms]
theorem ms_app (a b : List (α × Int)) (φ : α → Int) : ms (a ++ b) φ = ms a φ + ms b φ := by simp [ms]
theorem ms_take {kvs : List (α × Int)} {i : Nat} {p : α × Int} (h : kvs[i]? = some p) (φ : α → Int) : ms (kvs.take (i + 1)) φ = ms (kvs.take i) φ + p.2 * φ p.1 := by
  rw [List.take_add_one, h, ms_app]; simp
theorem ms_congr {l : List (α × Int)} {φ ψ : α → Int} (h : ∀ p ∈ l, φ p.1 = ψ p.1) : ms l φ = ms l ψ := by
  induction l with
  | nil => rfl
  | cons a l ih =>
    rw [ms_cons, ms_cons, h a (by simp), ih fun p hp => h p (by simp [hp])]
theorem ms_add (l : List (α × Int)) (φ ψ : α → Int) : ms l (fun x => φ x + ψ x) = ms l φ + ms l ψ := by
  induction l with
  | nil => rfl
  | cons a l ih => simp only [ms_cons, ih]; grind
theorem ms_mul (l : List (α × Int)) (c : Int) (φ : α → Int) : ms l (fun x => c * φ x) = c * ms l φ := by
  induction l with
  | nil => simp
  | cons a l ih => simp only [ms_cons, ih]; grind
theorem ms_zero (l : List (α × Int)) : ms l (fun _ => 0) = 0 := by
  induction l with
  | nil => rfl
  | cons a l ih => simp only [ms_cons, ih]; grind
theorem ms_nonneg {l : List (α × Int)} {φ : α → Int} (h : ∀ p ∈ l, 0 ≤ p.2) (hφ : ∀ x, 0 ≤ φ x) : 0 ≤ ms l φ := by
  induction l with
  | nil => exact Int.le_refl _
  | cons a l ih =>
    rw [ms_cons]
    have h1 := Int.mul_nonneg (h a (by simp)) (hφ a.1)
    have h2 := ih fun p hp => h p (by simp [hp])
    omega
theorem ms_comm {β : Type} (l : List (α × Int)) (m : List (β × Int)) (φ : α → β → Int) : ms l (fun x => ms m (fun y => φ x y)) = ms m (fun y => ms l (fun x => φ x y)) := by
  induction l with
  | nil => simp [ms_zero]
  | cons a l ih =>
    simp only [ms_cons, ih]
    rw [ms_add, ms_mul]
end
/-- the value at a key, nought for none -/
def getI {α : Type} [DecidableEq α] (kvs : List (α × Int)) (k : α) : Int := (kvs.find? fun p => decide (p.1 = k)).map (·.2) |>.getD 0
def putI {α : Type} [DecidableEq α] : List (α × Int) → α → Int → List (α × Int)
  | [], k, v => [(k, v)]
  | (j, x) :: r, k, v => if j = k then (j, v) :: r else (j, x) :: putI r k v
def bump {α : Type} [DecidableEq α] (kvs : List (α × Int)) (k : α) (w : Int) : List (α × Int) := putI kvs k (getI kvs k + w)
section
variable {α : Type} [DecidableEq α]
theorem getI_nil (k : α) : getI [] k = 0 := rfl
theorem getI_cons (p : α × Int) (r : List (α × Int)) (k : α) : getI (p :: r) k = if p.1 = k then p.2 else getI r k := by
  unfold getI
  rw [List.find?_cons]
  by_cases h : p.1 = k <;> simp [h]
theorem getI_notin {kvs : List (α × Int)} {k : α} (h : k ∉ kvs.map (·.1)) : getI kvs k = 0 := by
  induction kvs with
  | nil => rfl
  | cons p r ih =>
    simp only [List.map_cons, List.mem_cons, not_or] at h
    rw [getI_cons, if_neg (fun e => h.1 e.symm), ih h.2]
theorem getI_mem {kvs : List (α × Int)} {p : α × Int} (nd : (kvs.map (·.1)).Nodup) (h : p ∈ kvs) : getI kvs p.1 = p.2 := by
  induction kvs with
  | nil => cases h
  | cons q r ih =>
    rw [getI_cons]
    simp only [List.map_cons, List.nodup_cons] at nd
    rcases List.mem_cons.mp h with rfl | h
    · simp
    · rw [if_neg (fun e => nd.1 (by rw [e]; exact List.mem_map.mpr ⟨p, h, rfl⟩)), ih nd.2 h]
theorem keys_putI (kvs : List (α × Int)) (k : α) (v : Int) : ∀ x, x ∈ (putI kvs k v).map (·.1) ↔ x = k ∨ x ∈ kvs.map (·.1) := by
  induction kvs with
  | nil => intro x; simp [putI]
  | cons p r ih =>
    intro x
    obtain ⟨j, y⟩ := p
    unfold putI
    by_cases h : j = k
    · subst h; simp
    · rw [if_neg h]
      simp only [List.map_cons, List.mem_cons, ih x]
      grind
theorem nodup_putI {kvs : List (α × Int)} (k : α) (v : Int) (nd : (kvs.map (·.1)).Nodup) : ((putI kvs k v).map (·.1)).Nodup := by
  induction kvs with
  | nil => simp [putI]
  | cons p r ih =>
    obtain ⟨j, y⟩ := p
    simp only [List.map_cons, List.nodup_cons] at nd
    unfold putI
    by_cases h : j = k
    · rw [if_pos h]; simp only [List.map_cons, List.nodup_cons]; exact nd
    · rw [if_neg h]
      simp only [List.map_cons, List.nodup_cons]
      exact ⟨fun e => ((keys_putI r k v j).mp e).elim h nd.1, ih nd.2⟩
theorem length_putI (kvs : List (α × Int)) (k : α) (v : Int) : (putI kvs k v).length ≤ kvs.length + 1 := by
  induction kvs with
  | nil => simp [putI]
  | cons p r ih =>
    obtain ⟨j, y⟩ := p
    unfold putI
    by_cases h : j = k
    · rw [if_pos h]; simp
    · rw [if_neg h]; simp only [List.length_cons]; omega
theorem ms_putI (kvs : List (α × Int)) (k : α) (v : Int) (φ : α → Int) : ms (putI kvs k v) φ = ms kvs φ + (v - getI kvs k) * φ k := by
  induction kvs with
  | nil => simp [putI, getI_nil]
  | cons p r ih =>
    obtain ⟨j, y⟩ := p
    unfold putI
    rw [getI_cons]
    by_cases h : j = k
    · subst h
      simp only [if_true, ms_cons]
      grind
    · simp only [if_neg h, ms_cons, ih]
      grind
theorem ms_bump (kvs : List (α × Int)) (k : α) (w : Int) (φ : α → Int) : ms (bump kvs k w) φ = ms kvs φ + w * φ k := by
  unfold bump
  rw [ms_putI]
  grind
theorem nodup_bump {kvs : List (α × Int)} (k : α) (w : Int) (nd : (kvs.map (·.1)).Nodup) : ((bump kvs k w).map (·.1)).Nodup := nodup_putI _ _ nd
theorem length_bump (kvs : List (α × Int)) (k : α) (w : Int) : (bump kvs k w).length ≤ kvs.length + 1 := length_putI _ _ _
theorem keys_bump (kvs : List (α × Int)) (k : α) (w : Int) (x : α) : x ∈ (bump kvs k w).map (·.1) ↔ x = k ∨ x ∈ kvs.map (·.1) := keys_putI _ _ _ x
theorem vals_putI {kvs : List (α × Int)} {k : α} {v : Int} {P : Int → Prop} (h : ∀ p ∈ kvs, P p.2) (hv : P v) : ∀ p ∈ putI kvs k v, P p.2 := by
  induction kvs with
  | nil => intro p hp; simp [putI] at hp; subst hp; exact hv
  | cons q r ih =>
    obtain ⟨j, y⟩ := q
    intro p hp
    unfold putI at hp
    by_cases e : j = k
    · rw [if_pos e] at hp
      rcases List.mem_cons.mp hp with rfl | hp
      · exact hv
      · exact h p (by simp [hp])
    · rw [if_neg e] at hp
      rcases List.mem_cons.mp hp with rfl | hp
      · exact h _ (by simp)
      · exact ih (fun p hp => h p (by simp [hp])) p hp
theorem getI_nonneg {kvs : List (α × Int)} (h : ∀ p ∈ kvs, 0 ≤ p.2) (k : α) : 0 ≤ getI kvs k := by
  induction kvs with
  | nil => exact Int.le_refl _
  | cons p r ih =>
    rw [getI_cons]
    split
    · exact h p (by simp)
    · exact ih fun q hq => h q (by simp [hq])
theorem vals_bump {kvs : List (α × Int)} {k : α} {w : Int} (h : ∀ p ∈ kvs, 0 ≤ p.2) (hw : 0 ≤ w) : ∀ p ∈ bump kvs k w, 0 ≤ p.2 :=
  vals_putI h (by have := getI_nonneg h k; omega)
/-- the functional at a key -/
def ind {α : Type} [DecidableEq α] (k : α) : α → Int := fun x => if x = k then 1 else 0
theorem ms_ind {kvs : List (α × Int)} (nd : (kvs.map (·.1)).Nodup) (k : α) : ms kvs (ind k) = getI kvs k := by
  induction kvs with
  | nil => rfl
  | cons p r ih =>
    simp only [List.map_cons, List.nodup_cons] at nd
    rw [ms_cons, getI_cons, ih nd.2]
    unfold ind
    by_cases h : p.1 = k
    · subst h; rw [getI_notin nd.1]; simp
    · simp [h]
end
end KM
end
/-! M2 -/
section
set_option autoImplicit false
namespace KM
structure Nrm (ws : List (Int × Int)) : Prop where
  sorted : ws.Pairwise fun p q => p.1 < q.1
  pos : ∀ p ∈ ws, 0 < p.2
  ne : ws ≠ []
  one : ∀ c : Nat, (∀ p ∈ ws, (c : Int) ∣ p.2) → c = 1
theorem nodup_of_sorted {ws : List (Int × Int)} (h : ws.Pairwise fun p q => p.1 < q.1) : (ws.map (·.1)).Nodup := by
  rw [List.Nodup, List.pairwise_map]
  exact h.imp fun {a b} h e => by omega
theorem sorted_ext : ∀ {ws vs : List (Int × Int)}, (ws.Pairwise fun p q => p.1 < q.1) → (vs.Pairwise fun p q => p.1 < q.1) → (∀ p ∈ ws, 0 < p.2) → (∀ p ∈ vs, 0 < p.2) →
    (∀ x, getI ws x = getI vs x) → ws = vs
  | [], [], _, _, _, _, _ => rfl
  | [], q :: s, _, _, _, h4, h => by
    have := h q.1
    rw [getI_nil, getI_cons, if_pos rfl] at this
    have := h4 q (by simp)
    omega
  | p :: r, [], _, _, h3, _, h => by
    have := h p.1
    rw [getI_nil, getI_cons, if_pos rfl] at this
    have := h3 p (by simp)
    omega
  | p :: r, q :: s, h1, h2, h3, h4, h => by
    rw [List.pairwise_cons] at h1 h2
    have lo : ∀ {l : List (Int × Int)} {k : Int}, (∀ a ∈ l, k < a.1) → ∀ x, x ≤ k → getI l x = 0 := fun {l k} hl x hx => getI_notin fun e => by
      obtain ⟨a, ha, e⟩ := List.mem_map.mp e
      have := hl a ha
      omega
    have hp := h3 p (by simp)
    have hq := h4 q (by simp)
    have e1 : p.1 = q.1 := by
      have a := h p.1
      have b := h q.1
      rw [getI_cons, getI_cons] at a b
      rw [if_pos rfl] at a b
      rcases Int.lt_trichotomy p.1 q.1 with z | z | z
      · rw [if_neg (by omega), lo h2.1 _ (by omega)] at a; omega
      · exact z
      · rw [if_neg (by omega), lo h1.1 _ (by omega)] at b; omega
    have e2 : p.2 = q.2 := by
      have a := h p.1
      rw [getI_cons, getI_cons, if_pos rfl, if_pos e1.symm] at a
      exact a
    have e3 : r = s := sorted_ext h1.2 h2.2 (fun a ha => h3 a (by simp [ha])) (fun a ha => h4 a (by simp [ha])) fun x => by
      have a := h x
      rw [getI_cons, getI_cons] at a
      by_cases z : p.1 = x
      · rw [lo h1.1 x (by omega), lo h2.1 x (by omega)]
      · rw [if_neg z, if_neg (by omega)] at a; exact a
    rw [e3, Prod.ext e1 e2]
theorem nrm_unique {ws vs : List (Int × Int)} (hw : Nrm ws) (hv : Nrm vs) {c d : Int} (hc : 0 < c) (hd : 0 < d) (h : ∀ φ, c * ms ws φ = d * ms vs φ) : ws = vs := by
  have nw := nodup_of_sorted hw.sorted
  have nv := nodup_of_sorted hv.sorted
  have key : ∀ x, c * getI ws x = d * getI vs x := fun x => by
    have := h (ind x)
    rwa [ms_ind nw, ms_ind nv] at this
  have side : ∀ {ws vs : List (Int × Int)} {c d : Int}, Nrm ws → Nrm vs → (vs.map (·.1)).Nodup → (ws.map (·.1)).Nodup → 0 < c → 0 < d → (∀ x, c * getI ws x = d * getI vs x) → c ∣ d := fun {ws vs c d} hw hv nv nw hc hd key => by
    -- c / gcd divides every value of vs
    have h1 : ((c.natAbs / Nat.gcd c.natAbs d.natAbs : Nat)) = 1 := by
      refine hv.one _ fun p hp => ?_
      have k := key p.1
      rw [getI_mem nv hp] at k
      have hg : 0 < Nat.gcd c.natAbs d.natAbs := Nat.gcd_pos_of_pos_left _ (by omega)
      have k2 : c.natAbs * (getI ws p.1).natAbs = d.natAbs * p.2.natAbs := by rw [← Int.natAbs_mul, ← Int.natAbs_mul, k]
      have cop : Nat.Coprime (c.natAbs / Nat.gcd c.natAbs d.natAbs) (d.natAbs / Nat.gcd c.natAbs d.natAbs) := Nat.coprime_div_gcd_div_gcd hg
      have d1 : (c.natAbs / Nat.gcd c.natAbs d.natAbs) ∣ (d.natAbs / Nat.gcd c.natAbs d.natAbs) * p.2.natAbs := by
        refine ⟨(getI ws p.1).natAbs, ?_⟩
        have e1 := Nat.div_mul_cancel (Nat.gcd_dvd_left c.natAbs d.natAbs)
        have e2 := Nat.div_mul_cancel (Nat.gcd_dvd_right c.natAbs d.natAbs)
        generalize c.natAbs / Nat.gcd c.natAbs d.natAbs = a at *
        generalize d.natAbs / Nat.gcd c.natAbs d.natAbs = b at *
        refine Nat.eq_of_mul_eq_mul_right hg ?_
        calc b * p.2.natAbs * Nat.gcd c.natAbs d.natAbs = (b * Nat.gcd c.natAbs d.natAbs) * p.2.natAbs := by grind
          _ = (a * Nat.gcd c.natAbs d.natAbs) * (getI ws p.1).natAbs := by rw [e1, e2, k2]
          _ = _ := by grind
      exact Int.dvd_natAbs.mp (Int.natCast_dvd_natCast.mpr (cop.dvd_of_dvd_mul_left d1))
    have e1 := Nat.div_mul_cancel (Nat.gcd_dvd_left c.natAbs d.natAbs)
    rw [h1, Nat.one_mul] at e1
    exact Int.natAbs_dvd_natAbs.mp (e1 ▸ Nat.gcd_dvd_right c.natAbs d.natAbs)
  have a1 := side hw hv nv nw hc hd key
  have a2 := side hv hw nw nv hd hc fun x => (key x).symm
  have e : c = d := Int.dvd_antisymm (by omega) (by omega) a1 a2
  subst e
  exact sorted_ext hw.sorted hv.sorted hw.pos hv.pos fun x => Int.eq_of_mul_eq_mul_left (by omega) (key x)
theorem ms_perm {α : Type} {a b : List (α × Int)} (h : a.Perm b) (φ : α → Int) : ms a φ = ms b φ := by
  induction h with
  | nil => rfl
  | cons x _ ih => simp only [ms_cons, ih]
  | swap x y l => simp only [ms_cons]; omega
  | trans _ _ h1 h2 => exact h1.trans h2
theorem ms_filter (kvs : List (Int × Int)) (φ : Int → Int) : ms (kvs.filter fun p => decide (p.2 ≠ 0)) φ = ms kvs φ := by
  induction kvs with
  | nil => rfl
  | cons p r ih =>
    rw [List.filter_cons]
    by_cases h : p.2 = 0
    · rw [if_neg (by simp [h]), ms_cons, ih, h]; simp
    · rw [if_pos (by simp [h]), ms_cons, ms_cons, ih]
theorem nrm_make {rows : List (Int × Int)} (nd : (rows.map (·.1)).Nodup) (pos : ∀ p ∈ rows, 0 < p.2) (ne : rows ≠ []) {ks : List Int} (hp : ks.Perm (rows.map (·.1))) (hs : ks.Pairwise (· ≤ ·)) {g : Int} (hg : 0 < g)
    (hd : ∀ p ∈ rows, g ∣ p.2) (hm : ∀ c : Int, (∀ p ∈ rows, c ∣ p.2) → c ∣ g) : Nrm (ks.map fun k => (k, getI rows k / g)) ∧ ∀ φ, g * ms (ks.map fun k => (k, getI rows k / g)) φ = ms rows φ := by
  have ndk : ks.Nodup := hp.nodup_iff.mpr nd
  have at_ : ∀ k ∈ ks, ∃ p ∈ rows, p.1 = k ∧ getI rows k = p.2 := fun k hk => by
    obtain ⟨p, h1, h2⟩ := List.mem_map.mp (hp.mem_iff.mp hk)
    exact ⟨p, h1, h2, by rw [← h2, getI_mem nd h1]⟩
  have ev : ∀ k ∈ ks, g * (getI rows k / g) = getI rows k := fun k hk => by
    obtain ⟨p, h1, _, h3⟩ := at_ k hk
    rw [h3]
    exact Int.mul_ediv_cancel' (hd p h1)
  refine ⟨⟨?_, ?_, ?_, ?_⟩, fun φ => ?_⟩
  · rw [List.pairwise_map]
    refine (List.Pairwise.and hs ndk).imp fun {a b} h => ?_
    show a < b
    have := h.1; have := h.2; omega
  · intro p hp2
    obtain ⟨k, hk, rfl⟩ := List.mem_map.mp hp2
    obtain ⟨p, h1, _, h3⟩ := at_ k hk
    have e := ev k hk
    have h5 := pos p h1
    show 0 < getI rows k / g
    rw [← h3, ← e] at h5
    exact Int.lt_of_mul_lt_mul_left (by rw [Int.mul_zero]; exact h5) (Int.le_of_lt hg)
  · intro z
    have z2 : ks = [] := List.map_eq_nil_iff.mp z
    rw [z2] at hp
    exact ne (List.map_eq_nil_iff.mp hp.symm.eq_nil)
  · intro c hc
    have : g * c ∣ g := hm _ fun p hp2 => by
      have hk : p.1 ∈ ks := hp.mem_iff.mpr (List.mem_map.mpr ⟨p, hp2, rfl⟩)
      have e := ev _ hk
      rw [getI_mem nd hp2] at e
      rw [← e]
      exact Int.mul_dvd_mul_left g (by have := hc (p.1, getI rows p.1 / g) (List.mem_map.mpr ⟨p.1, hk, rfl⟩); rw [getI_mem nd hp2] at this; exact this)
    obtain ⟨d, hd⟩ := this
    have h1 : (c : Int) * d = 1 := by
      have : g * (c * d) = g * 1 := by rw [← Int.mul_assoc, ← hd, Int.mul_one]
      exact Int.eq_of_mul_eq_mul_left (by omega) this
    have h2 : ((c : Nat) : Int) ∣ ((1 : Nat) : Int) := ⟨d, by rw [h1]; rfl⟩
    exact Nat.dvd_one.mp (Int.natCast_dvd_natCast.mp h2)
  · have e1 : ∀ l : List Int, (∀ k ∈ l, k ∈ ks) → g * ms (l.map fun k => (k, getI rows k / g)) φ = ms (l.map fun k => (k, getI rows k)) φ := by
      intro l
      induction l with
      | nil => intro _; simp
      | cons a l ih =>
        intro h
        have e := ev a (h a (by simp))
        have i := ih fun k hk => h k (by simp [hk])
        simp only [List.map_cons, ms_cons]
        rw [Int.mul_add, i, ← Int.mul_assoc, e]
    rw [e1 ks fun _ h => h]
    have e2 : (ks.map fun k => (k, getI rows k)).Perm rows := by
      have := hp.map fun k => (k, getI rows k)
      rw [List.map_map] at this
      refine this.trans (List.Perm.of_eq ?_)
      conv => rhs; rw [← List.map_id rows]
      refine List.map_congr_left fun p hp => ?_
      show (p.1, getI rows p.1) = p
      rw [getI_mem nd hp]
    exact ms_perm e2 φ
end KM
end
/-! M3 -/
section
set_option autoImplicit false
namespace KM
def sumr : Nat → (Nat → Int) → Int
  | 0, _ => 0
  | n + 1, f => sumr n f + f n
theorem sumr_congr {f g : Nat → Int} : ∀ {n : Nat}, (∀ i, i < n → f i = g i) → sumr n f = sumr n g
  | 0, _ => rfl
  | n + 1, h => by
    unfold sumr
    rw [sumr_congr (n := n) fun i hi => h i (by omega), h n (by omega)]
theorem sumr_zero : ∀ {n : Nat}, sumr n (fun _ => 0) = 0
  | 0 => rfl
  | n + 1 => by unfold sumr; rw [sumr_zero]; rfl
theorem sumr_nonneg {f : Nat → Int} : ∀ {n : Nat}, (∀ i, i < n → 0 ≤ f i) → 0 ≤ sumr n f
  | 0, _ => Int.le_refl _
  | n + 1, h => by
    unfold sumr
    have := sumr_nonneg (n := n) fun i hi => h i (by omega)
    have := h n (by omega)
    omega
/-- one term alone -/
theorem sumr_one {f : Nat → Int} {k : Nat} : ∀ {n : Nat}, k < n → (∀ i, i < n → i ≠ k → f i = 0) → sumr n f = f k
  | 0, h, _ => by omega
  | n + 1, h, hz => by
    unfold sumr
    by_cases e : k = n
    · subst e
      rw [sumr_congr (g := fun _ => 0) fun i hi => hz i (by omega) (by omega), sumr_zero]
      omega
    · rw [sumr_one (k := k) (n := n) (by omega) fun i hi hk => hz i (by omega) hk, hz n (by omega) (fun z => e z.symm)]
      omega
/-! ### dice -/
def E (s : Nat) (φ : Int → Int) : Int → Int := fun a => sumr s fun i => φ (a + (1 + (i : Int)))
def Ep (s : Nat) : Nat → (Int → Int) → Int → Int
  | 0, φ => φ
  | n + 1, φ => Ep s n (E s φ)
theorem E_shift (s : Nat) (φ : Int → Int) (x z : Int) : E s (fun y => φ (x + y)) z = E s φ (x + z) := by
  unfold E
  exact sumr_congr fun i _ => by rw [Int.add_assoc]
theorem Ep_shift (s : Nat) : ∀ (n : Nat) (φ : Int → Int) (x z : Int), Ep s n (fun y => φ (x + y)) z = Ep s n φ (x + z)
  | 0, _, _, _ => rfl
  | n + 1, φ, x, z => by
    unfold Ep
    rw [← Ep_shift s n (E s φ) x z]
    congr 1
    funext y
    exact E_shift s φ x y
theorem Ep_add (s : Nat) (m : Nat) : ∀ (n : Nat) (φ : Int → Int) (x : Int), Ep s (m + n) φ x = Ep s m (Ep s n φ) x
  | 0, _, _ => rfl
  | n + 1, φ, x => by
    show Ep s (m + n) (E s φ) x = Ep s m (Ep s n (E s φ)) x
    exact Ep_add s m n (E s φ) x
theorem Ep_conv (s m n : Nat) (φ : Int → Int) : Ep s m (fun x => Ep s n (fun y => φ (x + y)) 0) 0 = Ep s (m + n) φ 0 := by
  rw [Ep_add]
  congr 1
  funext x
  rw [Ep_shift, Int.add_zero]
theorem E_const (s : Nat) (c : Int) : E s (fun _ => c) = fun _ => s * c := by
  funext a
  unfold E
  induction s with
  | zero => simp [sumr]
  | succ n ih => unfold sumr; rw [ih]; grind
theorem Ep_const (s : Nat) : ∀ (n : Nat) (c : Int) (x : Int), Ep s n (fun _ => c) x = (s : Int) ^ n * c
  | 0, c, x => by simp [Ep]
  | n + 1, c, x => by
    unfold Ep
    rw [E_const, Ep_const s n, Int.pow_succ]
    grind
/-! ### a spread by a functional, up to a scalar -/
abbrev Fn := (Int → Int) → Int
def Spr (ws : List (Int × Int)) (F : Fn) : Prop := Nrm ws ∧ ∃ g : Int, 0 < g ∧ ∀ φ, g * ms ws φ = F φ
theorem Spr.unique {ws vs : List (Int × Int)} {F G : Fn} {c d : Int} (a : Spr ws F) (b : Spr vs G) (hc : 0 < c) (hd : 0 < d) (h : ∀ φ, c * F φ = d * G φ) : ws = vs := by
  obtain ⟨na, g, hg, ea⟩ := a
  obtain ⟨nb, k, hk, eb⟩ := b
  refine nrm_unique na nb (c := c * g) (d := d * k) (Int.mul_pos hc hg) (Int.mul_pos hd hk) fun φ => ?_
  rw [Int.mul_assoc, Int.mul_assoc, ea, eb, h]
theorem Spr.same {ws vs : List (Int × Int)} {F G : Fn} (a : Spr ws F) (b : Spr vs G) (h : ∀ φ, F φ = G φ) : ws = vs :=
  Spr.unique (c := 1) (d := 1) a b (by decide) (by decide) fun φ => by rw [h]
theorem Spr.congr {ws : List (Int × Int)} {F G : Fn} (a : Spr ws F) (h : ∀ φ, F φ = G φ) : Spr ws G := by
  obtain ⟨na, g, hg, ea⟩ := a
  exact ⟨na, g, hg, fun φ => by rw [ea, h]⟩
theorem Spr.scale {ws : List (Int × Int)} {F G : Fn} {c : Int} (a : Spr ws F) (hc : 0 < c) (h : ∀ φ, c * F φ = G φ) : Spr ws G := by
  obtain ⟨na, g, hg, ea⟩ := a
  exact ⟨na, c * g, Int.mul_pos hc hg, fun φ => by rw [Int.mul_assoc, ea, h]⟩
/-- the sum of two -/
theorem Spr.added {wa wb ws : List (Int × Int)} {F G : Fn} (a : Spr wa F) (b : Spr wb G) (h : Spr ws fun φ => ms wa fun x => ms wb fun y => φ (x + y)) : Spr ws fun φ => F fun x => G fun y => φ (x + y) := by
  obtain ⟨na, g, hg, ea⟩ := a
  obtain ⟨nb, k, hk, eb⟩ := b
  refine h.scale (c := g * k) (Int.mul_pos hg hk) fun φ => ?_
  rw [← ea]
  have : (fun x => G fun y => φ (x + y)) = fun x => k * ms wb fun y => φ (x + y) := by funext x; rw [eb]
  rw [this, ms_mul, Int.mul_assoc]
theorem ms_le_one {ws : List (Int × Int)} (pos : ∀ p ∈ ws, 0 ≤ p.2) : ∀ p ∈ ws, p.2 ≤ ms ws fun _ => 1 := by
  induction ws with
  | nil => intro p hp; cases hp
  | cons a l ih =>
    intro p hp
    rw [ms_cons]
    have h1 := pos a (by simp)
    have h2 := ms_nonneg (l := l) (φ := fun _ => 1) (fun p hp => pos p (by simp [hp])) fun _ => by decide
    rcases List.mem_cons.mp hp with rfl | hp
    · omega
    · have := ih (fun p hp => pos p (by simp [hp])) p hp
      omega
theorem Spr.le {ws : List (Int × Int)} {F : Fn} (a : Spr ws F) : 0 < (ms ws fun _ => 1) ∧ (ms ws fun _ => 1) ≤ F fun _ => 1 := by
  obtain ⟨na, g, hg, ea⟩ := a
  have h0 : 0 < ms ws fun _ => 1 := by
    cases ws with
    | nil => exact absurd rfl na.ne
    | cons p l =>
      rw [ms_cons]
      have := na.pos p (by simp)
      have := ms_nonneg (l := l) (φ := fun _ => 1) (fun p hp => Int.le_of_lt (na.pos p (by simp [hp]))) fun _ => by decide
      omega
  refine ⟨h0, ?_⟩
  rw [← ea]
  have : 1 * (ms ws fun _ => 1) ≤ g * ms ws fun _ => 1 := Int.mul_le_mul_of_nonneg_right (by omega) (by omega)
  omega
/-! ### binomials -/
def bin : Nat → Nat → Nat
  | _, 0 => 1
  | 0, _ + 1 => 0
  | n + 1, k + 1 => bin n k + bin n (k + 1)
theorem bin_gt : ∀ {n k : Nat}, n < k → bin n k = 0
  | 0, k + 1, _ => rfl
  | n + 1, k + 1, h => by unfold bin; rw [bin_gt (by omega), bin_gt (by omega)]
theorem bin_self : ∀ n : Nat, bin n n = 1
  | 0 => rfl
  | n + 1 => by unfold bin; rw [bin_self, bin_gt (by omega)]
theorem bin_zero (n : Nat) : bin n 0 = 1 := by cases n <;> rfl
theorem bin_mul : ∀ n k : Nat, (bin n (k + 1) : Int) * (k + 1) = bin n k * ((n : Int) - k)
  | 0, 0 => by decide
  | 0, k + 1 => by simp [bin]
  | n + 1, 0 => by
    have h := bin_mul n 0
    rw [bin_zero] at h ⊢
    unfold bin
    rw [bin_zero]
    push_cast at h ⊢
    omega
  | n + 1, k + 1 => by
    have h1 := bin_mul n k
    have h2 := bin_mul n (k + 1)
    show ((bin n (k + 1) + bin n (k + 2) : Nat) : Int) * ((k + 1 : Nat) + 1) = ((bin n k + bin n (k + 1) : Nat) : Int) * (((n + 1 : Nat) : Int) - ((k + 1 : Nat) : Int))
    push_cast at h1 h2 ⊢
    grind
theorem bin_step (n k : Nat) : ((bin n k : Int) * ((n : Int) - k)) / ((k : Int) + 1) = bin n (k + 1) := by
  rw [← bin_mul]
  exact Int.mul_ediv_cancel _ (by omega)
theorem bin_le_pow : ∀ n k : Nat, bin n k ≤ 2 ^ n
  | n, 0 => by rw [bin_zero]; exact Nat.one_le_two_pow
  | 0, k + 1 => by simp [bin]
  | n + 1, k + 1 => by
    unfold bin
    have := bin_le_pow n k
    have := bin_le_pow n (k + 1)
    rw [Nat.pow_succ]; omega
end KM
end
/-! M4 -/
section
set_option autoImplicit false
namespace KM
/-! parts as rationals -/
theorem rat_self (q : Rat) : Rat.divInt q.num q.den = q := Rat.num_divInt_den q
theorem rat_plus (a b : Rat) : Rat.divInt (a.num * b.den + b.num * a.den) (a.den * b.den) = a + b := by
  have h := Rat.divInt_add_divInt a.num b.num (d₁ := a.den) (d₂ := b.den) (by have := a.den_nz; omega) (by have := b.den_nz; omega)
  rw [rat_self, rat_self] at h
  exact h.symm
theorem rat_minus (a b : Rat) : Rat.divInt (a.num * b.den - b.num * a.den) (a.den * b.den) = a - b := by
  have h := rat_plus a (-b)
  rw [Rat.neg_num, Rat.neg_den] at h
  rw [Rat.sub_eq_add_neg, ← h]
  congr 1
  grind
theorem rat_times (a b : Rat) : Rat.divInt (a.num * b.num) (a.den * b.den) = a * b := by
  have h := Rat.divInt_mul_divInt a.num b.num (d₁ := a.den) (d₂ := b.den)
  rw [rat_self, rat_self] at h
  exact h.symm
theorem part_num (a b : Int) : (Rat.divInt a b).num = (if 0 < b then 1 else if b = 0 then 0 else -1) * a / ((Int.gcd a b : Nat) : Int) := by
  rw [Rat.num_divInt, Int.gcd_comm]
  congr 2
  rcases Int.lt_trichotomy b 0 with h | h | h
  · rw [Int.sign_eq_neg_one_of_neg h, if_neg (by omega), if_neg (by omega)]
  · subst h; rfl
  · rw [Int.sign_eq_one_of_pos h, if_pos h]
theorem part_den {a b : Int} (hb : b ≠ 0) : ((Rat.divInt a b).den : Int) = (if 0 < b then 1 else -1) * b / ((Int.gcd a b : Nat) : Int) := by
  rw [Rat.den_divInt, if_neg hb, Int.gcd_comm]
  rw [Int.natCast_ediv]
  congr 1
  split <;> omega
/-! denominators -/
def Dv (M : Nat) (q : Rat) : Prop := ∃ k : Int, q * (M : Rat) = (k : Rat)
theorem Dv.add {M : Nat} {p q : Rat} (a : Dv M p) (b : Dv M q) : Dv M (p + q) := by
  obtain ⟨k, hk⟩ := a
  obtain ⟨l, hl⟩ := b
  exact ⟨k + l, by rw [Rat.add_mul, hk, hl, Rat.intCast_add]⟩
theorem Dv.neg {M : Nat} {p : Rat} (a : Dv M p) : Dv M (-p) := by
  obtain ⟨k, hk⟩ := a
  exact ⟨-k, by rw [Rat.neg_mul, hk, Rat.intCast_neg]⟩
theorem Dv.sub {M : Nat} {p q : Rat} (a : Dv M p) (b : Dv M q) : Dv M (p - q) := by
  rw [Rat.sub_eq_add_neg]
  exact a.add b.neg
theorem Dv.mul {M N : Nat} {p q : Rat} (a : Dv M p) (b : Dv N q) : Dv (M * N) (p * q) := by
  obtain ⟨k, hk⟩ := a
  obtain ⟨l, hl⟩ := b
  refine ⟨k * l, ?_⟩
  rw [Rat.intCast_mul, ← hk, ← hl, Rat.natCast_mul]
  grind
theorem Dv.int {M : Nat} (z : Int) : Dv M (z : Rat) := ⟨z * M, by rw [Rat.intCast_mul]; rfl⟩
theorem Dv.zero {M : Nat} : Dv M 0 := ⟨0, by simp⟩
theorem Dv.one {M : Nat} : Dv M 1 := ⟨M, by rw [Rat.one_mul]; rfl⟩
theorem Dv.of_dvd {M N : Nat} {p : Rat} (a : Dv M p) (h : M ∣ N) : Dv N p := by
  obtain ⟨c, rfl⟩ := h
  have := a.mul (q := 1) (N := c) Dv.one
  rwa [Rat.mul_one] at this
theorem Dv.div {a : Int} {M : Nat} (hM : 0 < M) : Dv M (Rat.divInt a M) := ⟨a, by
  have h : (M : Rat) ≠ 0 := fun e => by
    have := Rat.natCast_inj.mp (show ((M : Nat) : Rat) = ((0 : Nat) : Rat) from e)
    omega
  rw [Rat.divInt_eq_div]
  show (a : Rat) / ((M : Int) : Rat) * (M : Rat) = a
  rw [Rat.intCast_natCast, Rat.div_mul_cancel h]⟩
theorem Dv.den {M : Nat} {q : Rat} (hM : 0 < M) (h : Dv M q) : q.den ∣ M := by
  obtain ⟨k, hk⟩ := h
  have hz : (M : Rat) ≠ 0 := fun e => by
    have := Rat.natCast_inj.mp (show ((M : Nat) : Rat) = ((0 : Nat) : Rat) from e)
    omega
  have e : q = Rat.divInt k M := by
    rw [Rat.divInt_eq_div, Rat.intCast_natCast, ← hk, Rat.mul_div_cancel hz]
  rw [e, Rat.den_divInt, if_neg (by omega)]
  exact Nat.div_dvd_of_dvd (Int.gcd_dvd_natAbs_left _ _)
/-- below two to the k -/
def Ln (n k : Nat) : Prop := n < 2 ^ k
theorem Ln.mk {n k : Nat} (h : n < 2 ^ k) : Ln n k := h
theorem Ln.up {n a b : Nat} (h : Ln n a) (hab : a ≤ b) : Ln n b := Nat.lt_of_lt_of_le h (Nat.pow_le_pow_right (by decide) hab)
theorem Ln.le {m n a : Nat} (h : Ln n a) (hmn : m ≤ n) : Ln m a := Nat.lt_of_le_of_lt hmn h
theorem Ln.mul {m n a b : Nat} (h : Ln m a) (g : Ln n b) : Ln (m * n) (a + b) := by
  unfold Ln at *
  rw [Nat.pow_add]
  exact Nat.mul_lt_mul'' h g
theorem Ln.add {m n a : Nat} (h : Ln m a) (g : Ln n a) : Ln (m + n) (a + 1) := by
  unfold Ln at *
  rw [Nat.pow_succ]; omega
theorem Ln.zero {k : Nat} : Ln 0 k := Nat.two_pow_pos k
theorem Ln.one {k : Nat} (h : 0 < k := by decide) : Ln 1 k := Nat.one_lt_two_pow (by omega)
theorem Ln.pow {m a : Nat} (h : Ln m a) (ha : 0 < a) : ∀ t : Nat, Ln (m ^ t) (a * t + 1)
  | 0 => by rw [Nat.pow_zero]; exact Ln.one (by omega)
  | t + 1 => by
    have i := Ln.pow h ha t
    rw [Nat.pow_succ]
    exact (i.mul h).up (by rw [Nat.mul_add]; omega)
/-- a whole number below two to the k, either way -/
def Lt2 (i : Int) (k : Nat) : Prop := Ln i.natAbs k
theorem Lt2.up {i : Int} {a b : Nat} (h : Lt2 i a) (hab : a ≤ b := by decide) : Lt2 i b := Ln.up h hab
theorem Lt2.mul {i j : Int} {a b : Nat} (h : Lt2 i a) (g : Lt2 j b) : Lt2 (i * j) (a + b) := by
  unfold Lt2
  rw [Int.natAbs_mul]
  exact Ln.mul h g
theorem Lt2.add {i j : Int} {a : Nat} (h : Lt2 i a) (g : Lt2 j a) : Lt2 (i + j) (a + 1) := (Ln.add h g).le (Int.natAbs_add_le i j)
theorem Lt2.sub {i j : Int} {a : Nat} (h : Lt2 i a) (g : Lt2 j a) : Lt2 (i - j) (a + 1) := (Ln.add h g).le (by omega)
theorem Lt2.of {i : Int} {a : Nat} (h0 : -(2 ^ a) < i) (h1 : i < 2 ^ a) : Lt2 i a := by
  unfold Lt2 Ln
  have e : ((2 ^ a : Nat) : Int) = 2 ^ a := by push_cast; rfl
  omega
theorem Lt2.nn {i : Int} {a : Nat} (h0 : 0 ≤ i) (h1 : i < 2 ^ a) : Lt2 i a := Lt2.of (by have : (0 : Int) < 2 ^ a := Int.pow_pos (by decide); omega) h1
theorem Lt2.le {i j : Int} {a : Nat} (h : Lt2 j a) (h0 : 0 ≤ i) (h1 : i ≤ j) : Lt2 i a := Ln.le h (by omega)
theorem Lt2.zero {k : Nat} : Lt2 0 k := Ln.zero
theorem Lt2.one {k : Nat} (h : 0 < k := by decide) : Lt2 1 k := Ln.one h
/-- small enough for every rule -/
def sm (q : Rat) : Prop := Lt2 q.num 1000 ∧ Ln q.den 1000
theorem num_le {q : Rat} {B : Nat} (h0 : -(B : Rat) ≤ q) (h1 : q ≤ (B : Rat)) : q.num.natAbs ≤ B * q.den := by
  have hd : (0 : Rat) < (q.den : Rat) := by
    have := q.den_pos
    have h := Rat.natCast_lt_natCast.mpr this
    exact h
  have e : (q.num : Rat) = q * (q.den : Rat) := by
    have h := rat_self q
    rw [Rat.divInt_eq_div, Rat.intCast_natCast] at h
    have hz : (q.den : Rat) ≠ 0 := fun z => by rw [z] at hd; exact absurd hd (by decide)
    conv => rhs; lhs; rw [← h]
    rw [Rat.div_mul_cancel hz]
  have a1 : ((q.num : Int) : Rat) ≤ ((B * q.den : Int) : Rat) := by
    rw [e, Rat.intCast_mul]
    exact Rat.mul_le_mul_of_nonneg_right h1 (Rat.le_of_lt hd)
  have a2 : ((-(B * q.den) : Int) : Rat) ≤ ((q.num : Int) : Rat) := by
    rw [e, Rat.intCast_neg, Rat.intCast_mul]
    have := Rat.mul_le_mul_of_nonneg_right h0 (Rat.le_of_lt hd)
    rw [Rat.neg_mul] at this
    exact this
  have b1 := Rat.intCast_le_intCast.mp a1
  have b2 := Rat.intCast_le_intCast.mp a2
  have : ((B * q.den : Nat) : Int) = (B : Int) * (q.den : Int) := by push_cast; rfl
  omega
theorem sm_of {q : Rat} {M B : Nat} (hM : 0 < M) (d : Dv M q) (h0 : -(B : Rat) ≤ q) (h1 : q ≤ (B : Rat)) (h : Ln (M * B) 1000) (h2 : Ln M 1000) : sm q := by
  have dl := Nat.le_of_dvd hM (d.den hM)
  refine ⟨Ln.le h (Nat.le_trans (num_le h0 h1) ?_), h2.le dl⟩
  rw [Nat.mul_comm]
  exact Nat.mul_le_mul_right _ dl
theorem sm_unit {q : Rat} {M : Nat} (hM : 0 < M) (d : Dv M q) (h0 : 0 ≤ q) (h1 : q ≤ 1) (h : Ln M 1000) : sm q :=
  sm_of (B := 1) hM d (Rat.le_trans (by decide) h0) h1 (by rw [Nat.mul_one]; exact h) h
end KM
end
/-! M5 -/
section
set_option autoImplicit false
namespace KM
/-! ### balls in lots -/
def ont (m f : Nat) : Int := sumr (f + 1) fun j => (if j % 2 = 0 then 1 else -1) * (bin f j : Int) * (((f : Int) - j) ^ m)
theorem ont_zero : ∀ f : Nat, f < 13 → ont 0 f = if f = 0 then 1 else 0 := by decide +kernel
theorem ont_step : ∀ m : Nat, m < 20 → ∀ f : Nat, f < 12 → ont (m + 1) (f + 1) = ((f : Int) + 1) * (ont m (f + 1) + ont m f) := by decide +kernel
theorem ont_none : ∀ m : Nat, m < 20 → ont (m + 1) 0 = 0 := by decide +kernel
theorem ont_pos : ∀ m : Nat, m < 20 → ∀ f : Nat, f < 13 → 0 ≤ ont m f := by decide +kernel
def fil (lots : Nat) : Nat → Nat → Int
  | 0, k => if k = 0 then 1 else 0
  | m + 1, 0 => 0
  | m + 1, k + 1 => fil lots m (k + 1) * ((k : Int) + 1) + fil lots m k * ((lots : Int) - k)
theorem fil_eq (lots : Nat) (hl : lots ≤ 12) : ∀ m : Nat, m ≤ 20 → ∀ k : Nat, k ≤ lots → fil lots m k = (bin lots k : Int) * ont m k
  | 0, _, k, hk => by
    rw [ont_zero k (by omega)]
    unfold fil
    by_cases h : k = 0
    · subst h; simp [bin_zero]
    · simp [h]
  | m + 1, hm, 0, _ => by
    rw [ont_none m (by omega)]; simp [fil]
  | m + 1, hm, k + 1, hk => by
    have h1 := fil_eq lots hl m (by omega) (k + 1) hk
    have h2 := fil_eq lots hl m (by omega) k (by omega)
    have h3 := ont_step m (by omega) k (by omega)
    have h4 := bin_mul lots k
    unfold fil
    rw [h1, h2, h3]
    grind
/-! ### overlaps undone -/
def ovl (n v c : Nat) : Int := sumr (n + 1) fun s => if s < c then 0 else (if (s - c) % 2 = 0 then 1 else -1) * ((bin s c : Int) * (bin v s : Int))
theorem ovl_self : ∀ v : Nat, v < 13 → ∀ c : Nat, c < 13 → ovl v v c = if v = c then 1 else 0 := by decide +kernel
theorem sumr_more {f : Nat → Int} : ∀ {n k : Nat}, (∀ i, n ≤ i → f i = 0) → sumr (n + k) f = sumr n f
  | _, 0, _ => rfl
  | n, k + 1, h => by
    show sumr (n + k) f + f (n + k) = sumr n f
    rw [sumr_more h, h _ (by omega)]; omega
theorem ovl_eq {n v c : Nat} (hv : v ≤ n) (hn : n ≤ 12) (hc : c ≤ n) : ovl n v c = if v = c then 1 else 0 := by
  rw [← ovl_self v (by omega) c (by omega)]
  unfold ovl
  rw [show n + 1 = (v + 1) + (n - v) by omega]
  exact sumr_more fun i hi => by
    split
    · rfl
    · rw [bin_gt (show v < i by omega)]; simp
/-! ### rings -/
def fac : Nat → Nat
  | 0 => 1
  | n + 1 => fac n * (n + 1)
/-- n (n - 1) .. (n - k + 1) -/
def ff (n : Int) : Nat → Int
  | 0 => 1
  | k + 1 => ff n k * (n - k)
theorem bin_fac (n : Nat) : ∀ k : Nat, (bin n k : Int) * (fac k : Int) = ff n k
  | 0 => by simp [bin_zero, fac, ff]
  | k + 1 => by
    have h := bin_fac n k
    have h2 := bin_mul n k
    unfold fac ff
    push_cast
    rw [← h]
    grind
/-! ### sums of rationals -/
def sumq : Nat → (Nat → Rat) → Rat
  | 0, _ => 0
  | n + 1, f => sumq n f + f n
theorem sumq_s (n : Nat) (f : Nat → Rat) : sumq (n + 1) f = sumq n f + f n := rfl
theorem sumq_congr {f g : Nat → Rat} : ∀ {n : Nat}, (∀ i, i < n → f i = g i) → sumq n f = sumq n g
  | 0, _ => rfl
  | n + 1, h => by
    unfold sumq
    rw [sumq_congr (n := n) fun i hi => h i (by omega), h n (by omega)]
theorem sumq_zero : ∀ {n : Nat}, sumq n (fun _ => 0) = 0
  | 0 => rfl
  | n + 1 => by rw [sumq_s, sumq_zero]; grind
theorem sumq_add (f g : Nat → Rat) : ∀ n : Nat, sumq n (fun i => f i + g i) = sumq n f + sumq n g
  | 0 => by show (0 : Rat) = 0 + 0; grind
  | n + 1 => by simp only [sumq_s]; rw [sumq_add f g n]; grind
theorem sumq_mul (c : Rat) (f : Nat → Rat) : ∀ n : Nat, sumq n (fun i => c * f i) = c * sumq n f
  | 0 => by simp [sumq]
  | n + 1 => by simp only [sumq_s]; rw [sumq_mul c f n]; grind
theorem sumq_mulr (c : Rat) (f : Nat → Rat) (n : Nat) : sumq n (fun i => f i * c) = sumq n f * c := by
  rw [Rat.mul_comm, ← sumq_mul]
  exact sumq_congr fun i _ => Rat.mul_comm _ _
theorem sumq_swap (f : Nat → Nat → Rat) (m : Nat) : ∀ n : Nat, sumq n (fun i => sumq m fun j => f i j) = sumq m fun j => sumq n fun i => f i j
  | 0 => by simp [sumq, sumq_zero]
  | n + 1 => by
    show sumq n (fun i => sumq m fun j => f i j) + (sumq m fun j => f n j) = sumq m fun j => sumq n (fun i => f i j) + f n j
    rw [sumq_swap f m n, ← sumq_add]
theorem sumq_nonneg {f : Nat → Rat} : ∀ {n : Nat}, (∀ i, i < n → 0 ≤ f i) → 0 ≤ sumq n f
  | 0, _ => Rat.le_refl
  | n + 1, h => by
    unfold sumq
    exact Rat.add_nonneg (sumq_nonneg (n := n) fun i hi => h i (by omega)) (h n (by omega))
theorem sumq_le {f : Nat → Rat} : ∀ {n k : Nat}, (∀ i, i < n → 0 ≤ f i) → k ≤ n → sumq k f ≤ sumq n f
  | 0, k, _, h => by
    obtain rfl : k = 0 := by omega
    exact Rat.le_refl
  | n + 1, k, h, hk => by
    by_cases e : k = n + 1
    · subst e; exact Rat.le_refl
    · have i := sumq_le (n := n) (k := k) (fun i hi => h i (by omega)) (by omega)
      have p := h n (by omega)
      rw [sumq_s]
      grind
theorem sumq_at {f : Nat → Rat} {k : Nat} : ∀ {n : Nat}, k < n → (∀ i, i < n → i ≠ k → f i = 0) → sumq n f = f k
  | 0, h, _ => by omega
  | n + 1, h, hz => by
    unfold sumq
    by_cases e : k = n
    · subst e
      rw [sumq_congr (g := fun _ => 0) fun i hi => hz i (by omega) (by omega), sumq_zero]
      grind
    · rw [sumq_at (k := k) (n := n) (by omega) fun i hi hk => hz i (by omega) hk, hz n (by omega) (fun z => e z.symm)]
      grind
theorem sumq_ge {f : Nat → Rat} {n k : Nat} (h : ∀ i, i < n → 0 ≤ f i) (hk : k < n) : f k ≤ sumq n f := by
  have a := sumq_le (n := n) (k := k + 1) h (by omega)
  have b := sumq_nonneg (n := k) (f := f) fun i hi => h i (by omega)
  rw [sumq_s] at a
  grind
theorem Dv.sumq {M : Nat} {f : Nat → Rat} : ∀ {n : Nat}, (∀ i, i < n → Dv M (f i)) → Dv M (sumq n f)
  | 0, _ => Dv.zero
  | n + 1, h => by
    unfold KM.sumq
    exact (Dv.sumq (n := n) fun i hi => h i (by omega)).add (h n (by omega))
/-! ### walks -/
/-- one step: v over many places, by the rows R -/
def stp (m : Nat) (R : Nat → Nat → Rat) (v : Nat → Rat) : Nat → Rat := fun k => sumq m fun j => v j * R j k
def itr (m : Nat) (R : Nat → Nat → Rat) (v : Nat → Rat) : Nat → Nat → Rat
  | 0 => v
  | t + 1 => stp m R (itr m R v t)
def unit (k : Nat) : Nat → Rat := fun i => if i = k then 1 else 0
theorem itr_lin (m : Nat) (R : Nat → Nat → Rat) (v : Nat → Rat) : ∀ (t c : Nat), c < m → itr m R v t c = sumq m fun k => v k * itr m R (unit k) t c
  | 0, c, hc => by
    show v c = _
    rw [sumq_at (k := c) hc fun i _ hi => ?_]
    · show v c = v c * unit c c
      unfold unit; rw [if_pos rfl]; grind
    · show v i * unit i c = 0
      unfold unit; rw [if_neg (fun z => hi z.symm)]; grind
  | t + 1, c, hc => by
    show sumq m (fun j => itr m R v t j * R j c) = sumq m fun k => v k * sumq m fun j => itr m R (unit k) t j * R j c
    rw [sumq_congr (g := fun j => sumq m fun k => v k * (itr m R (unit k) t j * R j c)) fun j hj => ?_]
    · rw [sumq_swap]
      exact sumq_congr fun k _ => by rw [sumq_mul]
    · rw [itr_lin m R v t j hj, ← sumq_mulr]
      exact sumq_congr fun k _ => by rw [Rat.mul_assoc]
structure Row (m : Nat) (v : Nat → Rat) : Prop where
  nn : ∀ i, i < m → 0 ≤ v i
  one : sumq m v = 1
theorem Row.le {m : Nat} {v : Nat → Rat} (r : Row m v) {i : Nat} (h : i < m) : v i ≤ 1 := by
  have := sumq_ge r.nn h
  rw [r.one] at this; exact this
theorem Row.part {m : Nat} {v : Nat → Rat} (r : Row m v) {k : Nat} (h : k ≤ m) : 0 ≤ sumq k v ∧ sumq k v ≤ 1 := by
  refine ⟨sumq_nonneg fun i hi => r.nn i (by omega), ?_⟩
  have := sumq_le r.nn h
  rw [r.one] at this; exact this
theorem Row.stp {m : Nat} {R : Nat → Nat → Rat} {v : Nat → Rat} (r : Row m v) (hR : ∀ j, j < m → Row m (R j)) : Row m (stp m R v) := by
  refine ⟨fun k hk => sumq_nonneg fun j hj => Rat.mul_nonneg (r.nn j hj) ((hR j hj).nn k hk), ?_⟩
  unfold KM.stp
  rw [sumq_swap]
  rw [sumq_congr (g := v) fun j hj => ?_, r.one]
  rw [sumq_mul, (hR j hj).one, Rat.mul_one]
theorem Row.itr {m : Nat} {R : Nat → Nat → Rat} {v : Nat → Rat} (r : Row m v) (hR : ∀ j, j < m → Row m (R j)) : ∀ t : Nat, Row m (itr m R v t)
  | 0 => r
  | t + 1 => (Row.itr r hR t).stp hR
theorem Row.unit {m k : Nat} (h : k < m) : Row m (unit k) := by
  refine ⟨fun i _ => ?_, ?_⟩
  · unfold KM.unit; split <;> decide
  · rw [sumq_at (k := k) h fun i _ hi => ?_]
    · unfold KM.unit; rw [if_pos rfl]
    · unfold KM.unit; rw [if_neg hi]
theorem Dv.itr {m A B : Nat} {R : Nat → Nat → Rat} {v : Nat → Rat} (hv : ∀ i, i < m → Dv A (v i)) (hR : ∀ j, j < m → ∀ k, k < m → Dv B (R j k)) : ∀ (t i : Nat), i < m → Dv (A * B ^ t) (itr m R v t i)
  | 0, i, hi => by rw [Nat.pow_zero, Nat.mul_one]; exact hv i hi
  | t + 1, i, hi => by
    rw [Nat.pow_succ, ← Nat.mul_assoc]
    exact Dv.sumq fun j hj => (Dv.itr hv hR t j hj).mul (hR j hj i hi)
/-! ### how many come -/
def hm (p : Nat → Rat) : Nat → Nat → Rat
  | 0, k => if k = 0 then 1 else 0
  | n + 1, 0 => (1 - p n) * hm p n 0
  | n + 1, k + 1 => (1 - p n) * hm p n (k + 1) + p n * hm p n k
theorem hm_gt (p : Nat → Rat) : ∀ (n k : Nat), n < k → hm p n k = 0
  | 0, k + 1, _ => by simp [hm]
  | n + 1, k + 1, h => by unfold hm; rw [hm_gt p n (k + 1) (by omega), hm_gt p n k (by omega)]; grind
theorem hm_sum (p : Nat → Rat) : ∀ (n : Nat), sumq (n + 1) (hm p n) = 1
  | 0 => by show (0 : Rat) + hm p 0 0 = 1; unfold hm; rw [if_pos rfl]; grind
  | n + 1 => by
    have e : ∀ k : Nat, sumq (k + 1) (hm p (n + 1)) = (1 - p n) * sumq (k + 1) (hm p n) + p n * sumq k (hm p n) := by
      intro k
      induction k with
      | zero => show (0 : Rat) + (1 - p n) * hm p n 0 = (1 - p n) * (0 + hm p n 0) + p n * 0; grind
      | succ k ih =>
        show sumq (k + 1) (hm p (n + 1)) + hm p (n + 1) (k + 1) = _
        rw [ih]
        show _ + ((1 - p n) * hm p n (k + 1) + p n * hm p n k) = (1 - p n) * (sumq (k + 1) (hm p n) + hm p n (k + 1)) + p n * (sumq k (hm p n) + hm p n k)
        grind
    rw [e (n + 1)]
    have h1 : sumq (n + 1 + 1) (hm p n) = 1 := by
      show sumq (n + 1) (hm p n) + hm p n (n + 1) = 1
      rw [hm_gt p n (n + 1) (by omega), hm_sum p n]; grind
    rw [h1, hm_sum p n]; grind
theorem hm_nn (p : Nat → Rat) (h : ∀ i, 0 ≤ p i ∧ p i ≤ 1) : ∀ (n k : Nat), 0 ≤ hm p n k
  | 0, k => by unfold hm; split <;> decide
  | n + 1, 0 => by
    unfold hm
    exact Rat.mul_nonneg (by have := (h n).2; grind) (hm_nn p h n 0)
  | n + 1, k + 1 => by
    unfold hm
    exact Rat.add_nonneg (Rat.mul_nonneg (by have := (h n).2; grind) (hm_nn p h n (k + 1))) (Rat.mul_nonneg (h n).1 (hm_nn p h n k))
theorem hm_dv (p : Nat → Rat) (B : Nat) (h : ∀ i, Dv B (p i)) : ∀ (n k : Nat), Dv (B ^ n) (hm p n k)
  | 0, k => by unfold hm; split <;> first | exact Dv.one | exact Dv.zero
  | n + 1, 0 => by
    rw [Nat.pow_succ, Nat.mul_comm]
    exact (Dv.one.sub (h n)).mul (hm_dv p B h n 0)
  | n + 1, k + 1 => by
    rw [Nat.pow_succ, Nat.mul_comm]
    exact ((Dv.one.sub (h n)).mul (hm_dv p B h n (k + 1))).add ((h n).mul (hm_dv p B h n k))
end KM
end
/-! M6 -/
section
set_option autoImplicit false
namespace KM
theorem gcd_mod {x y : Int} (hx : 0 ≤ x) (hy : 0 ≤ y) : Int.gcd (x % y) y = Int.gcd x y := by
  obtain ⟨a, rfl⟩ := Int.eq_ofNat_of_zero_le hx
  obtain ⟨b, rfl⟩ := Int.eq_ofNat_of_zero_le hy
  show Nat.gcd (a % b) b = Nat.gcd a b
  rw [Nat.gcd_comm a b, Nat.gcd_rec b a]
theorem sm.d {q : Rat} (h : sm q) : Lt2 ((q.den : Nat) : Int) 1000 := h.2
theorem den_ne (q : Rat) : ((q.den : Nat) : Int) ≠ 0 := by have := q.den_nz; omega
theorem den_mul_ne (p q : Rat) : ((p.den : Nat) : Int) * ((q.den : Nat) : Int) ≠ 0 := Int.mul_ne_zero (den_ne p) (den_ne q)
theorem plus_lt {p q : Rat} (hp : sm p) (hq : sm q) : Lt2 (p.num * (q.den : Int) + q.num * (p.den : Int)) 8000 := ((hp.1.mul hq.d).add (hq.1.mul hp.d)).up
theorem minus_lt {p q : Rat} (hp : sm p) (hq : sm q) : Lt2 (p.num * (q.den : Int) - q.num * (p.den : Int)) 8000 := ((hp.1.mul hq.d).sub (hq.1.mul hp.d)).up
theorem times_lt {p q : Rat} (hp : sm p) (hq : sm q) : Lt2 (p.num * q.num) 8000 := (hp.1.mul hq.1).up
theorem dens_lt {p q : Rat} (hp : sm p) (hq : sm q) : Lt2 ((p.den : Int) * (q.den : Int)) 8000 := (hp.d.mul hq.d).up
theorem sm_zero : sm 0 := ⟨Lt2.zero, Ln.one⟩
theorem sm_one : sm 1 := ⟨Lt2.one, Ln.one⟩
theorem gcd_pos {a b : Int} (hb : b ≠ 0) : 0 < ((Int.gcd a b : Nat) : Int) := by
  have := Int.gcd_pos_of_ne_zero_right a hb
  omega
theorem gcd_abs_lt {a b : Int} {k : Nat} (hb : b ≠ 0) (h : Lt2 b k) : Lt2 ((Int.gcd a b : Nat) : Int) k := by
  have h1 : Int.gcd a b ∣ b.natAbs := Int.gcd_dvd_natAbs_right a b
  have h2 := Nat.le_of_dvd (by omega) h1
  exact Ln.le h h2
/-- part's tuple -/
theorem part_pair {a b : Int} (hb : b ≠ 0) : (Rat.divInt a b).num = (if 0 < b then 1 else -1) * a / ((Int.gcd a b : Nat) : Int) ∧ ((Rat.divInt a b).den : Int) = (if 0 < b then 1 else -1) * b / ((Int.gcd a b : Nat) : Int) := by
  refine ⟨?_, part_den hb⟩
  rw [part_num]
  by_cases h : 0 < b
  · simp only [if_pos h]
  · simp only [if_neg h, if_neg hb]
end KM
end
/-! M7 -/
section
namespace KM
theorem E_zero {s : Nat} {φ : Int → Int} {z : Int} (h : ∀ i : Nat, i < s → φ (z + (1 + (i : Int))) = 0) : E s φ z = 0 := by
  unfold E
  rw [sumr_congr h]
  exact sumr_zero
theorem Ep_zero (s : Nat) : ∀ (n : Nat) (φ : Int → Int) (z : Int), (∀ y : Int, z + n ≤ y → y ≤ z + n * s → φ y = 0) → Ep s n φ z = 0
  | 0, φ, z, h => h z (by simp) (by simp)
  | n + 1, φ, z, h => by
    show Ep s n (E s φ) z = 0
    refine Ep_zero s n _ z fun y h1 h2 => E_zero fun i hi => h _ ?_ ?_
    · have : ((n + 1 : Nat) : Int) = n + 1 := by omega
      omega
    · have e : ((n + 1 : Nat) : Int) * s = n * s + s := by rw [show ((n + 1 : Nat) : Int) = n + 1 by omega, Int.add_mul, Int.one_mul]
      omega
theorem sorted_len : ∀ {ws : List (Int × Int)} {lo : Int} {n : Nat}, (ws.Pairwise fun p q => p.1 < q.1) → (∀ p ∈ ws, lo ≤ p.1 ∧ p.1 < lo + n) → ws.length ≤ n
  | [], _, _, _, _ => Nat.zero_le _
  | p :: ws, lo, n, hs, h => by
    have h0 := h p List.mem_cons_self
    cases n with
    | zero => omega
    | succ n =>
      have ih := sorted_len (ws := ws) (lo := lo + 1) (n := n) (List.pairwise_cons.mp hs).2 fun q hq => by
        have h1 := (List.pairwise_cons.mp hs).1 q hq
        have h2 := h q (List.mem_cons_of_mem _ hq)
        omega
      rw [List.length_cons]
      omega
/-- how many numbers a spread may have -/
theorem Spr.len {ws : List (Int × Int)} {F : Fn} (a : Spr ws F) {lo : Int} {n : Nat} (h : ∀ x, F (ind x) ≠ 0 → lo ≤ x ∧ x < lo + n) : ws.length ≤ n := by
  obtain ⟨N, g, hg, hF⟩ := a
  refine sorted_len (lo := lo) N.sorted fun p hp => h p.1 ?_
  rw [← hF, ms_ind (nodup_of_sorted N.sorted), getI_mem (nodup_of_sorted N.sorted) hp]
  exact Int.ne_of_gt (Int.mul_pos hg (N.pos p hp))
theorem dice_len {ws : List (Int × Int)} {s n : Nat} (a : Spr ws fun φ => Ep s n φ 0) (hs : 1 ≤ s) : ws.length ≤ n * s - n + 1 := by
  refine a.len (lo := n) fun x hx => ?_
  have hns : n ≤ n * s := Nat.le_mul_of_pos_right n hs
  refine Decidable.byContradiction fun z => hx (Ep_zero s n _ 0 fun y h1 h2 => ?_)
  unfold ind
  rw [if_neg]
  intro e
  subst e
  have : ((n * s : Nat) : Int) = n * s := Int.natCast_mul n s
  omega
theorem dice_whole {ws : List (Int × Int)} {s n : Nat} (a : Spr ws fun φ => Ep s n φ 0) : (ms ws fun _ => 1) ≤ (s : Int) ^ n := by
  have h := a.le.2
  rw [Ep_const] at h
  omega
theorem dice_lt {s n : Nat} (h1 : 1 ≤ s) (hs : s ≤ 30) (hn : n ≤ 20) : (s : Int) ^ n < 2 ^ 100 := by
  have e : (s : Int) ^ n = ((s ^ n : Nat) : Int) := (Int.natCast_pow s n).symm
  have h2 : s ^ n ≤ 30 ^ 20 := Nat.le_trans (Nat.pow_le_pow_left hs n) (Nat.pow_le_pow_right (by omega) hn)
  have h3 : (30 : Nat) ^ 20 < 2 ^ 100 := by decide
  rw [e]
  have : ((30 ^ 20 : Nat) : Int) < 2 ^ 100 := by exact_mod_cast h3
  omega
theorem range_sum (φ : Nat → Int) : ∀ n : Nat, ((List.range n).map φ).sum = sumr n φ
  | 0 => rfl
  | n + 1 => by rw [List.range_succ, List.map_append, List.sum_append, range_sum φ n]; simp [sumr]
end KM
end
/-! M8 -/
section
namespace KM
/-! ### dicts over 0 .. n - 1 -/
def rg (n : Nat) (f : Nat → Int) : List (Int × Int) := (List.range n).map fun k : Nat => ((k : Int), f k)
theorem rg_len (n : Nat) (f : Nat → Int) : (rg n f).length = n := by simp [rg]
theorem rg_ms (n : Nat) (f : Nat → Int) (φ : Int → Int) : ms (rg n f) φ = sumr n fun k => f k * φ k := by
  unfold ms rg
  rw [List.map_map]
  exact range_sum (fun k => f k * φ k) n
theorem rg_nd (n : Nat) (f : Nat → Int) : ((rg n f).map (·.1)).Nodup := by
  induction n with
  | zero => exact List.nodup_nil
  | succ n ih =>
    have e : rg (n + 1) f = rg n f ++ [((n : Int), f n)] := by unfold rg; rw [List.range_succ]; simp
    rw [e, List.map_append, List.nodup_append]
    refine ⟨ih, by simp, fun a ha b hb => ?_⟩
    have hb' : b = (n : Int) := by simpa using hb
    unfold rg at ha
    rw [List.map_map] at ha
    obtain ⟨k, hk, rfl⟩ := List.mem_map.mp ha
    have := List.mem_range.mp hk
    rw [hb']
    show (k : Int) ≠ n
    omega
theorem rg_nn {n : Nat} {f : Nat → Int} (h : ∀ k, k < n → 0 ≤ f k) : ∀ p ∈ rg n f, 0 ≤ p.2 := fun p hp => by
  unfold rg at hp
  obtain ⟨k, hk, rfl⟩ := List.mem_map.mp hp
  exact h k (List.mem_range.mp hk)
theorem rg_succ (n : Nat) (f : Nat → Int) : rg (n + 1) f = rg n f ++ [((n : Int), f n)] := by unfold rg; rw [List.range_succ]; simp
theorem sumr_pos {n k : Nat} {f : Nat → Int} (h : ∀ i, i < n → 0 ≤ f i) (hk : k < n) (hp : 0 < f k) : 0 < sumr n f := by
  induction n with
  | zero => omega
  | succ n ih =>
    show 0 < sumr n f + f n
    rcases Nat.lt_or_eq_of_le (Nat.le_of_lt_succ hk) with z | z
    · have := ih (fun i hi => h i (by omega)) z
      have := h n (by omega)
      omega
    · subst z
      have : 0 ≤ sumr k f := sumr_nonneg fun i hi => h i (by omega)
      omega
theorem sumr_le {n : Nat} {f : Nat → Int} {B : Int} (h : ∀ i, i < n → f i ≤ B) : sumr n f ≤ n * B := by
  induction n with
  | zero => simp [sumr]
  | succ n ih =>
    show sumr n f + f n ≤ _
    have := ih fun i hi => h i (by omega)
    have := h n (by omega)
    rw [show ((n + 1 : Nat) : Int) = n + 1 by omega, Int.add_mul, Int.one_mul]
    omega
/-- without a fixed point -/
def der : Nat → Int
  | 0 => 1
  | 1 => 0
  | n + 2 => ((n : Int) + 1) * (der n + der (n + 1))
theorem der_lt : ∀ n : Nat, n < 15 → 0 ≤ der n ∧ der n < 2 ^ 60 := by decide
/-- the ways by the ring's length: rl t n, the list of sizes up to n -/
def rl (t : Nat) : Nat → List Int
  | 0 => [1]
  | n + 1 => rl t n ++ [sumr (min (n + 1) t) fun r => ff n r * (rl t n).getD (n - r) 0]
theorem rl_len (t : Nat) : ∀ n, (rl t n).length = n + 1
  | 0 => rfl
  | n + 1 => by
    show (rl t n ++ [_]).length = _
    rw [List.length_append, rl_len t n]
    rfl
theorem rl_lt : ∀ t : Nat, t < 16 → ∀ n : Nat, n < 15 → ∀ k : Nat, k < 15 → 0 ≤ (rl t n).getD k 0 ∧ (rl t n).getD k 0 < 2 ^ 60 := by decide +kernel
theorem ff_lt : ∀ n : Nat, n < 15 → ∀ k : Nat, k < 15 → 0 ≤ ff n k ∧ ff n k < 2 ^ 60 := by decide +kernel
theorem ont_lt : ∀ m : Nat, m < 21 → ∀ f : Nat, f < 13 → 0 ≤ ont m f ∧ ont m f < 2 ^ 80 := by decide +kernel
end KM
end
/-! M9 -/
section
set_option Elab.async false
set_option linter.all false
namespace KM
theorem den_rat_ne (q : Rat) : ((q.den : Nat) : Rat) ≠ 0 := fun e => by
  have := Rat.natCast_inj.mp (show ((q.den : Nat) : Rat) = ((0 : Nat) : Rat) from e)
  have := q.den_pos
  omega
theorem num_eq (q : Rat) : ((q.num : Int) : Rat) = q * ((q.den : Nat) : Rat) := by
  have h := rat_self q
  rw [Rat.divInt_eq_div, Rat.intCast_natCast] at h
  conv => rhs; lhs; rw [← h]
  rw [Rat.div_mul_cancel (den_rat_ne q)]
/-- the weight of a part when the low is L -/
def wgt (L : Nat) (q : Rat) : Int := q.num * ((L / q.den : Nat) : Int)
theorem wgt_rat {L : Nat} {q : Rat} (h : q.den ∣ L) : ((wgt L q : Int) : Rat) = q * ((L : Nat) : Rat) := by
  obtain ⟨c, rfl⟩ := h
  unfold wgt
  rw [Nat.mul_div_cancel_left c q.den_pos, Rat.intCast_mul, num_eq, Rat.intCast_natCast, Rat.natCast_mul, Rat.mul_assoc]
theorem wgt_div {L : Nat} {q : Rat} (hL : 0 < L) (h : q.den ∣ L) : Rat.divInt (wgt L q) (L : Nat) = q := by
  have hz : ((L : Nat) : Rat) ≠ 0 := fun e => by
    have := Rat.natCast_inj.mp (show ((L : Nat) : Rat) = ((0 : Nat) : Rat) from e)
    omega
  rw [Rat.divInt_eq_div, wgt_rat h, Rat.intCast_natCast, Rat.mul_div_cancel hz]
theorem wgt_nn {L : Nat} {q : Rat} (h : 0 ≤ q) : 0 ≤ wgt L q := Int.mul_nonneg (Rat.num_nonneg.mpr h) (Int.natCast_nonneg _)
theorem wgt_pos {L : Nat} {q : Rat} (hL : 0 < L) (hd : q.den ∣ L) (h : 0 < q) : 0 < wgt L q := by
  have hn : 0 < q.num := by
    have h0 := Rat.num_nonneg.mpr (Rat.le_of_lt h)
    rcases Int.lt_or_eq_of_le h0 with z | z
    · exact z
    · have : q = 0 := by rw [← rat_self q, ← z, Rat.zero_divInt]
      rw [this] at h
      exact absurd h (by decide)
  refine Int.mul_pos hn ?_
  have := Nat.div_pos (Nat.le_of_dvd hL hd) q.den_pos
  omega
abbrev RL := List (Int × Rat)
def wrows (L : Nat) (rows : RL) : List (Int × Int) := rows.map fun r => (r.1, wgt L r.2)
theorem wrows_len (L : Nat) (rows : RL) : (wrows L rows).length = rows.length := by simp [wrows]
theorem wrows_keys (L : Nat) (rows : RL) : (wrows L rows).map (·.1) = rows.map (·.1) := by unfold wrows; rw [List.map_map]; rfl
theorem wrows_one {L : Nat} : ∀ {rows : RL}, (∀ r ∈ rows, r.2.den ∣ L) → ((ms (wrows L rows) fun _ => 1 : Int) : Rat) = (rows.map (·.2)).sum * ((L : Nat) : Rat)
  | [], _ => by simp [wrows]
  | r :: rows, h => by
    have ih := wrows_one (rows := rows) fun q hq => h q (List.mem_cons_of_mem _ hq)
    show ((ms ((r.1, wgt L r.2) :: wrows L rows) fun _ => 1 : Int) : Rat) = _
    rw [ms_cons, Rat.intCast_add, ih, List.map_cons, List.sum_cons, Rat.add_mul, Int.mul_one, wgt_rat (h r List.mem_cons_self)]
theorem rsum_take {l : List Rat} {i : Nat} {q : Rat} (h : l[i]? = some q) : (l.take (i + 1)).sum = (l.take i).sum + q := by
  rw [List.take_add_one, h]
  induction (l.take i) with
  | nil => simp [List.sum_cons, Rat.add_comm]
  | cons a r ih => rw [List.cons_append, List.sum_cons, List.sum_cons, ih, Rat.add_assoc]
theorem rsum_nn : ∀ {l : List Rat}, (∀ q ∈ l, 0 ≤ q) → 0 ≤ l.sum
  | [], _ => by decide
  | q :: r, h => by
    have h1 := rsum_nn (l := r) fun x hx => h x (List.mem_cons_of_mem _ hx)
    have h2 := h q List.mem_cons_self
    rw [List.sum_cons]
    grind
theorem rsum_le : ∀ {l : List Rat}, (∀ q ∈ l, 0 ≤ q) → ∀ i, 0 ≤ (l.take i).sum ∧ (l.take i).sum ≤ l.sum
  | [], _, i => by simp
  | q :: r, h, 0 => by
    have := rsum_nn h
    exact ⟨by simp, by simpa using this⟩
  | q :: r, h, i + 1 => by
    have h1 := rsum_le (l := r) (fun x hx => h x (List.mem_cons_of_mem _ hx)) i
    have h2 := h q List.mem_cons_self
    rw [List.take_succ_cons, List.sum_cons, List.sum_cons]
    grind
theorem rsum_dv {M : Nat} : ∀ {l : List Rat}, (∀ q ∈ l, Dv M q) → Dv M l.sum
  | [], _ => Dv.zero
  | q :: r, h => by
    rw [List.sum_cons]
    exact Dv.add (h q List.mem_cons_self) (rsum_dv fun x hx => h x (List.mem_cons_of_mem _ hx))
theorem Dv.of_den {M : Nat} {q : Rat} (h : q.den ∣ M) : Dv M q := by
  refine ⟨wgt M q, ?_⟩
  rw [wgt_rat h]
theorem mem_take {α : Type} {l : List α} {i : Nat} {x : α} (h : x ∈ l.take i) : x ∈ l := List.mem_of_mem_take h
/-- what a spread of chances says of one value -/
theorem spr_chance {ws : List (Int × Int)} {rows : RL} {L : Nat} (hL : 0 < L) (s : Spr ws (ms (wrows L rows))) (nd : (rows.map (·.1)).Nodup) (hd : ∀ r ∈ rows, r.2.den ∣ L) (h1 : (rows.map (·.2)).sum = 1) (k : Int) :
    Rat.divInt (getI ws k) (ms ws fun _ => 1) = ((rows.find? fun p => decide (p.1 = k)).map (·.2)).getD 0 := by
  obtain ⟨hN, g, hg, hs⟩ := s
  have e1 := hs fun _ => 1
  have e2 : (ms (wrows L rows) fun _ => 1) = (L : Nat) := by
    have := wrows_one hd
    rw [h1, Rat.one_mul, ← Rat.intCast_natCast] at this
    exact Rat.intCast_inj.mp this
  have e3 := hs (ind k)
  rw [ms_ind (nodup_of_sorted hN.sorted), ms_ind (by rw [wrows_keys]; exact nd)] at e3
  rw [e2] at e1
  rw [← Rat.divInt_mul_left (a := g) (by omega), e3, e1]
  clear e1 e2 e3 hs h1
  induction rows with
  | nil => simp [wrows, getI_nil]
  | cons p r ih =>
    show Rat.divInt (getI ((p.1, wgt L p.2) :: wrows L r) k) _ = _
    rw [getI_cons, List.find?_cons]
    by_cases e : p.1 = k
    · rw [if_pos e, decide_eq_true e]
      exact wgt_div hL (hd p List.mem_cons_self)
    · rw [if_neg e, decide_eq_false e]
      rw [List.map_cons, List.nodup_cons] at nd
      exact ih nd.2 fun q hq => hd q (List.mem_cons_of_mem _ hq)
theorem lcm_step (L d : Nat) : ((L : Nat) : Int) * ((d : Nat) : Int) / ((Int.gcd (L : Int) (d : Int) : Nat) : Int) = ((Nat.lcm L d : Nat) : Int) := by
  rw [← Int.natCast_mul, Int.gcd_natCast_natCast, ← Int.natCast_ediv]
  rfl
end KM
end
/-! M10 -/
section
set_option Elab.async false
set_option linter.all false
namespace KM
/-- the rows that have a chance -/
def hrows (q : Nat → Rat) : Nat → RL
  | 0 => []
  | n + 1 => hrows q n ++ if 0 < q n then [((n : Int), q n)] else []
theorem hrows_mem {q : Nat → Rat} : ∀ {n : Nat} {r : Int × Rat}, r ∈ hrows q n → ∃ k, k < n ∧ r = ((k : Int), q k) ∧ 0 < q k
  | 0, _, h => by cases h
  | n + 1, r, h => by
    unfold hrows at h
    rcases List.mem_append.mp h with h | h
    · obtain ⟨k, h1, h2⟩ := hrows_mem h
      exact ⟨k, by omega, h2⟩
    · split at h
      · next z => exact ⟨n, by omega, List.mem_singleton.mp h, z⟩
      · cases h
theorem hrows_nd (q : Nat → Rat) : ∀ n : Nat, ((hrows q n).map (·.1)).Nodup
  | 0 => List.nodup_nil
  | n + 1 => by
    unfold hrows
    rw [List.map_append, List.nodup_append]
    refine ⟨hrows_nd q n, by split <;> simp, fun a ha b hb e => ?_⟩
    obtain ⟨r, hr, rfl⟩ := List.mem_map.mp ha
    obtain ⟨k, hk, rfl, _⟩ := hrows_mem hr
    split at hb
    · simp at hb
      have e : ((k : Nat) : Int) = b := e
      omega
    · cases hb
theorem hrows_len (q : Nat → Rat) : ∀ n : Nat, (hrows q n).length ≤ n
  | 0 => Nat.le_refl _
  | n + 1 => by
    have := hrows_len q n
    unfold hrows
    rw [List.length_append]
    split <;> simp <;> omega
theorem hrows_sum {q : Nat → Rat} : ∀ {n : Nat}, (∀ i, i < n → 0 ≤ q i) → ((hrows q n).map (·.2)).sum = sumq n q
  | 0, _ => rfl
  | n + 1, h => by
    have ih := hrows_sum (q := q) (n := n) fun i hi => h i (by omega)
    have app : ∀ a b : List Rat, (a ++ b).sum = a.sum + b.sum := fun a b => by
      induction a with
      | nil => rw [List.nil_append, List.sum_nil]; grind
      | cons x r ih => rw [List.cons_append, List.sum_cons, List.sum_cons, ih]; grind
    unfold hrows
    rw [List.map_append, app, ih, sumq_s]
    have := h n (by omega)
    split
    · rw [List.map_cons, List.map_nil, List.sum_cons, List.sum_nil]; grind
    · next z =>
      have : q n = 0 := by grind
      rw [this, List.map_nil, List.sum_nil]
theorem hrows_ms {q : Nat → Rat} {L : Nat} (φ : Int → Int) : ∀ {n : Nat}, (∀ i, i < n → 0 ≤ q i) → (∀ r ∈ hrows q n, r.2.den ∣ L) → ((ms (wrows L (hrows q n)) φ : Int) : Rat) = ((L : Nat) : Rat) * sumq n fun k => q k * ((φ k : Int) : Rat)
  | 0, _, _ => by show (0 : Rat) = _ * 0; grind
  | n + 1, h, hd => by
    have ih := hrows_ms (q := q) (L := L) φ (n := n) (fun i hi => h i (by omega)) fun r hr => hd r (by unfold hrows; exact List.mem_append_left _ hr)
    unfold hrows at hd ⊢
    unfold wrows at ih ⊢
    rw [List.map_append, ms_app, Rat.intCast_add, ih, sumq_s]
    have := h n (by omega)
    split
    · next z =>
      have := wgt_rat (hd ((n : Int), q n) (by rw [if_pos z]; simp))
      simp only [List.map_cons, List.map_nil, ms_cons, ms_nil]
      rw [Int.add_zero, Rat.intCast_mul, this]
      grind
    · next z =>
      have : q n = 0 := by grind
      rw [this]
      simp only [List.map_nil, ms_nil]
      have : ((0 : Int) : Rat) = 0 := rfl
      grind
/-- ws has the chances q of 0 .. n -/
def HM (ws : List (Int × Int)) (n : Nat) (q : Nat → Rat) : Prop := ∀ φ : Int → Int, ((ms ws φ : Int) : Rat) = ((ms ws fun _ => 1 : Int) : Rat) * sumq (n + 1) fun k => q k * ((φ k : Int) : Rat)
theorem HM.of {ws : List (Int × Int)} {n L : Nat} {q : Nat → Rat} (hL : 0 < L) (s : Spr ws (ms (wrows L (hrows q (n + 1))))) (nn : ∀ i, i < n + 1 → 0 ≤ q i) (hd : ∀ r ∈ hrows q (n + 1), r.2.den ∣ L) (h1 : sumq (n + 1) q = 1) : HM ws n q := fun φ => by
  obtain ⟨hN, g, hg, hs⟩ := s
  have e1 := hs fun _ => 1
  have e2 := hs φ
  have f1 := hrows_ms (L := L) (fun _ => 1) nn hd
  have f2 := hrows_ms (L := L) φ nn hd
  rw [← e1] at f1
  rw [← e2] at f2
  rw [sumq_congr (g := q) fun i _ => by show q i * ((1 : Int) : Rat) = q i; have : ((1 : Int) : Rat) = 1 := rfl; grind, h1, Rat.mul_one, Rat.intCast_mul] at f1
  rw [Rat.intCast_mul, ← f1] at f2
  have hz : ((g : Int) : Rat) ≠ 0 := fun e => by
    have := Rat.intCast_inj.mp (show ((g : Int) : Rat) = ((0 : Int) : Rat) from e)
    omega
  rw [Rat.mul_assoc] at f2
  have h3 := congrArg (fun x => ((g : Int) : Rat)⁻¹ * x) f2
  simp only [← Rat.mul_assoc, Rat.inv_mul_cancel _ hz, Rat.one_mul] at h3
  exact h3
theorem HM.whole {ws : List (Int × Int)} {L : Nat} {q : Nat → Rat} {n : Nat} (s : Spr ws (ms (wrows L (hrows q (n + 1))))) (nn : ∀ i, i < n + 1 → 0 ≤ q i) (hd : ∀ r ∈ hrows q (n + 1), r.2.den ∣ L) (h1 : sumq (n + 1) q = 1) : (ms ws fun _ => 1) ≤ (L : Nat) := by
  have := s.le
  have f1 := wrows_one hd
  rw [hrows_sum nn, h1, Rat.one_mul, ← Rat.intCast_natCast] at f1
  have := Rat.intCast_inj.mp f1
  omega
theorem HM.chance {ws : List (Int × Int)} {n : Nat} {q : Nat → Rat} (h : HM ws n q) (N : Nrm ws) (k : Int) : Rat.divInt (getI ws k) (ms ws fun _ => 1) = if 0 ≤ k ∧ k < n + 1 then q k.toNat else 0 := by
  have e := h (ind k)
  rw [ms_ind (nodup_of_sorted N.sorted)] at e
  have wp : 0 < ms ws fun _ => 1 := by
    obtain ⟨p, hp⟩ := List.exists_mem_of_ne_nil ws N.ne
    have := ms_le_one (fun q hq => Int.le_of_lt (N.pos q hq)) p hp
    have := N.pos p hp
    omega
  have hz : ((ms ws fun _ => 1 : Int) : Rat) ≠ 0 := fun z => by
    have := Rat.intCast_inj.mp (show ((ms ws fun _ => 1 : Int) : Rat) = ((0 : Int) : Rat) from z)
    omega
  rw [Rat.divInt_eq_div, e]
  have key : (sumq (n + 1) fun i => q i * ((ind k (i : Nat) : Int) : Rat)) = if 0 ≤ k ∧ k < n + 1 then q k.toNat else 0 := by
    split
    · next z =>
      rw [sumq_at (k := k.toNat) (by omega) fun i _ hi => ?_]
      · have : ind k ((k.toNat : Nat) : Int) = 1 := by unfold ind; rw [if_pos (by omega)]
        rw [this]
        have : ((1 : Int) : Rat) = 1 := rfl
        grind
      · have : ind k ((i : Nat) : Int) = 0 := by unfold ind; rw [if_neg (by omega)]
        rw [this]
        have : ((0 : Int) : Rat) = 0 := rfl
        grind
    · next z =>
      rw [← sumq_zero (n := n + 1)]
      refine sumq_congr fun i hi => ?_
      have : ind k ((i : Nat) : Int) = 0 := by unfold ind; rw [if_neg (by omega)]
      rw [this]
      have : ((0 : Int) : Rat) = 0 := rfl
      grind
  rw [key, Rat.mul_comm, Rat.mul_div_cancel hz]
theorem HM.keys {ws : List (Int × Int)} {n : Nat} {q : Nat → Rat} (h : HM ws n q) (N : Nrm ws) {p : Int × Int} (hp : p ∈ ws) : ∃ k : Nat, p.1 = k ∧ k ≤ n := by
  have e := h.chance N p.1
  rw [getI_mem (nodup_of_sorted N.sorted) hp] at e
  have hp2 := N.pos p hp
  have wp := ms_le_one (fun q hq => Int.le_of_lt (N.pos q hq)) p hp
  by_cases z : 0 ≤ p.1 ∧ p.1 < n + 1
  · exact ⟨p.1.toNat, by omega, by omega⟩
  · rw [if_neg z] at e
    have hz : ((ms ws fun _ => 1 : Int) : Rat) ≠ 0 := fun z => by
      have := Rat.intCast_inj.mp (show ((ms ws fun _ => 1 : Int) : Rat) = ((0 : Int) : Rat) from z)
      omega
    rw [Rat.divInt_eq_div] at e
    have e2 := congrArg (fun x => x * ((ms ws fun _ => 1 : Int) : Rat)) e
    simp only [Rat.div_mul_cancel hz, Rat.zero_mul] at e2
    have := Rat.intCast_inj.mp (show ((p.2 : Int) : Rat) = ((0 : Int) : Rat) from e2)
    omega
/-- what undoing the overlaps gives -/
theorem HM.ovl {ws : List (Int × Int)} {n : Nat} {q : Nat → Rat} (h : HM ws n q) (N : Nrm ws) (s : Nat) : Rat.divInt (ms ws fun v => ((bin v.toNat s : Nat) : Int)) (ms ws fun _ => 1) = sumq (n + 1) fun k => q k * ((bin k s : Nat) : Rat) := by
  have wp : 0 < ms ws fun _ => 1 := by
    obtain ⟨p, hp⟩ := List.exists_mem_of_ne_nil ws N.ne
    have := ms_le_one (fun q hq => Int.le_of_lt (N.pos q hq)) p hp
    have := N.pos p hp
    omega
  have hz : ((ms ws fun _ => 1 : Int) : Rat) ≠ 0 := fun z => by
    have := Rat.intCast_inj.mp (show ((ms ws fun _ => 1 : Int) : Rat) = ((0 : Int) : Rat) from z)
    omega
  rw [Rat.divInt_eq_div, h, Rat.mul_comm, Rat.mul_div_cancel hz]
  exact sumq_congr fun i _ => rfl
end KM
end
/-! M11 -/
section
set_option Elab.async false
set_option linter.all false
namespace KM
def sg (j : Nat) : Int := if j % 2 = 0 then 1 else -1
theorem sumr_shift (c : Nat) (g : Nat → Int) : ∀ m : Nat, sumr (c + m) (fun s => if s < c then 0 else g (s - c)) = sumr m g
  | 0 => by
    show sumr c _ = 0
    exact (sumr_congr fun i hi => if_pos hi).trans (sumr_zero (n := c))
  | m + 1 => by
    show sumr (c + m) _ + (if c + m < c then 0 else g (c + m - c)) = sumr m g + g m
    rw [sumr_shift c g m, if_neg (by omega), show c + m - c = m by omega]
theorem sumr_rat (f : Nat → Int) : ∀ n : Nat, ((sumr n f : Int) : Rat) = sumq n fun i => ((f i : Int) : Rat)
  | 0 => rfl
  | n + 1 => by show ((sumr n f + f n : Int) : Rat) = _; rw [Rat.intCast_add, sumr_rat f n]; rfl
/-- the sum that undoes the overlaps O, up to i -/
def und (O : Nat → Rat) (c i : Nat) : Rat := sumq i fun j => ((sg j * (bin (c + j) c : Int) : Int) : Rat) * O (c + j)
theorem und_eq {n c : Nat} {q : Nat → Rat} (hn : n ≤ 12) (hc : c ≤ n) : und (fun s => sumq (n + 1) fun k => q k * ((bin k s : Nat) : Rat)) c (n + 1 - c) = q c := by
  have e1 : und (fun s => sumq (n + 1) fun k => q k * ((bin k s : Nat) : Rat)) c (n + 1 - c) = sumq (n + 1) fun k => q k * ((ovl n k c : Int) : Rat) := by
    unfold und
    rw [sumq_congr (g := fun j => sumq (n + 1) fun k => q k * ((sg j * ((bin (c + j) c : Int) * (bin k (c + j) : Int)) : Int) : Rat)) fun j _ => ?_, sumq_swap]
    · refine sumq_congr fun k _ => ?_
      rw [sumq_mul]
      congr 1
      rw [← sumr_rat]
      congr 1
      unfold ovl
      rw [← sumr_shift c, show c + (n + 1 - c) = n + 1 by omega]
      refine sumr_congr fun s _ => ?_
      by_cases h : s < c
      · rw [if_pos h, if_pos h]
      · rw [if_neg h, if_neg h, show c + (s - c) = s by omega]
        rfl
    · rw [← sumq_mul]
      refine sumq_congr fun k _ => ?_
      simp only [Rat.intCast_mul, Rat.intCast_natCast]
      grind
  rw [e1, sumq_at (k := c) (by omega) fun i hi hne => ?_]
  · rw [ovl_eq hc hn hc, if_pos rfl]
    have : ((1 : Int) : Rat) = 1 := rfl
    grind
  · rw [ovl_eq (by omega) hn hc, if_neg hne]
    have : ((0 : Int) : Rat) = 0 := rfl
    grind
theorem bin_up : ∀ s : Nat, s < 14 → ∀ c : Nat, c < 14 → c ≤ s → (bin s c : Int) * ((s : Int) + 1) / ((s : Int) + 1 - c) = bin (s + 1) c := by decide +kernel
theorem bin_small : ∀ s : Nat, s < 14 → ∀ c : Nat, c < 14 → (bin s c : Int) ≤ 4096 := by decide +kernel
theorem dq_le {a : Int} {M B : Nat} (hM : 0 < M) (h0 : 0 ≤ a) (h1 : a ≤ (B : Int) * M) : 0 ≤ Rat.divInt a M ∧ Rat.divInt a M ≤ (B : Rat) := by
  have hz : (0 : Rat) < ((M : Nat) : Rat) := Rat.natCast_lt_natCast.mpr hM
  have e : Rat.divInt a M * ((M : Nat) : Rat) = (a : Rat) := by
    rw [Rat.divInt_eq_div, Rat.intCast_natCast, Rat.div_mul_cancel (fun z => by rw [z] at hz; exact absurd hz (by decide))]
  generalize Rat.divInt a M = q at e
  have ha : (0 : Rat) ≤ (a : Rat) := Rat.intCast_le_intCast.mpr h0
  have hb : (a : Rat) ≤ (B : Rat) * (M : Rat) := by
    have := Rat.intCast_le_intCast.mpr h1
    rw [Rat.intCast_mul, Rat.intCast_natCast, Rat.intCast_natCast] at this
    exact this
  refine ⟨?_, ?_⟩
  · rcases (Rat.le_total (a := 0) (b := q)) with z | z
    · exact z
    · have := Rat.mul_nonneg (show 0 ≤ -q by grind) (Rat.le_of_lt hz)
      by_cases e0 : q = 0
      · rw [e0]; decide
      · have h2 := Rat.mul_pos (show 0 < -q by grind) hz
        grind
  · rcases (Rat.le_total (a := q) (b := (B : Rat))) with z | z
    · exact z
    · by_cases e0 : q = B
      · rw [e0]; grind
      · have h2 := Rat.mul_pos (show 0 < q - B by grind) hz
        grind
/-- a part of a spread's whole -/
theorem sm_part {a : Int} {M : Nat} (hM : 0 < M) (h0 : 0 ≤ a) (h1 : a ≤ (4096 : Int) * M) (hl : Ln M 200) : sm (Rat.divInt a M) := by
  have h := dq_le (B := 4096) hM h0 h1
  refine sm_of (B := 4096) hM (Dv.div hM) (Rat.le_trans (by decide) h.1) h.2 ?_ (hl.up (by decide))
  exact (hl.mul (show Ln 4096 13 by unfold Ln; decide)).up (by decide)
theorem und_bd {O : Nat → Rat} {c : Nat} (h : ∀ s, 0 ≤ O s ∧ O s ≤ 4096) : ∀ i : Nat, c + i ≤ 13 → c < 14 → -((i * 16777216 : Nat) : Rat) ≤ und O c i ∧ und O c i ≤ ((i * 16777216 : Nat) : Rat)
  | 0, _, _ => by
    show -((0 * 16777216 : Nat) : Rat) ≤ 0 ∧ (0 : Rat) ≤ ((0 * 16777216 : Nat) : Rat)
    rw [Nat.zero_mul]; decide
  | i + 1, hi, hc => by
    have ih := und_bd h (c := c) i (by omega) hc
    have hb : ((bin (c + i) c : Int) : Rat) ≤ ((4096 : Int) : Rat) := Rat.intCast_le_intCast.mpr (bin_small (c + i) (by omega) c hc)
    have hb0 : (0 : Rat) ≤ ((bin (c + i) c : Int) : Rat) := Rat.intCast_le_intCast.mpr (Int.natCast_nonneg _)
    have ho := h (c + i)
    have c4 : ((4096 : Int) : Rat) = 4096 := rfl
    rw [c4] at hb
    have hp : 0 ≤ ((bin (c + i) c : Int) : Rat) * O (c + i) ∧ ((bin (c + i) c : Int) : Rat) * O (c + i) ≤ 16777216 := by
      refine ⟨Rat.mul_nonneg hb0 ho.1, ?_⟩
      have h1 := Rat.mul_nonneg (show (0 : Rat) ≤ 4096 - ((bin (c + i) c : Int) : Rat) by grind) ho.1
      grind
    have e : und O c (i + 1) = und O c i + ((sg i : Int) : Rat) * (((bin (c + i) c : Int) : Rat) * O (c + i)) := by
      show und O c i + ((sg i * (bin (c + i) c : Int) : Int) : Rat) * O (c + i) = _
      rw [Rat.intCast_mul, Rat.mul_assoc]
    have e2 : (((i + 1) * 16777216 : Nat) : Rat) = ((i * 16777216 : Nat) : Rat) + 16777216 := by
      rw [Nat.add_mul, Rat.natCast_add]; rfl
    rw [e, e2]
    unfold sg
    split
    · have : ((1 : Int) : Rat) = 1 := rfl
      rw [this]
      grind
    · have : ((-1 : Int) : Rat) = -1 := rfl
      rw [this]
      grind
theorem und_dv {O : Nat → Rat} {c M : Nat} (h : ∀ s, Dv M (O s)) (i : Nat) : Dv M (und O c i) := by
  unfold und
  refine Dv.sumq fun j _ => ?_
  have := Dv.mul (Dv.int (M := 1) (sg j * (bin (c + j) c : Int))) (h (c + j))
  rw [Nat.one_mul] at this
  exact this
end KM
end
/-! M12 -/
section
set_option Elab.async false
set_option linter.all false
namespace KM
/-- the choices of some of the first n values, told by how many and by their sum -/
def lotN (v : Nat → Int) : Nat → (Nat → Int → Int) → Int
  | 0, ψ => ψ 0 0
  | n + 1, ψ => lotN v n ψ + lotN v n fun c x => ψ (c + 1) (x + v n)
theorem lotN_zero (v : Nat → Int) : ∀ n, (lotN v n fun _ _ => 0) = 0
  | 0 => rfl
  | n + 1 => by
    show (lotN v n fun _ _ => 0) + (lotN v n fun _ _ => 0) = 0
    rw [lotN_zero v n]; rfl
theorem lotN_add (v : Nat → Int) : ∀ n (f g : Nat → Int → Int), (lotN v n fun c x => f c x + g c x) = lotN v n f + lotN v n g
  | 0, _, _ => rfl
  | n + 1, f, g => by
    show (lotN v n fun c x => f c x + g c x) + (lotN v n fun c x => f (c + 1) (x + v n) + g (c + 1) (x + v n)) = _
    rw [lotN_add v n, lotN_add v n]
    show _ = lotN v n f + (lotN v n fun c x => f (c + 1) (x + v n)) + (lotN v n g + lotN v n fun c x => g (c + 1) (x + v n))
    omega
def subs (v : Nat → Int) (n c : Nat) : Fn := fun φ => lotN v n fun k x => if k = c then φ x else 0
theorem subs_z (v : Nat → Int) (c : Nat) (φ : Int → Int) : subs v 0 c φ = if c = 0 then φ 0 else 0 := by
  show (if 0 = c then φ 0 else 0) = _
  by_cases h : c = 0
  · subst h; rfl
  · rw [if_neg h, if_neg fun z => h z.symm]
theorem subs_s0 (v : Nat → Int) (n : Nat) (φ : Int → Int) : subs v (n + 1) 0 φ = subs v n 0 φ := by
  show (lotN v n fun k x => if k = 0 then φ x else 0) + (lotN v n fun c x => if c + 1 = 0 then φ (x + v n) else 0) = _
  rw [show (fun (c : Nat) (x : Int) => if c + 1 = 0 then φ (x + v n) else 0) = fun _ _ => 0 by funext c x; exact if_neg (by omega), lotN_zero, Int.add_zero]
  rfl
theorem subs_ss (v : Nat → Int) (n c : Nat) (φ : Int → Int) : subs v (n + 1) (c + 1) φ = subs v n (c + 1) φ + subs v n c fun x => φ (x + v n) := by
  show (lotN v n fun k x => if k = c + 1 then φ x else 0) + (lotN v n fun k x => if k + 1 = c + 1 then φ (x + v n) else 0) = _
  rw [show (fun (k : Nat) (x : Int) => if k + 1 = c + 1 then φ (x + v n) else 0) = fun k x => if k = c then φ (x + v n) else 0 by
    funext k x
    by_cases h : k = c
    · rw [if_pos h, if_pos (by omega)]
    · rw [if_neg h, if_neg (by omega)]]
  rfl
theorem subs_const (v : Nat → Int) : ∀ n c (a : Int), (subs v n c fun _ => a) = (bin n c : Int) * a
  | 0, 0, a => by rw [subs_z, if_pos rfl]; simp [bin]
  | 0, c + 1, a => by rw [subs_z, if_neg (by omega)]; simp [bin]
  | n + 1, 0, a => by rw [subs_s0, subs_const v n 0, bin_zero, bin_zero]
  | n + 1, c + 1, a => by
    rw [subs_ss, subs_const v n, subs_const v n, ← Int.add_mul]
    congr 1
    show _ = ((bin n c + bin n (c + 1) : Nat) : Int)
    omega
theorem bin_pos : ∀ n c : Nat, c ≤ n → 0 < bin n c
  | n, 0, _ => by rw [bin_zero]; decide
  | 0, c + 1, h => absurd h (by omega)
  | n + 1, c + 1, h => by
    show 0 < bin n c + bin n (c + 1)
    have := bin_pos n c (by omega)
    omega
end KM
end
/-! M13 -/
section
set_option Elab.async false
set_option linter.all false
namespace KM
/-! ### the best kept -/
def Kst (many keep side : Nat) (ψ : Nat → Int → Int) : Nat → Int → Int := fun c x => sumr (many - c + 1) fun m => (bin (many - c) m : Int) * ψ (c + m) (x + (side : Int) * ((min m (keep - c) : Nat) : Int))
def Kd (many keep sides : Nat) : Nat → (Nat → Int → Int) → Int
  | 0, ψ => ψ 0 0
  | j + 1, ψ => Kd many keep sides j (Kst many keep (sides - j) ψ)
def fin (many : Nat) (φ : Int → Int) : Nat → Int → Int := fun c x => if c = many then φ x else 0
theorem Kst_congr {many keep side : Nat} {f g : Nat → Int → Int} (h : ∀ c, c ≤ many → ∀ x, f c x = g c x) : ∀ c, c ≤ many → ∀ x, Kst many keep side f c x = Kst many keep side g c x := fun c hc x =>
  sumr_congr fun m hm => by rw [h (c + m) (by omega)]
theorem Kd_congr {many keep sides : Nat} : ∀ {j : Nat} {f g : Nat → Int → Int}, (∀ c, c ≤ many → ∀ x, f c x = g c x) → Kd many keep sides j f = Kd many keep sides j g
  | 0, f, g, h => h 0 (Nat.zero_le _) 0
  | j + 1, f, g, h => Kd_congr (j := j) (Kst_congr h)
theorem Kst_fin {many keep side : Nat} {φ : Int → Int} {c : Nat} (hc : c ≤ many) (x : Int) : Kst many keep side (fin many φ) c x = φ (x + (side : Int) * ((min (many - c) (keep - c) : Nat) : Int)) := by
  unfold Kst
  rw [sumr_one (k := many - c) (by omega) (fun i hi hne => by
    show _ * (if c + i = many then _ else 0) = 0
    rw [if_neg (by omega)]; exact Int.mul_zero _)]
  show _ * (if c + (many - c) = many then _ else 0) = _
  rw [if_pos (by omega), bin_self]
  exact Int.one_mul _
theorem sumr_mono {f g : Nat → Int} : ∀ {n : Nat}, (∀ i, i < n → f i ≤ g i) → sumr n f ≤ sumr n g
  | 0, _ => Int.le_refl _
  | n + 1, h => Int.add_le_add (sumr_mono fun i hi => h i (by omega)) (h n (by omega))
theorem sumr_mulr (c : Int) (f : Nat → Int) : ∀ n, sumr n (fun i => f i * c) = sumr n f * c
  | 0 => (Int.zero_mul _).symm
  | n + 1 => by
    show sumr n (fun i => f i * c) + f n * c = (sumr n f + f n) * c
    rw [sumr_mulr c f n, Int.add_mul]
theorem bin_row : ∀ n : Nat, n < 9 → sumr (n + 1) (fun m => (bin n m : Int)) ≤ 256 := by decide +kernel
theorem Kst_bd {many keep side : Nat} {f : Nat → Int → Int} {B : Int} (hm : many ≤ 8) (hB : 0 ≤ B) (h : ∀ c, c ≤ many → ∀ x, 0 ≤ f c x ∧ f c x ≤ B) : ∀ c, c ≤ many → ∀ x, 0 ≤ Kst many keep side f c x ∧ Kst many keep side f c x ≤ 256 * B := fun c hc x => by
  refine ⟨sumr_nonneg fun i hi => Int.mul_nonneg (Int.natCast_nonneg _) (h _ (by omega) _).1, ?_⟩
  refine Int.le_trans (sumr_mono (g := fun m => (bin (many - c) m : Int) * B) fun i hi => Int.mul_le_mul_of_nonneg_left (h _ (by omega) _).2 (Int.natCast_nonneg _)) ?_
  rw [sumr_mulr]
  exact Int.mul_le_mul_of_nonneg_right (bin_row _ (by omega)) hB
theorem Kd_bd {many keep sides : Nat} (hm : many ≤ 8) : ∀ (j : Nat) {f : Nat → Int → Int} {B : Int}, 0 ≤ B → (∀ c, c ≤ many → ∀ x, 0 ≤ f c x ∧ f c x ≤ B) → 0 ≤ Kd many keep sides j f ∧ Kd many keep sides j f ≤ 256 ^ j * B
  | 0, f, B, _, h => by
    have := h 0 (Nat.zero_le _) 0
    rw [Int.pow_zero, Int.one_mul]
    exact this
  | j + 1, f, B, hB, h => by
    have := Kd_bd (keep := keep) (sides := sides) hm j (f := Kst many keep (sides - j) f) (B := 256 * B) (by omega) (Kst_bd hm hB h)
    rw [Int.pow_succ, Int.mul_assoc]
    exact this
theorem Kst_ge {many keep side : Nat} {f : Nat → Int → Int} (h : ∀ c, c ≤ many → ∀ x, 1 ≤ f c x) : ∀ c, c ≤ many → ∀ x, 1 ≤ Kst many keep side f c x := fun c hc x => by
  have h0 : ∀ i, i < many - c + 1 → 0 ≤ (bin (many - c) i : Int) * f (c + i) (x + (side : Int) * ((min i (keep - c) : Nat) : Int)) := fun i hi => Int.mul_nonneg (Int.natCast_nonneg _) (by have := h (c + i) (by omega) (x + (side : Int) * ((min i (keep - c) : Nat) : Int)); omega)
  have := sumr_pos h0 (k := 0) (by omega) (by
    rw [bin_zero]
    have := h (c + 0) (by omega) (x + (side : Int) * ((min 0 (keep - c) : Nat) : Int))
    omega)
  exact this
theorem Kd_ge {many keep sides : Nat} : ∀ (j : Nat) {f : Nat → Int → Int}, (∀ c, c ≤ many → ∀ x, 1 ≤ f c x) → 1 ≤ Kd many keep sides j f
  | 0, f, h => h 0 (Nat.zero_le _) 0
  | j + 1, f, h => Kd_ge j (Kst_ge h)
/-- measures over pairs -/
def ms2 (ws : List ((Int × Int) × Int)) (ψ : Nat → Int → Int) : Int := ms ws fun p => ψ p.1.toNat p.2
structure StOk (many X : Nat) (ws : List ((Int × Int) × Int)) : Prop where
  nd : (ws.map (·.1)).Nodup
  nn : ∀ p ∈ ws, 0 ≤ p.2
  key : ∀ p ∈ ws, ∃ c x : Nat, p.1 = ((c : Int), (x : Int)) ∧ c ≤ many ∧ x ≤ X
theorem nodup_box : ∀ {n : Nat} {l : List Int}, l.Nodup → (∀ x ∈ l, 0 ≤ x ∧ x < n) → l.length ≤ n
  | 0, [], _, _ => Nat.le_refl _
  | 0, x :: l, _, h => by have := h x List.mem_cons_self; omega
  | n + 1, l, nd, h => by
    have h1 := nodup_box (n := n) (l := l.erase (n : Int)) (nd.erase _) (fun x hx => by
      rw [nd.mem_erase_iff] at hx
      have := h x hx.2
      have := hx.1
      omega)
    have h2 := @List.length_erase Int _ _ (n : Int) l
    split at h2 <;> omega
theorem StOk.len {many X : Nat} {ws : List ((Int × Int) × Int)} (h : StOk many X ws) : ws.length ≤ (many + 1) * (X + 1) := by
  have e : ((ws.map fun p => p.1.1 * ((X : Int) + 1) + p.1.2)).length ≤ (many + 1) * (X + 1) := by
    refine nodup_box ?_ fun x hx => ?_
    · have nd := h.nd
      have key := h.key
      clear h
      induction ws with
      | nil => exact List.nodup_nil
      | cons p r ih =>
        rw [List.map_cons, List.nodup_cons] at nd ⊢
        refine ⟨fun z => nd.1 ?_, ih nd.2 fun q hq => key q (List.mem_cons_of_mem _ hq)⟩
        obtain ⟨q, hq, e⟩ := List.mem_map.mp z
        refine List.mem_map.mpr ⟨q, hq, ?_⟩
        obtain ⟨c, x, e1, h1, h2⟩ := key p List.mem_cons_self
        obtain ⟨c', x', e1', h1', h2'⟩ := key q (List.mem_cons_of_mem _ hq)
        rw [e1, e1'] at e
        have e : ((c' : Nat) : Int) * ((X : Int) + 1) + (x' : Nat) = ((c : Nat) : Int) * ((X : Int) + 1) + (x : Nat) := e
        have e : c' * (X + 1) + x' = c * (X + 1) + x := by
          have h3 : ((c' * (X + 1) + x' : Nat) : Int) = ((c * (X + 1) + x : Nat) : Int) := by push_cast; exact e
          exact Int.ofNat.inj h3
        have hc : c' = c := by
          have e1 : (c' * (X + 1) + x') / (X + 1) = c' := by rw [Nat.mul_comm, Nat.mul_add_div (by omega), Nat.div_eq_of_lt (by omega), Nat.add_zero]
          have e2 : (c * (X + 1) + x) / (X + 1) = c := by rw [Nat.mul_comm, Nat.mul_add_div (by omega), Nat.div_eq_of_lt (by omega), Nat.add_zero]
          rw [← e1, ← e2, e]
        subst hc
        have : x' = x := by omega
        rw [e1, e1', this]
    · obtain ⟨p, hp, rfl⟩ := List.mem_map.mp hx
      obtain ⟨c, x, e1, h1, h2⟩ := h.key p hp
      rw [e1]
      have h3 : c * (X + 1) + x < (many + 1) * (X + 1) := by
        have := Nat.mul_le_mul_right (X + 1) h1
        rw [Nat.add_mul many]
        omega
      have h4 : (((c : Nat) : Int) * ((X : Int) + 1) + ((x : Nat) : Int)) = ((c * (X + 1) + x : Nat) : Int) := by push_cast; rfl
      show 0 ≤ ((c : Nat) : Int) * ((X : Int) + 1) + ((x : Nat) : Int) ∧ ((c : Nat) : Int) * ((X : Int) + 1) + ((x : Nat) : Int) < _
      rw [h4]
      omega
  rw [List.length_map] at e
  exact e
theorem ms2_congr {ws : List ((Int × Int) × Int)} {many X : Nat} (h : StOk many X ws) {f g : Nat → Int → Int} (e : ∀ c, c ≤ many → ∀ x, f c x = g c x) : ms2 ws f = ms2 ws g :=
  ms_congr fun p hp => by
    obtain ⟨c, x, e1, h1, h2⟩ := h.key p hp
    rw [e1]
    exact e c h1 _
end KM
end
/-! M14 -/
section
set_option Elab.async false
set_option linter.all false
namespace KM
/-! ### 1 - p as a pair -/
theorem one_sub {p : Rat} : (1 - p).num = (p.den : Int) - p.num ∧ ((1 - p).den : Int) = (p.den : Int) := by
  have e : Rat.divInt ((p.den : Int) - p.num) (p.den : Int) = 1 - p := by
    have h := rat_minus 1 p
    rw [show (1 : Rat).num = 1 from rfl, show (1 : Rat).den = 1 from rfl] at h
    rw [← h]
    congr 1 <;> simp
  have hd : ((p.den : Nat) : Int) ≠ 0 := by have := p.den_nz; omega
  have hg : Int.gcd ((p.den : Int) - p.num) (p.den : Int) = 1 := by
    have h1 : (Int.gcd ((p.den : Int) - p.num) (p.den : Int) : Int) ∣ (p.den : Int) := Int.gcd_dvd_right ..
    have h2 : (Int.gcd ((p.den : Int) - p.num) (p.den : Int) : Int) ∣ ((p.den : Int) - p.num) := Int.gcd_dvd_left ..
    have h3 : (Int.gcd ((p.den : Int) - p.num) (p.den : Int) : Int) ∣ p.num := by
      have := Int.dvd_sub h1 h2
      rw [show (p.den : Int) - ((p.den : Int) - p.num) = p.num by omega] at this
      exact this
    have h4 : Int.gcd ((p.den : Int) - p.num) (p.den : Int) ∣ Int.gcd p.num (p.den : Int) := Int.dvd_gcd h3 h1
    have h5 : Int.gcd p.num (p.den : Int) = 1 := p.reduced
    rw [h5] at h4
    exact Nat.dvd_one.mp h4
  have h1 := part_num ((p.den : Int) - p.num) (p.den : Int)
  have h2 := part_den (a := (p.den : Int) - p.num) hd
  rw [e, hg] at h1 h2
  have hp : (0 : Int) < (p.den : Int) := by have := p.den_pos; omega
  rw [if_pos hp] at h1 h2
  rw [h1, h2]
  refine ⟨?_, ?_⟩
  · rw [Int.one_mul]; exact Int.ediv_one _
  · rw [Int.one_mul]; exact Int.ediv_one _
/-! ### balls in lots, told from the other end -/
theorem bin_sym : ∀ l : Nat, l < 13 → ∀ k : Nat, k < 13 → k ≤ l → bin l (l - k) = bin l k := by decide +kernel
theorem sumr_first (f : Nat → Int) : ∀ n, sumr (n + 1) f = f 0 + sumr n fun k => f (k + 1)
  | 0 => by show (0 : Int) + f 0 = f 0 + 0; omega
  | n + 1 => by
    show sumr (n + 1) f + f (n + 1) = f 0 + (sumr n (fun k => f (k + 1)) + f (n + 1))
    rw [sumr_first f n]
    omega
theorem sumr_rev : ∀ (n : Nat) (f : Nat → Int), sumr n f = sumr n fun k => f (n - 1 - k)
  | 0, _ => rfl
  | n + 1, f => by
    rw [sumr_first (fun k => f (n + 1 - 1 - k)) n]
    show sumr n f + f n = f n + sumr n fun k => f (n - (k + 1))
    rw [sumr_rev n f, Int.add_comm]
    congr 1
    exact sumr_congr fun i hi => by rw [show n - 1 - i = n - (i + 1) by omega]
def rv (l n : Nat) (f : Nat → Int) : List (Int × Int) := (List.range n).map fun k : Nat => ((l : Int) - (k : Int), f k)
theorem rv_len (l n : Nat) (f : Nat → Int) : (rv l n f).length = n := by simp [rv]
theorem rv_ms (l n : Nat) (f : Nat → Int) (φ : Int → Int) : ms (rv l n f) φ = sumr n fun k => f k * φ ((l : Int) - k) := by
  induction n with
  | zero => rfl
  | succ n ih =>
    unfold rv at ih ⊢
    rw [List.range_succ, List.map_append, ms_app, ih]
    show _ + ms [_] φ = _
    rw [ms_cons, ms_nil, Int.add_zero]
    rfl
theorem rv_nd (l n : Nat) (f : Nat → Int) : ((rv l n f).map (·.1)).Nodup := by
  unfold rv
  rw [List.map_map]
  have : ∀ {xs : List Nat}, xs.Nodup → (xs.map ((fun p : Int × Int => p.1) ∘ fun k : Nat => ((l : Int) - (k : Int), f k))).Nodup := fun {xs} nd => by
    induction xs with
    | nil => exact List.nodup_nil
    | cons a r ih =>
      rw [List.nodup_cons] at nd
      rw [List.map_cons, List.nodup_cons]
      refine ⟨fun z => ?_, ih nd.2⟩
      obtain ⟨b, hb, e⟩ := List.mem_map.mp z
      have e : (l : Int) - (b : Int) = (l : Int) - (a : Int) := e
      have : b = a := by omega
      exact nd.1 (this ▸ hb)
  exact this List.nodup_range
theorem rv_nn {l n : Nat} {f : Nat → Int} (h : ∀ k, k < n → 0 ≤ f k) : ∀ p ∈ rv l n f, 0 ≤ p.2 := fun p hp => by
  obtain ⟨k, hk, rfl⟩ := List.mem_map.mp hp
  exact h k (List.mem_range.mp hk)
theorem rv_succ (l n : Nat) (f : Nat → Int) : rv l (n + 1) f = rv l n f ++ [((l : Int) - (n : Int), f n)] := by unfold rv; rw [List.range_succ]; simp
theorem fil_bare {l m : Nat} (hl : l ≤ 12) (hm : m ≤ 20) (φ : Int → Int) : ms (rv l (l + 1) (fil l m)) φ = ms (rg (l + 1) fun k => (bin l k : Int) * ont m (l - k)) φ := by
  rw [rv_ms, rg_ms, sumr_rev]
  refine sumr_congr fun k hk => ?_
  rw [show l + 1 - 1 - k = l - k by omega, fil_eq l hl m hm (l - k) (by omega), bin_sym l (by omega) k (by omega) (by omega)]
  rw [show (l : Int) - ((l - k : Nat) : Int) = (k : Int) by omega]
theorem ont_one : ∀ m : Nat, m < 21 → 0 < m → 0 < ont m 1 := by decide +kernel
theorem bare_pos {l m : Nat} (h1 : 1 ≤ l) (hm : m ≤ 20) : ∃ k, k < l + 1 ∧ 0 < (bin l k : Int) * ont m (l - k) := by
  by_cases z : m = 0
  · refine ⟨l, by omega, ?_⟩
    rw [bin_self, z, Nat.sub_self]
    decide
  · refine ⟨l - 1, by omega, ?_⟩
    rw [show l - (l - 1) = 1 by omega]
    have h2 := bin_pos l (l - 1) (by omega)
    exact Int.mul_pos (by omega) (ont_one m (by omega) (by omega))
end KM
end
/-! K0 -/
section
set_option Elab.async false
set_option linter.all false
set_option maxRecDepth 100000
namespace KK
open PySem PySem.Spec PyProof.Rows L2 KM
/-! ### * and // of great ints -/
theorem log2_lt {n b : Nat} (h : n < 2 ^ b) (hb : 0 < b) : n.log2 < b := by
  by_cases z : n = 0
  · subst z; simpa using hb
  · exact (Nat.log2_lt z).mpr h
theorem mw {i j : Int} {a b : Nat} (ha : Lt2 i a) (hb : Lt2 j b) (h0 : 0 < a := by decide) (h1 : 0 < b := by decide) (h : a + b ≤ 1000000 := by decide) : CMulW i j := by
  have x := log2_lt ha h0
  have y := log2_lt hb h1
  unfold CMulW
  omega
theorem dw {i j : Int} {b : Nat} (h : 0 < j) (hb : Lt2 j b) (h0 : 0 < b := by decide) (h9 : b ≤ 9000 := by decide) : CDivW i j := ⟨h, Nat.lt_of_lt_of_le (log2_lt hb h0) h9⟩
/-! ### the text by places -/
def top (i : Nat) : Stmt := PySem.Challenge.pw_luckwright_k63_whole_counting_at_any_siz.main.body.getD i (.Pass ⟨0, 0, 0, 0⟩)
/-! ### heaps and values -/
abbrev Ex := Evl.Ex
/-- a part: a tuple (top, low) -/
def PtAt (K : PySem.W.Frag) (H : Hp) (v : V) (q : Rat) : Prop := ∃ p, v = .ref p ∧ SqT K H p [.int q.num, .int (q.den : Int)]
theorem PtAt.ex {K : PySem.W.Frag} {H H' : Hp} {v : V} {q : Rat} (h : PtAt K H v q) (e : Ex H H') : PtAt K H' v q := by
  obtain ⟨p, rfl, h⟩ := h
  exact ⟨p, rfl, Evl.ex_t e h⟩
/-- what the top has left: no name of these stands for another thing -/
structure Tx (K : PySem.W.Frag) (mg : Str → Option Value) : Prop where
  n_abs : mg "abs" = none
  n_min : mg "min" = none
  n_max : mg "max" = none
  n_len : mg "len" = none
  n_sum : mg "sum" = none
  n_any : mg "any" = none
  n_dict : mg "dict" = none
  n_list : mg "list" = none
  n_tuple : mg "tuple" = none
  n_sorted : mg "sorted" = none
  n_int : mg "int" = none
  n_range : mg "range" = none
  n_enumerate : mg "enumerate" = none
end KK
end
/-! K1 -/
section
set_option Elab.async false
set_option linter.all false
set_option maxRecDepth 100000
namespace KK
open PySem PySem.Spec PyProof.Rows L2 KM
section
variable {P : Program} {w : World} {K : PySem.W.Frag} {mg : Str → Option Value} {base : Heap}
theorem decV {i j : Int} : decide (V.int i = V.int j) = decide (i = j) := by
  by_cases h : i = j
  · subst h; rw [decide_eq_true rfl, decide_eq_true rfl]
  · rw [decide_eq_false h, decide_eq_false fun z => h (V.int.inj z)]
theorem absI {x : Int} : (if x < 0 then -x else x) = ((x.natAbs : Nat) : Int) := by split <;> omega
/-- a part comes back -/
def RetP (K : PySem.W.Frag) (H : Hp) (Q : VK) (q : Rat) : Prop := ∀ v H', Ex H H' → PtAt K H' v q → Q v H'
/-! ### shared -/
abbrev s_shared : Stmt := top 10
abbrev N_shared : List Str := ["one", "other"]
theorem sc_shared : FnScope N_shared ["one", "other"] (C8.fnScope s_shared) := C8.fnScope_by (by decide +kernel)
-- slots: one=0 other=1
def spShared : Sp := fun vs H Q _ => ∃ a b : Int, vs = [.int a, .int b] ∧ 0 ≤ a ∧ 0 ≤ b ∧ Q (.int (Int.gcd a b : Nat)) H
theorem k_shared {f : Addr} {fd : FuncData} (T : Tx K mg) (Df : C8.Def K mg "shared" s_shared f fd) (bf : Binds K fd ["one", "other"] []) : C8.Cal P w K mg base 1 "shared" spShared [] := by
  refine C8.cal0 Df bf .nil sc_shared (fun vs H Q E h => ?_) (fun cdv A outer s H vs Q E hr h => ?_)
  · obtain ⟨a, b, rfl, _⟩ := h; rfl
  · obtain ⟨a, b, rfl, ha, hb, q⟩ := h
    refine ⟨_, (pss_cons (ps_while PassesOwn.never (pt_cmpR op_ne (pv 1) pe_int (nomark _))
      (pss_one (ps_par (i := 0) (j := 1) (by rfl) sc_shared.nd rfl rfl (by decide) rfl rfl (pa_cons (pv 1) (pa_cons (pe_op op_mod (pv 0) (pv 1)) pa_nil)) (by rfl))))
      (pss_one (ps_ret (pe_callB call_abs (by rfl) T.n_abs (by decide +kernel) (pa_cons (pv 0) pa_nil))))), ?_⟩
    refine ⟨fun m σ H' => ∃ x y : Int, σ = [some (.int x), some (.int y)] ∧ 0 ≤ x ∧ 0 ≤ y ∧ m = y.toNat ∧ Int.gcd x y = Int.gcd a b ∧ H' = H, ⟨_, a, b, rfl, ha, hb, rfl, rfl, rfl⟩, ?_⟩
    rintro m σ H' ⟨x, y, rfl, hx, hy, rfl, hg, rfl⟩
    refine ⟨_, rfl, rfl, _, rfl, ?_⟩
    rw [decV]
    by_cases hz : y = 0
    · subst hz
      refine iteF ?_
      refine ⟨_, rfl, _, rfl, ?_⟩
      rw [Int.gcd_zero_right] at hg
      rw [← hg] at q
      rw [absI]
      exact q
    · rw [decide_eq_false hz]
      refine iteT ?_
      refine ⟨fun σ' H'' => ∃ x y' : Int, σ' = [some (.int x), some (.int y')] ∧ 0 ≤ x ∧ 0 ≤ y' ∧ y' < y ∧ Int.gcd x y' = Int.gcd a b ∧ H'' = H', ?_, ?_⟩
      · rintro σ' H'' ⟨x', y', rfl, h1, h2, h3, h4, rfl⟩
        exact ⟨_, by omega, x', y', rfl, h1, h2, rfl, h4, rfl⟩
      · have hm := Int.emod_nonneg x (b := y) hz
        have hl := Int.emod_lt_of_pos x (b := y) (by omega)
        refine ⟨_, rfl, _, rfl, _, rfl, _, _, rfl, rfl, (by show (0 : Int) < y; omega), ?_⟩
        exact ⟨_, _, rfl, y, x % y, rfl, hy, hm, hl, by rw [← hg, Int.gcd_comm y, gcd_mod hx hy], rfl⟩
/-! ### part -/
abbrev s_part : Stmt := top 11
abbrev N_part : List Str := ["top", "low", "by", "sign"]
theorem sc_part : FnScope N_part ["top", "low"] (C8.fnScope s_part) := C8.fnScope_by (by decide +kernel)
-- slots: top=0 low=1 by=2 sign=3
def spPart (K : PySem.W.Frag) : Sp := fun vs H Q _ => ∃ a b : Int, vs = [.int a, .int b] ∧ b ≠ 0 ∧ Lt2 a 8000 ∧ Lt2 b 8000 ∧ RetP K H Q (Rat.divInt a b)
theorem k_part {f : Addr} {fd : FuncData} (T : Tx K mg) (Df : C8.Def K mg "part" s_part f fd) (bf : Binds K fd ["top", "low"] []) (c_shared : C8.Cal P w K mg base 1 "shared" spShared []) : C8.Cal P w K mg base 2 "part" (spPart K) [] := by
  refine C8.cal0 Df bf .nil sc_part (fun vs H Q E h => ?_) (fun cdv A outer s H vs Q E hr h => ?_)
  · obtain ⟨a, b, rfl, _⟩ := h; rfl
  · obtain ⟨a, b, rfl, hz, ha, hb, k⟩ := h
    refine ⟨_, (pss_cons (ps_if (pt_cmpR op_eq (pv 1) pe_int (nomark _)) pss_never pss_nil)
      (pss_cons (ps_set (i := 2) sc_part.nd rfl (Or.inl rfl) (C8.pe_c c_shared hr (by omega) (by rfl) (pa_cons (pe_callB call_abs (by rfl) T.n_abs (by decide +kernel) (pa_cons (pv 0) pa_nil)) (pa_cons (pe_callB call_abs (by rfl) T.n_abs (by decide +kernel) (pa_cons (pv 1) pa_nil)) pa_nil))))
      (pss_cons (ps_set (i := 3) sc_part.nd rfl (Or.inl rfl) (pe_ifExp (pt_cmpR op_gt (pv 1) pe_int (nomark _)) pe_int (pe_un un_neg pe_int)))
      (pss_one (ps_ret (pe_tup (pa_cons (pe_op op_fdivW (pe_op op_mulW (pv 3) (pv 0)) (pv 2)) (pa_cons (pe_op op_fdivW (pe_op op_mulW (pv 3) (pv 1)) (pv 2)) pa_nil)))))))), ?_⟩
    refine ⟨_, rfl, rfl, _, rfl, ?_⟩
    rw [decV, decide_eq_false hz]
    refine iteF ?_
    refine ⟨_, rfl, _, rfl, _, rfl, _, rfl, _, _, rfl, by split <;> omega, by split <;> omega, ?_⟩
    rw [absI, absI, show Int.gcd ((a.natAbs : Nat) : Int) ((b.natAbs : Nat) : Int) = Int.gcd a b from rfl]
    have key : ∀ sg : Int, sg = (if 0 < b then 1 else -1) → tRet (tTup (tCons (tOp (rI CDivW fun i j => .int (i / j)) (tOp (rI CMulW fun i j => .int (i * j)) (tVar 3) (tVar 0)) (tVar 2)) (tCons (tOp (rI CDivW fun i j => .int (i / j)) (tOp (rI CMulW fun i j => .int (i * j)) (tVar 3) (tVar 1)) (tVar 2)) tNil))) { nx := fun _ H' => Q .non H', rt := Q } [some (.int a), some (.int b), some (.int (Int.gcd a b : Nat)), some (.int sg)] H := by
      intro sg e
      have hs : Lt2 sg 1 := by rw [e]; split <;> (unfold Lt2 Ln; decide)
      have hg := gcd_pos (a := a) hz
      have hl := gcd_abs_lt (a := a) hz hb
      refine ⟨_, rfl, _, rfl, _, _, rfl, rfl, mw hs ha, _, rfl, _, _, rfl, rfl, dw hg hl, _, rfl, _, rfl, _, _, rfl, rfl, mw hs hb, _, rfl, _, _, rfl, rfl, dw hg hl, (by show 2 ≤ sizeLine; decide), fun p hp => ?_⟩
      refine k _ _ (Evl.Ex.new hp) ⟨p, rfl, Evl.st_of ?_⟩
      rw [upd_same, (part_pair hz).1, (part_pair hz).2, e]
    refine ⟨_, rfl, _, _, rfl, rfl, _, rfl, ?_⟩
    by_cases hp : 0 < b
    · rw [decide_eq_true hp]
      refine iteT (key 1 (by rw [if_pos hp]))
    · rw [decide_eq_false hp]
      refine iteF ⟨_, rfl, key (-1) (by rw [if_neg hp])⟩
/-! ### plus, minus, times -/
abbrev s_plus : Stmt := top 12
abbrev N_plus : List Str := ["one", "other"]
theorem sc_plus : FnScope N_plus ["one", "other"] (C8.fnScope s_plus) := C8.fnScope_by (by decide +kernel)
-- slots: one=0 other=1
abbrev s_minus : Stmt := top 13
abbrev N_minus : List Str := ["one", "other"]
theorem sc_minus : FnScope N_minus ["one", "other"] (C8.fnScope s_minus) := C8.fnScope_by (by decide +kernel)
-- slots: one=0 other=1
abbrev s_times : Stmt := top 14
abbrev N_times : List Str := ["one", "other"]
theorem sc_times : FnScope N_times ["one", "other"] (C8.fnScope s_times) := C8.fnScope_by (by decide +kernel)
-- slots: one=0 other=1
def spTwo (K : PySem.W.Frag) (g : Rat → Rat → Rat) : Sp := fun vs H Q _ => ∃ (x y : V) (p q : Rat), vs = [x, y] ∧ PtAt K H x p ∧ PtAt K H y q ∧ sm p ∧ sm q ∧ RetP K H Q (g p q)
theorem k_plus {f : Addr} {fd : FuncData} (T : Tx K mg) (Df : C8.Def K mg "plus" s_plus f fd) (bf : Binds K fd ["one", "other"] []) (c_part : C8.Cal P w K mg base 2 "part" (spPart K) []) : C8.Cal P w K mg base 3 "plus" (spTwo K (· + ·)) [] := by
  refine C8.cal0 Df bf .nil sc_plus (fun vs H Q E h => ?_) (fun cdv A outer s H vs Q E hr h => ?_)
  · obtain ⟨_, _, _, _, rfl, _⟩ := h; rfl
  · obtain ⟨_, _, p, q, rfl, ⟨a, rfl, ha⟩, ⟨b, rfl, hb⟩, sp, sq, k⟩ := h
    refine ⟨_, (pss_one (ps_ret (C8.pe_c c_part hr (by omega) (by rfl) (pa_cons (pe_op op_add (pe_op op_mulW (pe_ix ix_tup (pv 0) pe_int (fun _ _ => rfl)) (pe_ix ix_tup (pv 1) pe_int (fun _ _ => rfl))) (pe_op op_mulW (pe_ix ix_tup (pv 1) pe_int (fun _ _ => rfl)) (pe_ix ix_tup (pv 0) pe_int (fun _ _ => rfl)))) (pa_cons (pe_op op_mulW (pe_ix ix_tup (pv 0) pe_int (fun _ _ => rfl)) (pe_ix ix_tup (pv 1) pe_int (fun _ _ => rfl))) pa_nil))))), ?_⟩
    refine ⟨_, rfl, _, _, _, _, rfl, rfl, ha, atI_nat (j := 0) rfl, _, rfl, _, _, _, _, rfl, rfl, hb, atI_nat (j := 1) rfl, _, _, rfl, rfl, mw sp.1 sq.d, _, rfl, _, _, _, _, rfl, rfl, hb, atI_nat (j := 0) rfl, _, rfl, _, _, _, _, rfl, rfl, ha, atI_nat (j := 1) rfl, _, _, rfl, rfl, mw sq.1 sp.d, _, _, rfl, rfl, _, rfl, _, _, _, _, rfl, rfl, ha, atI_nat (j := 1) rfl, _, rfl, _, _, _, _, rfl, rfl, hb, atI_nat (j := 1) rfl, _, _, rfl, rfl, mw sp.d sq.d, ?_⟩
    refine ⟨_, _, rfl, den_mul_ne p q, plus_lt sp sq, dens_lt sp sq, fun v H' e h => k v H' e ?_⟩
    rw [rat_plus] at h; exact h
theorem k_minus {f : Addr} {fd : FuncData} (T : Tx K mg) (Df : C8.Def K mg "minus" s_minus f fd) (bf : Binds K fd ["one", "other"] []) (c_part : C8.Cal P w K mg base 2 "part" (spPart K) []) : C8.Cal P w K mg base 3 "minus" (spTwo K (· - ·)) [] := by
  refine C8.cal0 Df bf .nil sc_minus (fun vs H Q E h => ?_) (fun cdv A outer s H vs Q E hr h => ?_)
  · obtain ⟨_, _, _, _, rfl, _⟩ := h; rfl
  · obtain ⟨_, _, p, q, rfl, ⟨a, rfl, ha⟩, ⟨b, rfl, hb⟩, sp, sq, k⟩ := h
    refine ⟨_, (pss_one (ps_ret (C8.pe_c c_part hr (by omega) (by rfl) (pa_cons (pe_op op_sub (pe_op op_mulW (pe_ix ix_tup (pv 0) pe_int (fun _ _ => rfl)) (pe_ix ix_tup (pv 1) pe_int (fun _ _ => rfl))) (pe_op op_mulW (pe_ix ix_tup (pv 1) pe_int (fun _ _ => rfl)) (pe_ix ix_tup (pv 0) pe_int (fun _ _ => rfl)))) (pa_cons (pe_op op_mulW (pe_ix ix_tup (pv 0) pe_int (fun _ _ => rfl)) (pe_ix ix_tup (pv 1) pe_int (fun _ _ => rfl))) pa_nil))))), ?_⟩
    refine ⟨_, rfl, _, _, _, _, rfl, rfl, ha, atI_nat (j := 0) rfl, _, rfl, _, _, _, _, rfl, rfl, hb, atI_nat (j := 1) rfl, _, _, rfl, rfl, mw sp.1 sq.d, _, rfl, _, _, _, _, rfl, rfl, hb, atI_nat (j := 0) rfl, _, rfl, _, _, _, _, rfl, rfl, ha, atI_nat (j := 1) rfl, _, _, rfl, rfl, mw sq.1 sp.d, _, _, rfl, rfl, _, rfl, _, _, _, _, rfl, rfl, ha, atI_nat (j := 1) rfl, _, rfl, _, _, _, _, rfl, rfl, hb, atI_nat (j := 1) rfl, _, _, rfl, rfl, mw sp.d sq.d, ?_⟩
    refine ⟨_, _, rfl, den_mul_ne p q, minus_lt sp sq, dens_lt sp sq, fun v H' e h => k v H' e ?_⟩
    rw [rat_minus] at h; exact h
theorem k_times {f : Addr} {fd : FuncData} (T : Tx K mg) (Df : C8.Def K mg "times" s_times f fd) (bf : Binds K fd ["one", "other"] []) (c_part : C8.Cal P w K mg base 2 "part" (spPart K) []) : C8.Cal P w K mg base 3 "times" (spTwo K (· * ·)) [] := by
  refine C8.cal0 Df bf .nil sc_times (fun vs H Q E h => ?_) (fun cdv A outer s H vs Q E hr h => ?_)
  · obtain ⟨_, _, _, _, rfl, _⟩ := h; rfl
  · obtain ⟨_, _, p, q, rfl, ⟨a, rfl, ha⟩, ⟨b, rfl, hb⟩, sp, sq, k⟩ := h
    refine ⟨_, (pss_one (ps_ret (C8.pe_c c_part hr (by omega) (by rfl) (pa_cons (pe_op op_mulW (pe_ix ix_tup (pv 0) pe_int (fun _ _ => rfl)) (pe_ix ix_tup (pv 1) pe_int (fun _ _ => rfl))) (pa_cons (pe_op op_mulW (pe_ix ix_tup (pv 0) pe_int (fun _ _ => rfl)) (pe_ix ix_tup (pv 1) pe_int (fun _ _ => rfl))) pa_nil))))), ?_⟩
    refine ⟨_, rfl, _, _, _, _, rfl, rfl, ha, atI_nat (j := 0) rfl, _, rfl, _, _, _, _, rfl, rfl, hb, atI_nat (j := 0) rfl, _, _, rfl, rfl, mw sp.1 sq.1, _, rfl, _, _, _, _, rfl, rfl, ha, atI_nat (j := 1) rfl, _, rfl, _, _, _, _, rfl, rfl, hb, atI_nat (j := 1) rfl, _, _, rfl, rfl, mw sp.d sq.d, ?_⟩
    refine ⟨_, _, rfl, den_mul_ne p q, times_lt sp sq, dens_lt sp sq, fun v H' e h => k v H' e ?_⟩
    rw [rat_times] at h; exact h
/-! ### other_way, check_chance -/
abbrev s_other_way : Stmt := top 18
abbrev N_other_way : List Str := ["one"]
theorem sc_other_way : FnScope N_other_way ["one"] (C8.fnScope s_other_way) := C8.fnScope_by (by decide +kernel)
-- slots: one=0
def spOther (K : PySem.W.Frag) : Sp := fun vs H Q _ => ∃ (x : V) (p : Rat), vs = [x] ∧ PtAt K H x p ∧ sm p ∧ RetP K H Q (1 - p)
theorem k_other_way {f aO : Addr} {fd : FuncData} (T : Tx K mg) (Df : C8.Def K mg "other_way" s_other_way f fd) (bf : Binds K fd ["one"] []) (g_ONE : mg "ONE" = some (.ref aO)) (hO : ∀ H, SqT K H aO [.int 1, .int 1]) (c_minus : C8.Cal P w K mg base 3 "minus" (spTwo K (· - ·)) []) :
    C8.Cal P w K mg base 4 "other_way" (spOther K) [] := by
  refine C8.cal0 Df bf .nil sc_other_way (fun vs H Q E h => ?_) (fun cdv A outer s H vs Q E hr h => ?_)
  · obtain ⟨_, _, rfl, _⟩ := h; rfl
  · obtain ⟨x, p, rfl, hx, sp, k⟩ := h
    refine ⟨_, (pss_one (ps_ret (C8.pe_c c_minus hr (by omega) (by rfl) (pa_cons (pe_glob (v := V.ref _) (by rfl) g_ONE rfl) (pa_cons (pv 0) pa_nil))))), ?_⟩
    exact ⟨_, rfl, _, _, 1, p, rfl, ⟨aO, rfl, hO H⟩, hx, sm_one, sp, k⟩
abbrev s_check_chance : Stmt := top 17
abbrev N_check_chance : List Str := ["one", "found"]
theorem sc_check_chance : FnScope N_check_chance ["one"] (C8.fnScope s_check_chance) := C8.fnScope_by (by decide +kernel)
-- slots: one=0 found=1
def spChance (K : PySem.W.Frag) : Sp := fun vs H Q _ => ∃ (x : V) (p : Rat), vs = [x] ∧ PtAt K H x p ∧ sm p ∧ 0 ≤ p ∧ p ≤ 1 ∧ RetP K H Q p
theorem k_check_chance {f : Addr} {fd : FuncData} (T : Tx K mg) (Df : C8.Def K mg "check_chance" s_check_chance f fd) (bf : Binds K fd ["one"] []) (c_part : C8.Cal P w K mg base 2 "part" (spPart K) []) : C8.Cal P w K mg base 3 "check_chance" (spChance K) [] := by
  refine C8.cal0 Df bf .nil sc_check_chance (fun vs H Q E h => ?_) (fun cdv A outer s H vs Q E hr h => ?_)
  · obtain ⟨_, _, rfl, _⟩ := h; rfl
  · obtain ⟨_, p, rfl, ⟨a, rfl, ha⟩, sp, h0, h1, k⟩ := h
    refine ⟨_, (pss_cons (ps_set (i := 1) sc_check_chance.nd rfl (Or.inl rfl) (C8.pe_c c_part hr (by omega) (by rfl) (pa_cons (pe_ix ix_tup (pv 0) pe_int (fun _ _ => rfl)) (pa_cons (pe_ix ix_tup (pv 0) pe_int (fun _ _ => rfl)) pa_nil))))
      (pss_cons (ps_if (PW.pt (pw_or (pt_cmpR op_lt (pe_ix ix_tup (pv 1) pe_int (fun _ _ => rfl)) pe_int (nomark _)) (pw_or1 (pt_cmpR op_gt (pe_ix ix_tup (pv 1) pe_int (fun _ _ => rfl)) (pe_ix ix_tup (pv 1) pe_int (fun _ _ => rfl)) (nomark _))))) pss_never pss_nil)
      (pss_one (ps_ret (pv 1))))), ?_⟩
    refine ⟨_, rfl, _, _, _, _, rfl, rfl, ha, atI_nat (j := 0) rfl, _, rfl, _, _, _, _, rfl, rfl, ha, atI_nat (j := 1) rfl, _, _, rfl, den_ne p, sp.1.up, sp.d.up, ?_⟩
    rintro v H' e ⟨c, rfl, hc⟩
    rw [rat_self] at hc
    have n0 : ¬ p.num < 0 := by have := Rat.num_nonneg.mpr h0; omega
    have n1 : ¬ (p.den : Int) < p.num := by
      have := num_le (B := 1) (Rat.le_trans (by decide) h0) h1
      omega
    refine ⟨_, rfl, _, _, _, _, rfl, rfl, hc, atI_nat (j := 0) rfl, _, _, rfl, rfl, _, rfl, ?_⟩
    rw [decide_eq_false n0]
    refine iteF ⟨_, rfl, _, _, _, _, rfl, rfl, hc, atI_nat (j := 0) rfl, _, rfl, _, _, _, _, rfl, rfl, hc, atI_nat (j := 1) rfl, _, _, rfl, rfl, _, rfl, ?_⟩
    rw [decide_eq_false n1]
    exact iteF ⟨_, rfl, k _ _ e ⟨c, rfl, hc⟩⟩
end
end KK
end
/-! G1 -/
section
set_option Elab.async false
set_option linter.all false
set_option maxRecDepth 100000
set_option maxHeartbeats 1000000
namespace GX
open PySem PySem.Spec PyProof.Rows L2 GenW
abbrev Pins := List (Addr × Obj)
/-- ys is out; the consumer's own objects stand as PK says; the generator's iterator at ip -/
def GI (Z : Cx) (PK : List V → Pins → Prop) (ip PS : Pins) (ys : List V) (σ : L2.St) (H : Hp) (s : Shared) : Prop :=
  PK ys PS ∧ (∀ q ∈ PS, ∀ p ∈ Z.pn ++ ip, p.1 ≠ q.1) ∧ Inv Z (PS ++ ip) σ H s
/-- the consumer's objects stand so at s -/
def Stood (PS : Pins) (s : Shared) : Prop := ∀ q ∈ PS, s.heap.get? q.1 = some q.2
theorem GI.stood {Z : Cx} {PK : List V → Pins → Prop} {ip PS : Pins} {ys : List V} {σ : L2.St} {H : Hp} {s : Shared} (h : GI Z PK ip PS ys σ H s) : Stood PS s := fun q hq => (h.2.2.pin q (List.mem_append_right _ (List.mem_append_left _ hq))).1
def GY (Z : Cx) (PK : List V → Pins → Prop) (Ok : V → Prop) : Protocol := fun _ s₀ v s kap =>
  ∃ ys x ip PS σ H, RelV x v ∧ Ok x ∧ GI Z PK ip PS ys σ H s ∧ Stood PS s₀ ∧ ∀ s' PS', GI Z PK ip PS' (ys ++ [x]) σ H s' → kap (.send .none) s'
def GR (Z : Cx) (PK : List V → Pins → Prop) (cont : List V → Hp → Prop) : GenEnd := fun _ s₀ r s =>
  r = .ok .next ∧ ∃ ys PS σ H, GI Z PK [] PS ys σ H s ∧ Stood PS s₀ ∧ cont ys H
/-- what one turn asks -/
def turnG (J : It) (g : TG) (tt : TT) (te : TE) (vs : List Nat) (σ : L2.St) (Ok : V → Prop) (cont : List V → Hp → Prop) (W : Nat → Nat → List V → Hp → Prop) : Prop :=
  ∀ i m ys H, W i m ys H → (J.stop i H ∧ cont ys H) ∨ (J.go i H ∧ ∃ Nx : List V → Hp → Prop, (∀ ys' H', Nx ys' H' → ∃ m', m' < m ∧ W (i + 1) m' ys' H') ∧
    ∀ x H', J.yld i H x H' → g x (wipe σ vs) H' fun σ2 H2 => wipe σ2 vs = wipe σ vs ∧ tt σ2 H2 fun b H3 => if b = true then te σ2 H3 fun y H4 => Ok y ∧ Nx (ys ++ [y]) H4 else Nx ys H3)
section
variable {Z : Cx} {A : Around} {PK : List V → Pins → Prop} {Ok : V → Prop} {cont : List V → Hp → Prop}
theorem seg_bindZ {R : GenEnd} {Y : Protocol} {n : Nat} {s₀ : Shared} {c : Code} {s : Shared} {α β : Type} {m : Sem α} {K : α → Sem β} {K' : β → Sem PySem.Fin} {H' : Value → Sem PySem.Fin} {gd lv} {M : Model} (hA : A.over c [] = Z.A)
    (h : wpAny M Z.A m (fun a s' => Seg M A R Y n s₀ c ((K a).wrap K' H' gd lv) [] s') (fun _ _ => False) s) : Seg M A R Y n s₀ c ((m >>= K).wrap K' H' gd lv) [] s :=
  seg_bind_wrap (by rw [hA]; exact wpAny_mono h (fun _ _ z => z) fun _ _ z => z.elim)
theorem gx_loop {elt tg iter : Expr} {ifs : List Expr} {scope : Scope} {pos : Pos} {it : Addr} {fp : List Addr} {tn : Nat → Heap → Prop} {J : It} {g : TG} {tt : TT} {te : TE} {vs : List Nat} {σ : L2.St} {W : Nat → Nat → List V → Hp → Prop}
    (hA : A.over (.compLoop (.GeneratorExp elt [⟨tg, iter, ifs, 0⟩] scope pos) 0 (.ref it) .none Z.env) [] = Z.A) (hc : Z.calm = true) (hco : Z.env.scope.isCoroutine = false) (hxe : Z.xe = fun _ _ => False)
    (T : Turn Z.prog Z.w Z.K tg J fp it tn) (hfp : ∀ b ∈ fp, b ∈ Z.ex) (hpn : ∀ p ∈ Z.pn, p.1 ∉ fp) (hPS : ∀ ys PS, PK ys PS → ∀ p ∈ PS, p.1 ∉ fp)
    (pg : PG Z tg g) (pt : PTs Z ifs tt) (pe : PE Z elt te) (turn : turnG J g tt te vs σ Ok cont W) :
    ∀ (m n i : Nat) (PS : Pins) (ys : List V) (H : Hp) (s₀ s : Shared), m ≤ n → GI Z PK [] PS ys (wipe σ vs) H s → Stood PS s₀ → tn i s.heap → (∀ b ∈ fp, H b = none) → W i m ys H →
      Seg (model Z.prog Z.w) A (GR Z PK cont) (GY Z PK Ok) n s₀ (.compLoop (.GeneratorExp elt [⟨tg, iter, ifs, 0⟩] scope pos) 0 (.ref it) .none Z.env)
        ((model Z.prog Z.w).den (.compLoop (.GeneratorExp elt [⟨tg, iter, ifs, 0⟩] scope pos) 0 (.ref it) .none Z.env)) [] s := by
  have run0 : ∀ {α : Type} {t : Sem α} {Q : α → Shared → Prop} {s : Shared}, wpAny (model Z.prog Z.w) Z.A t Q Z.xe s → wpAny (model Z.prog Z.w) Z.A t Q (fun _ _ => False) s := fun {α t Q s} h => by rw [hxe] at h; exact h
  have stat : ∀ {pins : Pins} {σ' : L2.St} {H' : Hp} {s' : Shared}, (∀ p ∈ pins, p.1 ∉ fp) → Inv Z pins σ' H' s' → (∀ b ∈ fp, H' b = none) → ∀ b ∈ fp, FpOk Z pins H' b := fun {pins σ' H' s'} hp I' hn b hb =>
    ⟨hn b hb, (I'.ok.exf b (hfp b hb)).1, I'.ok.exfs b (hfp b hb), .inl (hfp b hb), fun x c e => (I'.ok.exf b (hfp b hb)).2 x c e, fun p hq z => by
      rcases List.mem_append.mp hq with hq | hq
      · exact hpn p hq (by rw [z]; exact hb)
      · exact hp p hq (by rw [z]; exact hb)⟩
  intro m
  induction m using Nat.strongRecOn with
  | ind m ih =>
    intro n i PS ys H s₀ s hmn hGI h0 st nf w
    obtain ⟨hPK, hap, I⟩ := hGI
    rw [List.append_nil] at I
    have hps := hPS ys PS hPK
    show Seg _ A _ _ n s₀ _ ((compTurn (.GeneratorExp elt [⟨tg, iter, ifs, 0⟩] scope pos) 0 (.ref it) .none Z.env).onRaise (leaving Z.env)) [] s
    rw [compTurn_gen, Sem.onRaise_eq_wrap]
    refine seg_bindZ (Z := Z) hA (wpAny_standAt ?_)
    rcases turn i m ys H w with ⟨stop, q⟩ | ⟨go, Nx, hNx, step⟩
    · refine seg_bindZ (Z := Z) hA (thn (T.done Z rfl rfl rfl hc i PS s _ H (fun _ _ => False) I (stat hps I nf) st stop) fun r s6 ⟨hr, I6⟩ => ?_)
      subst hr
      exact seg_end (.ok .next) ⟨rfl, ys, PS, _, H, ⟨hPK, hap, by rw [List.append_nil]; exact I6⟩, h0, q⟩
    · refine seg_bindZ (Z := Z) hA (thn (T.item Z rfl rfl rfl hc i PS s _ H (fun _ _ => False) I (stat hps I nf) st go) fun r s6 ⟨u, hr, h6⟩ => ?_)
      subst hr
      refine seg_bindZ (Z := Z) hA (thn h6 fun _ s7 ⟨x, H7, I7, r7, y7, st7, n7⟩ => ?_)
      have I7' := I7.pinned (stat hps I7 n7) (T.obj _ _ st7)
      refine seg_bindZ (Z := Z) hA (thn (run0 (pg.run _ s7 _ H7 x u _ I7' r7 (step x H7 y7))) fun _ s8 ⟨σ8, H8, I8, hw8, q8⟩ => ?_)
      refine seg_bindZ (Z := Z) hA (thn (run0 (pt.run _ s8 σ8 H8 _ I8 q8)) fun b s9 ⟨H9, I9, q9⟩ => ?_)
      have fin : ∀ {s' : Shared} {PS' : Pins} {H' : Hp} {ys' : List V} {n' : Nat}, GI Z PK (pinsAt fp s7.heap) PS' ys' σ8 H' s' → Nx ys' H' → m ≤ n' + 1 →
          Seg (model Z.prog Z.w) A (GR Z PK cont) (GY Z PK Ok) n' s' (.compLoop (.GeneratorExp elt [⟨tg, iter, ifs, 0⟩] scope pos) 0 (.ref it) .none Z.env)
            ((model Z.prog Z.w).den (.compLoop (.GeneratorExp elt [⟨tg, iter, ifs, 0⟩] scope pos) 0 (.ref it) .none Z.env)) [] s' ∧ True := fun {s' PS' H' ys' n'} hG nx hmn' => by
        have hst := hG.stood
        obtain ⟨hPK', hap', I'⟩ := hG
        obtain ⟨m', hm, w'⟩ := hNx ys' H' nx
        have pin' : ∀ b ∈ fp, ∀ o, s7.heap.get? b = some o → s'.heap.get? b = some o ∧ H' b = none := fun b hb o e =>
          let z := I'.pin (b, o) (List.mem_append_right _ (List.mem_append_right _ (mem_pinsAt hb e)))
          ⟨z.1, z.2.1⟩
        have hl : (wipe σ vs).length = σ8.length := by rw [← hw8, wipe_length]
        refine ⟨ih m' hm n' (i + 1) PS' ys' H' s' s' (by omega) ⟨hPK', fun q hq p hp => hap' q hq p (List.mem_append_left _ (by simpa using hp)), ?_⟩ hst (T.keep _ _ _ st7 fun b hb o e => (pin' b hb o e).1) (fun b hb => ?_) w', trivial⟩
        · rw [List.append_nil]
          refine (I'.unpinned (pins := PS')).weak hl fun j v e => ?_
          rw [← hw8] at e
          exact (wipe_some e).1
        · obtain ⟨o, e, _⟩ := T.obj _ _ st7 b hb
          exact (pin' b hb o e).2
      cases b with
      | false =>
        simp only [Bool.false_eq_true, if_false] at q9 ⊢
        obtain ⟨m', hm, w'⟩ := hNx ys H9 q9
        -- nothing is handed out
        have pin' : ∀ b ∈ fp, ∀ o, s7.heap.get? b = some o → s9.heap.get? b = some o ∧ H9 b = none := fun b hb o e =>
          let z := I9.pin (b, o) (List.mem_append_right _ (List.mem_append_right _ (mem_pinsAt hb e)))
          ⟨z.1, z.2.1⟩
        have hl : (wipe σ vs).length = σ8.length := by rw [← hw8, wipe_length]
        refine seg_again rfl (ih m' hm n (i + 1) PS ys H9 s₀ s9 (by omega) ⟨hPK, hap, ?_⟩ h0 (T.keep _ _ _ st7 fun b hb o e => (pin' b hb o e).1) (fun b hb => ?_) w')
        · rw [List.append_nil]
          refine (I9.unpinned (pins := PS)).weak hl fun j v e => ?_
          rw [← hw8] at e
          exact (wipe_some e).1
        · obtain ⟨o, e, _⟩ := T.obj _ _ st7 b hb
          exact (pin' b hb o e).2
      | true =>
        simp only [if_true] at q9 ⊢
        have hy : ∀ v, yieldOut Z.env v = yieldValue v := fun v => by simp only [yieldOut, hco, Bool.false_eq_true, if_false]
        simp only [hy]
        rw [Sem.bind_eq_wrap', Sem.bind_eq_wrap', Sem.wrap_wrap, Sem.wrap_wrap]
        refine seg_wrap ?_
        rw [hA]
        refine wpAny_mono (run0 (pe.run _ s9 σ8 H9 _ I9 q9)) (fun z s10 ⟨yv, H10, I10, r10, hok, nx⟩ => ?_) fun _ _ z => z.elim
        cases n with
        | zero =>
          obtain ⟨m', hm, _⟩ := hNx _ _ nx
          omega
        | succ n' =>
          refine seg_at (seg_yield rfl rfl rfl ⟨ys, yv, pinsAt fp s7.heap, PS, σ8, H10, r10, hok, ⟨hPK, fun q hq p hp => ?_, I10⟩, h0, fun s'' PS' hG => ?_⟩)
          · rcases List.mem_append.mp hp with hp | hp
            · exact hap q hq p (List.mem_append_left _ hp)
            · exact fun z => hps q hq (by rw [← z]; exact (of_pinsAt hp).1)
          · exact seg_again rfl (fin hG nx (by omega)).1
end
end GX
end
/-! G2 -/
section
set_option Elab.async false
set_option linter.all false
set_option maxRecDepth 100000
set_option maxHeartbeats 1000000
namespace GX
open PySem PySem.Spec PyProof.Rows L2 GenW
/-! ### a generator expression's names, its context -/
/-- one clause: the walked thing at «.0», own names local, the others captured -/
structure GSc (sc scope : Scope) : Prop where
  co : scope.isCoroutine = false
  cell : ∀ y ∈ scope.names, y.2 ≠ .cell
  dot : scope.names.lookup (".0" : Str) = some NameKind.local
def gscB (scope : Scope) : Bool := !scope.isCoroutine && scope.names.all (fun y => !decide (y.2 = .cell)) && decide (scope.names.lookup (".0" : Str) = some NameKind.local)
theorem gsc_by {sc scope : Scope} (h : gscB scope = true) : GSc sc scope := by
  unfold gscB at h
  simp only [Bool.and_eq_true, Bool.not_eq_true', decide_eq_true_eq, decide_eq_false_iff_not, List.all_eq_true] at h
  exact ⟨h.1.1, h.1.2, h.2⟩
abbrev gEnvOf (X : Cx) (scope : Scope) (C : Addr) (code : Value) : Env := genEnv scope (cloFrom X.env.cells scope.names []) C code builtinsNs X.env
/-- the context of its body, begun at s -/
def gCx (X : Cx) (s : Shared) (H : Hp) (cenv : Env) (fp : List Addr) (A : Around) (pn : Pins) : Cx :=
  { X with A := A, s_0 := s, H_0 := H, env := cenv, outer := X.stack, stack := cenv :: X.stack, ex := fp, fn := fun _ => false, pn := pn, xe := fun _ _ => False }
theorem inv_gens {Z : Cx} {pins : Pins} {σ : L2.St} {H : Hp} {s : Shared} {h' : Heap} {g' : Array GenState} {t' : Nat} (I : Inv Z pins σ H s) (k : ∀ b o, s.heap.get? b = some o → h'.get? b = some o) (hg : AllBare g') :
    Inv Z pins σ H { s with heap := h', gens := g', toks := t' } :=
  I.call (g' := g') (d' := s.drawn) (t' := t') (ch := []) (Un.kept k) (I.hok.kept k) hg fun b hb => absurd hb (by simp)
section
variable {X : Cx} {pins : Pins} {σ : L2.St} {H : Hp} {s : Shared}
/-- the generator's frame C and its object a are laid: its body may run -/
theorem gx_begin {scope : Scope} {own : List (Str × Nat)} {fp : List Addr} {code : Value} {A : Around} {a : Addr} {og : Obj} {s5 : Shared} {m : Str → Option Value} (I : Inv X pins σ H s) (ok : BlkOk X.N X.env.scope scope own) (G : GSc X.env.scope scope) (hN : X.N.Nodup)
    (hfp : ∀ b ∈ fp, FpOk X pins H b ∧ b < s.heap.objs.size) (hA : A.frames = some (gEnvOf X scope s.heap.objs.size code :: X.stack)) (hh : A.handled = none)
    (kp : ∀ b o, s.heap.get? b = some o → s5.heap.get? b = some o) (hos : s5.os = s.os) (hg : AllBare s5.gens) (hns : s5.heap.Ns s.heap.objs.size m) (ha : s.heap.objs.size < a) (hog : s5.heap.get? a = some og) (hcd : ∀ v, og.data ≠ .cell v) :
    Inv (gCx X s H (gEnvOf X scope s.heap.objs.size code) fp A [(a, og)]) [] (wipe σ (own.map (·.2))) H s5 := by
  have hfree : ∀ y ∈ scope.names, y.2 = .free → ∃ c, X.env.cells.lookup y.1 = some c := fun y hy e => by
    rcases ok.free y hy e with k | k
    · exact I.ok.has _ (.inl k)
    · exact I.ok.has _ (.inr k)
  have cm : ∀ {y c}, (cloFrom X.env.cells scope.names []).lookup y = some c → X.env.cells.lookup y = some c := fun {y c} e => by
    rcases cloFrom_mem (PySem.mem_of_lookup e) with hm | ⟨h1, h2⟩
    · cases hm
    · obtain ⟨c1, hc⟩ := hfree _ h1 rfl
      have hc' : X.env.cells.lookup y = some c1 := hc
      rw [hc'] at h2
      rw [hc', h2]; rfl
  have look : ∀ {y}, scope.names.lookup y = some .free → ∃ c, (cloFrom X.env.cells scope.names []).lookup y = some c := fun {y} hl => by
    have hy : (y, NameKind.free) ∈ scope.names := PySem.mem_of_lookup hl
    exact mem_lookup (cloFrom_has (cells := X.env.cells) (acc := []) hy)
  have lt5 : ∀ b o, s.heap.get? b = some o → b < s.heap.objs.size := fun b o e => Heap.lt_size e
  have okZ : (gCx X s H (gEnvOf X scope s.heap.objs.size code) fp A [(a, og)]).Ok := by
    refine ⟨I.ok.mod, ok.kind, I.ok.glob, rfl, Nat.le_refl _, fun y z c e1 e2 => I.ok.inj y z c (cm e1) (cm e2), fun y hy => ?_, fun y c z _ => ?_, fun _ => hh, hA, .inr ⟨rfl, rfl⟩, fun b hb => ⟨?_, fun y c e z => ?_⟩, I.bs, Nat.le_trans I.ok.bsz I.sz, fun b o e hb => ?_, fun b hb z => ?_, I.stack, I.stkFree⟩
    · have hy' : scope.names.lookup y = some .cell ∨ scope.names.lookup y = some .free := hy
      rcases hy' with h | h
      · exact absurd rfl (G.cell _ (PySem.mem_of_lookup h))
      · exact look h
    · exact absurd (show false = true from z) (by decide)
    · exact Nat.ne_of_lt (hfp b hb).2
    · exact (hfp b hb).1.2.2.2.2.1 y c (cm e) z
    · rcases (hfp b hb).1.2.2.2.1 with z | z
      · exact I.ok.noex b o e z
      · exact absurd (Nat.lt_of_lt_of_le (Heap.lt_size e) (Nat.le_trans I.ok.bsz z)) (Nat.lt_irrefl _)
    · rcases List.mem_cons.mp (I.stkSub b z) with z | z
      · exact (hfp b hb).1.2.1 z
      · exact (hfp b hb).1.2.2.1 z
  refine ⟨okZ, hos, hg, Un.kept kp, ⟨m, hns, fun i y v e1 e2 e3 => ?_⟩, fun y c e => ?_, I.hok.fresh (Nat.le_refl _), fun y c e => I.freeC y c (cm e), fun p hp => ?_, I.hok.kept kp, by rw [wipe_length]; exact I.len⟩
  · obtain ⟨e2, hne⟩ := wipe_some e2
    have e3' : Vis scope y := e3
    have hfr : scope.names.lookup y = some .free := by
      have no : ∀ k, scope.names.lookup y = some k → (k = .local ∨ k = .cell) → False := fun k e hk => by
        rcases ok.own _ (PySem.mem_of_lookup e) hk with e' | e'
        · obtain ⟨p, hp, hpy⟩ := List.mem_map.mp e'
          have e4 := ok.ix p hp
          have hpy' : p.1 = y := hpy
          rw [hpy'] at e4
          exact hne (List.mem_map.mpr ⟨p, hp, nodup_ix hN e4 e1⟩)
        · exact e' (List.mem_of_getElem? e1)
      rcases e3' with k | k | k
      · exact (no _ k (.inl rfl)).elim
      · exact (no _ k (.inr rfl)).elim
      · exact k
    obtain ⟨m0, hn, hl⟩ := I.loc
    have hvis : Vis X.env.scope y := (ok.free _ (PySem.mem_of_lookup hfr) rfl).elim (fun k => .inr (.inl k)) (fun k => .inr (.inr k))
    obtain ⟨w, r, q⟩ := hl i y v e1 e2 hvis
    obtain ⟨c2, h2⟩ := look hfr
    refine ⟨w, r, .inr ⟨.inr hfr, c2, h2, ?_⟩⟩
    have c1 := cm h2
    rcases q with ⟨k, _⟩ | ⟨_, c', e', z⟩
    · have k' : X.env.scope.names.lookup y = some .local := k
      rcases ok.free _ (PySem.mem_of_lookup hfr) rfl with k2 | k2
      · rw [show X.env.scope.names.lookup y = _ from k2] at k'; cases k'
      · rw [show X.env.scope.names.lookup y = _ from k2] at k'; cases k'
    · rw [c1] at e'; cases e'
      exact z.keeps kp
  · obtain ⟨w, z⟩ := I.cell y c (cm e)
    exact ⟨w, z.keeps kp⟩
  · have e : p = (a, og) := by
      have hp' : p ∈ [(a, og)] ++ ([] : Pins) := hp
      simpa using hp'
    subst e
    refine ⟨hog, I.hok.fresh (Nat.le_of_lt ha), Nat.ne_of_gt ha, fun z => ?_, hcd⟩
    have z' : a ∈ frs X.stack := z
    rcases List.mem_cons.mp (I.stkSub a z') with e | e
    · have h1 := I.lt
      rw [← e] at h1
      exact Nat.lt_irrefl _ (Nat.lt_trans h1 ha)
    · exact I.nofs (Nat.le_of_lt ha) e
end
end GX
end
/-! G3 -/
section
set_option Elab.async false
set_option linter.all false
set_option maxRecDepth 100000
set_option maxHeartbeats 1000000
namespace GX
open PySem PySem.Spec PyProof.Rows L2 GenW GxR
section
variable {Z : Cx} {A : Around} {PK : List V → Pins → Prop} {Ok : V → Prop} {cont : List V → Hp → Prop}
theorem gx_start {elt tg iter : Expr} {ifs : List Expr} {scope : Scope} {pos : Pos} {it : Addr} {fp : List Addr} {tn : Nat → Heap → Prop} {J : It} {g : TG} {tt : TT} {te : TE} {vs : List Nat} {σ : L2.St} {W : Nat → Nat → List V → Hp → Prop} {m : Nat} {PS : Pins} {ys : List V} {H : Hp} {s₀ s : Shared}
    (hA : A.over (.compLoop (.GeneratorExp elt [⟨tg, iter, ifs, 0⟩] scope pos) 0 (.ref it) .none Z.env) [] = Z.A) (hA2 : A.over (.compStart (.GeneratorExp elt [⟨tg, iter, ifs, 0⟩] scope pos) 0 (.ref it) .none Z.env) [] = Z.A)
    (hc : Z.calm = true) (hco : Z.env.scope.isCoroutine = false) (hxe : Z.xe = fun _ _ => False)
    (T : Turn Z.prog Z.w Z.K tg J fp it tn) (hfp : ∀ b ∈ fp, b ∈ Z.ex) (hpn : ∀ p ∈ Z.pn, p.1 ∉ fp) (hPS : ∀ ys PS, PK ys PS → ∀ p ∈ PS, p.1 ∉ fp)
    (pg : PG Z tg g) (pt : PTs Z ifs tt) (pe : PE Z elt te) (turn : turnG J g tt te vs σ Ok cont W)
    (hGI : GI Z PK [] PS ys (wipe σ vs) H s) (h0 : Stood PS s₀) (st : tn 0 s.heap) (nf : ∀ b ∈ fp, H b = none) (w : W 0 m ys H) :
    Seg (model Z.prog Z.w) A (GR Z PK cont) (GY Z PK Ok) m s₀ (.compStart (.GeneratorExp elt [⟨tg, iter, ifs, 0⟩] scope pos) 0 (.ref it) .none Z.env)
        ((model Z.prog Z.w).den (.compStart (.GeneratorExp elt [⟨tg, iter, ifs, 0⟩] scope pos) 0 (.ref it) .none Z.env)) [] s := by
  have loop := gx_loop hA hc hco hxe T hfp hpn hPS pg pt pe turn m m 0 PS ys H s₀ s (Nat.le_refl _) hGI h0 st nf w
  show Seg _ A _ _ m s₀ _ ((compStart (.GeneratorExp elt [⟨tg, iter, ifs, 0⟩] scope pos) 0 (.ref it) .none Z.env).onRaise (leaving Z.env)) [] s
  unfold compStart
  rw [Sem.onRaise_eq_wrap]
  show Seg _ A _ _ m s₀ _ ((ask >>= _).wrap _ _ _ _) [] s
  refine seg_bindZ (Z := Z) hA2 (wpAny_askSetting ?_)
  split
  · exact seg_again rfl loop
  · first
      | exact seg_bindZ (Z := Z) hA2 (wpAny_rule (seg_bindZ (Z := Z) hA2 (wpAny_standAt (seg_bindZ (Z := Z) hA2 (T.self Z.A 0 s _ _ st (seg_again rfl loop))))))
      | (refine seg_bindZ (Z := Z) hA2 (wpAny_rule ?_)
         show Seg _ A _ _ m s₀ _ ((standAt iter.pos >>= _).wrap _ _ _ _) [] s
         exact seg_bindZ (Z := Z) hA2 (wpAny_standAt (seg_bindZ (Z := Z) hA2 (T.self Z.A 0 s _ _ st (seg_again rfl loop)))))
/-- a generator that has not begun stands at a: Z is its body's context -/
def Up (X : Cx) (pins : Pins) (σ : L2.St) (Ok : V → Prop) (cont : List V → Hp → Prop) (a : Addr) (s5 : Shared) : Prop :=
  ∃ (Z : Cx) (gi m : Nat) (c : Code) (ip : Pins) (σ0 : L2.St) (H0 : Hp), Z.prog = X.prog ∧ Z.w = X.w ∧ s5.gens[gi]? = some (.fresh c) ∧ Inv Z ip σ0 H0 s5 ∧ (∀ p ∈ Z.pn ++ ip, p.1 < s5.heap.objs.size) ∧ Z.s_0.heap.objs.size ≤ s5.heap.objs.size ∧
    (∀ pins' σ' H' s', Inv Z pins' σ' H' s' → s'.heap.IsGen a gi ∧ Inv X pins σ H' s') ∧
    ∀ PK, (∀ ys PS, PK ys PS → ∀ p ∈ PS, s5.heap.objs.size ≤ p.1) → ∀ PS s', GI Z PK ip PS [] σ0 H0 s' → Seg (model X.prog X.w) X.A.in1.in1 (GR Z PK cont) (GY Z PK Ok) m s' c ((model X.prog X.w).den c) [] s'
/-- what a generator expression of one clause asks -/
def tGen (P : Addr) (wi : TI) (g : TG) (tt : TT) (te : TE) (vs : List Nat) (Ok : V → Prop) (σ : L2.St) (H : Hp) (cont : List V → Hp → Prop) : Prop :=
  wi σ H fun J H1 => TabG H1 P ∧ ∀ H2, Tabbed P H1 H2 → ∃ W : Nat → Nat → List V → Hp → Prop, (∃ m, W 0 m [] H2) ∧ turnG J g tt te vs σ Ok cont W
end
section
variable {X : Cx} {pins : Pins} {σ : L2.St} {H : Hp} {s : Shared}
theorem gx_make {c P : Addr} {elt tg iter : Expr} {ifs : List Expr} {scope : Scope} {own : List (Str × Nat)} {gpos : Pos} {wi : TI} {g : TG} {tt : TT} {te : TE} {k : Nat} {Ok : V → Prop} {cont : List V → Hp → Prop} {Q' : Value → Shared → Prop}
    (hr : Room (k + 1) X.A) (TB : GxR.TabB X.base X.mg c P) (hcode : X.env.code = .ref c) (hc : X.calm = true) (hN : X.N.Nodup) (G : GSc X.env.scope scope) (ok : BlkOk X.N X.env.scope scope own) (hi : PI X tg iter wi)
    (hg : ∀ (s : Shared) (H : Hp) (cenv : Env) (fp : List Addr) (A : Around) (pn : Pins), cenv.scope = scope → Room k A → PG (gCx X s H cenv fp A pn) tg g) (ht : ∀ (s : Shared) (H : Hp) (cenv : Env) (fp : List Addr) (A : Around) (pn : Pins), cenv.scope = scope → cenv.globals = X.env.globals → Room k A → PTs (gCx X s H cenv fp A pn) ifs tt)
    (he : ∀ (s : Shared) (H : Hp) (cenv : Env) (fp : List Addr) (A : Around) (pn : Pins), cenv.scope = scope → cenv.globals = X.env.globals → Room k A → PE (gCx X s H cenv fp A pn) elt te)
    (hs : ∀ v, genFold iter X.env v = pure v) (I : Inv X pins σ H s) (h : tGen P wi g tt te (own.map (·.2)) Ok σ H cont)
    (hQ : ∀ a s5, Up X pins σ Ok cont a s5 → Q' (.ref a) s5) :
    wpAny (model X.prog X.w) X.A (eval (.GeneratorExp elt [⟨tg, iter, ifs, 0⟩] scope gpos) X.env) Q' X.xe s := by
  have hfree : ∀ y ∈ scope.names, y.2 = .free → ∃ c, X.env.cells.lookup y.1 = some c := fun y hy e => by
    rcases ok.free y hy e with k | k
    · exact I.ok.has _ (.inl k)
    · exact I.ok.has _ (.inr k)
  refine wpAny_GeneratorExp_make G.co (closure_ok hfree) G.cell G.dot ok.kind (by have := hr.dp; omega) ?_ hs
  refine thn (hi.run pins s σ H _ I h) fun xv s1 hx => thn hx fun itv s2 h2 => ?_
  obtain ⟨it, fp, tn, J, H2, e, I2, T, st2, f2, ⟨ps, hP, htr⟩, q⟩ := h2
  subst e
  refine ⟨I2.nolimit, ?_⟩
  have hPs : s2.heap.get? P = some { cls := .none, data := .fields ps } := I2.hok P _ hP
  have cd : PySem.W.CodeHd s2.heap c P := TB.code.keeps fun b u e => I2.bk b u e
  have nP : ∀ b, H2 b = none → b ≠ P := fun b e z => by rw [z, hP] at e; cases e
  have cont2 : ∀ (code : Value) (h3 : Heap) (tk : Nat) (ps' : Array Value), Heap.ExtBut P s2.heap h3 → h3.get? P = some { cls := .none, data := .fields ps' } → (∃ more, ps' = ps ++ more) → TriplesOk ps'.toList →
      wpAny (model X.prog X.w) X.A (builtinsFor X.env.globals X.env.builtins) (fun bi s₄ => ∀ h', h'.Ns s₄.heap.objs.size (fun y => if y = ".0" then some (Value.ref it) else none) → Heap.SameBut s₄.heap.objs.size (s₄.heap.push { cls := .type "frame", data := .dict #[] }) h' →
          Q' (.ref h'.objs.size) { s₄ with
            gens := s₄.gens.push (.fresh (.compStart (.GeneratorExp elt [⟨tg, iter, ifs, 0⟩] scope gpos) 0 (.ref it) .none (genEnv scope (cloFrom X.env.cells scope.names []) s₄.heap.objs.size code bi X.env))),
            toks := s₄.toks + 1 + 1 + 1,
            heap := h'.push { cls := .type "generator", data := .fields #[.int s₄.gens.size 0, .str "<genexpr>" (s₄.toks + 1), .str (X.env.qual ++ "<genexpr>") (s₄.toks + 1 + 1)] } }) X.xe { s2 with heap := h3, toks := tk } := by
    intro code h3 tk ps' hx3 hP3 hmore htr3
    obtain ⟨bm, ob, e1, e2, e3, e4, e5, e6, e7, e8⟩ := TB.bm
    have keep3 : ∀ b u, b ≠ P → s2.heap.get? b = some u → h3.get? b = some u := fun b u hb e => hx3 b u hb e
    refine wpAny_builtinsFor (m := X.mg) (by rw [I2.ok.glob]; exact (I2.mod.glob.keeps I2.bk).extBut hx3 TB.gP) e1 e2 (keep3 _ _ e4 (I2.bk _ _ e5)) e6 e7 e8 ?_
    intro h' hn' hs'
    obtain ⟨more, em⟩ := hmore
    have I3 : Inv X pins σ (upd H2 P (.tbl (ps ++ more))) { s2 with heap := h3, gens := s2.gens, drawn := s2.drawn, toks := tk } := inv_tab (more := more) I2 hP keep3 (by rw [← em]; exact hP3) I2.bare
    have tabbed : Tabbed P H2 (upd H2 P (.tbl (ps ++ more))) := ⟨⟨ps ++ more, upd_same, by rw [← em]; exact htr3⟩, fun b hb => upd_ne hb⟩
    obtain ⟨W, ⟨m0, w0⟩, turn⟩ := q _ tabbed
    have sz : ∀ b ∈ fp, b < h3.objs.size := fun b hb => by
      obtain ⟨o, e, _⟩ := T.obj _ _ st2 b hb
      exact Heap.lt_size (keep3 b o (nP b (f2 b hb).1) e)
    have nf : ∀ b ∈ fp, (upd H2 P (.tbl (ps ++ more))) b = none := fun b hb => by rw [upd_ne (nP b (f2 b hb).1)]; exact (f2 b hb).1
    have st3 : tn 0 h3 := T.keep _ _ _ st2 fun b hb o e => keep3 b o (nP b (f2 b hb).1) e
    refine hQ _ _ ?_
    have kp5 : ∀ b o, h3.get? b = some o → (h'.push { cls := .type "generator", data := .fields #[.int s2.gens.size 0, .str "<genexpr>" (tk + 1), .str (X.env.qual ++ "<genexpr>") (tk + 1 + 1)] }).get? b = some o := fun b o e =>
      Heap.get?_push_of_some _ ((hs'.2 b (Nat.ne_of_lt (Heap.lt_size e))).trans (Heap.get?_push_of_some _ e))
    have hszC : h3.objs.size < h'.objs.size := hn'.lt
    have B := gx_begin (code := code) (A := X.A.in1.in1.over (.compLoop (.GeneratorExp elt [⟨tg, iter, ifs, 0⟩] scope gpos) 0 (.ref it) .none (gEnvOf X scope h3.objs.size code)) []) (a := h'.objs.size)
      (s5 := { s2 with gens := s2.gens.push (.fresh (.compStart (.GeneratorExp elt [⟨tg, iter, ifs, 0⟩] scope gpos) 0 (.ref it) .none (gEnvOf X scope h3.objs.size code))), toks := tk + 1 + 1 + 1, heap := h'.push { cls := .type "generator", data := .fields #[.int s2.gens.size 0, .str "<genexpr>" (tk + 1), .str (X.env.qual ++ "<genexpr>") (tk + 1 + 1)] } })
      I3 ok G hN (fun b hb => ⟨⟨nf b hb, (f2 b hb).2⟩, sz b hb⟩) (by
        have fr : X.A.in1.in1.frames = some X.stack := I2.ok.frames
        show (X.A.in1.in1.frames).map ([gEnvOf X scope h3.objs.size code] ++ ·) = _
        rw [fr]; rfl) hr.hd kp5 rfl (I2.bare.push rfl) (hn'.keeps fun b o e => Heap.get?_push_of_some _ e) hszC (Heap.get?_push_size _ rfl) (fun v z => by cases z)
    have room : Room k (X.A.in1.in1.over (.compLoop (.GeneratorExp elt [⟨tg, iter, ifs, 0⟩] scope gpos) 0 (.ref it) .none (gEnvOf X scope h3.objs.size code)) []) :=
      ⟨hr.hd, by have := hr.dp; show X.A.depth + 0 + 1 + 3 * k + 5 < _; omega, by have := hr.un; show X.A.units + 1 + 1 + 0 + 3 + 16 * k + 200 < _; omega⟩
    have pg := hg { s2 with heap := h3, gens := s2.gens, drawn := s2.drawn, toks := tk } (upd H2 P (.tbl (ps ++ more))) (gEnvOf X scope h3.objs.size code) fp _ [(h'.objs.size, { cls := .type "generator", data := .fields #[.int s2.gens.size 0, .str "<genexpr>" (tk + 1), .str (X.env.qual ++ "<genexpr>") (tk + 1 + 1)] })] rfl room
    have pt := ht { s2 with heap := h3, gens := s2.gens, drawn := s2.drawn, toks := tk } (upd H2 P (.tbl (ps ++ more))) (gEnvOf X scope h3.objs.size code) fp _ [(h'.objs.size, { cls := .type "generator", data := .fields #[.int s2.gens.size 0, .str "<genexpr>" (tk + 1), .str (X.env.qual ++ "<genexpr>") (tk + 1 + 1)] })] rfl rfl room
    have pe := he { s2 with heap := h3, gens := s2.gens, drawn := s2.drawn, toks := tk } (upd H2 P (.tbl (ps ++ more))) (gEnvOf X scope h3.objs.size code) fp _ [(h'.objs.size, { cls := .type "generator", data := .fields #[.int s2.gens.size 0, .str "<genexpr>" (tk + 1), .str (X.env.qual ++ "<genexpr>") (tk + 1 + 1)] })] rfl rfl room
    have B2 := B.pinned (fp := fp) (fun b hb => ⟨nf b hb, Nat.ne_of_lt (sz b hb), B.ok.exfs b hb, .inl hb, fun x c e => (B.ok.exf b hb).2 x c e, fun p hp z => by
      have hp' : p ∈ [(h'.objs.size, ({ cls := .type "generator", data := .fields #[.int s2.gens.size 0, .str "<genexpr>" (tk + 1), .str (X.env.qual ++ "<genexpr>") (tk + 1 + 1)] } : Obj))] ++ ([] : Pins) := hp
      have e : p.1 = h'.objs.size := by
        have := List.mem_singleton.mp (by simpa using hp')
        rw [this]
      have h1 := sz b hb
      rw [← z, e] at h1
      exact Nat.lt_irrefl _ (Nat.lt_trans h1 hszC)⟩) (fun b hb => by
        obtain ⟨o, e, d⟩ := T.obj _ _ st3 b hb
        exact ⟨o, kp5 b o e, d⟩)
    refine ⟨gCx X _ _ (gEnvOf X scope h3.objs.size code) fp _ _, s2.gens.size, m0, .compStart (.GeneratorExp elt [⟨tg, iter, ifs, 0⟩] scope gpos) 0 (.ref it) .none (gEnvOf X scope h3.objs.size code), _, _, _, rfl, rfl, ?_, B2, fun p hp => Heap.lt_size (B2.pin p hp).1, B2.sz, fun pins' σ' H' s' I' => ⟨?_, ?_⟩, fun PK hPK PS s' hG => ?_⟩
    · show (s2.gens.push _)[s2.gens.size]? = _
      simp
    · have z := (I'.pin (h'.objs.size, { cls := .type "generator", data := .fields #[.int s2.gens.size 0, .str "<genexpr>" (tk + 1), .str (X.env.qual ++ "<genexpr>") (tk + 1 + 1)] }) (List.mem_append_left _ (List.mem_singleton.mpr rfl))).1
      exact ⟨_, _, _, z, rfl, rfl, rfl⟩
    · exact I3.call' (ch := fp) I'.os I'.base I'.hok I'.bare fun b hb => ⟨(f2 b hb).2.2.2.1, (f2 b hb).2.1, (f2 b hb).2.2.2.2.1, (f2 b hb).2.2.2.2.2⟩
    · have hst := hG.stood
      obtain ⟨hPS, hap, I'⟩ := hG
      have pin' : ∀ b ∈ fp, ∀ o, h3.get? b = some o → s'.heap.get? b = some o := fun b hb o e => (I'.pin (b, o) (List.mem_append_right _ (List.mem_append_right _ (mem_pinsAt hb (kp5 b o e))))).1
      refine gx_start (Z := gCx X _ _ (gEnvOf X scope h3.objs.size code) fp _ _) rfl rfl hc G.co rfl T (fun b hb => hb) (fun p hp z => ?_) (fun ys PS hq p hp z => ?_) pg pt pe turn ⟨hPS, fun q hq p hp => hap q hq p (List.mem_append_left _ (by simpa using hp)), by rw [List.append_nil]; exact I'.unpinned⟩ hst (T.keep _ _ _ st3 fun b hb o e => pin' b hb o e) nf w0
      · have e : p.1 = h'.objs.size := by rw [List.mem_singleton.mp hp]
        have h1 := sz p.1 z
        rw [e] at h1
        exact Nat.lt_irrefl _ (Nat.lt_trans h1 hszC)
      · have h1 := sz p.1 z
        have h2 := hPK ys PS hq p hp
        have h4 : h'.objs.size + 1 ≤ p.1 := by
          have e : (h'.push { cls := .type "generator", data := .fields #[.int s2.gens.size 0, .str "<genexpr>" (tk + 1), .str (X.env.qual ++ "<genexpr>") (tk + 1 + 1)] }).objs.size = h'.objs.size + 1 := Heap.size_push ..
          rw [← e]; exact h2
        exact Nat.lt_irrefl _ (Nat.lt_trans h1 (Nat.lt_trans hszC h4))
  cases hf : codeAmong gpos ps.toList with
  | none =>
    refine wpAny_genexprCodeX hcode (cd.code hPs htr) (cd.tab hPs) hf fun c' h' tk hx hge hlt hco' _ htab' _ => ?_
    obtain ⟨o1, vs, f1, tf, fl, tg', inF, tx, tt', op, _, _, _, _, _, _, _, _, _, htr', _⟩ := hco'
    exact cont2 _ h' tk _ hx htab'.2 ⟨_, rfl⟩ htr'
  | some cv =>
    refine wpAny_genexprCode_hit hcode (cd.code hPs htr) hf ?_
    exact cont2 cv s2.heap s2.toks ps (Heap.ExtBut.refl _ _) hPs ⟨#[], by simp⟩ htr
end
end GX
end
/-! G4 -/
section
set_option Elab.async false
set_option linter.all false
set_option maxRecDepth 100000
set_option maxHeartbeats 1000000
namespace GX
open PySem PySem.Spec PyProof.Rows L2 GenW GxR
abbrev PK0 : List V → Pins → Prop := fun _ PS => PS = []
abbrev OkF : V → Prop := fun y => y = .bl false
section
variable {Z : Cx} {A : Around} {cont : List V → Hp → Prop} {a : Addr} {g : Nat} {R : Result → Shared → Prop}
theorem gi0 {ip : Pins} {ys : List V} {σ : L2.St} {H : Hp} {s : Shared} (I : Inv Z ip σ H s) : GI Z PK0 ip [] ys σ H s := ⟨rfl, fun q hq => absurd hq (by simp), I⟩
theorem gi0_inv {ip PS : Pins} {ys : List V} {σ : L2.St} {H : Hp} {s : Shared} (I : GI Z PK0 ip PS ys σ H s) : Inv Z ip σ H s := by
  obtain ⟨rfl, _, I⟩ := I
  exact I
theorem bare_set {s : Shared} {g : Nat} {x : GenState} (h : AllBare s.gens) (hx : x.bare = true) : AllBare (s.setGen g x).gens := allBare_setGen h hx
/-- how it ends, for either consumer -/
abbrev EndsG (Z : Cx) (PK : List V → Pins → Prop) (cont : List V → Hp → Prop) : Nat → Shared → Shared → Prop := fun _ s₀ s₁ => ∃ ys PS σ H, GI Z PK [] PS ys σ H s₁ ∧ Stood PS s₀ ∧ cont ys H
/-- any(g), all that comes is False -/
theorem any_drain (hh : A.handled = none) (hroom : A.depth < recursionLimit) (hgen : ∀ pins σ H s, Inv Z pins σ H s → s.heap.IsGen a g)
    (hR : ∀ s' ys σ H, Inv Z [] σ H s' → cont ys H → R (.ok (.ret (.bool false))) s') :
    ∀ (n : Nat) (s : Shared) (gs : GenState), (∃ pins σ H, Inv Z pins σ H s) → s.gens[g]? = some gs → gs.Goes (model Z.prog Z.w) A.in1.in1 (GR Z PK0 cont) (GY Z PK0 OkF) n (.send .none) (s.setGen g .running) →
      codeAny (model Z.prog Z.w) A (.builtin "any.loop" ⟨[.ref a], []⟩) R s := by
  have fin : ∀ (s₀ s₁ : Shared) (h' : Heap), EndsG Z PK0 cont 0 s₀ s₁ → (∀ b o, s₁.heap.get? b = some o → h'.get? b = some o) → R (.ok (.ret (.bool false))) { s₁.setGen g .finished with heap := h' } := fun s₀ s₁ h' ⟨ys, PS, σ, H, hG, _, hc⟩ hk => by
    have I := gi0_inv hG
    have J : Inv Z [] σ H { s₁ with heap := h', gens := (s₁.setGen g .finished).gens, toks := s₁.toks } := inv_gens I hk (bare_set I.bare rfl)
    exact hR _ ys σ H J hc
  intro n
  induction n with
  | zero =>
    intro s gs ⟨pins, σ, H, I⟩ hgs hgo
    refine codeAny_builtin F.entry_any_loop ?_
    rw [Around.under_plainId F.plain_any_loop _]
    show wpAny _ A.in1 (pyNext (.ref a) >>= _) _ _ s
    refine wpAny_bind (wpAny_pyNext_genexpQ (A := A.in1) (n := 0) (P := EndsG Z PK0 cont) hh I.nolimit hroom (hgen _ _ _ _ I) hgs hgo (fun v s₁ gs' hb hv => ?_) (fun s₁ hp h' hk => ?_))
    · obtain ⟨ys, x, ip, PS, σ1, H1, _, _, hG, _, hk⟩ := hv
      exact (show False from hk s₁ _ (gi0 (gi0_inv hG))).elim
    · exact wpAny_bind (wpAny_rule (wpAny_pure (fin _ s₁ h' hp hk)))
  | succ n ih =>
    intro s gs ⟨pins, σ, H, I⟩ hgs hgo
    have hgl : g < s.gens.size := (Array.getElem?_eq_some_iff.mp hgs).1
    refine codeAny_builtin F.entry_any_loop ?_
    rw [Around.under_plainId F.plain_any_loop _]
    show wpAny _ A.in1 (pyNext (.ref a) >>= _) _ _ s
    refine wpAny_bind (wpAny_gsz (n := g + 1) hgl (wpAny_pyNext_genexpQ (A := A.in1) (n := n + 1) (P := EndsG Z PK0 cont) hh I.nolimit hroom (hgen _ _ _ _ I) hgs hgo (fun v s₁ gs' hb hv hsz => ?_) (fun s₁ hp h' hk _ => ?_)))
    · obtain ⟨ys, x, ip, PS, σ1, H1, hrel, hok, hG, _, hk⟩ := hv
      have hok' : x = .bl false := hok
      subst hok'
      obtain rfl : v = Value.bool false := hrel
      have I1 := gi0_inv hG
      have hsz1 : g < s₁.gens.size := by
        have q : (s₁.setGen g gs').gens.size = s₁.gens.size := setGen_size _ _ _
        have hsz' : g + 1 ≤ (s₁.setGen g gs').gens.size := hsz
        omega
      refine wpAny_bind (wpAny_holding (wpAny_truthy_bool ?_))
      refine wpAny_bind (wpAny_letGo ?_)
      simp only [Bool.false_eq_true, if_false]
      have I2 : Inv Z ip σ1 H1 (s₁.setGen g gs') := inv_gens (h' := s₁.heap) (t' := s₁.toks) I1 (fun _ _ e => e) (bare_set I1.bare hb)
      refine wpAny_pure ⟨plainId_quiet F.plain_any_loop _, ih _ gs' ⟨ip, σ1, H1, I2⟩ (setGen_at hsz1) ?_⟩
      exact hk _ _ (gi0 (inv_gens (h' := s₁.heap) (t' := s₁.toks) I2 (fun _ _ e => e) (bare_set I2.bare rfl)))
    · exact wpAny_bind (wpAny_rule (wpAny_pure (fin _ s₁ h' hp hk)))
/-! ### sum -/
abbrev sumObj (z : Int) (t : Tok) (c : Nat) : Obj := { cls := .type "list", dict := none, data := .seq #[.int z t] c, slots := #[] }
def PKS (S : Addr) : List V → Pins → Prop := fun ys PS => ∃ (ns : List Int) (t : Tok) (c : Nat), ys = ns.map V.int ∧ PS = [(S, sumObj ns.sum t c)]
abbrev OkI : V → Prop := fun y => ∃ i, y = .int i
theorem sum_snoc (ns : List Int) (k : Int) : (ns ++ [k]).sum = ns.sum + k := by simp
/-- the consumer's list is written -/
theorem gis_put {S : Addr} {ip PS : Pins} {ys : List V} {σ : L2.St} {H : Hp} {s s' : Shared} {k : Int} {t' : Tok} {c' : Nat} (h : GI Z (PKS S) ip PS ys σ H s) (hS0 : Z.s_0.heap.objs.size ≤ S) (hos : s'.os = s.os) (hb : AllBare s'.gens)
    (hk : ∀ b o, b ≠ S → s.heap.get? b = some o → s'.heap.get? b = some o) (ns : List Int) (hy : ys = ns.map V.int) (hS : s'.heap.get? S = some (sumObj (ns.sum + k) t' c')) : GI Z (PKS S) ip [(S, sumObj (ns ++ [k]).sum t' c')] (ys ++ [.int k]) σ H s' := by
  obtain ⟨⟨ns0, t, c, h1, rfl⟩, hap, I⟩ := h
  have pS := I.pin (S, sumObj ns0.sum t c) (List.mem_append_right _ (List.mem_append_left _ (by simp)))
  obtain ⟨g1, g2, g3, g4, g5⟩ := pS
  have I0 : Inv Z ip σ H s := I.pins_of fun p hp => I.pin p (List.mem_append_right _ (List.mem_append_right _ hp))
  have hap' : ∀ p ∈ Z.pn ++ ip, p.1 ≠ S := fun p hp => hap (S, sumObj ns0.sum t c) (by simp) p hp
  have nc : ∀ x c', Z.env.cells.lookup x = some c' → c' ≠ S := fun x c' e z => by
    obtain ⟨v, o, ho, hd⟩ := I0.cell x c' e
    rw [z, g1] at ho
    cases ho
    exact g5 v hd
  obtain ⟨h2, gs2, d2, t2, os2⟩ := s'
  have hos' : os2 = s.os := hos
  subst hos'
  have I1 : Inv Z ip σ H { s with heap := h2, gens := gs2, drawn := d2, toks := t2 } := by
    refine I0.call (ch := [S]) ⟨fun b o q n _ hx => hk b o (by simpa using hx) q, fun b o q n _ hx => ⟨o.slots, hk b o (by simpa using hx) q⟩, fun _ _ _ n _ => n, fun b o q hx => ⟨o, hk b o (by simpa using hx) q⟩, fun _ _ q => q, fun _ _ _ q => q, fun b ps q => ⟨#[], by rw [q]; simp⟩⟩ (fun b u q => ?_) hb fun b hb => ?_
    · have nS : ∀ c u, H c = some u → c ≠ S := fun c u e z => by rw [z, g2] at e; cases e
      refine (I0.hok b u q).stay (fun c v hc e => hk c v ?_ e) (fun _ e => e) fun _ _ e => e
      rcases hc with z | z
      · rw [z]; exact nS b u q
      · exact nS c _ z
    · have e : b = S := by simpa using hb
      subst e
      exact ⟨.inr hS0, g3, nc, hap'⟩
  refine ⟨⟨ns ++ [k], t', c', by rw [hy]; simp, rfl⟩, fun q hq p hp => ?_, ?_⟩
  · have e : q = (S, sumObj (ns ++ [k]).sum t' c') := by simpa using hq
    rw [e]; exact hap' p hp
  · refine I1.pins_of fun p hp => ?_
    rcases List.mem_append.mp hp with hp | hp
    · have e : p = (S, sumObj (ns ++ [k]).sum t' c') := by simpa using hp
      rw [e]
      exact ⟨by rw [sum_snoc]; exact hS, g2, g3, g4, fun v z => by cases z⟩
    · exact I1.pin p (List.mem_append_right _ hp)
/-- the token and the count of the held number stay with it -/
theorem sumObj_inj {z z' : Int} {t t' : Tok} {c c' : Nat} (h : some (sumObj z t c) = some (sumObj z' t' c')) : z = z' ∧ t = t' ∧ c = c' := by
  have h1 := congrArg Obj.data (Option.some.inj h)
  have h2 : (Data.seq #[Value.int z t] c) = Data.seq #[.int z' t'] c' := h1
  injection h2 with h3 h4
  have h5 : Value.int z t = .int z' t' := by
    have := congrArg (fun a : Array Value => a[0]?) h3
    simpa using this
  injection h5 with h6 h7
  exact ⟨h6, h7, h4⟩
end
end GX
end
/-! G5 -/
section
set_option Elab.async false
set_option linter.all false
set_option maxRecDepth 100000
set_option maxHeartbeats 1000000
namespace GX
open PySem PySem.Spec PyProof.Rows L2 GenW GxR
section
variable {Z : Cx} {A : Around} {cont : List V → Hp → Prop} {a : Addr} {g : Nat} {R : Result → Shared → Prop}
theorem sum_drain (hh : A.handled = none) (hroom : A.depth < recursionLimit) (hgen : ∀ pins σ H s, Inv Z pins σ H s → s.heap.IsGen a g) (S : Addr) (hS0 : Z.s_0.heap.objs.size ≤ S)
    (hR : ∀ s' (ns : List Int) t σ H, Inv Z [] σ H s' → cont (ns.map V.int) H → R (.ok (.ret (.int ns.sum t))) s') :
    ∀ (n : Nat) (s : Shared) (gs : GenState) (st z : Int) (tA : Tok) (c : Nat), (st = 0 ∨ st = 2) → (∃ pins σ H, Inv Z pins σ H s) → s.heap.get? S = some (sumObj z tA c) → s.gens[g]? = some gs →
      gs.Goes (model Z.prog Z.w) A.in1.in1 (GR Z (PKS S) cont) (GY Z (PKS S) OkI) n (.send .none) (s.setGen g .running) →
      codeAny (model Z.prog Z.w) A (.builtin "sum.loop" ⟨[.ref a, .ref S, rawInt st, rawInt 0], []⟩) R s := by
  have fin : ∀ (s s₁ : Shared) (h' : Heap) (z : Int) (t : Tok) (c : Nat), EndsG Z (PKS S) cont 0 (s.setGen g .running) s₁ → s.heap.get? S = some (sumObj z t c) → (∀ b o, s₁.heap.get? b = some o → h'.get? b = some o) → R (.ok (.ret (.int z t))) { s₁.setGen g .finished with heap := h' } := fun s s₁ h' z t c ⟨ys, PS, σ, H, ⟨⟨ns, t2, c2, hy, e⟩, _, I⟩, hst, hc⟩ hz hk => by
    subst e
    subst hy
    have q := hst (S, sumObj ns.sum t2 c2) (by simp)
    obtain ⟨rfl, rfl, rfl⟩ := sumObj_inj (hz.symm.trans q)
    have I0 : Inv Z [] σ H s₁ := I.pins_of fun p hp => I.pin p (List.mem_append_left _ (by simpa using hp))
    have J : Inv Z [] σ H { s₁ with heap := h', gens := (s₁.setGen g .finished).gens, toks := s₁.toks } := inv_gens I0 hk (bare_set I.bare rfl)
    exact hR _ ns t σ H J hc
  intro n
  induction n with
  | zero =>
    intro s gs st z tA c hst2 ⟨pins, σ, H, I⟩ hS hgs hgo
    refine codeAny_builtin F.entry_sum_loop ?_
    rw [Around.under_plainId F.plain_sum_loop _]
    show wpAny _ A.in1 (seqItems? (.ref S) >>= _) _ _ s
    refine wpAny_bind (wpAny_seqItems hS rfl ?_)
    show wpAny _ A.in1 (tryCatch (pyNext (.ref a)) _ >>= _) _ _ s
    refine wpAny_bind (wpAny_tryCatch (wpAny_pyNext_genexpQ (A := A.in1) (n := 0) (P := EndsG Z (PKS S) cont) hh I.nolimit hroom (hgen _ _ _ _ I) hgs hgo (fun v s₁ gs' hb hv => ?_) (fun s₁ hp h' hk => ?_)))
    · obtain ⟨ys, x, ip, PS, σ1, H1, hrel, ⟨k, rfl⟩, hG, _, hk⟩ := hv
      obtain ⟨⟨ns, t2, c2, hy, e⟩, hap, I1⟩ := id hG
      have J : GI Z (PKS S) ip [(S, sumObj (ns ++ [k]).sum 0 0)] (ys ++ [.int k]) σ1 H1 { s₁ with heap := s₁.heap.update S fun _ => sumObj (ns.sum + k) 0 0 } := by
        have hS1 : s₁.heap.get? S = some (sumObj ns.sum t2 c2) := (I1.pin (S, sumObj ns.sum t2 c2) (List.mem_append_right _ (List.mem_append_left _ (by rw [e]; simp)))).1
        exact gis_put (s' := { s₁ with heap := s₁.heap.update S fun _ => sumObj (ns.sum + k) 0 0 }) hG hS0 rfl I1.bare (fun b o hb q => (Heap.get?_update_other _ _ (Ne.symm hb)).trans q) ns hy (Heap.get?_update_self (fun _ => sumObj (ns.sum + k) 0 0) hS1 rfl)
      exact (show False from hk _ _ J).elim
    · exact wpAny_pure (fin s s₁ h' z tA c hp hS hk)
  | succ n ih =>
    intro s gs st z tA c hst2 ⟨pins, σ, H, I⟩ hS hgs hgo
    have hgl : g < s.gens.size := (Array.getElem?_eq_some_iff.mp hgs).1
    refine codeAny_builtin F.entry_sum_loop ?_
    rw [Around.under_plainId F.plain_sum_loop _]
    show wpAny _ A.in1 (seqItems? (.ref S) >>= _) _ _ s
    refine wpAny_bind (wpAny_seqItems hS rfl ?_)
    show wpAny _ A.in1 (tryCatch (pyNext (.ref a)) _ >>= _) _ _ s
    refine wpAny_bind (wpAny_tryCatch (wpAny_gsz (n := g + 1) hgl (wpAny_pyNext_genexpQ (A := A.in1) (n := n + 1) (P := EndsG Z (PKS S) cont) hh I.nolimit hroom (hgen _ _ _ _ I) hgs hgo (fun v s₁ gs' hb hv hsz => ?_) (fun s₁ hp h' hk _ => ?_))))
    · obtain ⟨ys, x, ip, PS, σ1, H1, hrel, ⟨k, rfl⟩, hG, hstd, hk⟩ := hv
      obtain ⟨t, rfl⟩ := hrel
      obtain ⟨⟨ns, t2, c2, hy, e⟩, hap, I1⟩ := id hG
      subst e
      obtain ⟨rfl, rfl, rfl⟩ := sumObj_inj (hS.symm.trans (hstd (S, sumObj ns.sum t2 c2) (by simp)))
      have hS1 : s₁.heap.get? S = some (sumObj ns.sum tA c) := (I1.pin (S, sumObj ns.sum tA c) (List.mem_append_right _ (List.mem_append_left _ (by simp)))).1
      have hsz1 : g < s₁.gens.size := by
        have q : (s₁.setGen g gs').gens.size = s₁.gens.size := setGen_size _ _ _
        have hsz' : g + 1 ≤ (s₁.setGen g gs').gens.size := hsz
        omega
      have next : ∀ (h2 : Heap) (tk : Nat) (t' : Tok) (c' : Nat) (st' : Int), (st' = 0 ∨ st' = 2) → (∀ b o, b ≠ S → s₁.heap.get? b = some o → h2.get? b = some o) → h2.get? S = some (sumObj (ns.sum + k) t' c') →
          codeAny (model Z.prog Z.w) A (.builtin "sum.loop" ⟨[.ref a, .ref S, rawInt st', rawInt 0], []⟩) R { s₁.setGen g gs' with heap := h2, toks := tk } := fun h2 tk t' c' st' hst' hk2 hS2 => by
        have J := gis_put (s' := { s₁.setGen g gs' with heap := h2, toks := tk }) hG hS0 rfl (bare_set I1.bare hb) hk2 ns hy hS2
        have J2 := gis_put (s' := Shared.setGen { s₁.setGen g gs' with heap := h2, toks := tk } g .running) hG hS0 rfl (bare_set (s := { s₁.setGen g gs' with heap := h2, toks := tk }) (bare_set I1.bare hb) rfl) hk2 ns hy hS2
        exact ih { s₁.setGen g gs' with heap := h2, toks := tk } gs' st' (ns.sum + k) t' c' hst' ⟨_, _, _, J.2.2⟩ hS2 (setGen_at hsz1) (hk _ _ J2)
      have up1 : ∀ (h2 : Heap) (f : Obj → Obj), (∀ b o, b ≠ S → s₁.heap.get? b = some o → h2.get? b = some o) → ∀ b o, b ≠ S → s₁.heap.get? b = some o → (h2.update S f).get? b = some o := fun h2 f q b o hb e => (Heap.get?_update_other _ _ (Ne.symm hb)).trans (q b o hb e)
      have id1 : ∀ b o, b ≠ S → s₁.heap.get? b = some o → s₁.heap.get? b = some o := fun _ _ _ e => e
      have hS' : (s₁.setGen g gs').heap.get? S = some (sumObj ns.sum tA c) := hS1
      rcases hst2 with rfl | rfl
      · show wpAny _ A.in1 (if (_ : Bool) = true then (mkInt (ns.sum + k) >>= _) else _) _ _ _
        split
        · refine wpAny_bind (wpAny_mkInt ?_)
          show wpAny _ A.in1 (updateSeq S (fun _ => #[.int (ns.sum + k) _]) >>= _) _ _ _
          refine wpAny_bind ?_
          exact wpAny_updateSeq hS' rfl (wpAny_pure ⟨plainId_quiet F.plain_sum_loop _, next _ _ _ _ 0 (.inl rfl) (up1 _ _ id1) (Heap.get?_update_self _ hS1 rfl)⟩)
        · refine wpAny_bind (wpAny_rule ?_)
          refine wpAny_bind (wpAny_attempt (wpAny_holding (wpAny_add_int ?_)))
          show wpAny _ A.in1 (updateSeq S (fun _ => #[.int (ns.sum + k) _]) >>= _) _ _ _
          refine wpAny_bind (wpAny_updateSeq hS' rfl ?_)
          have hS₂ := Heap.get?_update_self (Obj.mapSeq fun _ => #[Value.int (ns.sum + k) (s₁.setGen g gs').toks]) hS1 rfl
          refine wpAny_bind (wpAny_letGo ?_)
          exact wpAny_bind (wpAny_updateSeq hS₂ rfl (wpAny_pure ⟨plainId_quiet F.plain_sum_loop _, next _ _ _ _ 2 (.inr rfl) (up1 _ _ (up1 _ _ id1)) (Heap.get?_update_self _ hS₂ rfl)⟩))
      · show wpAny _ A.in1 ((holding [Value.int k t] (binaryOp .Add (.int ns.sum tA) (.int k t))).attempt >>= _) _ _ _
        refine wpAny_bind (wpAny_attempt (wpAny_holding (wpAny_add_int ?_)))
        show wpAny _ A.in1 (updateSeq S (fun _ => #[.int (ns.sum + k) _]) >>= _) _ _ _
        refine wpAny_bind (wpAny_updateSeq hS' rfl ?_)
        have hS₂ := Heap.get?_update_self (Obj.mapSeq fun _ => #[Value.int (ns.sum + k) (s₁.setGen g gs').toks]) hS1 rfl
        refine wpAny_bind (wpAny_letGo ?_)
        exact wpAny_bind (wpAny_updateSeq hS₂ rfl (wpAny_pure ⟨plainId_quiet F.plain_sum_loop _, next _ _ _ _ 2 (.inr rfl) (up1 _ _ (up1 _ _ id1)) (Heap.get?_update_self _ hS₂ rfl)⟩))
    · exact wpAny_pure (fin s s₁ h' z tA c hp hS hk)
end
end GX
end
/-! G6 -/
section
set_option Elab.async false
set_option linter.all false
set_option maxRecDepth 100000
set_option maxHeartbeats 1000000
namespace GX
open PySem PySem.Spec PyProof.Rows L2 GenW GxR
section
variable {X : Cx} {pins : Pins} {σ : L2.St} {cont : List V → Hp → Prop} {a : Addr} {s5 : Shared} {Q : Value → Shared → Prop} {E : Value → Shared → Prop}
theorem call_any_gx {k : Nat} (hr : Room k X.A) (U : Up X pins σ OkF cont a s5) (hQ : ∀ s' ys H', Inv X pins σ H' s' → cont ys H' → Q (.bool false) s') : wpAny (model X.prog X.w) X.A (call (.builtin "any") [.ref a]) Q E s5 := by
  obtain ⟨Z, gi, m, c, ip, σ0, H0, hp, hw, hgs, I, hlt, hs0, hback, hseg⟩ := U
  have hg := (hback _ _ _ _ I).1
  refine call_function_tree F.kind_any F.plain_any F.entry_any (F.args_any1 _) ?_
  unfold Builtin.«any»
  refine wpAny_bind (m := oneArg "any" _) (wpAny_pure ?_)
  refine wpAny_bind (wpAny_pyIter_gen hg ?_)
  refine wpAny_pure ⟨plainId_quiet F.plain_any_loop _, ?_⟩
  have S := hseg PK0 (fun ys PS e p hp => by rw [show PS = [] from e] at hp; exact absurd hp (by simp)) [] (s5.setGen gi .running) (gi0 (inv_gens (h' := s5.heap) (t' := s5.toks) I (fun _ _ e => e) (bare_set I.bare rfl)))
  rw [← hp, ← hw] at S ⊢
  refine any_drain (A := X.A) (cont := cont) hr.hd (by have := hr.dp; omega) (fun pins σ H s I => (hback _ _ _ _ I).1) (fun s' ys σ' H' I' hc => hQ s' ys H' (hback _ _ _ _ I').2 hc) m s5 (.fresh c) ⟨_, _, _, I⟩ hgs ⟨rfl, S⟩
theorem call_sum_gx {k : Nat} (hr : Room k X.A) (U : Up X pins σ OkI cont a s5) (hQ : ∀ s' (ns : List Int) t H', Inv X pins σ H' s' → cont (ns.map V.int) H' → Q (.int ns.sum t) s') : wpAny (model X.prog X.w) X.A (call (.builtin "sum") [.ref a]) Q E s5 := by
  obtain ⟨Z, gi, m, c, ip, σ0, H0, hp, hw, hgs, I, hlt, hs0, hback, hseg⟩ := U
  have hg := (hback _ _ _ _ I).1
  refine call_function_tree F.kind_sum F.plain_sum F.entry_sum (F.args_sum1 _) ?_
  unfold Builtin.«sum»
  simp only [List.length_cons, List.length_nil]
  rw [if_neg (by decide)]
  refine wpAny_bind (wpAny_of_eq (show Builtin.Builtins.bindParams "sum" ["start"] 0 { } = pure [none] from rfl) ?_)
  refine wpAny_bind (wpAny_pyIter_gen hg ?_)
  refine wpAny_bind (wpAny_mkInt ?_)
  refine wpAny_bind (wpAny_pure ?_)
  simp only [List.forIn_cons, List.forIn_nil]
  refine wpAny_bind (wpAny_bind (wpAny_bind (wpAny_isInstance (T := "int") (b := false) (typeIs_int _ _ _) PySem.sub_int_str ?_)))
  simp only [Bool.false_eq_true, if_false]
  refine wpAny_pure (wpAny_bind (wpAny_bind (wpAny_isInstance (T := "int") (b := false) (typeIs_int _ _ _) PySem.sub_int_bytes ?_)))
  simp only [Bool.false_eq_true, if_false]
  refine wpAny_pure (wpAny_bind (wpAny_bind (wpAny_isInstance (T := "int") (b := false) (typeIs_int _ _ _) PySem.sub_int_bytearray ?_)))
  simp only [Bool.false_eq_true, if_false]
  refine wpAny_pure (wpAny_pure ?_)
  refine wpAny_bind (wpAny_newObj_type ?_)
  refine wpAny_pure ⟨plainId_quiet F.plain_sum_loop _, ?_⟩
  have kp : ∀ b o, s5.heap.get? b = some o → (s5.heap.push { cls := .type "list", data := .seq #[.int 0 s5.toks] }).get? b = some o := fun b o e => Heap.get?_push_of_some _ e
  have I6 : Inv Z ip σ0 H0 { s5 with heap := s5.heap.push { cls := .type "list", data := .seq #[.int 0 s5.toks] }, toks := s5.toks + 1 } := I.kept (t' := s5.toks + 1) kp
  have hS : (s5.heap.push { cls := .type "list", data := .seq #[.int 0 s5.toks] }).get? s5.heap.objs.size = some (sumObj 0 s5.toks 0) := Heap.get?_push_size _ rfl
  have pin : ∀ {s' : Shared}, Inv Z ip σ0 H0 s' → s'.heap.get? s5.heap.objs.size = some (sumObj 0 s5.toks 0) → GI Z (PKS s5.heap.objs.size) ip [(s5.heap.objs.size, sumObj 0 s5.toks 0)] [] σ0 H0 s' := fun {s'} I' e => by
    have f := I.fpOk (H' := H0) (b := s5.heap.objs.size) (Nat.le_refl _) (I.hok.fresh (Nat.le_refl _))
    refine ⟨⟨[], s5.toks, 0, rfl, rfl⟩, fun q hq p hp z => ?_, I'.pins_of fun p hp => ?_⟩
    · have e2 : q = (s5.heap.objs.size, sumObj 0 s5.toks 0) := by simpa using hq
      have h1 := hlt p hp
      rw [z, e2] at h1
      exact Nat.lt_irrefl _ h1
    · rcases List.mem_append.mp hp with hp | hp
      · have e2 : p = (s5.heap.objs.size, sumObj 0 s5.toks 0) := by simpa using hp
        rw [e2]
        exact ⟨e, f.1, f.2.1, f.2.2.1, fun v z => by cases z⟩
      · exact I'.pin p (List.mem_append_right _ hp)
  have S := hseg (PKS s5.heap.objs.size) (fun ys PS hq p hp => by
    obtain ⟨ns, t, c, _, e⟩ := hq
    rw [e] at hp
    rw [List.mem_singleton.mp hp]
    exact Nat.le_refl _) _ (Shared.setGen { s5 with heap := s5.heap.push { cls := .type "list", data := .seq #[.int 0 s5.toks] }, toks := s5.toks + 1 } gi .running)
    (pin (inv_gens (s := { s5 with heap := s5.heap.push { cls := .type "list", data := .seq #[.int 0 s5.toks] }, toks := s5.toks + 1 }) (h' := s5.heap.push { cls := .type "list", data := .seq #[.int 0 s5.toks] }) (t' := s5.toks + 1) I6 (fun _ _ e => e) (bare_set I.bare rfl)) hS)
  rw [← hp, ← hw] at S ⊢
  exact sum_drain (A := X.A) (cont := cont) hr.hd (by have := hr.dp; omega) (fun pins σ H s I => (hback _ _ _ _ I).1) s5.heap.objs.size hs0 (fun s' ns t σ' H' I' hc => hQ s' ns t H' (hback _ _ _ _ I').2 hc) m _ (.fresh c) 0 0 s5.toks 0 (.inl rfl) ⟨_, _, _, I6⟩ hS hgs ⟨rfl, S⟩
end
/-! ### the rules -/
def tAnyX (P : Addr) (wi : TI) (g : TG) (tt : TT) (te : TE) (vs : List Nat) : TE := fun σ H Q => tGen P wi g tt te vs OkF σ H fun _ H' => Q (.bl false) H'
def tSumX (P : Addr) (wi : TI) (g : TG) (tt : TT) (te : TE) (vs : List Nat) : TE := fun σ H Q => tGen P wi g tt te vs OkI σ H fun ys H' => ∀ ns : List Int, ys = ns.map V.int → Q (.int ns.sum) H'
section
variable {X : Cx} {c P : Addr} {elt tg iter : Expr} {ifs : List Expr} {scope : Scope} {own : List (Str × Nat)} {gpos p pos : Pos} {wi : TI} {g : TG} {tt : TT} {te : TE} {k : Nat}
/-- any(elt for tg in iter if ..), where nothing that comes is True -/
theorem pe_anyX (hr : Room (k + 1) X.A) (hgl : Gl X "any") (hm : X.mg "any" = none) (TB : GxR.TabB X.base X.mg c P) (hcode : X.env.code = .ref c) (hc : X.calm = true) (hN : X.N.Nodup) (G : GSc X.env.scope scope) (ok : BlkOk X.N X.env.scope scope own) (hi : PI X tg iter wi)
    (hg : ∀ (s : Shared) (H : Hp) (cenv : Env) (fp : List Addr) (A : Around) (pn : Pins), cenv.scope = scope → Room k A → PG (gCx X s H cenv fp A pn) tg g) (ht : ∀ (s : Shared) (H : Hp) (cenv : Env) (fp : List Addr) (A : Around) (pn : Pins), cenv.scope = scope → cenv.globals = X.env.globals → Room k A → PTs (gCx X s H cenv fp A pn) ifs tt)
    (he : ∀ (s : Shared) (H : Hp) (cenv : Env) (fp : List Addr) (A : Around) (pn : Pins), cenv.scope = scope → cenv.globals = X.env.globals → Room k A → PE (gCx X s H cenv fp A pn) elt te)
    (hs : ∀ v, genFold iter X.env v = pure v := by intro _; rfl)
    (hst : starEach [.GeneratorExp elt [⟨tg, iter, ifs, 0⟩] scope gpos] X.env = (false, eval (.GeneratorExp elt [⟨tg, iter, ifs, 0⟩] scope gpos) X.env) :: starEach [] X.env := by rfl) :
    PE X (.Call (.Name "any" p) [.GeneratorExp elt [⟨tg, iter, ifs, 0⟩] scope gpos] [] pos) (tAnyX P wi g tt te (own.map (·.2))) := by
  refine ⟨fun pins s σ H Q I h => ?_⟩
  refine wpAny_Call_Name_kw (ld_blt I hgl hm boot_any ?_)
  refine PyProof.Rows.callWith_builtin1 ?_ hst (by rfl)
  rw [hst]
  show wpAny _ _ (spliced ((false, eval (.GeneratorExp elt [⟨tg, iter, ifs, 0⟩] scope gpos) X.env) :: backTo pos (starEach [] X.env))) _ _ s
  refine Calls.spliced_cons (gx_make hr TB hcode hc hN G ok hi hg ht he hs I h fun a s5 U => Calls.spliced_nil ?_)
  exact call_any_gx hr U fun s' ys H' I' hq => ⟨.bl false, H', I', rfl, hq⟩
/-- sum(elt for tg in iter if ..), all ints -/
theorem pe_sumX (hr : Room (k + 1) X.A) (hgl : Gl X "sum") (hm : X.mg "sum" = none) (TB : GxR.TabB X.base X.mg c P) (hcode : X.env.code = .ref c) (hc : X.calm = true) (hN : X.N.Nodup) (G : GSc X.env.scope scope) (ok : BlkOk X.N X.env.scope scope own) (hi : PI X tg iter wi)
    (hg : ∀ (s : Shared) (H : Hp) (cenv : Env) (fp : List Addr) (A : Around) (pn : Pins), cenv.scope = scope → Room k A → PG (gCx X s H cenv fp A pn) tg g) (ht : ∀ (s : Shared) (H : Hp) (cenv : Env) (fp : List Addr) (A : Around) (pn : Pins), cenv.scope = scope → cenv.globals = X.env.globals → Room k A → PTs (gCx X s H cenv fp A pn) ifs tt)
    (he : ∀ (s : Shared) (H : Hp) (cenv : Env) (fp : List Addr) (A : Around) (pn : Pins), cenv.scope = scope → cenv.globals = X.env.globals → Room k A → PE (gCx X s H cenv fp A pn) elt te)
    (hs : ∀ v, genFold iter X.env v = pure v := by intro _; rfl)
    (hst : starEach [.GeneratorExp elt [⟨tg, iter, ifs, 0⟩] scope gpos] X.env = (false, eval (.GeneratorExp elt [⟨tg, iter, ifs, 0⟩] scope gpos) X.env) :: starEach [] X.env := by rfl) :
    PE X (.Call (.Name "sum" p) [.GeneratorExp elt [⟨tg, iter, ifs, 0⟩] scope gpos] [] pos) (tSumX P wi g tt te (own.map (·.2))) := by
  refine ⟨fun pins s σ H Q I h => ?_⟩
  refine wpAny_Call_Name_kw (ld_blt I hgl hm boot_sum ?_)
  refine PyProof.Rows.callWith_builtin1 ?_ hst (by rfl)
  rw [hst]
  show wpAny _ _ (spliced ((false, eval (.GeneratorExp elt [⟨tg, iter, ifs, 0⟩] scope gpos) X.env) :: backTo pos (starEach [] X.env))) _ _ s
  refine Calls.spliced_cons (gx_make hr TB hcode hc hN G ok hi hg ht he hs I h fun a s5 U => Calls.spliced_nil ?_)
  exact call_sum_gx hr U fun s' ns t H' I' hq => ⟨.int ns.sum, H', I', ⟨t, rfl⟩, hq ns rfl⟩
end
end GX
end
/-! G7 -/
section
set_option Elab.async false
set_option linter.all false
set_option maxRecDepth 100000
set_option maxHeartbeats 1000000
namespace GX
open PySem PySem.Spec PyProof.Rows L2 GenW GxR
abbrev ge2 (elt t1 i1 : Expr) (f1 : List Expr) (t2 i2 : Expr) (f2 : List Expr) (scope : Scope) (pos : Pos) : Expr := .GeneratorExp elt [⟨t1, i1, f1, 0⟩, ⟨t2, i2, f2, 0⟩] scope pos
section
variable {elt t1 i1 t2 i2 : Expr} {f1 f2 : List Expr} {scope : Scope} {pos : Pos}
theorem compTurn_gen2_in (it acc : Value) (env : Env) :
    compTurn (ge2 elt t1 i1 f1 t2 i2 f2 scope pos) 1 it acc env = (do
      standAt i2.pos
      match ← pyNext it with
      | none => pure (.done .next)
      | some v =>
        letOwnedTupleGo t2 it v
        assign t2 env v
        let mut ok := true
        for c in f2 do
          if ok then ok ← isTrue c env (eval c env)
        if ok then
          (do let v ← eval elt env; standAt elt.pos; let _ ← yieldOut env v)
        again (.compLoop (ge2 elt t1 i1 f1 t2 i2 f2 scope pos) 1 it acc env)) := by rfl
theorem compTurn_gen2_out (it acc : Value) (env : Env) :
    compTurn (ge2 elt t1 i1 f1 t2 i2 f2 scope pos) 0 it acc env = (do
      standAt i1.pos
      match ← pyNext it with
      | none => pure (.done .next)
      | some v =>
        letOwnedTupleGo t1 it v
        assign t1 env v
        let mut ok := true
        for c in f1 do
          if ok then ok ← isTrue c env (eval c env)
        if ok then
          let x ← eval i2 env
          standAt i2.pos
          let x ← foldedSetIterable i2 env x
          let _ ← runOwn (.compStart (ge2 elt t1 i1 f1 t2 i2 f2 scope pos) 1 (← holding [x] (pyIter x)) acc env) env
        again (.compLoop (ge2 elt t1 i1 f1 t2 i2 f2 scope pos) 0 it acc env)) := by rfl
end
/-- what a turn of the inner loop asks; behind it Out -/
def turnIn (J : It) (g : TG) (tt : TT) (te : TE) (vs : List Nat) (σ : L2.St) (Ok : V → Prop) (Out : Nat → List V → Hp → Prop) (W : Nat → Nat → List V → Hp → Prop) : Prop :=
  ∀ j m ys H, W j m ys H → (J.stop j H ∧ ∃ m', m' ≤ m ∧ Out m' ys H) ∨ (J.go j H ∧ ∃ Nx : List V → Hp → Prop, (∀ ys' H', Nx ys' H' → ∃ m', m' < m ∧ W (j + 1) m' ys' H') ∧
    ∀ x H', J.yld j H x H' → g x (wipe σ vs) H' fun σ2 H2 => wipe σ2 vs = wipe σ vs ∧ tt σ2 H2 fun b H3 => if b = true then te σ2 H3 fun y H4 => Ok y ∧ Nx (ys ++ [y]) H4 else Nx ys H3)
section
variable {Z : Cx} {A : Around} {Ok : V → Prop} {cont : List V → Hp → Prop}
theorem seg_bindF {R : GenEnd} {Y : Protocol} {n : Nat} {s₀ : Shared} {c : Code} {fs : List Frame} {s : Shared} {α β : Type} {m : Sem α} {K : α → Sem β} {K' : β → Sem PySem.Fin} {H' : Value → Sem PySem.Fin} {gd lv} {M : Model} (hA : A.over c fs = Z.A)
    (h : wpAny M Z.A m (fun a s' => Seg M A R Y n s₀ c ((K a).wrap K' H' gd lv) fs s') (fun _ _ => False) s) : Seg M A R Y n s₀ c ((m >>= K).wrap K' H' gd lv) fs s :=
  seg_bind_wrap (by rw [hA]; exact wpAny_mono h (fun _ _ z => z) fun _ _ z => z.elim)
/-- the inner loop, over the frame of the outer -/
theorem gx_in {elt t1 i1 t2 i2 : Expr} {f1 f2 : List Expr} {scope : Scope} {pos : Pos} {it : Addr} {fp : List Addr} {tn : Nat → Heap → Prop} {J : It} {g : TG} {tt : TT} {te : TE} {vs : List Nat} {σ : L2.St} {W : Nat → Nat → List V → Hp → Prop} {Out : Nat → List V → Hp → Prop} {ip : Pins}
    {c0 : Code} {k : Result → Sem PySem.Fin} {lv0 : List Value} {p0 : Pos} {M0 : Nat}
    (hA : A.over (.compLoop (ge2 elt t1 i1 f1 t2 i2 f2 scope pos) 1 (.ref it) .none Z.env) [.ret k none false lv0 c0 p0 []] = Z.A) (hc : Z.calm = true) (hco : Z.env.scope.isCoroutine = false) (hxe : Z.xe = fun _ _ => False)
    (T : Turn Z.prog Z.w Z.K t2 J fp it tn) (hst : ∀ b ∈ fp, b ≠ Z.env.locals ∧ b ∉ Z.fs ∧ (b ∈ Z.ex ∨ Z.s_0.heap.objs.size ≤ b) ∧ (∀ x c, Z.env.cells.lookup x = some c → c ≠ b) ∧ ∀ p ∈ Z.pn ++ ip, p.1 ≠ b)
    (pg : PG Z t2 g) (pt : PTs Z f2 tt) (pe : PE Z elt te) (turn : turnIn J g tt te vs σ Ok Out W)
    (hend : ∀ (m n : Nat) (ys : List V) (H : Hp) (s₀ s : Shared), m ≤ n → m ≤ M0 → Inv Z ip (wipe σ vs) H s → Out m ys H → Seg (model Z.prog Z.w) A (GR Z PK0 cont) (GY Z PK0 Ok) n s₀ c0 (k (.ok .next)) [] s) :
    ∀ (m n j : Nat) (ys : List V) (H : Hp) (s₀ s : Shared), m ≤ n → m ≤ M0 → Inv Z ip (wipe σ vs) H s → tn j s.heap → (∀ b ∈ fp, H b = none) → W j m ys H →
      Seg (model Z.prog Z.w) A (GR Z PK0 cont) (GY Z PK0 Ok) n s₀ (.compLoop (ge2 elt t1 i1 f1 t2 i2 f2 scope pos) 1 (.ref it) .none Z.env)
        ((model Z.prog Z.w).den (.compLoop (ge2 elt t1 i1 f1 t2 i2 f2 scope pos) 1 (.ref it) .none Z.env)) [.ret k none false lv0 c0 p0 []] s := by
  have run0 : ∀ {α : Type} {t : Sem α} {Q : α → Shared → Prop} {s : Shared}, wpAny (model Z.prog Z.w) Z.A t Q Z.xe s → wpAny (model Z.prog Z.w) Z.A t Q (fun _ _ => False) s := fun {α t Q s} h => by rw [hxe] at h; exact h
  have stat : ∀ {H' : Hp}, (∀ b ∈ fp, H' b = none) → ∀ b ∈ fp, FpOk Z ip H' b := fun {H'} hn b hb => ⟨hn b hb, (hst b hb).1, (hst b hb).2.1, (hst b hb).2.2.1, (hst b hb).2.2.2.1, (hst b hb).2.2.2.2⟩
  intro m
  induction m using Nat.strongRecOn with
  | ind m ih =>
    intro n j ys H s₀ s hmn hmM I st nf w
    show Seg _ A _ _ n s₀ _ ((compTurn (ge2 elt t1 i1 f1 t2 i2 f2 scope pos) 1 (.ref it) .none Z.env).onRaise (fun x => do noteFrame x Z.env; theTreesLotGoes x)) [.ret k none false lv0 c0 p0 []] s
    rw [compTurn_gen2_in, Sem.onRaise_eq_wrap]
    refine seg_bindF (Z := Z) hA (wpAny_standAt ?_)
    rcases turn j m ys H w with ⟨stop, m', hm', q⟩ | ⟨go, Nx, hNx, step⟩
    · refine seg_bindF (Z := Z) hA (thn (T.done Z rfl rfl rfl hc j ip s _ H (fun _ _ => False) I (stat nf) st stop) fun r s6 ⟨hr, I6⟩ => ?_)
      subst hr
      exact seg_leaf (.ok .next) (hend m' n ys H s₀ s6 (by omega) (by omega) I6 q)
    · refine seg_bindF (Z := Z) hA (thn (T.item Z rfl rfl rfl hc j ip s _ H (fun _ _ => False) I (stat nf) st go) fun r s6 ⟨u, hr, h6⟩ => ?_)
      subst hr
      refine seg_bindF (Z := Z) hA (thn h6 fun _ s7 ⟨x, H7, I7, r7, y7, st7, n7⟩ => ?_)
      have I7' := I7.pinned (stat n7) (T.obj _ _ st7)
      refine seg_bindF (Z := Z) hA (thn (run0 (pg.run _ s7 _ H7 x u _ I7' r7 (step x H7 y7))) fun _ s8 ⟨σ8, H8, I8, hw8, q8⟩ => ?_)
      refine seg_bindF (Z := Z) hA (thn (run0 (pt.run _ s8 σ8 H8 _ I8 q8)) fun b s9 ⟨H9, I9, q9⟩ => ?_)
      have hl : (wipe σ vs).length = σ8.length := by rw [← hw8, wipe_length]
      have fin : ∀ {s' s₁ : Shared} {H' : Hp} {ys' : List V} {n' : Nat}, Inv Z (ip ++ pinsAt fp s7.heap) σ8 H' s' → Nx ys' H' → m ≤ n' + 1 →
          Seg (model Z.prog Z.w) A (GR Z PK0 cont) (GY Z PK0 Ok) n' s₁ (.compLoop (ge2 elt t1 i1 f1 t2 i2 f2 scope pos) 1 (.ref it) .none Z.env)
            ((model Z.prog Z.w).den (.compLoop (ge2 elt t1 i1 f1 t2 i2 f2 scope pos) 1 (.ref it) .none Z.env)) [.ret k none false lv0 c0 p0 []] s' := fun {s' s₁ H' ys' n'} I' nx hmn' => by
        obtain ⟨m', hm, w'⟩ := hNx ys' H' nx
        have pin' : ∀ b ∈ fp, ∀ o, s7.heap.get? b = some o → s'.heap.get? b = some o ∧ H' b = none := fun b hb o e =>
          let z := I'.pin (b, o) (List.mem_append_right _ (List.mem_append_right _ (mem_pinsAt hb e)))
          ⟨z.1, z.2.1⟩
        refine ih m' hm n' (j + 1) ys' H' s₁ s' (by omega) (by omega) ?_ (T.keep _ _ _ st7 fun b hb o e => (pin' b hb o e).1) (fun b hb => ?_) w'
        · refine (I'.unpinned (pins := ip)).weak hl fun i v e => ?_
          rw [← hw8] at e
          exact (wipe_some e).1
        · obtain ⟨o, e, _⟩ := T.obj _ _ st7 b hb
          exact (pin' b hb o e).2
      cases b with
      | false =>
        simp only [Bool.false_eq_true, if_false] at q9 ⊢
        obtain ⟨m', hm, w'⟩ := hNx ys H9 q9
        have pin' : ∀ b ∈ fp, ∀ o, s7.heap.get? b = some o → s9.heap.get? b = some o ∧ H9 b = none := fun b hb o e =>
          let z := I9.pin (b, o) (List.mem_append_right _ (List.mem_append_right _ (mem_pinsAt hb e)))
          ⟨z.1, z.2.1⟩
        refine seg_again rfl (ih m' hm n (j + 1) ys H9 s₀ s9 (by omega) (by omega) ?_ (T.keep _ _ _ st7 fun b hb o e => (pin' b hb o e).1) (fun b hb => ?_) w')
        · refine (I9.unpinned (pins := ip)).weak hl fun i v e => ?_
          rw [← hw8] at e
          exact (wipe_some e).1
        · obtain ⟨o, e, _⟩ := T.obj _ _ st7 b hb
          exact (pin' b hb o e).2
      | true =>
        simp only [if_true] at q9 ⊢
        have hy : ∀ v, yieldOut Z.env v = yieldValue v := fun v => by simp only [yieldOut, hco, Bool.false_eq_true, if_false]
        simp only [hy]
        rw [Sem.bind_eq_wrap', Sem.bind_eq_wrap', Sem.wrap_wrap, Sem.wrap_wrap]
        refine seg_wrap ?_
        rw [hA]
        refine wpAny_mono (run0 (pe.run _ s9 σ8 H9 _ I9 q9)) (fun z s10 ⟨yv, H10, I10, r10, hok, nx⟩ => ?_) fun _ _ z => z.elim
        cases n with
        | zero =>
          obtain ⟨m', hm, _⟩ := hNx _ _ nx
          omega
        | succ n' =>
          refine seg_at (seg_yield rfl rfl rfl ⟨ys, yv, ip ++ pinsAt fp s7.heap, [], σ8, H10, r10, hok, gi0 I10, fun q hq => (by cases hq), fun s'' PS' hG => ?_⟩)
          exact seg_again rfl (fin (gi0_inv hG) nx (by omega))
end
end GX
end
/-! G8 -/
section
set_option Elab.async false
set_option linter.all false
set_option maxRecDepth 100000
set_option maxHeartbeats 1000000
namespace GX
open PySem PySem.Spec PyProof.Rows L2 GenW GxR
theorem eval_GeneratorExp2 (elt target iter t2 i2 : Expr) (ifs f2 : List Expr) (scope : Scope) (pos : Pos) (env : Env) (hco : scope.isCoroutine = false) :
    eval (ge2 elt target iter ifs t2 i2 f2 scope pos) env = (do
      let x0 ← eval iter env
      standAt iter.pos
      let x1 ← genFold iter env x0
      let it ← holding [x1] (pyIter x1)
      enterFrame
      let cls ← closureFor scope env
      let cod ← genexprCode env pos (env.qual ++ "<genexpr>") scope
      let bis ← builtinsFor env.globals env.builtins
      let cen ← newFunctionEnv scope env.globals cls [(".0", it)] (env.qual ++ "<genexpr>.") none cod none bis
      newGenerator (.compStart (ge2 elt target iter ifs t2 i2 f2 scope pos) 0 it .none cen) "<genexpr>" (env.qual ++ "<genexpr>")) := by
  rw [arm_eval_GeneratorExp]; simp only [hco, Bool.false_eq_true, if_false]; cases iter <;> rfl
section
variable {M : Model} {A : Around} {E : Value → Shared → Prop} {s : Shared}
theorem gen2_make {env : Env} {elt target iter t2 i2 : Expr} {ifs f2 : List Expr} {scope : Scope} {cl : List (Str × Addr)} {pos : Pos} {Q : Value → Shared → Prop}
    (hco : scope.isCoroutine = false) (hcl : closureFor scope env = pure cl) (hcell : ∀ y ∈ scope.names, y.2 ≠ .cell) (h0 : scope.names.lookup (".0" : Str) = some NameKind.local) (hkind : scope.kind = .function)
    (hroom : A.depth < recursionLimit)
    (h : wpAny M A (eval iter env) (fun xv sa => wpAny M A (pyIter xv) (fun it sb => sb.heap.NoLimit ∧
      wpAny M A (genexprCode env pos (env.qual ++ "<genexpr>") scope) (fun code sc => wpAny M A (builtinsFor env.globals env.builtins) (fun bi sd =>
        ∀ hz, hz.Ns sd.heap.objs.size (fun y => if y = ".0" then some it else none) → Heap.SameBut sd.heap.objs.size (sd.heap.push { cls := .type "frame", data := .dict #[] }) hz →
          Q (.ref hz.objs.size) { sd with
            gens := sd.gens.push (.fresh (.compStart (.GeneratorExp elt [⟨target, iter, ifs, 0⟩, ⟨t2, i2, f2, 0⟩] scope pos) 0 it .none (genEnv scope cl sd.heap.objs.size code bi env))),
            toks := sd.toks + 1 + 1 + 1,
            heap := hz.push { cls := .type "generator", data := .fields #[.int sd.gens.size 0, .str "<genexpr>" (sd.toks + 1), .str (env.qual ++ "<genexpr>") (sd.toks + 1 + 1)] } }) E sc) E sb) E sa) E s)
    (hs : ∀ x, genFold iter env x = pure x) :
    wpAny M A (eval (.GeneratorExp elt [⟨target, iter, ifs, 0⟩, ⟨t2, i2, f2, 0⟩] scope pos) env) Q E s := by
  rw [eval_GeneratorExp2 _ _ _ _ _ _ _ _ _ _ hco, hcl]
  refine wpAny_bind (wpAny_mono h (fun xv sa ha => ?_) fun _ _ w => w)
  refine wpAny_bind (wpAny_standAt ?_)
  refine wpAny_bind (wpAny_of_eq (hs xv) ?_)
  refine wpAny_bind (wpAny_holding (wpAny_mono ha (fun it sb hb => ?_) fun _ _ w => w))
  refine wpAny_bind (wpAny_enterFrame hb.1 hroom ?_)
  refine wpAny_bind (wpAny_pure ?_)
  refine wpAny_bind (wpAny_mono hb.2 (fun code sc hc => ?_) fun _ _ w => w)
  refine wpAny_bind (wpAny_mono hc (fun bi sd hd => ?_) fun _ _ w => w)
  have hbi : ∀ y ∈ ([((".0" : Str), it)] : List (Str × Value)), scope.names.lookup y.1 = some NameKind.local := by
    intro y hy
    rcases List.mem_cons.mp hy with rfl | hy
    · exact h0
    · cases hy
  refine wpAny_bind (wpAny_newFunctionEnv hcell hbi (fun hz hn2 hs2 => ?_) hkind)
  have e : (fun y : Str => ([((".0" : Str), it)] : List (Str × Value)).reverse.lookup y) = fun y : Str => if y = (".0" : Str) then some it else none := by
    funext y
    by_cases hy : y = ".0"
    · subst hy; simp
    · have : (y == (".0" : Str)) = false := by simpa using hy
      simp [List.lookup, this, hy]
  rw [e] at hn2
  simp only [newGenerator, newFields]
  refine wpAny_bind (wpAny_newGen (wpAny_bind (wpAny_mkText (wpAny_bind (wpAny_mkText (wpAny_newObj_type ?_ (by size_fits)))))))
  exact hd hz hn2 hs2
end

section
variable {Z : Cx} {A : Around} {Ok : V → Prop} {cont : List V → Hp → Prop}
def turnG2 (J : It) (g : TG) (tt : TT) (wi2 : TI) (g2 : TG) (tt2 : TT) (te : TE) (vs vs2 : List Nat) (σ : L2.St) (Ok : V → Prop) (cont : List V → Hp → Prop) (W : Nat → Nat → List V → Hp → Prop) : Prop :=
  ∀ i m ys H, W i m ys H → (J.stop i H ∧ cont ys H) ∨ (J.go i H ∧ ∀ x H', J.yld i H x H' → g x (wipe σ vs) H' fun σ2 H2 => wipe σ2 vs = wipe σ vs ∧ tt σ2 H2 fun b H3 =>
    if b = true then wi2 σ2 H3 fun J2 H4 => ∃ W2 : Nat → Nat → List V → Hp → Prop, (∃ m2, m2 < m ∧ W2 0 m2 ys H4) ∧ turnIn J2 g2 tt2 te vs2 σ2 Ok (fun m' ys' H' => W (i + 1) m' ys' H') W2 else ∃ m', m' < m ∧ W (i + 1) m' ys H3)
theorem gx2_loop {elt tg iter t2 i2 : Expr} {ifs f2 : List Expr} {scope : Scope} {pos : Pos} {it : Addr} {fp : List Addr} {tn : Nat → Heap → Prop} {J : It} {g g2 : TG} {tt tt2 : TT} {wi2 : TI} {te : TE} {vs vs2 : List Nat} {σ : L2.St} {W : Nat → Nat → List V → Hp → Prop}
    (hA : A.over (.compLoop (ge2 elt tg iter ifs t2 i2 f2 scope pos) 0 (.ref it) .none Z.env) [] = Z.A) (hc : Z.calm = true) (hco : Z.env.scope.isCoroutine = false) (hxe : Z.xe = fun _ _ => False)
    (T : Turn Z.prog Z.w Z.K tg J fp it tn) (hfp : ∀ b ∈ fp, b ∈ Z.ex) (hpn : ∀ p ∈ Z.pn, p.1 ∉ fp)
    (pg : PG Z tg g) (pt : PTs Z ifs tt) (pi2 : PI Z t2 i2 wi2) (pg2 : PG Z t2 g2) (pt2 : PTs Z f2 tt2) (pe : PE Z elt te) (hs2 : ∀ v, foldedSetIterable i2 Z.env v = pure v) (hsub : ∀ i ∈ vs2, i ∈ vs) (turn : turnG2 J g tt wi2 g2 tt2 te vs vs2 σ Ok cont W) :
    ∀ (m n i : Nat) (ys : List V) (H : Hp) (s₀ s : Shared), m ≤ n → Inv Z [] (wipe σ vs) H s → tn i s.heap → (∀ b ∈ fp, H b = none) → W i m ys H →
      Seg (model Z.prog Z.w) A (GR Z PK0 cont) (GY Z PK0 Ok) n s₀ (.compLoop (ge2 elt tg iter ifs t2 i2 f2 scope pos) 0 (.ref it) .none Z.env)
        ((model Z.prog Z.w).den (.compLoop (ge2 elt tg iter ifs t2 i2 f2 scope pos) 0 (.ref it) .none Z.env)) [] s := by
  have run0 : ∀ {α : Type} {t : Sem α} {Q : α → Shared → Prop} {s : Shared}, wpAny (model Z.prog Z.w) Z.A t Q Z.xe s → wpAny (model Z.prog Z.w) Z.A t Q (fun _ _ => False) s := fun {α t Q s} h => by rw [hxe] at h; exact h
  have stat : ∀ {σ' : L2.St} {H' : Hp} {s' : Shared}, Inv Z [] σ' H' s' → (∀ b ∈ fp, H' b = none) → ∀ b ∈ fp, FpOk Z [] H' b := fun {σ' H' s'} I' hn b hb =>
    ⟨hn b hb, (I'.ok.exf b (hfp b hb)).1, I'.ok.exfs b (hfp b hb), .inl (hfp b hb), fun x c e => (I'.ok.exf b (hfp b hb)).2 x c e, fun p hq z => by
      rcases List.mem_append.mp hq with hq | hq
      · exact hpn p hq (by rw [z]; exact hb)
      · cases hq⟩
  intro m
  induction m using Nat.strongRecOn with
  | ind m ih =>
    intro n i ys H s₀ s hmn I st nf w
    show Seg _ A _ _ n s₀ _ ((compTurn (ge2 elt tg iter ifs t2 i2 f2 scope pos) 0 (.ref it) .none Z.env).onRaise (leaving Z.env)) [] s
    rw [compTurn_gen2_out, Sem.onRaise_eq_wrap]
    refine seg_bindF (Z := Z) hA (wpAny_standAt ?_)
    rcases turn i m ys H w with ⟨stop, q⟩ | ⟨go, step⟩
    · refine seg_bindF (Z := Z) hA (thn (T.done Z rfl rfl rfl hc i [] s _ H (fun _ _ => False) I (stat I nf) st stop) fun r s6 ⟨hr, I6⟩ => ?_)
      subst hr
      exact seg_end (.ok .next) ⟨rfl, ys, [], _, H, gi0 I6, fun q hq => (by cases hq), q⟩
    · refine seg_bindF (Z := Z) hA (thn (T.item Z rfl rfl rfl hc i [] s _ H (fun _ _ => False) I (stat I nf) st go) fun r s6 ⟨u, hr, h6⟩ => ?_)
      subst hr
      refine seg_bindF (Z := Z) hA (thn h6 fun _ s7 ⟨x, H7, I7, r7, y7, st7, n7⟩ => ?_)
      have I7' := I7.pinned (stat I7 n7) (T.obj _ _ st7)
      refine seg_bindF (Z := Z) hA (thn (run0 (pg.run _ s7 _ H7 x u _ I7' r7 (step x H7 y7))) fun _ s8 ⟨σ8, H8, I8, hw8, q8⟩ => ?_)
      refine seg_bindF (Z := Z) hA (thn (run0 (pt.run _ s8 σ8 H8 _ I8 q8)) fun b s9 ⟨H9, I9, q9⟩ => ?_)
      have hl : (wipe σ vs).length = σ8.length := by rw [← hw8, wipe_length]
      -- the next turn of this loop
      have fin : ∀ {s' s₁ : Shared} {σ' : L2.St} {H' : Hp} {ys' : List V} {m' n' : Nat}, Inv Z ([] ++ pinsAt fp s7.heap) σ' H' s' → (wipe σ vs).length = σ'.length → (∀ (j : Nat) v, (wipe σ vs)[j]? = some (some v) → σ'[j]? = some (some v)) → m' < m → m' ≤ n' → W (i + 1) m' ys' H' →
          Seg (model Z.prog Z.w) A (GR Z PK0 cont) (GY Z PK0 Ok) n' s₁ (.compLoop (ge2 elt tg iter ifs t2 i2 f2 scope pos) 0 (.ref it) .none Z.env)
            ((model Z.prog Z.w).den (.compLoop (ge2 elt tg iter ifs t2 i2 f2 scope pos) 0 (.ref it) .none Z.env)) [] s' := fun {s' s₁ σ' H' ys' m' n'} I' hl' hσ hm hn w' => by
        have pin' : ∀ b ∈ fp, ∀ o, s7.heap.get? b = some o → s'.heap.get? b = some o ∧ H' b = none := fun b hb o e =>
          let z := I'.pin (b, o) (List.mem_append_right _ (List.mem_append_right _ (mem_pinsAt hb e)))
          ⟨z.1, z.2.1⟩
        refine ih m' hm n' (i + 1) ys' H' s₁ s' hn ((I'.unpinned (pins := [])).weak hl' hσ) (T.keep _ _ _ st7 fun b hb o e => (pin' b hb o e).1) (fun b hb => ?_) w'
        obtain ⟨o, e, _⟩ := T.obj _ _ st7 b hb
        exact (pin' b hb o e).2
      have hσ8 : ∀ (j : Nat) v, (wipe σ vs)[j]? = some (some v) → σ8[j]? = some (some v) := fun j v e => by
        rw [← hw8] at e
        exact (wipe_some e).1
      cases b with
      | false =>
        simp only [Bool.false_eq_true, if_false] at q9 ⊢
        obtain ⟨m', hm, w'⟩ := q9
        exact seg_again rfl (fin I9 hl hσ8 hm (by omega) w')
      | true =>
        simp only [if_true] at q9 ⊢
        refine seg_bindF (Z := Z) hA (thn (run0 (pi2.run _ s9 σ8 H9 _ I9 q9)) fun xv s10 h10 => ?_)
        refine seg_bindF (Z := Z) hA (wpAny_standAt (seg_bindF (Z := Z) hA (wpAny_of_eq (hs2 xv) ?_)))
        refine seg_bindF (Z := Z) hA (wpAny_holding (thn (run0 h10) fun itv s11 h11 => ?_))
        obtain ⟨it2, fp2, tn2, J2, H11, e11, I11, T2, st11, f11, W2, ⟨m2, hm2, w2⟩, turn2⟩ := h11
        subst e11
        have f11' : ∀ b ∈ fp2, b ≠ Z.env.locals ∧ b ∉ Z.fs ∧ (b ∈ Z.ex ∨ Z.s_0.heap.objs.size ≤ b) ∧ (∀ x c, Z.env.cells.lookup x = some c → c ≠ b) ∧ ∀ p ∈ Z.pn ++ ([] ++ pinsAt fp s7.heap), p.1 ≠ b := fun b hb => (f11 b hb).2
        refine seg_call fun p => ?_
        have hA1 : ∀ {k : Result → Sem PySem.Fin} {l : List Value}, A.over (.compLoop (ge2 elt tg iter ifs t2 i2 f2 scope pos) 1 (.ref it2) .none Z.env) [.ret k none false l (.compLoop (ge2 elt tg iter ifs t2 i2 f2 scope pos) 0 (.ref it) .none Z.env) p []] = Z.A := fun {k l} => (over_loop rfl rfl).trans hA
        have hA2 : ∀ {k : Result → Sem PySem.Fin} {l : List Value}, A.over (.compStart (ge2 elt tg iter ifs t2 i2 f2 scope pos) 1 (.ref it2) .none Z.env) [.ret k none false l (.compLoop (ge2 elt tg iter ifs t2 i2 f2 scope pos) 0 (.ref it) .none Z.env) p []] = Z.A := fun {k l} => (over_loop rfl rfl).trans hA
        have hl2 : (wipe σ8 vs2).length = σ8.length := wipe_length _ _
        have loop := fun (k : Result → Sem PySem.Fin) (l : List Value) hend => gx_in (W := W2) (ip := [] ++ pinsAt fp s7.heap) (k := k) (lv0 := l) (p0 := p) (M0 := m2) (cont := cont) hA1 hc hco hxe T2 f11' pg2 pt2 pe turn2 hend m2 n 0 ys H11 s₀ s11 (by omega) (Nat.le_refl _) (I11.weak hl2 fun j v e => (wipe_some e).1) st11 (fun b hb => (f11 b hb).1) w2
        show Seg _ A _ _ n s₀ _ ((compStart (ge2 elt tg iter ifs t2 i2 f2 scope pos) 1 (.ref it2) .none Z.env).onRaise (fun x => do noteFrame x Z.env; standAt theWindowsPlace)) _ s11
        unfold compStart
        rw [Sem.onRaise_eq_wrap]
        show Seg _ A _ _ n s₀ _ ((ask >>= _).wrap _ _ _ _) _ s11
        have hend : ∀ (m' n' : Nat) (ys' : List V) (H' : Hp) (s1 s' : Shared), m' ≤ n' → m' ≤ m2 → Inv Z ([] ++ pinsAt fp s7.heap) (wipe σ8 vs2) H' s' → W (i + 1) m' ys' H' →
            Seg (model Z.prog Z.w) A (GR Z PK0 cont) (GY Z PK0 Ok) n' s1 (.compLoop (ge2 elt tg iter ifs t2 i2 f2 scope pos) 0 (.ref it) .none Z.env) (.pure (.again (.compLoop (ge2 elt tg iter ifs t2 i2 f2 scope pos) 0 (.ref it) .none Z.env))) [] s' := fun m' n' ys' H' s1 s' h1 h2 I' w' =>
          seg_again rfl (fin I' (by rw [hl, hl2]) (fun j v e => by
            obtain ⟨e1, nj⟩ := wipe_some e
            rw [wipe_out (fun z => nj (hsub j z))]
            exact hσ8 j v e) (by omega) h1 w')
        refine seg_bindF (Z := Z) hA2 (wpAny_askSetting ?_)
        split
        · exact seg_again rfl (loop _ _ hend)
        · first
            | exact seg_bindF (Z := Z) hA2 (wpAny_rule (seg_bindF (Z := Z) hA2 (wpAny_standAt (seg_bindF (Z := Z) hA2 (T2.self Z.A 0 s11 _ _ st11 (seg_again rfl (loop _ _ hend)))))))
            | (refine seg_bindF (Z := Z) hA2 (wpAny_rule ?_)
               show Seg _ A _ _ n s₀ _ ((standAt i2.pos >>= _).wrap _ _ _ _) _ s11
               exact seg_bindF (Z := Z) hA2 (wpAny_standAt (seg_bindF (Z := Z) hA2 (T2.self Z.A 0 s11 _ _ st11 (seg_again rfl (loop _ _ hend))))))
end
end GX
end
/-! G9 -/
section
set_option Elab.async false
set_option linter.all false
set_option maxRecDepth 100000
set_option maxHeartbeats 1000000
namespace GX
open PySem PySem.Spec PyProof.Rows L2 GenW GxR
section
variable {Z : Cx} {A : Around} {Ok : V → Prop} {cont : List V → Hp → Prop}
theorem gx2_start {elt tg iter t2 i2 : Expr} {ifs f2 : List Expr} {scope : Scope} {pos : Pos} {it : Addr} {fp : List Addr} {tn : Nat → Heap → Prop} {J : It} {g g2 : TG} {tt tt2 : TT} {wi2 : TI} {te : TE} {vs vs2 : List Nat} {σ : L2.St} {W : Nat → Nat → List V → Hp → Prop} {m : Nat} {H : Hp} {s₀ s : Shared}
    (hA : A.over (.compLoop (ge2 elt tg iter ifs t2 i2 f2 scope pos) 0 (.ref it) .none Z.env) [] = Z.A) (hA2 : A.over (.compStart (ge2 elt tg iter ifs t2 i2 f2 scope pos) 0 (.ref it) .none Z.env) [] = Z.A)
    (hc : Z.calm = true) (hco : Z.env.scope.isCoroutine = false) (hxe : Z.xe = fun _ _ => False)
    (T : Turn Z.prog Z.w Z.K tg J fp it tn) (hfp : ∀ b ∈ fp, b ∈ Z.ex) (hpn : ∀ p ∈ Z.pn, p.1 ∉ fp)
    (pg : PG Z tg g) (pt : PTs Z ifs tt) (pi2 : PI Z t2 i2 wi2) (pg2 : PG Z t2 g2) (pt2 : PTs Z f2 tt2) (pe : PE Z elt te) (hs2 : ∀ v, foldedSetIterable i2 Z.env v = pure v) (hsub : ∀ i ∈ vs2, i ∈ vs) (turn : turnG2 J g tt wi2 g2 tt2 te vs vs2 σ Ok cont W)
    (I : Inv Z [] (wipe σ vs) H s) (st : tn 0 s.heap) (nf : ∀ b ∈ fp, H b = none) (w : W 0 m [] H) :
    Seg (model Z.prog Z.w) A (GR Z PK0 cont) (GY Z PK0 Ok) m s₀ (.compStart (ge2 elt tg iter ifs t2 i2 f2 scope pos) 0 (.ref it) .none Z.env)
        ((model Z.prog Z.w).den (.compStart (ge2 elt tg iter ifs t2 i2 f2 scope pos) 0 (.ref it) .none Z.env)) [] s := by
  have loop := gx2_loop hA hc hco hxe T hfp hpn pg pt pi2 pg2 pt2 pe hs2 hsub turn m m 0 [] H s₀ s (Nat.le_refl _) I st nf w
  show Seg _ A _ _ m s₀ _ ((compStart (ge2 elt tg iter ifs t2 i2 f2 scope pos) 0 (.ref it) .none Z.env).onRaise (leaving Z.env)) [] s
  unfold compStart
  rw [Sem.onRaise_eq_wrap]
  show Seg _ A _ _ m s₀ _ ((ask >>= _).wrap _ _ _ _) [] s
  refine seg_bindF (Z := Z) hA2 (wpAny_askSetting ?_)
  split
  · exact seg_again rfl loop
  · first
      | exact seg_bindF (Z := Z) hA2 (wpAny_rule (seg_bindF (Z := Z) hA2 (wpAny_standAt (seg_bindF (Z := Z) hA2 (T.self Z.A 0 s _ _ st (seg_again rfl loop))))))
      | (refine seg_bindF (Z := Z) hA2 (wpAny_rule ?_)
         show Seg _ A _ _ m s₀ _ ((standAt iter.pos >>= _).wrap _ _ _ _) [] s
         exact seg_bindF (Z := Z) hA2 (wpAny_standAt (seg_bindF (Z := Z) hA2 (T.self Z.A 0 s _ _ st (seg_again rfl loop)))))
/-- a generator for any that has not begun -/
def Up2 (X : Cx) (pins : Pins) (σ : L2.St) (Ok : V → Prop) (cont : List V → Hp → Prop) (a : Addr) (s5 : Shared) : Prop :=
  ∃ (Z : Cx) (gi m : Nat) (c : Code) (ip : Pins) (σ0 : L2.St) (H0 : Hp), Z.prog = X.prog ∧ Z.w = X.w ∧ s5.gens[gi]? = some (.fresh c) ∧ Inv Z ip σ0 H0 s5 ∧ (∀ p ∈ Z.pn ++ ip, p.1 < s5.heap.objs.size) ∧ Z.s_0.heap.objs.size ≤ s5.heap.objs.size ∧
    (∀ pins' σ' H' s', Inv Z pins' σ' H' s' → s'.heap.IsGen a gi ∧ Inv X pins σ H' s') ∧
    ∀ s', Inv Z ip σ0 H0 s' → Seg (model X.prog X.w) X.A.in1.in1 (GR Z PK0 cont) (GY Z PK0 Ok) m s' c ((model X.prog X.w).den c) [] s'
def tGen2 (P : Addr) (wi : TI) (g : TG) (tt : TT) (wi2 : TI) (g2 : TG) (tt2 : TT) (te : TE) (vs vs2 : List Nat) (Ok : V → Prop) (σ : L2.St) (H : Hp) (cont : List V → Hp → Prop) : Prop :=
  wi σ H fun J H1 => TabG H1 P ∧ ∀ H2, Tabbed P H1 H2 → ∃ W : Nat → Nat → List V → Hp → Prop, (∃ m, W 0 m [] H2) ∧ turnG2 J g tt wi2 g2 tt2 te vs vs2 σ Ok cont W
end
section
variable {X : Cx} {pins : Pins} {σ : L2.St} {H : Hp} {s : Shared}
theorem gx2_make {c P : Addr} {elt tg iter t2 i2 : Expr} {ifs f2 : List Expr} {scope : Scope} {own : List (Str × Nat)} {gpos : Pos} {wi : TI} {g g2 : TG} {tt tt2 : TT} {te : TE} {wi2 : TI} {k : Nat} {vs2 : List Nat} {Ok : V → Prop} {cont : List V → Hp → Prop} {Q' : Value → Shared → Prop}
    (hr : Room (k + 1) X.A) (TB : GxR.TabB X.base X.mg c P) (hcode : X.env.code = .ref c) (hc : X.calm = true) (hN : X.N.Nodup) (G : GSc X.env.scope scope) (ok : BlkOk X.N X.env.scope scope own) (hi : PI X tg iter wi)
    (hg : ∀ (s : Shared) (H : Hp) (cenv : Env) (fp : List Addr) (A : Around) (pn : Pins), cenv.scope = scope → Room k A → PG (gCx X s H cenv fp A pn) tg g) (ht : ∀ (s : Shared) (H : Hp) (cenv : Env) (fp : List Addr) (A : Around) (pn : Pins), cenv.scope = scope → cenv.globals = X.env.globals → Room k A → PTs (gCx X s H cenv fp A pn) ifs tt)
    (hi2 : ∀ (s : Shared) (H : Hp) (cenv : Env) (fp : List Addr) (A : Around) (pn : Pins), cenv.scope = scope → cenv.globals = X.env.globals → Room k A → PI (gCx X s H cenv fp A pn) t2 i2 wi2)
    (hg2 : ∀ (s : Shared) (H : Hp) (cenv : Env) (fp : List Addr) (A : Around) (pn : Pins), cenv.scope = scope → Room k A → PG (gCx X s H cenv fp A pn) t2 g2) (ht2 : ∀ (s : Shared) (H : Hp) (cenv : Env) (fp : List Addr) (A : Around) (pn : Pins), cenv.scope = scope → cenv.globals = X.env.globals → Room k A → PTs (gCx X s H cenv fp A pn) f2 tt2)
    (hs2 : ∀ (cenv : Env) v, foldedSetIterable i2 cenv v = pure v) (hsub : ∀ i ∈ vs2, i ∈ own.map (·.2))
    (he : ∀ (s : Shared) (H : Hp) (cenv : Env) (fp : List Addr) (A : Around) (pn : Pins), cenv.scope = scope → cenv.globals = X.env.globals → Room k A → PE (gCx X s H cenv fp A pn) elt te)
    (hs : ∀ v, genFold iter X.env v = pure v) (I : Inv X pins σ H s) (h : tGen2 P wi g tt wi2 g2 tt2 te (own.map (·.2)) vs2 Ok σ H cont)
    (hQ : ∀ a s5, Up2 X pins σ Ok cont a s5 → Q' (.ref a) s5) :
    wpAny (model X.prog X.w) X.A (eval (.GeneratorExp elt [⟨tg, iter, ifs, 0⟩, ⟨t2, i2, f2, 0⟩] scope gpos) X.env) Q' X.xe s := by
  have hfree : ∀ y ∈ scope.names, y.2 = .free → ∃ c, X.env.cells.lookup y.1 = some c := fun y hy e => by
    rcases ok.free y hy e with k | k
    · exact I.ok.has _ (.inl k)
    · exact I.ok.has _ (.inr k)
  refine gen2_make G.co (closure_ok hfree) G.cell G.dot ok.kind (by have := hr.dp; omega) ?_ hs
  refine thn (hi.run pins s σ H _ I h) fun xv s1 hx => thn hx fun itv s2 h2 => ?_
  obtain ⟨it, fp, tn, J, H2, e, I2, T, st2, q2, ⟨ps, hP, htr⟩, q⟩ := h2
  subst e
  refine ⟨I2.nolimit, ?_⟩
  have hPs : s2.heap.get? P = some { cls := .none, data := .fields ps } := I2.hok P _ hP
  have cd : PySem.W.CodeHd s2.heap c P := TB.code.keeps fun b u e => I2.bk b u e
  have nP : ∀ b, H2 b = none → b ≠ P := fun b e z => by rw [z, hP] at e; cases e
  have cont2 : ∀ (code : Value) (h3 : Heap) (tk : Nat) (ps' : Array Value), Heap.ExtBut P s2.heap h3 → h3.get? P = some { cls := .none, data := .fields ps' } → (∃ more, ps' = ps ++ more) → TriplesOk ps'.toList →
      wpAny (model X.prog X.w) X.A (builtinsFor X.env.globals X.env.builtins) (fun bi s₄ => ∀ h', h'.Ns s₄.heap.objs.size (fun y => if y = ".0" then some (Value.ref it) else none) → Heap.SameBut s₄.heap.objs.size (s₄.heap.push { cls := .type "frame", data := .dict #[] }) h' →
          Q' (.ref h'.objs.size) { s₄ with
            gens := s₄.gens.push (.fresh (.compStart (.GeneratorExp elt [⟨tg, iter, ifs, 0⟩, ⟨t2, i2, f2, 0⟩] scope gpos) 0 (.ref it) .none (genEnv scope (cloFrom X.env.cells scope.names []) s₄.heap.objs.size code bi X.env))),
            toks := s₄.toks + 1 + 1 + 1,
            heap := h'.push { cls := .type "generator", data := .fields #[.int s₄.gens.size 0, .str "<genexpr>" (s₄.toks + 1), .str (X.env.qual ++ "<genexpr>") (s₄.toks + 1 + 1)] } }) X.xe { s2 with heap := h3, toks := tk } := by
    intro code h3 tk ps' hx3 hP3 hmore htr3
    obtain ⟨bm, ob, e1, e2, e3, e4, e5, e6, e7, e8⟩ := TB.bm
    have keep3 : ∀ b u, b ≠ P → s2.heap.get? b = some u → h3.get? b = some u := fun b u hb e => hx3 b u hb e
    refine wpAny_builtinsFor (m := X.mg) (by rw [I2.ok.glob]; exact (I2.mod.glob.keeps I2.bk).extBut hx3 TB.gP) e1 e2 (keep3 _ _ e4 (I2.bk _ _ e5)) e6 e7 e8 ?_
    intro h' hn' hs'
    obtain ⟨more, em⟩ := hmore
    have I3 : Inv X pins σ (upd H2 P (.tbl (ps ++ more))) { s2 with heap := h3, gens := s2.gens, drawn := s2.drawn, toks := tk } := inv_tab (more := more) I2 hP keep3 (by rw [← em]; exact hP3) I2.bare
    have tabbed : Tabbed P H2 (upd H2 P (.tbl (ps ++ more))) := ⟨⟨ps ++ more, upd_same, by rw [← em]; exact htr3⟩, fun b hb => upd_ne hb⟩
    obtain ⟨W, ⟨m0, w0⟩, turn⟩ := q _ tabbed
    have sz : ∀ b ∈ fp, b < h3.objs.size := fun b hb => by
      obtain ⟨o, e, _⟩ := T.obj _ _ st2 b hb
      exact Heap.lt_size (keep3 b o (nP b (q2 b hb).1) e)
    have nf : ∀ b ∈ fp, (upd H2 P (.tbl (ps ++ more))) b = none := fun b hb => by rw [upd_ne (nP b (q2 b hb).1)]; exact (q2 b hb).1
    have st3 : tn 0 h3 := T.keep _ _ _ st2 fun b hb o e => keep3 b o (nP b (q2 b hb).1) e
    refine hQ _ _ ?_
    have kp5 : ∀ b o, h3.get? b = some o → (h'.push { cls := .type "generator", data := .fields #[.int s2.gens.size 0, .str "<genexpr>" (tk + 1), .str (X.env.qual ++ "<genexpr>") (tk + 1 + 1)] }).get? b = some o := fun b o e =>
      Heap.get?_push_of_some _ ((hs'.2 b (Nat.ne_of_lt (Heap.lt_size e))).trans (Heap.get?_push_of_some _ e))
    have hszC : h3.objs.size < h'.objs.size := hn'.lt
    have B := gx_begin (code := code) (A := X.A.in1.in1.over (.compLoop (.GeneratorExp elt [⟨tg, iter, ifs, 0⟩, ⟨t2, i2, f2, 0⟩] scope gpos) 0 (.ref it) .none (gEnvOf X scope h3.objs.size code)) []) (a := h'.objs.size)
      (s5 := { s2 with gens := s2.gens.push (.fresh (.compStart (.GeneratorExp elt [⟨tg, iter, ifs, 0⟩, ⟨t2, i2, f2, 0⟩] scope gpos) 0 (.ref it) .none (gEnvOf X scope h3.objs.size code))), toks := tk + 1 + 1 + 1, heap := h'.push { cls := .type "generator", data := .fields #[.int s2.gens.size 0, .str "<genexpr>" (tk + 1), .str (X.env.qual ++ "<genexpr>") (tk + 1 + 1)] } })
      I3 ok G hN (fun b hb => ⟨⟨nf b hb, (q2 b hb).2⟩, sz b hb⟩) (by
        have fr : X.A.in1.in1.frames = some X.stack := I2.ok.frames
        show (X.A.in1.in1.frames).map ([gEnvOf X scope h3.objs.size code] ++ ·) = _
        rw [fr]; rfl) hr.hd kp5 rfl (I2.bare.push rfl) (hn'.keeps fun b o e => Heap.get?_push_of_some _ e) hszC (Heap.get?_push_size _ rfl) (fun v z => by cases z)
    have room : Room k (X.A.in1.in1.over (.compLoop (.GeneratorExp elt [⟨tg, iter, ifs, 0⟩, ⟨t2, i2, f2, 0⟩] scope gpos) 0 (.ref it) .none (gEnvOf X scope h3.objs.size code)) []) :=
      ⟨hr.hd, by have := hr.dp; show X.A.depth + 0 + 1 + 3 * k + 5 < _; omega, by have := hr.un; show X.A.units + 1 + 1 + 0 + 3 + 16 * k + 200 < _; omega⟩
    have pg := hg { s2 with heap := h3, gens := s2.gens, drawn := s2.drawn, toks := tk } (upd H2 P (.tbl (ps ++ more))) (gEnvOf X scope h3.objs.size code) fp _ [(h'.objs.size, { cls := .type "generator", data := .fields #[.int s2.gens.size 0, .str "<genexpr>" (tk + 1), .str (X.env.qual ++ "<genexpr>") (tk + 1 + 1)] })] rfl room
    have pt := ht { s2 with heap := h3, gens := s2.gens, drawn := s2.drawn, toks := tk } (upd H2 P (.tbl (ps ++ more))) (gEnvOf X scope h3.objs.size code) fp _ [(h'.objs.size, { cls := .type "generator", data := .fields #[.int s2.gens.size 0, .str "<genexpr>" (tk + 1), .str (X.env.qual ++ "<genexpr>") (tk + 1 + 1)] })] rfl rfl room
    have pi2 := hi2 { s2 with heap := h3, gens := s2.gens, drawn := s2.drawn, toks := tk } (upd H2 P (.tbl (ps ++ more))) (gEnvOf X scope h3.objs.size code) fp _ [(h'.objs.size, { cls := .type "generator", data := .fields #[.int s2.gens.size 0, .str "<genexpr>" (tk + 1), .str (X.env.qual ++ "<genexpr>") (tk + 1 + 1)] })] rfl rfl room
    have pg2 := hg2 { s2 with heap := h3, gens := s2.gens, drawn := s2.drawn, toks := tk } (upd H2 P (.tbl (ps ++ more))) (gEnvOf X scope h3.objs.size code) fp _ [(h'.objs.size, { cls := .type "generator", data := .fields #[.int s2.gens.size 0, .str "<genexpr>" (tk + 1), .str (X.env.qual ++ "<genexpr>") (tk + 1 + 1)] })] rfl room
    have pt2 := ht2 { s2 with heap := h3, gens := s2.gens, drawn := s2.drawn, toks := tk } (upd H2 P (.tbl (ps ++ more))) (gEnvOf X scope h3.objs.size code) fp _ [(h'.objs.size, { cls := .type "generator", data := .fields #[.int s2.gens.size 0, .str "<genexpr>" (tk + 1), .str (X.env.qual ++ "<genexpr>") (tk + 1 + 1)] })] rfl rfl room
    have pe := he { s2 with heap := h3, gens := s2.gens, drawn := s2.drawn, toks := tk } (upd H2 P (.tbl (ps ++ more))) (gEnvOf X scope h3.objs.size code) fp _ [(h'.objs.size, { cls := .type "generator", data := .fields #[.int s2.gens.size 0, .str "<genexpr>" (tk + 1), .str (X.env.qual ++ "<genexpr>") (tk + 1 + 1)] })] rfl rfl room
    have B2 := B.pinned (fp := fp) (fun b hb => ⟨nf b hb, Nat.ne_of_lt (sz b hb), B.ok.exfs b hb, .inl hb, fun x c e => (B.ok.exf b hb).2 x c e, fun p hp z => by
      have hp' : p ∈ [(h'.objs.size, ({ cls := .type "generator", data := .fields #[.int s2.gens.size 0, .str "<genexpr>" (tk + 1), .str (X.env.qual ++ "<genexpr>") (tk + 1 + 1)] } : Obj))] ++ ([] : Pins) := hp
      have e : p.1 = h'.objs.size := by
        have := List.mem_singleton.mp (by simpa using hp')
        rw [this]
      have h1 := sz b hb
      rw [← z, e] at h1
      exact Nat.lt_irrefl _ (Nat.lt_trans h1 hszC)⟩) (fun b hb => by
        obtain ⟨o, e, d⟩ := T.obj _ _ st3 b hb
        exact ⟨o, kp5 b o e, d⟩)
    refine ⟨gCx X _ _ (gEnvOf X scope h3.objs.size code) fp _ _, s2.gens.size, m0, .compStart (.GeneratorExp elt [⟨tg, iter, ifs, 0⟩, ⟨t2, i2, f2, 0⟩] scope gpos) 0 (.ref it) .none (gEnvOf X scope h3.objs.size code), _, _, _, rfl, rfl, ?_, B2, fun p hp => Heap.lt_size (B2.pin p hp).1, B2.sz, fun pins' σ' H' s' I' => ⟨?_, ?_⟩, fun s' I' => ?_⟩
    · show (s2.gens.push _)[s2.gens.size]? = _
      simp
    · have z := (I'.pin (h'.objs.size, { cls := .type "generator", data := .fields #[.int s2.gens.size 0, .str "<genexpr>" (tk + 1), .str (X.env.qual ++ "<genexpr>") (tk + 1 + 1)] }) (List.mem_append_left _ (List.mem_singleton.mpr rfl))).1
      exact ⟨_, _, _, z, rfl, rfl, rfl⟩
    · exact I3.call' (ch := fp) I'.os I'.base I'.hok I'.bare fun b hb => ⟨(q2 b hb).2.2.2.1, (q2 b hb).2.1, (q2 b hb).2.2.2.2.1, (q2 b hb).2.2.2.2.2⟩
    · have pin' : ∀ b ∈ fp, ∀ o, h3.get? b = some o → s'.heap.get? b = some o := fun b hb o e => (I'.pin (b, o) (List.mem_append_right _ (List.mem_append_right _ (mem_pinsAt hb (kp5 b o e))))).1
      refine gx2_start (Z := gCx X _ _ (gEnvOf X scope h3.objs.size code) fp _ _) rfl rfl hc G.co rfl T (fun b hb => hb) (fun p hp z => ?_) pg pt pi2 pg2 pt2 pe (hs2 _) hsub turn I'.unpinned (T.keep _ _ _ st3 fun b hb o e => pin' b hb o e) nf w0
      have e : p.1 = h'.objs.size := by rw [List.mem_singleton.mp hp]
      have h1 := sz p.1 z
      rw [e] at h1
      exact Nat.lt_irrefl _ (Nat.lt_trans h1 hszC)
  cases hf : codeAmong gpos ps.toList with
  | none =>
    refine wpAny_genexprCodeX hcode (cd.code hPs htr) (cd.tab hPs) hf fun c' h' tk hx hge hlt hco' _ htab' _ => ?_
    obtain ⟨o1, vs, f1, tf, fl, tg', inF, tx, tt', op, _, _, _, _, _, _, _, _, _, htr', _⟩ := hco'
    exact cont2 _ h' tk _ hx htab'.2 ⟨_, rfl⟩ htr'
  | some cv =>
    refine wpAny_genexprCode_hit hcode (cd.code hPs htr) hf ?_
    exact cont2 cv s2.heap s2.toks ps (Heap.ExtBut.refl _ _) hPs ⟨#[], by simp⟩ htr
end
section
variable {X : Cx} {pins : Pins} {σ : L2.St} {cont : List V → Hp → Prop} {a : Addr} {s5 : Shared} {Q : Value → Shared → Prop} {E : Value → Shared → Prop}
theorem call_any_gx2 {k : Nat} (hr : Room k X.A) (U : Up2 X pins σ OkF cont a s5) (hQ : ∀ s' ys H', Inv X pins σ H' s' → cont ys H' → Q (.bool false) s') : wpAny (model X.prog X.w) X.A (call (.builtin "any") [.ref a]) Q E s5 := by
  obtain ⟨Z, gi, m, c, ip, σ0, H0, hp, hw, hgs, I, hlt, hs0, hback, hseg⟩ := U
  have hg := (hback _ _ _ _ I).1
  refine call_function_tree F.kind_any F.plain_any F.entry_any (F.args_any1 _) ?_
  unfold Builtin.«any»
  refine wpAny_bind (m := oneArg "any" _) (wpAny_pure ?_)
  refine wpAny_bind (wpAny_pyIter_gen hg ?_)
  refine wpAny_pure ⟨plainId_quiet F.plain_any_loop _, ?_⟩
  have S := hseg (s5.setGen gi .running) (inv_gens (h' := s5.heap) (t' := s5.toks) I (fun _ _ e => e) (bare_set I.bare rfl))
  rw [← hp, ← hw] at S ⊢
  refine any_drain (A := X.A) (cont := cont) hr.hd (by have := hr.dp; omega) (fun pins σ H s I => (hback _ _ _ _ I).1) (fun s' ys σ' H' I' hc => hQ s' ys H' (hback _ _ _ _ I').2 hc) m s5 (.fresh c) ⟨_, _, _, I⟩ hgs ⟨rfl, S⟩
end
def tAny2 (P : Addr) (wi : TI) (g : TG) (tt : TT) (wi2 : TI) (g2 : TG) (tt2 : TT) (te : TE) (vs vs2 : List Nat) : TE := fun σ H Q => tGen2 P wi g tt wi2 g2 tt2 te vs vs2 OkF σ H fun _ H' => Q (.bl false) H'
section
variable {X : Cx} {c P : Addr} {elt tg iter t2 i2 : Expr} {ifs f2 : List Expr} {scope : Scope} {own : List (Str × Nat)} {gpos p pos : Pos} {wi wi2 : TI} {g g2 : TG} {tt tt2 : TT} {te : TE} {k : Nat} {vs2 : List Nat}
/-- any(elt for tg in iter if .. for t2 in i2 if ..), where nothing that comes is True -/
theorem pe_any2 (hr : Room (k + 1) X.A) (hgl : Gl X "any") (hm : X.mg "any" = none) (TB : GxR.TabB X.base X.mg c P) (hcode : X.env.code = .ref c) (hc : X.calm = true) (hN : X.N.Nodup) (G : GSc X.env.scope scope) (ok : BlkOk X.N X.env.scope scope own) (hi : PI X tg iter wi)
    (hg : ∀ (s : Shared) (H : Hp) (cenv : Env) (fp : List Addr) (A : Around) (pn : Pins), cenv.scope = scope → Room k A → PG (gCx X s H cenv fp A pn) tg g) (ht : ∀ (s : Shared) (H : Hp) (cenv : Env) (fp : List Addr) (A : Around) (pn : Pins), cenv.scope = scope → cenv.globals = X.env.globals → Room k A → PTs (gCx X s H cenv fp A pn) ifs tt)
    (hi2 : ∀ (s : Shared) (H : Hp) (cenv : Env) (fp : List Addr) (A : Around) (pn : Pins), cenv.scope = scope → cenv.globals = X.env.globals → Room k A → PI (gCx X s H cenv fp A pn) t2 i2 wi2)
    (hg2 : ∀ (s : Shared) (H : Hp) (cenv : Env) (fp : List Addr) (A : Around) (pn : Pins), cenv.scope = scope → Room k A → PG (gCx X s H cenv fp A pn) t2 g2) (ht2 : ∀ (s : Shared) (H : Hp) (cenv : Env) (fp : List Addr) (A : Around) (pn : Pins), cenv.scope = scope → cenv.globals = X.env.globals → Room k A → PTs (gCx X s H cenv fp A pn) f2 tt2)
    (hs2 : ∀ (cenv : Env) v, foldedSetIterable i2 cenv v = pure v) (hsub : ∀ i ∈ vs2, i ∈ own.map (·.2))
    (he : ∀ (s : Shared) (H : Hp) (cenv : Env) (fp : List Addr) (A : Around) (pn : Pins), cenv.scope = scope → cenv.globals = X.env.globals → Room k A → PE (gCx X s H cenv fp A pn) elt te)
    (hs : ∀ v, genFold iter X.env v = pure v := by intro _; rfl)
    (hst : starEach [ge2 elt tg iter ifs t2 i2 f2 scope gpos] X.env = (false, eval (ge2 elt tg iter ifs t2 i2 f2 scope gpos) X.env) :: starEach [] X.env := by rfl) :
    PE X (.Call (.Name "any" p) [ge2 elt tg iter ifs t2 i2 f2 scope gpos] [] pos) (tAny2 P wi g tt wi2 g2 tt2 te (own.map (·.2)) vs2) := by
  refine ⟨fun pins s σ H Q I h => ?_⟩
  refine wpAny_Call_Name_kw (ld_blt I hgl hm boot_any ?_)
  refine PyProof.Rows.callWith_builtin1 ?_ hst (by rfl)
  rw [hst]
  show wpAny _ _ (spliced ((false, eval (ge2 elt tg iter ifs t2 i2 f2 scope gpos) X.env) :: backTo pos (starEach [] X.env))) _ _ s
  refine Calls.spliced_cons (gx2_make hr TB hcode hc hN G ok hi hg ht hi2 hg2 ht2 hs2 hsub he hs I h fun a s5 U => Calls.spliced_nil ?_)
  exact call_any_gx2 hr U fun s' ys H' I' hq => ⟨.bl false, H', I', rfl, hq⟩
end
end GX
end
/-! H1 -/
section
set_option maxRecDepth 100000
namespace KM
open PySem PySem.Builtin.Tuple
/-! ### the hash of a pair of small numbers tells the pair -/
def hP (a b : Nat) : Int := reduceHash (tupleHashOf [(a : Int), (b : Int)])
def hUn (f : Nat) : Nat := ((f + 18446744073709551616 - (2 ^^^ (2870177450012600261 ^^^ 3527539))) * 614540362697595703) % 18446744073709551616
def hUm (f : Nat) : Nat := (((f / 2147483648) + (f % 2147483648) * 8589934592) * 839798700976720815) % 18446744073709551616
def hSeek (y : Nat) : List Nat → Nat → Nat × Nat
  | [], _ => (99, 0)
  | p :: r, i => if (y + 18446744073709551616 - p) % 18446744073709551616 < 701 then (i, (y + 18446744073709551616 - p) % 18446744073709551616) else hSeek y r (i + 1)
def hDec (h : Int) : Nat × Nat := hSeek (hUm (hUn (h % 18446744073709551616).toNat)) [7306349728055554319, 12418310136014612966, 10049765409666327412, 7996499203468434507, 5627954477120148953,
  10739914885079207600, 8686648678881314695, 6318103952533029141, 4264837746335136236, 1896293019986850682,
  7008253427945909329, 4639708701597623775, 2586442495399730870, 533176289201837965, 5329858177010503963] 0
def allN : Nat → (Nat → Bool) → Bool
  | 0, _ => true
  | n + 1, p => p n && allN n p
theorem allN_at : ∀ {n : Nat} {p : Nat → Bool}, allN n p = true → ∀ i, i < n → p i = true
  | 0, _, _, i, h => absurd h (Nat.not_lt_zero _)
  | n + 1, p, h, i, hi => by
    have h' : (p n && allN n p) = true := h
    rw [Bool.and_eq_true] at h'
    rcases Nat.lt_or_eq_of_le (Nat.le_of_lt_succ hi) with z | z
    · exact allN_at h'.2 i z
    · rw [z]; exact h'.1
def hOk (n k : Nat) : Bool := allN n fun a => allN k fun b => hDec (hP a b) == (a, b)
theorem hok : hOk 15 701 = true := by decide +kernel
theorem hP_inj {a b c d : Nat} (ha : a < 15) (hb : b < 701) (hc : c < 15) (hd : d < 701) (h : hP a b = hP c d) : a = c ∧ b = d := by
  have k : ∀ a b, a < 15 → b < 701 → hDec (hP a b) = (a, b) := fun a b h1 h2 => by
    have z : allN 15 (fun a => allN 701 fun b => hDec (hP a b) == (a, b)) = true := hok
    exact beq_iff_eq.mp (allN_at (p := fun b => hDec (hP a b) == (a, b)) (allN_at z a h1) b h2)
  have e1 := k a b ha hb
  rw [h, k c d hc hd] at e1
  cases e1
  exact ⟨rfl, rfl⟩
end KM
end
/-! L1 -/
section
set_option Elab.async false
set_option linter.all false
set_option maxRecDepth 100000
set_option maxHeartbeats 2000000
namespace LX
open PySem PySem.Spec PyProof.Rows L2 LamX NdefX
/-! ### tables of both kinds -/
abbrev TL := List (Addr × Option Str)
def Tb1 (H : Hp) (p : Addr × Option Str) : Prop := match p.2 with
  | none => GxR.TabG H p.1
  | some q => TabS H p.1 q
def Tbs (T : TL) (H : Hp) : Prop := ∀ p ∈ T, Tb1 H p
theorem Tb1.ext {H H' : Hp} {p : Addr × Option Str} (t : Tb1 H p) (e : ∀ b o, H b = some o → H' b = some o) : Tb1 H' p := by
  obtain ⟨P, z⟩ := p
  cases z with
  | none =>
    obtain ⟨ps, h1, h2⟩ := (show GxR.TabG H P from t)
    exact (show GxR.TabG H' P from ⟨ps, e _ _ h1, h2⟩)
  | some q => exact (show TabS H' P q from TabS.ext (show TabS H P q from t) e)
/-- all but the tables and d stays, the tables stay well formed -/
def Mo (d : Option Addr) (T : TL) (H H' : Hp) : Prop := (∀ b o, some b ≠ d → H b = some o → (∀ ps, o ≠ .tbl ps) → H' b = some o) ∧ (Tbs T H → Tbs T H')
theorem Mo.refl {d : Option Addr} {T : TL} (H : Hp) : Mo d T H H := ⟨fun _ _ _ h _ => h, id⟩
theorem Mo.trans {d : Option Addr} {T : TL} {H H1 H2 : Hp} (a : Mo d T H H1) (b : Mo d T H1 H2) : Mo d T H H2 := ⟨fun c o n h k => b.1 c o n (a.1 c o n h k) k, fun h => b.2 (a.2 h)⟩
theorem Mo.of {d : Option Addr} {T : TL} {H H' : Hp} (e : Evl.Ex H H') : Mo d T H H' := ⟨fun b o _ h _ => e b o h, fun t p hp => (t p hp).ext e⟩
theorem Mo.any {d : Option Addr} {T : TL} {H H' : Hp} (e : Mo none T H H') : Mo d T H H' := ⟨fun b o _ h n => e.1 b o (fun z => nomatch z) h n, e.2⟩
/-- a table of generator expressions has grown -/
theorem Mo.tabbed {d : Option Addr} {T : TL} {H H' : Hp} {P : Addr} (hP : GxR.TabG H P) (hu : ∀ p ∈ T, p.1 = P → p.2 = none) (h : GxR.Tabbed P H H') : Mo d T H H' := by
  obtain ⟨ps, h1, _⟩ := hP
  refine ⟨fun b o _ hb n => ?_, fun t p hp => ?_⟩
  · rw [h.2 b (fun z => n ps (Option.some.inj (hb.symm.trans (by rw [z]; exact h1))))]
    exact hb
  · obtain ⟨Q, z⟩ := p
    by_cases e : Q = P
    · have e2 : z = none := hu _ hp e
      subst e
      subst e2
      exact h.1
    · have t1 := t _ hp
      have nt : ∀ (c : Addr) (q : Str), H c = some (CodeO c q) → H' c = some (CodeO c q) := fun c q hc => by
        rw [h.2 c (fun z => codeO_ne ps (Option.some.inj (hc.symm.trans (by rw [z]; exact h1))))]
        exact hc
      cases z with
      | none =>
        obtain ⟨qs, a1, a2⟩ := (show GxR.TabG H Q from t1)
        exact (show GxR.TabG H' Q from ⟨qs, by rw [h.2 _ e]; exact a1, a2⟩)
      | some q =>
        obtain ⟨qs, a1, a2, a3⟩ := (show TabS H Q q from t1)
        exact (show TabS H' Q q from ⟨qs, by rw [h.2 _ e]; exact a1, a2, fun pos cv hc => by
          obtain ⟨c, e1, e2⟩ := a3 pos cv hc
          exact ⟨c, e1, nt _ _ e2⟩⟩)
/-! ### the made lambda -/
structure LF where
  qual : Str
  params : Arguments
  body : Expr
  scope : Scope
  cl : List (Str × Addr)
  c : Addr
abbrev LF.obj (F : LF) (pm ctv : Value) : Obj := PySem.W.kla_obj "<lambda>" F.qual F.params F.body F.scope F.cl pm F.c ctv
abbrev LF.nf (F : LF) : NF := ⟨"<lambda>", F.qual, F.params, [], F.scope, F.cl, F.c⟩
def LO (f : Addr) (F : LF) : HO := .ext fun h => ∃ pm ctv : Value, h.get? f = some (F.obj pm ctv)
theorem lo_ne {f : Addr} {F : LF} (ps : Array Value) : LO f F ≠ .tbl ps := fun z => by
  unfold LO at z
  cases z
theorem lo_at {P : Program} {w : World} {H : Hp} {h : Heap} {f : Addr} {F : LF} (hok : HOk P w H h) (e : H f = some (LO f F)) : ∃ pm ctv : Value, h.get? f = some (F.obj pm ctv) := (hok f _ e).1
theorem lo_fnAt {P : Program} {w : World} {H : Hp} {h : Heap} {f : Addr} {F : LF} (hok : HOk P w H h) (e : H f = some (LO f F)) : PySem.W.FnAt f h := by
  obtain ⟨pm, ctv, ho⟩ := lo_at hok e
  exact ⟨_, _, _, _, ho⟩
section
variable {X : Cx} {pins : List (Addr × Obj)} {σ : L2.St} {H : Hp} {s : Shared}
theorem inv_lam {F : LF} {t' : Nat} {pm ctv : Value} (I : Inv X pins σ H s) : Inv X pins σ (upd H s.heap.objs.size (LO s.heap.objs.size F)) { s with heap := s.heap.push (F.obj pm ctv), toks := t' } := by
  refine I.laid (a := s.heap.objs.size) (fun b u e => Heap.get?_push_of_some _ e) (Nat.le_refl _) ?_
  have e : (s.heap.push (F.obj pm ctv)).get? s.heap.objs.size = some (F.obj pm ctv) := Heap.get?_push_size _ rfl
  exact ⟨⟨pm, ctv, e⟩, ⟨_, e⟩, fun h1 h2 ⟨p, t, z⟩ st => ⟨p, t, st _ z⟩⟩
abbrev LF.made (X : Cx) (q : Str) (params : Arguments) (body : Expr) (scope : Scope) (c' : Addr) : LF := ⟨q, params, body, scope, cloFrom X.env.cells scope.names [], c'⟩
theorem lam_made {T : TL} {c P : Addr} {params : Arguments} {body : Expr} {scope : Scope} {pos : Pos} {E : Value → Shared → Prop} {Q : Value → Shared → Prop} (I : Inv X pins σ H s) (TB : TabB X.base X.mg c P) (hcode : X.env.code = .ref c)
    (hm : (P, some (X.env.qual ++ "<lambda>")) ∈ T) (hu : ∀ p ∈ T, p.1 = P → p.2 = some (X.env.qual ++ "<lambda>")) (hT : Tbs T H) (hdef : defaultsOf params X.env = ([], [])) (hfree : ∀ y ∈ scope.names, y.2 = .free → ∃ c, X.env.cells.lookup y.1 = some c)
    (h : ∀ (f c' : Addr) (H1 : Hp) (s' : Shared), Inv X pins σ H1 s' → Mo none T H H1 → H f = none → H1 f = some (LO f (LF.made X (X.env.qual ++ "<lambda>") params body scope c')) → H1 c' = some (CodeO c' (X.env.qual ++ "<lambda>")) → Q (.ref f) s') :
    wpAny (model X.prog X.w) X.A (eval (.Lambda params body scope pos) X.env) Q E s := by
  obtain ⟨ps, hP, ht, ha⟩ := (show TabS H P (X.env.qual ++ "<lambda>") from hT _ hm)
  refine PySem.W.kla_eval hdef ?_
  have bP : s.heap.BuiltinsAt X.mg P := TB.bm.keeps I.bk
  have hP' : s.heap.get? P = some { cls := .none, data := .fields ps } := I.hok P _ hP
  cases hc : codeAmong pos ps.toList with
  | none =>
    refine PySem.W.kla_makeFunction (mg := X.mg) (c := c) (P := P) (ps := ps) (closure_ok hfree) I.ok.glob (I.mod.glob.keeps I.bk) hcode (TB.code.keeps I.bk) hP' ht hc TB.gP bP fun c' ctv h' tk hx hge hlt hrec htb => ?_
    obtain ⟨c2, oc, vs, t, e2, hoc, hd, hv⟩ := hrec
    cases e2
    have nC : H c' = none := I.hok.fresh hge
    have I1 := inv_table (t' := tk) (more := #[rawInt pos.line, rawInt pos.col, .ref c']) (h' := h') I hP (fun b o hb e => hx b o hb e) htb hge ⟨oc, vs, t, hoc, hd, hv⟩
    have hE : ExtN H (upd (upd H P (.tbl (ps ++ #[rawInt pos.line, rawInt pos.col, .ref c']))) c' (CodeO c' (X.env.qual ++ "<lambda>"))) := fun b o e n => by
      rw [upd_ne (ne_of_none e nC), upd_ne (fun z => n ps (Option.some.inj (e.symm.trans (by rw [z]; exact hP))))]
      exact e
    have eL : (ps ++ #[rawInt pos.line, rawInt pos.col, .ref c']).toList = ps.toList ++ [rawInt pos.line, rawInt pos.col, .ref c'] := by simp
    have nF : (upd (upd H P (.tbl (ps ++ #[rawInt pos.line, rawInt pos.col, .ref c']))) c' (CodeO c' (X.env.qual ++ "<lambda>"))) h'.objs.size = none := I1.hok.fresh (Nat.le_refl _)
    have T1 : Tbs T H → Tbs T (upd (upd H P (.tbl (ps ++ #[rawInt pos.line, rawInt pos.col, .ref c']))) c' (CodeO c' (X.env.qual ++ "<lambda>"))) := fun hT p hp => by
      obtain ⟨R, z⟩ := p
      by_cases hb : R = P
      · have e3 : z = some (X.env.qual ++ "<lambda>") := hu _ hp hb
        subst e3
        subst hb
        refine (show TabS _ R (X.env.qual ++ "<lambda>") from ⟨_, by rw [upd_ne (ne_of_none hP nC), upd_same], by rw [eL]; exact PySem.TriplesOk_snoc _ _ _ _ ht, fun p' cv hcv => ?_⟩)
        rw [eL] at hcv
        rcases among_app _ ht hcv with z | z
        · obtain ⟨c0, e1, e2⟩ := ha p' cv z
          exact ⟨c0, e1, hE _ _ e2 codeO_ne⟩
        · exact ⟨c', z, upd_same⟩
      · have t1 := hT _ hp
        cases z with
        | none =>
          obtain ⟨qs, a1, a2⟩ := (show GxR.TabG H R from t1)
          exact (show GxR.TabG _ R from ⟨qs, by rw [upd_ne (ne_of_none a1 nC), upd_ne hb]; exact a1, a2⟩)
        | some q =>
          obtain ⟨qs, a1, a2, a3⟩ := (show TabS H R q from t1)
          refine (show TabS _ R q from ⟨qs, by rw [upd_ne (ne_of_none a1 nC), upd_ne hb]; exact a1, a2, fun p' cv hcv => ?_⟩)
          obtain ⟨c0, e1, e2⟩ := a3 p' cv hcv
          exact ⟨c0, e1, hE _ _ e2 codeO_ne⟩
    have I2 := inv_lam (F := LF.made X (X.env.qual ++ "<lambda>") params body scope c') (t' := tk) (pm := (X.mg "__name__").getD .none) (ctv := ctv) I1
    refine h h'.objs.size c' _ _ I2 ⟨fun b o _ e n => ?_, fun hT p hp => (T1 hT p hp).ext fun b o e => ?_⟩ (I.hok.fresh (Nat.le_trans hge (Nat.le_of_lt hlt))) upd_same ?_
    · have e1 := hE b o e n
      exact (upd_ne (ne_of_none e1 nF)).trans e1
    · exact (upd_ne (ne_of_none e nF)).trans e
    · exact (upd_ne (Nat.ne_of_lt hlt)).trans upd_same
  | some cv =>
    obtain ⟨c', e, hco⟩ := ha pos cv hc
    subst e
    refine PySem.W.kla_makeFunctionHit (mg := X.mg) (c := c) (P := P) (ps := ps) (closure_ok hfree) I.ok.glob (I.mod.glob.keeps I.bk) hcode (TB.code.keeps I.bk) hP' ht hc bP fun ctv h' tk hx hsz => ?_
    have I1 : Inv X pins σ H { s with heap := h', toks := tk } := I.kept hx
    have nF : H h'.objs.size = none := I1.hok.fresh (Nat.le_refl _)
    have I2 := inv_lam (F := LF.made X (X.env.qual ++ "<lambda>") params body scope c') (t' := tk) (pm := (X.mg "__name__").getD .none) (ctv := ctv) I1
    refine h h'.objs.size c' _ _ I2 (Mo.of fun b o e => ?_) nF upd_same ?_
    · exact (upd_ne (ne_of_none e nF)).trans e
    · exact (upd_ne (ne_of_none hco nF)).trans hco
end
/-- the reading of «lambda ..: ..» -/
def tLam (T : TL) (q : Str) (mk : Addr → LF) : TE := fun σ H Q => Tbs T H ∧ ∀ (f c' : Addr) (H1 : Hp), Mo none T H H1 → Tbs T H1 → H f = none → H1 f = some (LO f (mk c')) → H1 c' = some (CodeO c' q) → Q (.ref f) H1
theorem pe_lam {X : Cx} {T : TL} {c P : Addr} {params : Arguments} {body : Expr} {scope : Scope} {pos : Pos} {q : Str} (TB : TabB X.base X.mg c P) (hcode : X.env.code = .ref c) (hq : X.env.qual ++ "<lambda>" = q) (hm : (P, some q) ∈ T) (hu : ∀ p ∈ T, p.1 = P → p.2 = some q)
    (hdef : defaultsOf params X.env = ([], [])) (hfree : ∀ y ∈ scope.names, y.2 = .free → X.env.scope.names.lookup y.1 = some .cell ∨ X.env.scope.names.lookup y.1 = some .free) :
    PE X (.Lambda params body scope pos) (tLam T q (LF.made X q params body scope)) := by
  subst hq
  refine ⟨fun pins s σ H Q I h => ?_⟩
  obtain ⟨hT, h⟩ := h
  have hfr : ∀ y ∈ scope.names, y.2 = .free → ∃ c, X.env.cells.lookup y.1 = some c := fun y hy e => (hfree y hy e).elim (fun z => I.ok.has _ (.inl z)) fun z => I.ok.has _ (.inr z)
  exact lam_made I TB hcode hm hu hT hdef hfr fun f c' H1 s' I1 m f0 f1 c1 => ⟨.ref f, H1, I1, rfl, h f c' H1 m (m.2 hT) f0 f1 c1⟩
/-! ### what it promises -/
structure LOk (P : Program) (w : World) (K : PySem.W.Frag) (mg : Str → Option Value) (base : Heap) (k : Nat) (f : Addr) (F : LF) (ps fr : List Str) (sp : List (Option V) → List V → Hp → VK → Prop) : Prop where
  len : ∀ ws vs H Q, sp ws vs H Q → vs.length = ps.length
  run : ∀ (A : Around) (outer : List Env) (s : Shared) (H : Hp) (us : List Value) (vs : List V) (ws : List (Option V)) (Q : VK), Room k A → Env0 P w K mg base A outer s H → H f = some (LO f F) → H F.c = some (CodeO F.c F.qual) →
    CellsAt F.cl fr ws s.heap H → Vals vs us → sp ws vs H Q → codeAny (model P w) A (.call (.ref f) ⟨us, []⟩) (CR C8.CX0 outer P w H s Q C8.E0) s
section
variable {P : Program} {w : World} {K : PySem.W.Frag} {mg : Str → Option Value} {base : Heap} {N ps fr : List Str} {F : LF} {f : Addr} {k j : Nat} {sp sp' : List (Option V) → List V → Hp → VK → Prop}
theorem LOk.mono (o : LOk P w K mg base j f F ps fr sp) (h : j ≤ k) : LOk P w K mg base k f F ps fr sp := ⟨o.len, fun A outer s H us vs ws Q hr => o.run A outer s H us vs ws Q (hr.mono h)⟩
/-- THE RULE: a lambda by its body -/
theorem lok_of (S : NScope N ps fr F.scope) (hb : ∀ (pm ctv : Value) (us : List Value), us.length = ps.length → bindArgs (PySem.W.kla_fn "<lambda>" F.qual F.params F.body F.scope F.cl pm (.ref F.c) ctv) ⟨us, []⟩ = pure (ps.zip us)) (len : ∀ ws vs H Q, sp ws vs H Q → vs.length = ps.length)
    (hbody : ∀ (A : Around) (outer : List Env) (s : Shared) (H : Hp) (vs : List V) (ws : List (Option V)) (Q : VK), Room k (A.deeper (envF F.nf f s.heap.objs.size)) → H f = some (LO f F) → H F.c = some (CodeO F.c F.qual) → ws.length = fr.length → sp ws vs H Q →
      ∃ t, PE (ncx C8.CX0 P w K mg base N F.nf f A outer s H C8.E0) F.body t ∧ t (startF N vs ws) H Q) :
    LOk P w K mg base (k + 1) f F ps fr sp := by
  refine ⟨len, fun A outer s H us vs ws Q hr e0 hf hc C r hsp => ?_⟩
  have hl := len _ _ _ _ hsp
  have lim : s.heap.NoLimit := e0.mod.nolimit.keeps fun b o e => (e0.bs b o e).1
  obtain ⟨pm, ctv, ho⟩ := lo_at e0.hok hf
  refine PySem.W.kla_callFunE hr.depth ho rfl S.co S.gen rfl (codeO_at e0.hok hc) ?_
  rw [hb pm ctv us (by rw [← r.length]; exact hl)]
  refine wpAny_pure (wpAny_newFunctionEnv S.nocell (fun ⟨n, _⟩ hy => S.par n (List.of_mem_zip hy).1) (fun h₁ hns hsb => ⟨lim.fresh _ hsb, ?_⟩) S.kind)
  show codeAny _ _ (.expr F.body (envF F.nf f s.heap.objs.size)) _ _
  have kp : ∀ b o, s.heap.get? b = some o → h₁.get? b = some o := fun b o e => hsb.extBut b o (Nat.ne_of_lt (Heap.lt_size e)) (Heap.get?_push_of_some _ e)
  obtain ⟨t, ht, hq⟩ := hbody A outer s H vs ws Q (hr.deeper _) hf hc C.len hsp
  have I : Inv (ncx C8.CX0 P w K mg base N F.nf f A outer s H C8.E0) [] (startF N vs ws) H { s with heap := h₁, toks := s.toks + (ps.zip us).length } := inv_startN S hr.hd e0 hl r C hns kp
  refine PySem.W.kla_codeExpr (wpAny_mono (ht.run [] _ (startF N vs ws) H Q I hq) (fun u s' hs => ?_) fun e s' hs => hs)
  obtain ⟨v, H', J, rv, q⟩ := hs
  exact ⟨v, H', J.os, J.bare, J.base, J.hok, rv, q⟩
end
end LX
end
/-! LB -/
section
set_option Elab.async false
set_option linter.all false
set_option maxRecDepth 100000
set_option maxHeartbeats 2000000
namespace LX
open PySem PySem.Spec PyProof.Rows L2 LamX NdefX
/-! ### cells that are lent: tracked while another runs -/
def ObjO (c : Addr) (o : Obj) : HO := .ext fun h => h.get? c = some o
def isC (cl : List (Str × Addr)) (b : Addr) : Prop := ∃ y, cl.lookup y = some b
open Classical in
noncomputable def off (cl : List (Str × Addr)) (H : Hp) : Hp := fun b => if isC cl b then none else H b
theorem off_c {cl : List (Str × Addr)} {H : Hp} {b : Addr} (h : isC cl b) : off cl H b = none := if_pos h
theorem off_n {cl : List (Str × Addr)} {H : Hp} {b : Addr} (h : ¬ isC cl b) : off cl H b = H b := if_neg h
theorem off_of {cl : List (Str × Addr)} {H : Hp} {b : Addr} {o : HO} (h : off cl H b = some o) : ¬ isC cl b ∧ H b = some o := by
  by_cases z : isC cl b
  · rw [off_c z] at h; cases h
  · exact ⟨z, (off_n z).symm.trans h⟩
theorem off_none {cl : List (Str × Addr)} {H : Hp} {b : Addr} (h : H b = none) : off cl H b = none := by
  by_cases z : isC cl b
  · exact off_c z
  · exact (off_n z).trans h
structure CellsIn (cl : List (Str × Addr)) (fr : List Str) (ws : List (Option V)) (H : Hp) : Prop where
  len : ws.length = fr.length
  all : ∀ y c, cl.lookup y = some c → ∃ o v, H c = some (ObjO c o) ∧ o.data = .cell v
  inj : ∀ x y c, cl.lookup x = some c → cl.lookup y = some c → x = y
  has : ∀ (i : Nat) (y : Str), fr[i]? = some y → ∃ c, cl.lookup y = some c ∧ ∀ v, ws[i]? = some (some v) → ∃ u o, L2.RelV v u ∧ H c = some (ObjO c o) ∧ o.data = .cell (some u)
theorem CellsIn.mo {cl : List (Str × Addr)} {fr : List Str} {ws : List (Option V)} {H H' : Hp} (h : CellsIn cl fr ws H) (e : ∀ b o, H b = some o → (∀ ps, o ≠ .tbl ps) → H' b = some o) : CellsIn cl fr ws H' := by
  have ne : ∀ c o (ps : Array Value), ObjO c o ≠ .tbl ps := fun c o ps z => by unfold ObjO at z; cases z
  refine ⟨h.len, fun y c hc => ?_, h.inj, fun i y hi => ?_⟩
  · obtain ⟨o, v, a, b⟩ := h.all y c hc
    exact ⟨o, v, e _ _ a (ne _ _), b⟩
  · obtain ⟨c, hc, hv⟩ := h.has i y hi
    refine ⟨c, hc, fun v hw => ?_⟩
    obtain ⟨u, o, r, a, b⟩ := hv v hw
    exact ⟨u, o, r, e _ _ a (ne _ _), b⟩
section
variable {P : Program} {w : World} {K : PySem.W.Frag} {mg : Str → Option Value} {base : Heap} {H H' : Hp} {h h' : Heap} {cl : List (Str × Addr)} {fr : List Str} {ws : List (Option V)}
theorem objO_ok {b : Addr} {o : Obj} (hb : h.get? b = some o) : ObjOk P w H h b (ObjO b o) := ⟨hb, ⟨o, hb⟩, fun _ _ p st => st _ p⟩
theorem hok_off (x : HOk P w H h) (hc : ∀ b, isC cl b → ∃ o, H b = some (ObjO b o)) : HOk P w (off cl H) h := fun b u e => by
  obtain ⟨nb, e⟩ := off_of e
  refine (x b u e).stay (fun _ _ _ q => q) (fun d q => ?_) fun d xs q => ?_
  · rw [off_n]; exact q
    intro z
    obtain ⟨o, ho⟩ := hc d z
    rw [q] at ho; unfold ObjO at ho; cases ho
  · rw [off_n]; exact q
    intro z
    obtain ⟨o, ho⟩ := hc d z
    rw [q] at ho; unfold ObjO at ho; cases ho
theorem cellsAt_of (x : HOk P w H h) (c : CellsIn cl fr ws H) : CellsAt cl fr ws h (off cl H) := by
  have at_ : ∀ c o, H c = some (ObjO c o) → h.get? c = some o := fun c o e => (x c _ e).1
  refine ⟨c.len, fun y a e => ⟨off_c ⟨y, e⟩, ?_⟩, c.inj, fun i y e => ?_⟩
  · obtain ⟨o, v, e1, e2⟩ := c.all y a e
    exact ⟨v, o, at_ _ _ e1, e2⟩
  · obtain ⟨a, e1, e2⟩ := c.has i y e
    refine ⟨a, e1, fun v hv => ?_⟩
    obtain ⟨u, o, r, e3, e4⟩ := e2 v hv
    exact ⟨u, r, o, at_ _ _ e3, e4⟩
/-- what a value called promises, told of the abstract heap alone -/
structure LRun (P : Program) (w : World) (K : PySem.W.Frag) (mg : Str → Option Value) (base : Heap) (k : Nat) (f : Addr) (sp : List V → Hp → VK → Prop) : Prop where
  run : ∀ (A : Around) (outer : List Env) (s : Shared) (H : Hp) (us : List Value) (vs : List V) (Q : VK), Room k A → Env0 P w K mg base A outer s H → Vals vs us → sp vs H Q → codeAny (model P w) A (.call (.ref f) ⟨us, []⟩) (CR C8.CX0 outer P w H s Q C8.E0) s
theorem LRun.mono {k j : Nat} {f : Addr} {sp : List V → Hp → VK → Prop} (o : LRun P w K mg base j f sp) (h : j ≤ k) : LRun P w K mg base k f sp := ⟨fun A outer s H us vs Q hr => o.run A outer s H us vs Q (hr.mono h)⟩
theorem lrun_of {k : Nat} {f : Addr} {F : LF} {ps : List Str} {sp : List (Option V) → List V → Hp → VK → Prop} (o : LOk P w K mg base k f F ps fr sp) :
    LRun P w K mg base k f (fun vs H Q => H f = some (LO f F) ∧ H F.c = some (CodeO F.c F.qual) ∧ ∃ ws, CellsIn F.cl fr ws H ∧ sp ws vs (off F.cl H) fun v H' => H' = off F.cl H ∧ Q v H) := by
  refine ⟨fun A outer s H us vs Q hr e0 r ⟨hf, hc, ws, C, hsp⟩ => ?_⟩
  have hcs : ∀ b, isC F.cl b → ∃ o, H b = some (ObjO b o) := fun b ⟨y, hy⟩ => by
    obtain ⟨o, _, e, _⟩ := C.all y b hy
    exact ⟨o, e⟩
  have nn : ∀ b (u : HO), H b = some u → (∀ o, u ≠ ObjO b o) → ¬ isC F.cl b := fun b u e n z => by
    obtain ⟨o, ho⟩ := hcs b z
    exact n o (Option.some.inj (e.symm.trans ho))
  have hk : HOk P w (off F.cl H) s.heap := hok_off e0.hok hcs
  have e1 : Env0 P w K mg base A outer s (off F.cl H) := ⟨e0.frames, e0.mod, fun b o e => ⟨(e0.bs b o e).1, off_none (e0.bs b o e).2⟩, e0.bsz, e0.funs, fun b hb => off_none (e0.frf b hb), hk, e0.bare⟩
  have hf' : off F.cl H f = some (LO f F) := by
    by_cases z : isC F.cl f
    · obtain ⟨o, ho⟩ := hcs f z
      have q1 : ∃ pm ctv : Value, s.heap.get? f = some (F.obj pm ctv) := (e0.hok f _ hf).1
      obtain ⟨y, hy⟩ := z
      obtain ⟨o', v', b1, b2⟩ := C.all y f hy
      have q2 : s.heap.get? f = some o' := (e0.hok f _ b1).1
      obtain ⟨pm, ctv, q1⟩ := q1
      rw [q1] at q2
      cases q2
      cases b2
    · rw [off_n z]; exact hf
  have hc' : off F.cl H F.c = some (CodeO F.c F.qual) := by
    by_cases z : isC F.cl F.c
    · obtain ⟨y, hy⟩ := z
      obtain ⟨o', v', b1, b2⟩ := C.all y F.c hy
      have q2 : s.heap.get? F.c = some o' := (e0.hok F.c _ b1).1
      have q1 : ∃ (oc : Obj) (vs : Array Value) (t : Tok), s.heap.get? F.c = some oc ∧ oc.data = .fields vs ∧ vs[1]? = some (.str F.qual t) := (e0.hok F.c _ hc).1
      obtain ⟨oc, vs2, t, q1, q3, _⟩ := q1
      rw [q1] at q2
      cases q2
      rw [b2] at q3
      cases q3
    · rw [off_n z]; exact hc
  refine codeAny_mono (o.run A outer s (off F.cl H) us vs ws _ hr e1 hf' hc' (cellsAt_of e0.hok C) r hsp) fun rr s' hq => ?_
  cases rr with
  | error e => exact hq
  | ok fl =>
    cases fl with
    | next => exact False.elim hq
    | brk => exact False.elim hq
    | cont => exact False.elim hq
    | ret u =>
      obtain ⟨v, H1, os, bare, un, hok, rv, eH, q⟩ := hq
      subst eH
      refine ⟨v, H, os, bare, ⟨fun b ob e n hb hx => un.keep b ob e (off_none n) hb hx, fun b ob e n hb hx => un.slot b ob e (off_none n) hb hx, fun _ _ _ n _ => n, un.there, fun _ _ e => e, fun _ _ _ e => e, fun _ ps e => ⟨#[], by rw [e]; simp⟩⟩, fun b u e => ?_, rv, q⟩
      by_cases z : isC F.cl b
      · obtain ⟨ob, ho⟩ := hcs b z
        rw [ho] at e
        cases e
        have q1 : s.heap.get? b = some ob := (e0.hok b _ ho).1
        exact objO_ok (un.keep b ob q1 (off_c z) (fun z2 => by rw [e0.frf b z2] at ho; cases ho) (by simp))
      · have e' : off F.cl H b = some u := by rw [off_n z]; exact e
        exact (hok b u e').stay (fun _ _ _ q => q) (fun d q => (off_of q).2) fun d xs q => (off_of q).2
end
/-! ### a value that may be called: on vs it tells r -/
def Cb (P : Program) (w : World) (K : PySem.W.Frag) (mg : Str → Option Value) (base : Heap) (k : Nat) (T : TL) (H : Hp) (v : V) (R : List V → V → Prop) : Prop :=
  ∃ f F spv, v = .ref f ∧ H f = some (LO f F) ∧ LRun P w K mg base k f spv ∧ ∀ H', Mo none T H H' → ∀ vs r Q, R vs r → Q r H' → spv vs H' Q
theorem Cb.mo {P : Program} {w : World} {K : PySem.W.Frag} {mg : Str → Option Value} {base : Heap} {k : Nat} {T : TL} {H H1 : Hp} {v : V} {R : List V → V → Prop} (h : Cb P w K mg base k T H v R) (e : Mo none T H H1) : Cb P w K mg base k T H1 v R := by
  obtain ⟨f, F, spv, a, b, c, d⟩ := h
  exact ⟨f, F, spv, a, e.1 _ _ (fun z => nomatch z) b lo_ne, c, fun H' m => d H' (e.trans m)⟩
def tCb (P : Program) (w : World) (K : PySem.W.Frag) (mg : Str → Option Value) (base : Heap) (k : Nat) (T : TL) (i : Nat) (t : TA) : TE := fun σ H Q => ∃ v R, σ[i]? = some (some v) ∧ Cb P w K mg base k T H v R ∧ t σ H fun vs H1 => ∃ r, Cb P w K mg base k T H1 v R ∧ R vs r ∧ Q r H1
section
variable {X : Cx} {k j i : Nat} {T : TL} {x m : Str} {e o : Expr} {es : List Expr} {p pos apos : Pos} {ta : TE} {t : TA}
theorem pe_cb (hr : Room j X.A) (hk : k ≤ j) (hN : X.N[i]? = some x) (hv : Vis X.env.scope x) (ha : PA X (e :: es) t)
    (hd : (x == ("__debug__" : Str)) = false := by decide) (hcd : (x == ("__classdict__" : Str)) = false := by decide)
    (he : starEach (e :: es) X.env = (false, eval e X.env) :: starEach es X.env := by rfl) (hpl : (backTo pos (starEach es X.env)).any (·.1) = false := by rfl) :
    PE X (.Call (.Name x p) (e :: es) [] pos) (tCb X.prog X.w X.K X.mg X.base k T i t) := by
  refine ⟨fun pins s σ H Q I h => ?_⟩
  obtain ⟨v0, R, hs, ⟨f, F, spv, rfl, hf, hR, hR2⟩, ht⟩ := h
  refine wpAny_Call_Name_kw (thn ((pe_var (pos := p) hN hv hd hcd).run pins s σ H (fun v H1 => v = .ref f ∧ H1 = H) I ⟨.ref f, hs, rfl, rfl⟩) fun u s1 ⟨v, H1, I1, r1, q1⟩ => ?_)
  obtain ⟨ev, eH⟩ := q1
  subst ev
  rw [eH] at I1
  obtain rfl : u = Value.ref f := r1
  refine PySem.W.callWith_F (first := []) (lo_fnAt I1.hok hf) (thn (ha.run pos pins s1 σ H _ I1 ht) fun us s2 ⟨vs, H2, I2, r, rr, ⟨f2, F2, spv2, e2, hf2, hL, hL2⟩, hRr, q⟩ => ?_) he hpl
  cases e2
  refine ⟨lo_fnAt I2.hok hf2, ?_⟩
  show wpAny _ _ (call (.ref f) us) _ _ _
  refine wpAny_call (codeAny_mono (hL.run X.A X.stack s2 H2 us vs Q (hr.mono hk) I2.env0 r (hL2 H2 (Mo.refl _) vs rr Q hRr q)) fun r s' hq => ?_)
  cases r with
  | error e => exact (show False from hq).elim
  | ok fl =>
    cases fl with
    | ret u => exact I2.after hq
    | next => exact False.elim hq
    | brk => exact False.elim hq
    | cont => exact False.elim hq
/-- H3: H2 with the cells of cl tracked -/
structure Lent (cl : List (Str × Addr)) (H2 H3 : Hp) : Prop where
  same : ∀ b, ¬ isC cl b → H3 b = H2 b
  was : ∀ b, isC cl b → H2 b = none
/-- a method called with a lambda that captured names of the running frame -/
def tMethL (C : Addr) (m : Str) (cl : List (Str × Addr)) (fr : List Str) (js : List Nat) (sp : Sp) (ta : TE) (t : TA) : TE := fun σ H Q => ta σ H fun x H1 => ∃ a dx fs, x = .ref a ∧ H1 a = some (.ins C dx fs) ∧ fs.lookup m = none ∧
  t σ H1 fun vs H2 => ∀ H3, Lent cl H2 H3 → CellsIn cl fr (js.map (slotAt σ)) H3 → sp (x :: vs) H3 (fun v H4 => (∀ b, isC cl b → H4 b = H3 b) ∧ Q v (off cl H4)) C8.E0
theorem lend {pins : List (Addr × Obj)} {σ : L2.St} {H : Hp} {s : Shared} {cl : List (Str × Addr)} {fr : List Str} {js : List Nat} (hfn : ∀ x, X.fn x = true) (I : Inv X pins σ H s) (cp : Caps X cl fr js) :
    ∃ H3, Lent cl H H3 ∧ CellsIn cl fr (js.map (slotAt σ)) H3 ∧ Env0 X.prog X.w X.K X.mg X.base X.A X.stack s H3 := by
  classical
  have C := cells_of I cp
  have big : ∀ b, isC cl b → X.s_0.heap.objs.size ≤ b := fun b ⟨y, hy⟩ => I.ok.cab y b (hfn y) (cp.sub y b hy)
  have hoc : ∀ b, isC cl b → ∃ o v, s.heap.get? b = some o ∧ o.data = .cell v := fun b ⟨y, hy⟩ => by
    obtain ⟨_, v, o, ho, hd⟩ := C.all y b hy
    exact ⟨o, v, ho, hd⟩
  have hn : ∀ b, isC cl b → H b = none := fun b ⟨y, hy⟩ => (C.all y b hy).1
  have atc : ∀ b o, isC cl b → s.heap.get? b = some o → (if isC cl b then (s.heap.get? b).map (ObjO b) else H b) = some (ObjO b o) := fun b o z e => by
    rw [if_pos z, e] <;> rfl
  have atn : ∀ b, ¬ isC cl b → (if isC cl b then (s.heap.get? b).map (ObjO b) else H b) = H b := fun b z => if_neg z
  refine ⟨fun b => if isC cl b then (s.heap.get? b).map (ObjO b) else H b, ⟨atn, hn⟩, ⟨C.len, fun y c e => ?_, C.inj, fun i y e => ?_⟩, ⟨I.ok.frames, I.ok.mod, fun b o e => ⟨(I.bs b o e).1, ?_⟩, Nat.le_trans I.ok.bsz I.sz, I.stack, fun b hb => ?_, fun b u e => ?_, I.bare⟩⟩
  · obtain ⟨o, v, ho, hd⟩ := hoc c ⟨y, e⟩
    exact ⟨o, v, atc _ _ ⟨y, e⟩ ho, hd⟩
  · obtain ⟨c, hc, hv⟩ := C.has i y e
    refine ⟨c, hc, fun v ev => ?_⟩
    obtain ⟨u, r, o, ho, hd⟩ := hv v ev
    exact ⟨u, o, r, atc _ _ ⟨y, hc⟩ ho, hd⟩
  · have nb : ¬ isC cl b := fun z => absurd (Nat.lt_of_lt_of_le (Heap.lt_size e) (Nat.le_trans I.ok.bsz (big b z))) (Nat.lt_irrefl _)
    exact (atn b nb).trans (I.bs b o e).2
  · have nb : ¬ isC cl b := fun z => by
      rcases List.mem_cons.mp (I.stkSub b hb) with e | hb
      · obtain ⟨y, hy⟩ := z
        exact I.cne y b (cp.sub y b hy) e
      · obtain ⟨_, o, ho, _⟩ := I.ok.funs.mem hb
        exact absurd (Nat.lt_of_lt_of_le (Heap.lt_size ho) (big b z)) (Nat.lt_irrefl _)
    exact (atn b nb).trans (I.stkFree b hb)
  · have e : (if isC cl b then (s.heap.get? b).map (ObjO b) else H b) = some u := e
    by_cases z : isC cl b
    · obtain ⟨o, v, ho, _⟩ := hoc b z
      rw [atc b o z ho] at e
      cases e
      exact objO_ok ho
    · rw [atn b z] at e
      refine (I.hok b u e).stay (fun _ _ _ q => q) (fun d q => ?_) fun d xs q => ?_
      · have nd : ¬ isC cl d := fun z => by rw [hn d z] at q; cases q
        exact (atn d nd).trans q
      · have nd : ¬ isC cl d := fun z => by rw [hn d z] at q; cases q
        exact (atn d nd).trans q
/-- given back -/
theorem back {pins : List (Addr × Obj)} {σ : L2.St} {H H3 : Hp} {s s' : Shared} {cl : List (Str × Addr)} {fr : List Str} {ws : List (Option V)} {Q : VK} {u : Value} (L : Lent cl H H3) (C : CellsIn cl fr ws H3) (e0 : Env0 X.prog X.w X.K X.mg X.base X.A X.stack s H3)
    (h : CE X.stack X.prog X.w H3 s (fun v H4 => (∀ b, isC cl b → H4 b = H3 b) ∧ Q v (off cl H4)) u s') : CE X.stack X.prog X.w H s Q u s' := by
  obtain ⟨v, H4, os, bare, un, hok, rv, e4, q⟩ := h
  have hcs : ∀ b, isC cl b → ∃ o, H3 b = some (ObjO b o) := fun b ⟨y, hy⟩ => by
    obtain ⟨o, _, e, _⟩ := C.all y b hy
    exact ⟨o, e⟩
  have kc : ∀ b ob, isC cl b → s.heap.get? b = some ob → s'.heap.get? b = some ob := fun b ob z e => by
    obtain ⟨o, ho⟩ := hcs b z
    have q1 : s.heap.get? b = some o := (e0.hok b _ ho).1
    rw [e] at q1
    cases q1
    exact (hok b _ ((e4 b z).trans ho)).1
  have nc : ∀ b u, H b = some u → ¬ isC cl b := fun b u e z => by rw [L.was b z] at e; cases e
  have up : ∀ b u, H b = some u → H3 b = some u := fun b u e => (L.same b (nc b u e)).trans e
  refine ⟨v, off cl H4, os, bare, ⟨fun b ob e n hb hx => ?_, fun b ob e n hb hx => ?_, fun b ob e n hx => ?_, un.there, fun b xs e => ?_, fun b o u e => ?_, fun b ps e => ?_⟩, hok_off hok (fun b z => ?_), rv, q⟩
  · by_cases z : isC cl b
    · exact kc b ob z e
    · exact un.keep b ob e ((L.same b z).trans n) hb hx
  · by_cases z : isC cl b
    · exact ⟨ob.slots, kc b ob z e⟩
    · exact un.slot b ob e ((L.same b z).trans n) hb hx
  · by_cases z : isC cl b
    · exact off_c z
    · exact off_none (un.free b ob e ((L.same b z).trans n) hx)
  · rw [off_n (nc b _ e)]; exact un.tups b xs (up b _ e)
  · rw [off_n (nc b _ e)]; exact un.frzs b o u (up b _ e)
  · rw [off_n (nc b _ e)]; exact un.tbls b ps (up b _ e)
  · obtain ⟨o, ho⟩ := hcs b z
    exact ⟨o, (e4 b z).trans ho⟩
theorem pe_mtL {pl : Sem Bool} {C : Addr} {sp : Sp} {cl : List (Str × Addr)} {fr : List Str} {js : List Nat} (c : C8.Met X.prog X.w X.K X.mg X.base k C m sp []) (hfn : ∀ x, X.fn x = true) (cp : X.Ok → Caps X cl fr js) (hr : Room j X.A) (hk : k ≤ j) (he : PE X o ta) (ha : PA X (e :: es) t)
    (hst : starEach (e :: es) X.env = (false, eval e X.env) :: starEach es X.env := by rfl) (hpl : (backTo pos (starEach es X.env)).any (·.1) = false := by rfl)
    (ht : eval (.Call (.Attribute o m apos) (e :: es) [] pos) X.env = (do
      let ov ← eval o X.env
      standAt apos.atName
      let (f, first) ← holding [ov] (getMethod ov m pl)
      callWith pos f first (backTo pos (starEach (e :: es) X.env)) (backToKw pos (keywordEach [] X.env))) := by rfl) :
    PE X (.Call (.Attribute o m apos) (e :: es) [] pos) (tMethL C m cl fr js sp ta t) := by
  obtain ⟨f, fd, ps, ds, hc, hm, F, b, d⟩ := c.ex
  cases d
  refine ⟨fun pins s σ H Q I h => ?_⟩
  refine PySem.W.methodCall_KW (pl := pl) (thn (he.run pins s σ H _ I h) fun u s1 ⟨x, H1, I1, rx, a, dx, fs, ex, ea, l, q⟩ => ?_) ht
  subst ex
  obtain rfl : u = Value.ref a := rx
  refine getmeth_ok I1 ea hc hm l ?_
  refine PySem.W.callWith_K (first := [.ref a]) (h₀ := X.base) I.ok.mod.kin hm.kp (thn (ha.run pos pins s1 σ H1 _ I1 q) fun us s2 ⟨vs, H2, I2, r, q2⟩ => ⟨I2.kIn, ?_⟩) hst hpl
  obtain ⟨H3, L, C, e0⟩ := lend hfn I2 (cp I2.ok)
  have q3 := q2 H3 L C
  have r2 : Vals (V.ref a :: vs) (Value.ref a :: us) := .cons rfl r
  have hl : (Value.ref a :: us ++ []).length = ps.length := by rw [List.append_nil, ← r2.length]; exact F.len _ _ _ _ q3
  have hb := b s2 (Value.ref a :: us) I2.kIn hl
  rw [List.append_nil] at hb
  refine wpAny_call (codeAny_mono (F.run X.A X.stack s2 H3 ⟨Value.ref a :: us, []⟩ (Value.ref a :: us) (V.ref a :: vs) _ C8.E0 (hr.mono hk) e0 hb r2 q3) fun r s' hq => ?_)
  cases r with
  | error e => exact (show False from hq).elim
  | ok fl =>
    cases fl with
    | ret u => exact I2.after (back (pins := pins) (σ := σ) L C e0 hq)
    | next => exact False.elim hq
    | brk => exact False.elim hq
    | cont => exact False.elim hq
/-- a name that holds a lambda made here, which captured names of the running frame, called -/
def tCallO (P : Program) (w : World) (K : PySem.W.Frag) (mg : Str → Option Value) (base : Heap) (k : Nat) (mk : Addr → LF) (ps fr : List Str) (i : Nat) (js : List Nat) (sp : List (Option V) → List V → Hp → VK → Prop) (t : TA) : TE := fun σ H Q => ∃ f c', σ[i]? = some (some (.ref f)) ∧ H f = some (LO f (mk c')) ∧ LOk P w K mg base k f (mk c') ps fr sp ∧
  t σ H fun vs H1 => H1 f = some (LO f (mk c')) ∧ H1 (mk c').c = some (CodeO (mk c').c (mk c').qual) ∧ sp (js.map (slotAt σ)) vs H1 Q
theorem pe_callO {mk : Addr → LF} {cl : List (Str × Addr)} {ps fr : List Str} {js : List Nat} {sp : List (Option V) → List V → Hp → VK → Prop} (hcl : ∀ c', (mk c').cl = cl) (cp : X.Ok → Caps X cl fr js) (hr : Room j X.A) (hk : k ≤ j) (hN : X.N[i]? = some x) (hv : Vis X.env.scope x) (ha : PA X (e :: es) t)
    (hd : (x == ("__debug__" : Str)) = false := by decide) (hcd : (x == ("__classdict__" : Str)) = false := by decide)
    (he : starEach (e :: es) X.env = (false, eval e X.env) :: starEach es X.env := by rfl) (hpl : (backTo pos (starEach es X.env)).any (·.1) = false := by rfl) :
    PE X (.Call (.Name x p) (e :: es) [] pos) (tCallO X.prog X.w X.K X.mg X.base k mk ps fr i js sp t) := by
  refine ⟨fun pins s σ H Q I h => ?_⟩
  obtain ⟨f, c', hs, hf, hO, ht⟩ := h
  refine wpAny_Call_Name_kw (thn ((pe_var (pos := p) hN hv hd hcd).run pins s σ H (fun v H1 => v = .ref f ∧ H1 = H) I ⟨.ref f, hs, rfl, rfl⟩) fun u s1 ⟨v, H1, I1, r1, q1⟩ => ?_)
  obtain ⟨ev, eH⟩ := q1
  subst ev
  rw [eH] at I1
  obtain rfl : u = Value.ref f := r1
  refine PySem.W.callWith_F (first := []) (lo_fnAt I1.hok hf) (thn (ha.run pos pins s1 σ H _ I1 ht) fun us s2 ⟨vs, H2, I2, r, h1, h2, q⟩ => ⟨lo_fnAt I2.hok h1, ?_⟩) he hpl
  show wpAny _ _ (call (.ref f) us) _ _ _
  have C := cells_of I2 (cp I2.ok)
  rw [← hcl c'] at C
  refine wpAny_call (codeAny_mono (hO.run X.A X.stack s2 H2 us vs _ Q (hr.mono hk) I2.env0 h1 h2 C r q) fun r s' hq => ?_)
  cases r with
  | error e => exact (show False from hq).elim
  | ok fl =>
    cases fl with
    | ret u => exact I2.after hq
    | next => exact False.elim hq
    | brk => exact False.elim hq
    | cont => exact False.elim hq
end
end LX
end
/-! LC -/
section
set_option Elab.async false
set_option linter.all false
set_option maxRecDepth 100000
set_option maxHeartbeats 2000000
namespace LX
open PySem PySem.Spec PyProof.Rows L2 LamX NdefX
/-! ### a list comprehension within which a lambda of the running frame is called -/
structure GoodC (X : Cx) (cl : List (Str × Addr)) (fr : List Str) (ws : List (Option V)) (s : Shared) (H : Hp) (fp : List Addr) : Prop where
  at_ : CellsAt cl fr ws s.heap H
  nofp : ∀ y c, cl.lookup y = some c → c ∉ fp
  nofs : ∀ y c, cl.lookup y = some c → c ∉ frs X.stack
theorem cells_kept {X : Cx} {pins : List (Addr × Obj)} {σ : L2.St} {H : Hp} {s : Shared} {cl : List (Str × Addr)} {fr : List Str} {ws : List (Option V)} (I : Inv X pins σ H s) (C : CellsAt cl fr ws X.s_0.heap X.H_0) (nx : ∀ y c, cl.lookup y = some c → c ∉ X.ex) (nf : ∀ y c, cl.lookup y = some c → c ∉ X.fs) : CellsAt cl fr ws s.heap H := by
  have kp : ∀ y c v, cl.lookup y = some c → X.s_0.heap.IsCell c v → s.heap.IsCell c v ∧ H c = none := fun y c v e ⟨o, ho, hd⟩ =>
    ⟨⟨o, I.base.keep c o ho (C.all y c e).1 (nf y c e) (nx y c e), hd⟩, I.base.free c o ho (C.all y c e).1 (nx y c e)⟩
  refine ⟨C.len, fun y c e => ?_, C.inj, fun i y hy => ?_⟩
  · obtain ⟨_, v, hv⟩ := C.all y c e
    have := kp y c v e hv
    exact ⟨this.2, v, this.1⟩
  · obtain ⟨c, e, hv⟩ := C.has i y hy
    refine ⟨c, e, fun v hw => ?_⟩
    obtain ⟨u, r, z⟩ := hv v hw
    exact ⟨u, r, (kp y c _ e z).1⟩
section
variable {X : Cx}
theorem pe_lcG {elt tg iter : Expr} {ifs : List Expr} {scope : Scope} {own : List (Str × Nat)} {lpos : Pos} {wi : TI} {g : TG} {tt : List (Option V) → TT} {te : TE} {clo : List (Str × Addr)} {fr : List Str} {js : List Nat} (cp : X.Ok → Caps X clo fr js) (hfn : ∀ x, X.fn x = true)
    (hcalm : X.calm = true) (hN : X.N.Nodup) (hi : PI X tg iter wi) (bk : BlkOk X.N X.env.scope scope own) (hg : ∀ (t : Shared) (G : Hp) (C : Addr) (cs : List (Str × Addr)) (fp : List Addr), PG (X.blk t G scope (compEnvC scope cs C X.env) fp) tg g)
    (ht : ∀ (ws : List (Option V)) (t : Shared) (G : Hp) (C : Addr) (cs : List (Str × Addr)) (fp : List Addr), GoodC X clo fr ws t G fp → PTs (X.blk t G scope (compEnvC scope cs C X.env) fp) ifs (tt ws)) (he : ∀ (t : Shared) (G : Hp) (C : Addr) (cs : List (Str × Addr)) (fp : List Addr), PE (X.blk t G scope (compEnvC scope cs C X.env) fp) elt te)
    (hs : ∀ x, foldedSetIterable iter X.env x = pure x := by intro _; rfl) : PE X (.ListComp elt [⟨tg, iter, ifs, 0⟩] scope lpos) (fun σ H Q => tLc wi g (tt (js.map (slotAt σ))) te (own.map (·.2)) σ H Q) := by
  refine ⟨fun pins s σ H Q I h => ?_⟩
  rw [eval_ListComp]
  have fr0 : ∀ y ∈ scope.names, y.2 = .free → ∃ c, X.env.cells.lookup y.1 = some c := fun y hy e => I.ok.has _ (bk.free y hy e)
  refine wpAny_comprehension_free (use := none) rfl hs (closure_ok fr0) bk.kind (fun y hy e => by rw [bk.uniq y hy, e]) (thn (hi.run pins s σ H _ I h) fun xv s1 hx => thn hx fun itv s2 h2 => ?_)
  obtain ⟨it, fp, tn, J, G, rfl, I2, T, st2, f2, q⟩ := h2
  refine wpAny_newObj_type (newEnv_comp ?_) (by show 0 ≤ sizeLine; decide)
  -- the cells that the lambda captured, now
  have Cs := cells_of I2 (cp I2.ok)
  have sub := (cp I2.ok).sub
  obtain ⟨D, hD⟩ : ∃ D, D = s2.heap.objs.size := ⟨_, rfl⟩
  have nD : G D = none := I2.hok.fresh (by rw [hD]; exact Nat.le_refl _)
  obtain ⟨W, ⟨m0, w0⟩, turn⟩ := q D nD
  obtain ⟨t, et⟩ : ∃ t : Shared, t = { s2 with heap := s2.heap.push { cls := .type "list", data := .seq ([] : List Value).toArray } } := ⟨_, rfl⟩
  have th : t.heap = s2.heap.push { cls := .type "list", data := .seq ([] : List Value).toArray } := by rw [et]
  have up : ∀ b o, s2.heap.get? b = some o → t.heap.get? b = some o := fun b o e => by rw [th]; exact Heap.get?_push_of_some _ e
  have I3 : Inv X pins σ (upd G D (.lst [])) t := by
    subst et hD
    exact I2.laid (t' := s2.toks) (fun b o e => Heap.get?_push_of_some _ e) (Nat.le_refl _) ⟨Nat.zero_le _, [], 0, .nil, Heap.get?_push_size _ rfl⟩
  have lt2 : ∀ b ∈ fp, b < s2.heap.objs.size := fun b hb => by
    obtain ⟨o, e, _⟩ := T.obj _ _ st2 b hb
    exact Heap.lt_size e
  have f3 : ∀ b ∈ fp, FpOk X pins (upd G D (.lst [])) b ∧ b < t.heap.objs.size := fun b hb => by
    have l := lt2 b hb
    have ne : b ≠ D := by rw [hD]; exact Nat.ne_of_lt l
    exact ⟨⟨(upd_ne ne).trans (f2 b hb).1, (f2 b hb).2⟩, by rw [th, Heap.size_push]; exact Nat.lt_succ_of_lt l⟩
  have good : GoodC X clo fr (js.map (slotAt σ)) t (upd G D (.lst [])) fp := by
    refine ⟨⟨Cs.len, fun y c e => ?_, Cs.inj, fun i y hy => ?_⟩, fun y c e z => ?_, fun y c e z => ?_⟩
    · obtain ⟨n, v, o, ho, hd⟩ := Cs.all y c e
      have ne : c ≠ D := by rw [hD]; exact Nat.ne_of_lt (Heap.lt_size ho)
      exact ⟨(upd_ne ne).trans n, v, o, up _ _ ho, hd⟩
    · obtain ⟨c, e, hv⟩ := Cs.has i y hy
      refine ⟨c, e, fun v hw => ?_⟩
      obtain ⟨u, r, o, ho, hd⟩ := hv v hw
      exact ⟨u, r, o, up _ _ ho, hd⟩
    · exact (f2 c z).2.2.2.2.1 y c (sub y c e) rfl
    · rcases List.mem_cons.mp (I2.stkSub c z) with z | z
      · exact I2.cne y c (sub y c e) z
      · obtain ⟨_, o, ho, _⟩ := I2.ok.funs.mem z
        exact absurd (Nat.lt_of_lt_of_le (Heap.lt_size ho) (I2.ok.cab y c (hfn y) (sub y c e))) (Nat.lt_irrefl _)
  have st3 : tn 0 t.heap := T.keep _ _ _ st2 fun b _ o e => up b o e
  have I4 := block_start I3 bk hN f3
  obtain ⟨ce, hce⟩ : ∃ ce, ce = compEnvC scope (cellsFrom (t.heap.objs.size + 1) scope.names (cloFrom X.env.cells scope.names [])) t.heap.objs.size X.env := ⟨_, rfl⟩
  have pg : PG (X.blk t (upd G D (.lst [])) scope ce fp) tg g := by rw [hce]; exact hg _ _ _ _ _
  have pt : PTs (X.blk t (upd G D (.lst [])) scope ce fp) ifs (tt (js.map (slotAt σ))) := by rw [hce]; exact ht _ _ _ _ _ _ good
  have pe : PE (X.blk t (upd G D (.lst [])) scope ce fp) elt te := by rw [hce]; exact he _ _ _ _ _
  rw [← hce] at I4
  have cL : ce.locals = t.heap.objs.size := by rw [hce]; rfl
  have nfp : ∀ b ∈ fp, (upd G D (.lst [])) b = none := fun b hb => (f3 b hb).1.1
  obtain ⟨s4, hs4⟩ : ∃ s4 : Shared, s4 = { t with heap := pushCells (t.heap.push { cls := .type "dict", data := .dict #[] }) scope.names } := ⟨_, rfl⟩
  have st4 : tn 0 s4.heap := T.keep _ _ _ st3 fun b _ o e => by rw [hs4]; exact pushCells_keeps _ _ _ _ (Heap.get?_push_of_some _ e)
  rw [← hs4] at I4
  generalize hG3 : upd G D (.lst []) = G3 at I3 I4 pg pt pe w0 nfp f3
  have loop : codeAny (model X.prog X.w) X.A (.compLoop (.ListComp elt [⟨tg, iter, ifs, 0⟩] scope lpos) 0 (.ref it) (.ref D) ce) (compPost (model X.prog X.w) X.A X.xe none (EP X pins σ Q) (.ref D) t.heap.objs.size) s4 := by
    have free : ∀ {τ : L2.St} {K' : Hp} {s' : Shared}, Inv (X.blk t G3 scope ce fp) [] τ K' s' → (∀ b ∈ fp, K' b = none) → ∀ b ∈ fp, FpOk (X.blk t G3 scope ce fp) [] K' b := fun {τ K' s'} J' hn b hb =>
      ⟨hn b hb, (J'.ok.exf b hb).1, J'.ok.exfs b hb, .inl hb, fun x c e => (J'.ok.exf b hb).2 x c e, fun p hp => absurd (show p ∈ ([] : List (Addr × Obj)) ++ [] from hp) List.not_mem_nil⟩
    refine compLoop_any (fun n s' => ∃ i K', Inv (X.blk t G3 scope ce fp) [] (wipe σ (own.map (·.2))) K' s' ∧ tn i s'.heap ∧ (∀ b ∈ fp, K' b = none) ∧ W i n K') ?_ m0 ⟨0, G3, I4, st4, nfp, w0⟩
    rintro n s5 ⟨i, K5, I5, st5, n5, w5⟩
    rcases turn i n K5 w5 with ⟨stop, done⟩ | ⟨go, Nx, hNx, step⟩
    · refine thnF (T.done (X.blk t G3 scope ce fp) rfl rfl rfl hcalm i [] s5 _ K5 (fun _ _ => False) I5 (free I5 n5) st5 stop) fun r s6 ⟨hr, I6⟩ => ?_
      subst hr
      have I7 : Inv X pins σ K5 s6 := I3.call' (ch := fp) I6.os I6.base I6.hok I6.bare fun b hb => ⟨(f3 b hb).1.2.2.2.1, (f3 b hb).1.2.1, (f3 b hb).1.2.2.2.2.1, (f3 b hb).1.2.2.2.2.2⟩
      obtain ⟨m, hn, _⟩ := I6.loc
      have hn : s6.heap.Ns ce.locals m := hn
      have z : K5 ce.locals = none := I6.free
      rw [cL] at hn z
      obtain ⟨a0, a1, a2, a3, a4, a5⟩ := I3.fpOk (Nat.le_refl _) z
      exact ⟨m, hn, fun h'' sb => ⟨.ref D, K5, I7.turned (t' := s6.toks) (fun b o hb e => (sb.2 b hb).trans e) a0 a1 a3 a4 a5, rfl, done⟩⟩
    · refine thnF (T.item (X.blk t G3 scope ce fp) rfl rfl rfl hcalm i [] s5 _ K5 (fun _ _ => False) I5 (free I5 n5) st5 go) fun r s6 ⟨u, hr, h6⟩ => ?_
      subst hr
      refine thnF h6 fun _ s7 ⟨x, K7, I7, r7, y7, st7, n7⟩ => ?_
      have J7 := I7.pinned (free I7 n7) (T.obj _ _ st7)
      have next : ∀ {τ : L2.St} {s' : Shared} {K' : Hp}, wipe τ (own.map (·.2)) = wipe σ (own.map (·.2)) → Inv (X.blk t G3 scope ce fp) ([] ++ pinsAt fp s7.heap) τ K' s' → Nx K' → ∃ m, m < n ∧ ∃ i K', Inv (X.blk t G3 scope ce fp) [] (wipe σ (own.map (·.2))) K' s' ∧ tn i s'.heap ∧ (∀ b ∈ fp, K' b = none) ∧ W i m K' := fun {τ s' K'} hw J' nx => by
        obtain ⟨m', hm, w'⟩ := hNx K' nx
        have stay : ∀ b ∈ fp, ∀ o, s7.heap.get? b = some o → s'.heap.get? b = some o ∧ K' b = none := fun b hb o e =>
          have z := J'.pin (b, o) (List.mem_append_right _ (List.mem_append_right _ (mem_pinsAt hb e)))
          ⟨z.1, z.2.1⟩
        refine ⟨m', hm, i + 1, K', (J'.unpinned (pins := [])).weak (by rw [← hw, wipe_length]) (fun j v e => ?_), T.keep _ _ _ st7 fun b hb o e => (stay b hb o e).1, fun b hb => ?_, w'⟩
        · rw [← hw] at e
          exact (wipe_some e).1
        · obtain ⟨o, e, _⟩ := T.obj _ _ st7 b hb
          exact (stay b hb o e).2
      refine thnF (pg.run _ s7 _ K7 x u _ J7 r7 (step x K7 y7)) fun _ s8 ⟨τ, K8, I8, hw8, q8⟩ => ?_
      refine thnF (pt.run _ s8 τ K8 _ I8 q8) fun b s9 ⟨K9, I9, q9⟩ => ?_
      cases b with
      | false =>
        rw [if_neg (by decide)] at q9
        exact next hw8 I9 q9
      | true =>
        rw [if_pos rfl] at q9
        refine thnF (pe.run _ s9 τ K9 _ I9 q9) fun z s10 ⟨yv, K10, I10, r10, acc, hD10, hz10, nx⟩ => ?_
        exact app_ok (X := X.blk t G3 scope ce fp) I10 hD10 hz10 r10 fun s11 I11 => next hw8 I11 nx
  have fin := codeAny_compStart_list loop (T.self X.A 0 _ _ _ st4 loop)
  subst hs4 hce et hD
  exact fin
/-- the lambda's call there -/
def tCallG (P : Program) (w : World) (K : PySem.W.Frag) (mg : Str → Option Value) (base : Heap) (k : Nat) (mk : Addr → LF) (ps fr : List Str) (i : Nat) (ws : List (Option V)) (sp : List (Option V) → List V → Hp → VK → Prop) (t : TA) : TE := fun σ H Q => ∃ f c', σ[i]? = some (some (.ref f)) ∧ H f = some (LO f (mk c')) ∧ LOk P w K mg base k f (mk c') ps fr sp ∧
  t σ H fun vs H1 => H1 f = some (LO f (mk c')) ∧ H1 (mk c').c = some (CodeO (mk c').c (mk c').qual) ∧ sp ws vs H1 Q
theorem pe_callG {k j i : Nat} {x : Str} {e : Expr} {es : List Expr} {p pos : Pos} {t : TA} {mk : Addr → LF} {cl : List (Str × Addr)} {ps fr : List Str} {ws : List (Option V)} {sp : List (Option V) → List V → Hp → VK → Prop} (hcl : ∀ c', (mk c').cl = cl) (C0 : CellsAt cl fr ws X.s_0.heap X.H_0) (nx : ∀ y c, cl.lookup y = some c → c ∉ X.ex) (nf : ∀ y c, cl.lookup y = some c → c ∉ X.fs)
    (hr : Room j X.A) (hk : k ≤ j) (hN : X.N[i]? = some x) (hv : Vis X.env.scope x) (ha : PA X (e :: es) t) (hd : (x == ("__debug__" : Str)) = false := by decide) (hcd : (x == ("__classdict__" : Str)) = false := by decide)
    (he : starEach (e :: es) X.env = (false, eval e X.env) :: starEach es X.env := by rfl) (hpl : (backTo pos (starEach es X.env)).any (·.1) = false := by rfl) : PE X (.Call (.Name x p) (e :: es) [] pos) (tCallG X.prog X.w X.K X.mg X.base k mk ps fr i ws sp t) := by
  refine ⟨fun pins s σ H Q I h => ?_⟩
  obtain ⟨f, c', hs, hf, hO, ht⟩ := h
  refine wpAny_Call_Name_kw (thn ((pe_var (pos := p) hN hv hd hcd).run pins s σ H (fun v H1 => v = .ref f ∧ H1 = H) I ⟨.ref f, hs, rfl, rfl⟩) fun u s1 ⟨v, H1, I1, r1, ev, eH⟩ => ?_)
  subst ev eH
  obtain rfl : u = Value.ref f := r1
  refine PySem.W.callWith_F (first := []) (lo_fnAt I1.hok hf) (thn (ha.run pos pins s1 σ H1 _ I1 ht) fun us s2 ⟨vs, H2, I2, r, h1, h2, q⟩ => ⟨lo_fnAt I2.hok h1, ?_⟩) he hpl
  show wpAny _ _ (call (.ref f) us) _ _ _
  have C := cells_kept I2 C0 nx nf
  rw [← hcl c'] at C
  refine wpAny_call (codeAny_mono (hO.run X.A X.stack s2 H2 us vs _ Q (hr.mono hk) I2.env0 h1 h2 C r q) fun rr s' hq => ?_)
  cases rr with
  | error e => exact (show False from hq).elim
  | ok fl =>
    cases fl with
    | ret u => exact I2.after hq
    | next => exact False.elim hq
    | brk => exact False.elim hq
    | cont => exact False.elim hq
end
end LX
end
/-! R1 -/
section
set_option Elab.async false
set_option linter.all false
set_option maxRecDepth 100000
set_option maxHeartbeats 2000000
namespace RX
open PySem PySem.Spec PyProof.Rows L2
section
variable {X : Cx} {e o : Expr} {te td : TE} {p pos apos mpos cpos : Pos}
/-! ### a dict frozen from here on -/
def tFrz (t : TE) : TE := fun σ H Q => t σ H fun v H1 => ∃ d u, v = .ref d ∧ H1 d = some u ∧ Mut (some u) ∧ ∀ od, Q v (upd H1 d (.frz od u))
theorem pe_frz (h : PE X e te) : PE X e (tFrz te) := by
  refine ⟨fun pins s σ H Q I hq => ?_⟩
  refine wpAny_mono (h.run pins s σ H _ I hq) (fun u s1 ⟨v, H1, I1, r, d, o, ev, hd, mu, q⟩ => ?_) fun _ _ x => x
  obtain ⟨od, I2⟩ := I1.lock hd mu
  exact ⟨v, _, I2, r, q od⟩
/-! ### sum(d.values()) -/
def tSumVals (td : TE) : TE := fun σ H Q => td σ H fun x H1 => ∃ (a : Addr) (kvs : List (Key × V)) (is : List Int), x = V.ref a ∧ Rd H1 a (.dK kvs) ∧ kvs.map (·.2) = is.map V.int ∧ Q (.int is.sum) H1
theorem vals_at {kvs : List (Key × V)} {vs : List (Key × Value)} {is : List Int} (rel : KV kvs vs) (hv : kvs.map (·.2) = is.map V.int) : ∀ (i : Nat) (v : Value), (∃ k, vs[i]? = some (k, v)) → ∃ t, v = Value.int (is.getD i 0) t := fun i v ⟨k, hk⟩ => by
  obtain ⟨x, h1, h2⟩ := KV.at' rel hk
  have e1 : (kvs.map (·.2))[i]? = some x := by rw [List.getElem?_map, h1] <;> rfl
  rw [hv, List.getElem?_map] at e1
  obtain ⟨j, hj, e2⟩ := Option.map_eq_some_iff.mp e1
  subst e2
  obtain ⟨t, e3⟩ := h2
  refine ⟨t, ?_⟩
  rw [e3, List.getD_eq_getElem?_getD, hj] <;> rfl
theorem pe_sumVals (hc : X.calm = true) (hg : Gl X "sum") (hm : X.mg "sum" = none) (hd : PE X o td) (hbase : attributeBase o "values" X.env (eval o X.env) = eval o X.env := by rfl) (hline : (apos.endLine == mpos.line) = true := by rfl)
    (hse : starEach [Expr.Call (.Attribute o "values" apos) [] [] mpos] X.env = [(false, eval (Expr.Call (.Attribute o "values" apos) [] [] mpos) X.env)] := by rfl) :
    PE X (.Call (.Name "sum" p) [.Call (.Attribute o "values" apos) [] [] mpos] [] pos) (tSumVals td) := by
  refine ⟨fun pins s σ H Q I h => ?_⟩
  refine wpAny_Call_Name_kw (ld_blt I hg hm (u := .builtin "sum") (by first | rfl | decide +kernel) ?_ (by first | decide +kernel | decide) (by first | decide +kernel | decide))
  rw [hse]
  refine PySem.callWith_builtin1 (wpAny_Call_method0_late hbase hline (thn (hd.run pins s σ H _ I h) fun v s1 ⟨x, H1, I1, r1, a, kvs, is, ex, ha, hv, q⟩ => ?_))
  subst ex
  obtain rfl : v = Value.ref a := r1
  obtain ⟨_, hsys, vs, rel, dof⟩ := dk_rd I1.hok ha
  obtain ⟨ep, dat⟩ := dof.dictAt
  have dat' := dat
  obtain ⟨ob, es, ho, ex, hdat, hko, hpr, hnd⟩ := dat'
  refine ⟨"dict", "dict.values", F.plainAttrs_dict, F.slot_dict_values, F.type_dict_values, ⟨ob, ho, ex.1⟩, fun b e => ?_, Calls.callWith_builtin rfl (PySem.evalArgs_none ?_)⟩
  · cases e
    exact ⟨ob, ho, ex.2.1⟩
  refine call_meetsIn F.slot_dict_values ⟨ob, ho, ex.1⟩ F.entry_dict_values (F.args_dict_values_1 _) (meets_dict_values (mixKind X.prog X.w) a hsys) ⟨⟨vs, dof⟩, ?_⟩
  have k1 : ∀ b u, s1.heap.get? b = some u → (s1.heap.push { cls := .type "dict_values", data := .fields #[.ref a] }).get? b = some u := fun b u e => Heap.get?_push_of_some _ e
  have dat1 : (s1.heap.push { cls := .type "dict_values", data := .fields #[.ref a] }).DictAt (mixKind X.prog X.w) a vs ep := dat.keep k1
  have hlv : vs.length = is.length := by
    have e1 := congrArg List.length hv
    rw [List.length_map, List.length_map] at e1
    rw [← e1]
    exact (KV.length rel).symm
  have hlt : a < s1.heap.objs.size := Heap.lt_size ho
  have hsz : (s1.heap.push { cls := .type "dict_values", data := .fields #[.ref a] }).objs.size = s1.heap.objs.size + 1 := Heap.size_push _ _
  refine call_sum_walkAnyS (wpAny_pyIter_values (v := s1.heap.objs.size) (d := a) ⟨_, Heap.get?_push_size _ rfl, rfl, rfl⟩ dat1 ?_)
  refine ⟨_, _, _, _, _, _, _, fun i => is.getD i 0, rfl, (Walks.dictValues (knd := mixKind X.prog X.w) (A := X.A.in1) (I.ok.hd hc) (s1.heap.push { cls := .type "dict_values", data := .fields #[.ref a] }).objs.size a (by rw [hsz]; exact Nat.ne_of_lt (Nat.lt_succ_of_lt hlt)) vs ep).toS,
    ⟨⟨_, Heap.get?_push_size _ rfl, rfl, rfl⟩, dat1.keep fun b u e => Heap.get?_push_of_some _ e⟩, fun b hb => ?_, vals_at rel hv, fun s' t' hm => ?_⟩
  · show b < ((s1.heap.push _).push _).objs.size
    rw [Heap.size_push, Heap.size_push]
    rw [hsz] at hb
    rcases List.mem_cons.mp hb with e | hb
    · rw [e]
      exact Nat.lt_succ_self _
    · have e : b = a := List.mem_singleton.mp hb
      rw [e]
      exact Nat.lt_succ_of_lt (Nat.lt_succ_of_lt hlt)
  · have hk : ∀ b o, s1.heap.get? b = some o → s'.heap.get? b = some o := fun b o e =>
      hm.heap b o (fun hI => by
        have e1 : b = (s1.heap.push { cls := .type "dict_values", data := .fields #[.ref a] }).objs.size := List.mem_singleton.mp hI
        have e2 := Heap.lt_size e
        rw [hsz] at e1
        rw [e1] at e2
        exact absurd e2 (Nat.not_lt.mpr (Nat.le_succ _))) (Heap.get?_push_of_some _ (k1 b o e))
    rw [Moved.eq_with hm]
    refine ⟨.int _, H1, I1.kept (t' := s'.toks) hk, ⟨t', rfl⟩, ?_⟩
    rw [preSum_getD, hlv, List.take_length]
    exact q
end
end RX
end
/-! R2 -/
section
set_option Elab.async false
set_option linter.all false
set_option maxRecDepth 100000
set_option maxHeartbeats 2000000
namespace RX
open PySem PySem.Spec PyProof.Rows PySem.Calls
section
variable {prog : Program} {w : World} {A : Around} {E : Value → Shared → Prop} {s : Shared} {r d : Addr}
/-! ### tuple(d.items()) -/
theorem code_tuple_new_items {K : Type} [DecidableEq K] {knd : KeyKind prog w K} {kvs : List (K × Value)} {ep : Nat} {Q₁ : Value → Shared → Prop} (hh : A.handled = none) (hv : s.heap.IsItemsView r d) (hm : s.heap.DictAt knd d kvs ep) (hn : kvs.length ≤ sizeLine)
    (h : ∀ (h' : Heap) (tk : Nat) (as : List Addr), (∀ b o, s.heap.get? b = some o → h'.get? b = some o) → as.length = kvs.length → PySem.W.KdxG knd kvs s.heap.objs.size h' as →
      Q₁ (.ref h'.objs.size) { s with heap := h'.push { cls := .type "tuple", data := .seq (as.map Value.ref).toArray }, toks := tk }) :
    codeAny (model prog w) A (.call (.builtin "tuple.__new__") ⟨[.type "tuple", .ref r], []⟩) (wants Q₁ E) s := by
  refine codeAny_of_tree ?_
  show wpAny _ A.in1 (do checkBuiltinCall "tuple.__new__" ⟨[.type "tuple", .ref r], []⟩; again (.builtin "tuple.__new__" ⟨[.type "tuple", .ref r], []⟩)) _ _ s
  refine wpAny_bind (wpAny_of_eq (F.newCall_tuple_1 _) (wpAny_pure ⟨plainId_quiet F.plain_tuple_new _, codeAny_builtin F.entry_tuple_new ?_⟩))
  rw [Around.under_plainId F.plain_tuple_new _]
  have hsub := sub_tuple_self
  have hinit := init_tuple_lookup
  have hmh := madeHere_tuple
  have hTI : s.TypeIs (.ref r) "dict_items" := let ⟨o, ho, hc, _⟩ := hv; ⟨o, ho, hc⟩
  have hh1 : A.in1.handled = none := hh
  wp_walk using wpAny_typeOf hTI, PySem.W.kdx_collect (A := A.in1) hh1 hv hm hn
  intro h' tk as hk hl hG
  show wpAny _ _ (Builtin.Tuple.tupleExact (as.map Value.ref).toArray >>= fun v => ret v) _ _ _
  unfold Builtin.Tuple.tupleExact
  refine wpAny_bind (wpAny_newObj_type ?_ (by show (as.map Value.ref).toArray.size ≤ sizeLine; rw [List.size_toArray, List.length_map, hl]; exact hn))
  exact wpAny_pure (h h' tk as hk hl hG)
theorem call_tuple_items {K : Type} [DecidableEq K] {knd : KeyKind prog w K} {kvs : List (K × Value)} {ep : Nat} {Q : Value → Shared → Prop} (hh : A.handled = none) (hv : s.heap.IsItemsView r d) (hm : s.heap.DictAt knd d kvs ep) (hn : kvs.length ≤ sizeLine)
    (hQ : ∀ (h' : Heap) (tk : Nat) (as : List Addr), (∀ b o, s.heap.get? b = some o → h'.get? b = some o) → as.length = kvs.length → PySem.W.KdxG knd kvs s.heap.objs.size h' as →
      Q (.ref h'.objs.size) { s with heap := h'.push { cls := .type "tuple", data := .seq (as.map Value.ref).toArray }, toks := tk }) :
    wpAny (model prog w) A (call (.type "tuple") [.ref r]) Q E s := by
  refine callType_codes (Q₁ := fun obj s₁ => s₁.TypeIs obj "tuple" ∧ Q obj s₁) F.called_tuple (F.typeCall_tuple_1 _) F.entry_object_init
    (code_tuple_new_items (A := A.in1) hh hv hm hn fun h' tk as hk hl hG => ⟨⟨_, Heap.get?_push_size _ rfl, rfl⟩, hQ h' tk as hk hl hG⟩) fun obj s₁ h₁ => ?_
  exact ⟨h₁.1, F.args_object_init_2 obj _, object_init_meets F.called_tuple.init.lookup F.called_tuple.made (by decide) prog w A.in1 _ s₁ ⟨h₁.1, rfl, h₁.2⟩⟩
/-! ### sorted(d), the keys -/
theorem sorted_src {T : String} {n : Nat} {P : Nat → Value → Prop} {OK : Heap → Prop} {Q : Value → Shared → Prop} (K : PySem.W.KdlSrc prog w T r d n P OK) (hh : A.handled = none) (hok : OK s.heap) (hn : n ≤ sizeLine)
    (h : ∀ (h' : Heap) (tk : Nat) (vs : List Value), (∀ b o, s.heap.get? b = some o → h'.get? b = some o) → vs.length = n → (∀ (j : Nat) (v : Value), vs[j]? = some v → P j v) →
      wpAny (model prog w) A.in1 (call (.builtin "list.sort") [.ref h'.objs.size]) (fun _ s' => Q (.ref h'.objs.size) s') E { s with heap := h'.push { cls := .type "list", data := .seq vs.toArray }, toks := tk }) :
    wpAny (model prog w) A (call (.builtin "sorted") [.ref r]) Q E s := by
  refine call_function_entry PyProof.Rows.kind_sorted PyProof.Rows.plain_sorted PyProof.Rows.entry_sorted (PyProof.Rows.args_sorted1 _) ?_
  unfold Builtin.«sorted»
  refine wpAny_bind (m := checkCount "sorted" 1 1 _) (wpAny_pure ?_)
  refine wpAny_bind (PySem.W.kdu_collect (A := A.in1) K hh hok hn fun h' tk acc hk hacc => ?_)
  have hl : acc.toList.length = n := by rw [Array.length_toList]; exact hacc.1
  refine wpAny_bind (wpAny_newList ?_ (by rw [hl]; exact hn))
  have hg := h h' tk acc.toList hk hl (fun j v e => hacc.2 j v (by rw [← Array.getElem?_toList]; exact e))
  refine wpAny_bind (wpAny_holding (wpAny_mono hg (fun _ s' x => ?_) fun _ _ e => e))
  exact wpAny_pure ⟨_, rfl, x⟩
end
end RX
end
/-! R3 -/
section
set_option Elab.async false
set_option linter.all false
set_option maxRecDepth 100000
set_option maxHeartbeats 2000000
namespace RX
open PySem PySem.Spec PyProof.Rows L2 LiI
section
variable {X : Cx} {e o : Expr} {te td : TE} {p pos apos cpos mpos : Pos}
/-- pairs that are laid already are tracked -/
theorem pairs_laid {pins : List (Addr × Obj)} {σ : L2.St} {H : Hp} {s : Shared} {h' : Heap} {tk : Nat} {kvs : List (Key × V)} {vs : List (Key × Value)} {as : List Addr} (I : Inv X pins σ H s) (kv : KV kvs vs)
    (hk : ∀ b o, s.heap.get? b = some o → h'.get? b = some o) (hl : as.length = vs.length) (hG : PySem.W.KdxG (mixKind X.prog X.w) vs s.heap.objs.size h' as) :
    ∃ H' : Hp, (∀ b o, H b = some o → H' b = some o) ∧ Paired (fun (t : Addr) (q : Key × V) => H' t = some (.tup [kV q.1, q.2])) as kvs ∧ Inv X pins σ H' { s with heap := h', toks := tk } := by
  have lk : kvs.length = vs.length := Paired.length kv
  have nd : as.Nodup := List.Pairwise.imp (fun {a b} (h : a < b) => Nat.ne_of_lt h) hG.rise
  have new : ∀ t ∈ as, H t = none := fun t ht => I.hok.fresh (Nat.le_of_lt (hG.above t ht))
  have atP := putT_at as kvs H (by omega) nd
  have off : ∀ b, b ∉ as → putT H as kvs b = H b := fun b h1 => putT_off as kvs _ h1
  have low : ∀ b o, s.heap.get? b = some o → b ∉ as := fun b o e z => absurd (Heap.lt_size e) (Nat.not_lt.mpr (Nat.le_of_lt (hG.above b z)))
  have kp : ∀ b u, H b = some u → (putT H as kvs) b = some u := fun b u e => by
    rw [off b (fun z => by rw [new b z] at e; cases e)]
    exact e
  refine ⟨putT H as kvs, kp, atP, ?_⟩
  refine I.call' (ch := []) rfl ⟨fun b o q _ _ _ => hk b o q, fun b o q _ _ _ => ⟨o.slots, hk b o q⟩, fun b o q n _ => ?_, fun b o q _ => ⟨o, hk b o q⟩, fun b xs q => kp b _ q, fun b o u q => kp b _ q, fun b ps q => ⟨#[], by rw [kp b _ q]; simp⟩⟩ (fun b u q => ?_) I.bare fun b z => by simp at z
  · rw [off b (low b o q)]
    exact n
  · by_cases hb : b ∈ as
    · obtain ⟨j, pk, e1, e2, e3⟩ := paired_ix atP hb
      rw [e3] at q
      cases q
      obtain ⟨key, k, x, f1, f2, f3⟩ := hG.pairs j b e1
      obtain ⟨qv, g1, g2, g3⟩ := LiI.paired_get kv e2
      rw [f1] at g1
      cases g1
      have rk : RelV (kV pk.1) key := by
        rw [g2]
        exact relV_key (show keyIs k key = true from f2)
      exact ⟨by show 2 ≤ sizeLine; decide, [key, x], .cons rk (.cons g3 .nil), ⟨_, f3, rfl, _, rfl⟩⟩
    · rw [off b hb] at q
      exact (I.hok b u q).stay (fun d v _ y => hk d v y) (fun d y => kp d _ y) fun d xs y => kp d _ y
/-- tuple(d.items()) -/
def tTupItems (te : TE) : TE := fun σ H Q => te σ H fun x H1 => ∃ (d : Addr) (kvs : List (Key × V)), x = .ref d ∧ Rd H1 d (.dK kvs) ∧
  ∀ (H' : Hp) (t : Addr) (ts : List Addr), (∀ b o, H1 b = some o → H' b = some o) → H' t = some (.tup (ts.map V.ref)) → Paired (fun (t : Addr) (q : Key × V) => H' t = some (.tup [kV q.1, q.2])) ts kvs → Q (.ref t) H'
theorem pe_tupItems (hc : X.calm = true) (hg : Gl X "tuple") (hm : X.mg "tuple" = none) (he : PE X e te) (hv : bootBuiltins "tuple" = some (.type "tuple") := by exact boot_tuple) (hbase : attributeBase e "items" X.env (eval e X.env) = eval e X.env := by rfl) (hline : (apos.endLine == cpos.line) = true := by rfl)
    (hs : starEach [.Call (.Attribute e "items" apos) [] [] cpos] X.env = (false, eval (.Call (.Attribute e "items" apos) [] [] cpos) X.env) :: starEach [] X.env := by rfl) :
    PE X (.Call (.Name "tuple" p) [.Call (.Attribute e "items" apos) [] [] cpos] [] pos) (tTupItems te) := by
  refine ⟨fun pins s σ H Q I hq => ?_⟩
  refine wpAny_Call_Name_kw (ld_blt I hg hm hv ?_)
  refine PyProof.Rows.callWith_type1 ?_ hs rfl
  rw [hs]
  show wpAny _ _ (spliced ((false, eval (.Call (.Attribute e "items" apos) [] [] cpos) X.env) :: backTo pos (starEach [] X.env))) _ _ s
  refine Calls.spliced_cons ?_
  refine wpAny_Call_method (T := "dict") (id := "dict.items") hbase rfl hline F.plainAttrs_dict F.slot_dict_items F.type_dict_items (thn (he.run pins s σ H _ I hq) fun u s1 ⟨x, H1, I1, rx, d, kvs, ex, hd, q⟩ => ?_)
  subst ex
  obtain rfl : u = Value.ref d := rx
  obtain ⟨hz, hs0, vs, kv, hdo⟩ := dk_rd I1.hok hd
  obtain ⟨ep, hat⟩ := hdo.dictAt
  have lk : kvs.length = vs.length := Paired.length kv
  have I2 : Inv X pins σ H1 { s1 with heap := s1.heap.push { cls := .type "dict_items", data := .fields #[.ref d] } } := I1.kept (t' := s1.toks) fun b ob q => Heap.get?_push_of_some _ q
  refine ⟨hdo.typeIs, hdo.mapOf.noDict, ?_⟩
  show wpAny _ _ (callWith cpos (.builtin "dict.items") [.ref d] [] []) _ X.xe s1
  refine method_meetsIn F.slot_dict_items F.entry_dict_items rfl (PySem.evalArgs_none ⟨rfl, hdo.typeIs, F.args_dict_items_1 _, _, meets_dict_items (mixKind X.prog X.w) d hs0, ⟨vs, hdo⟩, ?_⟩)
  refine Calls.spliced_nil ?_
  refine call_tuple_items (knd := mixKind X.prog X.w) (kvs := vs) (ep := ep) (I1.ok.hd hc) ⟨_, Heap.get?_push_size _ rfl, rfl, rfl⟩ (hat.push _) (by omega) fun h' tk as hk hl hG => ?_
  obtain ⟨H', k1, k6, J⟩ := pairs_laid (tk := tk) I2 kv hk hl hG
  have hf : H' h'.objs.size = none := J.hok.fresh (Nat.le_refl _)
  have J2 : Inv X pins σ (upd H' h'.objs.size (.tup (as.map V.ref))) { s1 with heap := h'.push { cls := .type "tuple", data := .seq (as.map Value.ref).toArray }, toks := tk } :=
    J.laid (t' := tk) (fun b o e => Heap.get?_push_of_some _ e) (Nat.le_refl _) (show ObjOk X.prog X.w _ _ _ (.tup (as.map V.ref)) from ⟨by rw [List.length_map]; omega, _, LiI.vals_refs as, IsTup.new _ _⟩)
  have ne : ∀ b u, H' b = some u → upd H' h'.objs.size (.tup (as.map V.ref)) b = some u := fun b u e => (upd_ne (ne_of_none e hf)).trans e
  exact ⟨.ref _, _, J2, rfl, q _ _ as (fun b o e => ne _ _ (k1 b o e)) upd_same (Paired.mapP k6 fun t q e => ne _ _ e)⟩
/-- sorted(d) of a dict with int keys: the keys -/
def rSortedD : List V → Hp → VK → Prop := fun vs H Q => ∃ (a : Addr) (kvs : List (Key × V)) (ns : List Int), vs = [V.ref a] ∧ Rd H a (.dK kvs) ∧ kvs.map (·.1) = ns.map Sum.inl ∧
  ∀ (ns' : List Int) (p : Addr), ns'.Perm ns → ns'.Pairwise (· ≤ ·) → H p = none → Q (.ref p) (upd H p (.lst (ns'.map V.int)))
theorem intsAre_of : ∀ {vs : List Value} {ns : List Int}, vs.length = ns.length → (∀ (j : Nat) (v : Value), vs[j]? = some v → ∃ t, v = .int (ns.getD j 0) t) → IntsAre vs ns
  | [], [], _, _ => .nil
  | [], _ :: _, h, _ => by cases h
  | _ :: _, [], h, _ => by cases h
  | v :: vs, n :: ns, h, k => by
    obtain ⟨t, e⟩ := k 0 v rfl
    have e' : v = .int n t := e
    subst e'
    exact .cons n t (intsAre_of (Nat.succ.inj h) fun j u hj => k (j + 1) u (by simpa using hj))
theorem call_sortedD (hc : X.calm = true) : CallR X (.builtin "sorted") rSortedD := by
  intro pins s σ H xs us Q I r q
  obtain ⟨a, kvs, ns, rfl, hd, hk0, q⟩ := q
  rw [Vals.ref1 r]
  obtain ⟨z, lo, vs, rel, dd⟩ := dk_rd I.hok hd
  obtain ⟨ep, hat⟩ := dd.dictAt
  have hl : kvs.length = vs.length := KV.length rel
  have hln : kvs.length = ns.length := by
    have e := congrArg List.length hk0
    rw [List.length_map, List.length_map] at e
    exact e
  refine sorted_src (PySem.W.kdl_dict (knd := mixKind X.prog X.w) (kvs := vs) (ep := ep) lo) (I.ok.hd hc) hat (by rw [← hl]; exact z) fun h' tk us' hk hlu hP => ?_
  have hi : IntsAre us' ns := intsAre_of (by omega) fun j v e => by
    obtain ⟨k, x, h1, h2⟩ := hP j v e
    obtain ⟨y, e1, _⟩ := KV.at' rel h1
    have e2 : (kvs.map (·.1))[j]? = some k := by rw [List.getElem?_map, e1] <;> rfl
    rw [hk0, List.getElem?_map] at e2
    obtain ⟨i, hi, e3⟩ := Option.map_eq_some_iff.mp e2
    subst e3
    rcases keyIs_shape (show keyIs (Sum.inl i) v = true from h2) with ⟨i', t, e4, e5⟩ | ⟨x', t, e4, e5⟩
    · cases e4
      refine ⟨t, ?_⟩
      rw [e5, List.getD_eq_getElem?_getD, hi] <;> rfl
    · cases e4
  have I1 : Inv X pins σ H { s with heap := h', toks := tk } := I.kept hk
  have hob : (h'.push { cls := .type "list", data := .seq us'.toArray }).get? h'.objs.size = some { cls := .type "list", data := .seq us'.toArray } := Heap.get?_push_size _ rfl
  refine wpAny_call_entry PyProof.Rows.slot_list_sort ⟨_, hob, rfl⟩ PyProof.Rows.entry_list_sort
    (SrtO.list_sort_ord SrtO.swo_int hob (by omega) (fun h2 => SrtO.ints_sortable hi h2) fun out h1 h2 => ⟨.none, rfl, ?_⟩) (PyProof.Rows.args_list_sort _)
  obtain ⟨k1, k2, k3⟩ := SrtO.ints_out hi h1 h2
  obtain ⟨ep', he'⟩ := PyProof.Rows.sortedHeap_at (vs := us') (out := out.toArray) hob
  have hlen : ((out.map SrtO.iv).map V.int).length ≤ sizeLine := by
    rw [List.length_map, k2.length_eq]
    omega
  refine ⟨.ref h'.objs.size, upd H h'.objs.size (.lst ((out.map SrtO.iv).map V.int)), I1.laid (t' := tk) (fun b u e => ?_) (Nat.le_refl _) ⟨hlen, out, ep', vals_of_ints k1, he'⟩, rfl, q _ _ k2 k3 (I1.hok.fresh (Nat.le_refl _))⟩
  have hb : b < h'.objs.size := Heap.lt_size e
  rw [PyProof.Rows.sortedHeap_old (Nat.ne_of_lt hb) (by rw [size_push']; exact Nat.lt_succ_of_lt hb)]
  exact Heap.get?_push_of_some _ e
/-- d == {}, d not empty -/
def rEqE : R2 := fun x y H Q => ∃ (a b : Addr) (kvs : List (Key × V)), x = .ref a ∧ y = .ref b ∧ Rd H a (.dK kvs) ∧ H b = some (.dK []) ∧ kvs ≠ [] ∧ Q (.bl false) H
theorem op_eqE (hu : X.A.units < cLine) : OpR X (compareOp .Eq) rEqE := by
  intro pins s σ H x y v u Q I rx ry h
  obtain ⟨a, b, kvs, rfl, rfl, ea, eb, hne, q⟩ := h
  obtain rfl : v = Value.ref a := rx
  obtain rfl : u = Value.ref b := ry
  obtain ⟨_, ya, va, ra, da⟩ := dk_rd I.hok ea
  obtain ⟨_, yb, vb, rb, db⟩ := dk_of I.hok eb
  have hl : kvs.length = va.length := KV.length ra
  have hlb : vb.length = 0 := (KV.length rb).symm
  have hpos : 0 < kvs.length := List.length_pos_iff.mpr hne
  have hn : (va.length == vb.length) = false := by
    rw [beq_eq_false_iff_ne]
    omega
  exact PySem.W.keq_eq (knd := mixKind X.prog X.w) (r := true) ya yb da db hu (fun e => by rw [beq_eq_false_iff_ne] at hn; exact absurd e hn) (fin_bl I q (by rw [hn]; rfl))
end
end RX
end
/-! R4 -/
section
set_option Elab.async false
set_option linter.all false
set_option maxRecDepth 100000
set_option maxHeartbeats 2000000
namespace RX
open PySem PySem.Spec PyProof.Rows L2
section
variable {prog : Program} {w : World} {A : Around} {E : Value → Shared → Prop} {s : Shared}
/-! ### dict(d), keys that are tuples -/
theorem call_dict_heap {K : Type} [DecidableEq K] {knd : HeapKind prog w K} {o : Addr} {more : List (K × Addr × Value)} {Q : Value → Shared → Prop} (hst : knd.Stays) (hu : knd.room A.in1.in1) (hoS : (o == sysModules) = false) (ho : s.heap.DictOfH knd o more) (hap : (more.map fun x => knd.hash x.1).Nodup) (hsz : more.length ≤ sizeLine)
    (h : ∀ h', h'.DictOfH knd s.heap.objs.size more → Heap.SameBut s.heap.objs.size (s.heap.push { cls := .type "dict", data := .dict #[] }) h' → Q (.ref s.heap.objs.size) { s with heap := h' }) :
    wpAny (model prog w) A (call (.type "dict") [.ref o]) Q E s := by
  refine callType_codes (Q₁ := fun obj s₁ => obj = .ref s.heap.objs.size ∧ s₁ = { s with heap := s.heap.push { cls := .type "dict", data := .dict #[] } }) F.kt_called_dict (F.kt_typeCall_dict_1 _) F.entry_dict_init (kt_code_dict_new _ ⟨rfl, rfl⟩) ?_
  rintro obj s₁ ⟨rfl, rfl⟩
  have hnew : (s.heap.push { cls := .type "dict", data := .dict #[] }).DictOfH knd s.heap.objs.size [] := Heap.DictOfH.new s.heap
  have ho' : (s.heap.push { cls := .type "dict", data := .dict #[] }).DictOfH knd o more := by
    obtain ⟨oo, es, ep, h1, h2, h3, h4, h5, h6⟩ := ho
    exact ⟨oo, es, ep, Heap.get?_push_of_some _ h1, h2, h3, h4, fun x hx => hst.stays (fun b ob vs n e _ => Heap.get?_push_of_some _ e) (h5 x hx), h6⟩
  have hdo : s.heap.objs.size ≠ o := by
    obtain ⟨_, _, _, hg, _⟩ := ho
    exact fun e => absurd (Heap.lt_size hg) (by rw [e]; exact Nat.lt_irrefl _)
  refine ⟨hnew.typeIs, F.args_dict_init_2 _ _, ?_⟩
  unfold Builtin.«dict.__init__»
  refine wpAny_bind ?_
  unfold Builtin.Dict.selfAndRest
  refine wpAny_bind (wpAny_notOrdered_dict hnew.typeIs ?_)
  show wpAny _ _ (pure (s.heap.objs.size, [Value.ref o])) _ _ _
  refine wpAny_pure ?_
  show wpAny _ _ (Builtin.Dict.updateFrom "dict.__init__" s.heap.objs.size (.ref o) [] .none) _ _ _
  unfold Builtin.Dict.updateFrom
  refine wpAny_bind (wpAny_typeOf ho'.typeIs ?_)
  rw [if_neg (by decide)]
  refine wpAny_bind ?_
  unfold Builtin.Dict.merge
  refine wpAny_bind ?_
  unfold Builtin.Dict.readDirectly
  refine wpAny_bind (wpAny_isInstance ho'.typeIs isSubtype_dict_dict ?_)
  simp only [Bool.not_true, Bool.false_eq_true, if_false]
  refine wpAny_bind (wpAny_specialOf ho'.typeIs F.slot_dict_iter.lookup (wpAny_pure ?_))
  simp only [beq_self_eq_true, if_true]
  refine wpAny_bind (wpAny_pure ?_)
  refine wpAny_mergeDict_heap (hsz := by simpa using hsz) hu hdo hoS hnew ho' (.inr ⟨fun x hx => ?_, hap⟩) fun h' hd' _ hs' => ?_
  · obtain ⟨_, _, _, _, _, _, _, his, _⟩ := ho'
    exact hst.tuple (s := { s with heap := s.heap.push { cls := .type "dict", data := .dict #[] } }) (his x hx)
  · show wpAny _ _ (Builtin.Dict.addKeywords s.heap.objs.size [] >>= _) _ _ _
    rw [storedAllH_nil_of_nodup more ho.nodup] at hd'
    exact wpAny_bind (wpAny_pure (wpAny_pure ⟨rfl, h h' hd' hs'⟩))
end
section
variable {X : Cx}
def rDictT (P : Program) (w : World) : List V → Hp → VK → Prop := fun xs H Q => ∃ (a : Addr) (kvs : List (List Key × V)), xs = [.ref a] ∧ Rd H a (.dT kvs) ∧ (kvs.map fun p => tupleKeyHash (mixKind P w) p.1).Nodup ∧ ∀ p, H p = none → Q (.ref p) (upd H p (.dT kvs))
theorem call_dictT (hu : X.A.units + 8 < cLine) : CallR X (.type "dict") (rDictT X.prog X.w) := by
  intro pins s σ H xs us Q I r q
  obtain ⟨a, kvs, ex, hd, hn, q⟩ := q
  subst ex
  rw [Vals.ref1 r]
  obtain ⟨z, lo, vs, rel, dd⟩ := dt_rd I.hok hd
  have ek : kvs.map (·.1) = vs.map (·.1) := by
    clear dd hd hn q
    induction rel with
    | nil => rfl
    | cons h t ih => rw [List.map_cons, List.map_cons, ih (by rw [List.length_cons] at z; omega), h.1]
  have hn2 : (vs.map fun x => (tupleKind (mixKind X.prog X.w)).hash x.1).Nodup := by
    have e1 : (vs.map fun x => (tupleKind (mixKind X.prog X.w)).hash x.1) = (kvs.map fun p => tupleKeyHash (mixKind X.prog X.w) p.1) := by
      have e2 := congrArg (List.map (tupleKeyHash (mixKind X.prog X.w))) ek
      rw [List.map_map, List.map_map] at e2
      exact e2.symm
    rw [e1]
    exact hn
  refine call_dict_heap (knd := tupleKind (mixKind X.prog X.w)) tupleKind_stays (show X.A.in1.in1.units < cLine from by show X.A.units + 1 + 1 < cLine; omega) lo dd hn2 (by rw [← Paired.length rel]; exact z) fun h' d' hs => ?_
  have hm : (s.heap.objs.size == sysModules) = false := beq_eq_false_iff_ne.mpr (Nat.ne_of_gt I.big)
  have hf : H s.heap.objs.size = none := I.hok.fresh (Nat.le_refl _)
  obtain ⟨o, es, ep, h1, h2, h3, h4, h5, h6⟩ := d'
  refine ⟨.ref s.heap.objs.size, upd H s.heap.objs.size (.dT kvs), I.laid (t' := s.toks) (fun b u e => (hs.2 b (Nat.ne_of_lt (Heap.lt_size e))).trans (Heap.get?_push_of_some _ e)) (Nat.le_refl _)
    (show ObjOk X.prog X.w _ _ _ (.dT kvs) from ⟨z, hm, vs, KT.keeps rel fun b ys e => (upd_ne (ne_of_none e hf)).trans e, o, es, ep, h1, h2, h3, h4, h6⟩), rfl, q _ hf⟩
/-! ### {(..): v} -/
def tDispT (t : TA) (tv : TE) : TE := fun σ H Q => ∀ p, H p = none → tTup t σ (upd H p (.dT [])) fun x H1 => ∃ b xs, x = .ref b ∧ H1 b = some (.tup xs) ∧ tv σ H1 fun y H2 =>
  ∃ k : List Key, xs = k.map kV ∧ H2 p = some (.dT []) ∧ H2 b = some (.tup xs) ∧ Q (.ref p) (upd H2 p (.dT [(k, y)]))
theorem pe_dispT {es : List Expr} {v : Expr} {t : TA} {tv : TE} {x1} {kp pos : Pos} (hu : X.A.units + 8 < cLine) (ha : PA X es t) (hv : PE X v tv) : PE X (.Dict [some (.Tuple es x1 kp)] [v] pos) (tDispT t tv) := by
  refine ⟨fun pins s σ H Q I q => ?_⟩
  have hn := I.hok.fresh (Nat.le_refl s.heap.objs.size)
  have I1 := I.laid (a := s.heap.objs.size) (o := .dT []) (h' := s.heap.push { cls := .type "dict", data := .dict #[] }) (t' := s.toks) (fun _ _ q => Heap.get?_push_of_some _ q) (Nat.le_refl _) (dt_empty s.heap I.big)
  rw [arm_eval_Dict]
  have hshape : (evalEachOpt [some (Expr.Tuple es x1 kp)] X.env).zip ((evalEach [v] X.env).map fun v => do let x ← v; standAt pos; pure x) = [(eval (Expr.Tuple es x1 kp) X.env, do let x ← eval v X.env; standAt pos; pure x)].map fun p => (some p.1, p.2) := by rfl
  rw [hshape, dictDisplay_pairs _ (by simp) (by simp)]
  refine wpAny_bind (wpAny_standAt (wpAny_bind (wpAny_subDictH (knd := tupleKind (mixKind X.prog X.w)) (show X.A.units < cLine by omega) (by simp) ?_)))
  refine evalPairs_cons (thn ((pe_tup ha).run pins _ σ _ _ I1 (q _ hn)) fun u s1 ⟨x, H1, I2, rx, b, xs, ex, hb, q2⟩ => wpAny_bind (thn (hv.run pins s1 σ H1 _ I2 q2) fun vv s2 ⟨y, H2, I3, ry, k, ek, hp, hb2, q3⟩ => wpAny_bind (wpAny_standAt (wpAny_pure (evalPairs_nil ?_)))))
  subst ex
  cases rx
  subst ek
  obtain ⟨_, hd, ys, rel, dd⟩ := dt_of I3.hok hp
  cases rel
  refine ⟨[(k, b, vv)], ⟨rfl, rfl, key_of I3.hok hb2, trivial⟩, dd, fun h' tk dd' hs => wpAny_pure ?_⟩
  have e1 : storedAllH ([] : List (List Key × Addr × Value)) [(k, b, vv)] = [(k, b, vv)] := by
    show storedH [] k b vv = _
    rw [storedH_new (by rfl)]
    rfl
  rw [e1] at dd'
  obtain ⟨o, es', ep, hq, h2, h3, h4, _, h5⟩ := dd'
  refine ⟨.ref s.heap.objs.size, _, d_write (t' := tk) (ob := .dT [(k, y)]) I3 (by rw [hp]; exact True.intro) hs ⟨o, hq⟩ ⟨by show 1 ≤ sizeLine; decide, hd, _, .cons ⟨rfl, ?_, ry⟩ .nil, o, es', ep, hq, h2, h3, h4, h5⟩, rfl, q3⟩
  rw [upd_ne (ne_of hb2 hp (fun z => nomatch z))]
  exact hb2
/-! ### for .. in d.items(), keys that are tuples -/
def Itit (d : Addr) (o : Obj) (kvs : List (List Key × V)) : It :=
  ⟨fun i H => H d = some (.frz o (.dT kvs)) ∧ i < kvs.length, fun i H x H' => ∃ (T : Addr) (k : List Key) (v : V) (q : Addr), kvs[i]? = some (k, v) ∧ x = .ref T ∧ H T = none ∧ H' = upd H T (.tup [.ref q, v]) ∧ H q = some (.tup (k.map kV)), fun i H => H d = some (.frz o (.dT kvs)) ∧ kvs.length ≤ i⟩
theorem frzTV {pins : List (Addr × Obj)} {σ : L2.St} {H : Hp} {s : Shared} {d : Addr} {o : Obj} {kvs : List (List Key × V)} (I : Inv X pins σ H s) (h : H d = some (.frz o (.dT kvs))) :
    (d == sysModules) = false ∧ s.heap.get? d = some o ∧ o.ExactDict ∧ ∃ (es : Array DictEntry) (ep : Nat), o.data = .dict es ep ∧ es.size = kvs.length ∧
      ∀ (i : Nat) (k : List Key) (v : V), kvs[i]? = some (k, v) → ∃ (en : DictEntry) (q : Addr), es[i]? = some en ∧ en.key = .ref q ∧ H q = some (.tup (k.map kV)) ∧ RelV v en.val := by
  obtain ⟨hd, z, hs, xs, pr, o', es, ep, ho, hx, hdt, he, _⟩ := I.hok d _ h
  rw [hd] at ho
  cases ho
  refine ⟨hs, hd, hx, es, ep, hdt, ?_, fun i k v e => ?_⟩
  · have l1 : es.size = xs.length := size_of_entries he
    have l2 : kvs.length = xs.length := Paired.length pr
    omega
  · obtain ⟨b, hb, e1, e2, e3⟩ := L2.paired_get pr e
    have q := entry_at he i
    rw [hb] at q
    exact ⟨_, b.2.1, q, rfl, e2, e3⟩
theorem turn_itemsT {P : Program} {w : World} {K : PySem.W.Frag} {d : Addr} {o : Obj} {es : Array DictEntry} {ep : Nat} {kvs : List (List Key × V)} {elts : List Expr} {kk : Nat} {tpos : Pos} (it : Addr) (hod : o.data = .dict es ep) :
    Turn P w K (.Tuple elts kk tpos) (Itit d o kvs) [it] it (fun i h => ∃ ok ov, IsItemIter h it d i kvs.length ep ok ov) where
  mem := by simp
  obj := fun i h st b hb => by
    have e : b = it := by simpa using hb
    subst e
    obtain ⟨ok, ov, e⟩ := st
    exact ⟨_, e, fun v z => nomatch z⟩
  keep := fun i h h' st k => let ⟨ok, ov, e⟩ := st; ⟨ok, ov, k it (by simp) _ e⟩
  item := by
    intro X hP hw hK hc i pins s σ H E I hf st hg
    subst hP hw hK
    obtain ⟨hd, hi⟩ := hg
    obtain ⟨hs, hgd, hx, es', ep', hdt, hsz, ent⟩ := frzTV I hd
    obtain ⟨rfl, rfl⟩ := dict_ep hod hdt
    obtain ⟨⟨k, v⟩, hkv⟩ : ∃ p, kvs[i]? = some p := ⟨kvs[i], List.getElem?_eq_getElem hi⟩
    obtain ⟨en, q, hen, hkey, hq, hv⟩ := ent i k v hkv
    obtain ⟨ok, ov, he⟩ := st
    rw [← hsz] at he
    have hlt : it < s.heap.objs.size := Heap.lt_size he
    have hi' : i < es'.size := by omega
    have een : es'[i] = en := by
      rw [Array.getElem?_eq_getElem hi'] at hen
      exact Option.some.inj hen
    refine DT.nextI he ⟨o, hgd, hx, hdt⟩ hi' fun h' ho hT hz hk => ?_
    rw [een] at ho hT
    refine ⟨_, rfl, wpAny_letOwnedTupleGo_items (s := { s with heap := h' }) ho fun h'' he' sb => ?_⟩
    have hT2 : h''.get? s.heap.objs.size = some { cls := .type "tuple", data := .seq #[en.key, en.val] } := (sb.2 _ (Nat.ne_of_gt hlt)).trans hT
    have new : ObjOk X.prog X.w (upd H s.heap.objs.size (.tup [.ref q, v])) h'' s.heap.objs.size (.tup [.ref q, v]) :=
      ⟨by show 2 ≤ sizeLine; decide, [en.key, en.val], .cons hkey (.cons hv .nil), ⟨_, hT2, rfl, _, rfl⟩⟩
    have I1 : Inv X pins σ (upd H s.heap.objs.size (.tup [.ref q, v])) { s with heap := h'' } :=
      I.turnedNew (t' := s.toks) (ch := [it]) (fun b ob hb e => (sb.2 b (by simpa using hb)).trans (hk b ob (by simpa using hb) e)) hf (Nat.le_refl _) new
    refine ⟨.ref s.heap.objs.size, _, I1, rfl, ⟨_, k, v, q, hkv, rfl, I.hok.fresh (Nat.le_refl _), rfl, hq⟩, ⟨en.key, en.val, ?_⟩, fun b hb => ?_⟩
    · rw [← hsz]; exact he'
    · have e : b = it := by simpa using hb
      rw [e, upd_ne (Nat.ne_of_lt hlt)]
      exact (hf it (by simp)).1
  done := by
    intro X hP hw hK hc i pins s σ H E I hf st hg
    subst hP hw hK
    obtain ⟨hd, hi⟩ := hg
    obtain ⟨f0, f1, f2, f3, f4, f5⟩ := hf it (by simp)
    obtain ⟨hs, hgd, hx, es', ep', hdt, hsz, ent⟩ := frzTV I hd
    obtain ⟨rfl, rfl⟩ := dict_ep hod hdt
    obtain ⟨ok, ov, he⟩ := st
    rw [← hsz] at he
    exact DT.endI (I.ok.hd hc) he ⟨o, hgd, hx, hdt⟩ (by omega) fun h' eb => ⟨rfl, I.turned (t' := s.toks) (fun b ob hb e => eb b ob hb e) f0 f1 f3 f4 f5⟩
  self := fun A i s Q E st h => let ⟨_, _, e⟩ := st; PySem.W.kcp_self e h
def iItemsT (td : TE) : TI := fun σ H R => td σ H fun x H1 => ∃ d o kvs, x = .ref d ∧ H1 d = some (.frz o (.dT kvs)) ∧ R (Itit d o kvs) H1
theorem pi_itemsT {elts : List Expr} {kk : Nat} {tpos apos cpos : Pos} {e : Expr} {td : TE} (he : PE X e td) (hbase : attributeBase e "items" X.env (eval e X.env) = eval e X.env := by rfl) (hline : (apos.endLine == cpos.line) = true := by rfl) :
    PI X (.Tuple elts kk tpos) (.Call (.Attribute e "items" apos) [] [] cpos) (iItemsT td) := by
  refine ⟨fun pins s σ H R I h => ?_⟩
  refine wpAny_Call_method (T := "dict") (id := "dict.items") hbase rfl hline F.plainAttrs_dict F.slot_dict_items F.type_dict_items (thn (he.run pins s σ H _ I h) fun u s1 ⟨x, H1, I1, rx, d, o, kvs, ex, hd, q⟩ => ?_)
  subst ex
  obtain rfl : u = Value.ref d := rx
  obtain ⟨hs, hgd, hx, es, ep, hdt, hsz, ent⟩ := frzTV I1 hd
  refine ⟨⟨o, hgd, hx.1⟩, fun b e => ?_, ?_⟩
  · cases e
    exact ⟨o, hgd, hx.2.1⟩
  have I2 : Inv X pins σ H1 { s1 with heap := s1.heap.push { cls := .type "dict_items", data := .fields #[.ref d] } } := I1.kept (t' := s1.toks) fun b ob q => Heap.get?_push_of_some _ q
  have raw : DT.Raw s1.heap d es ep := ⟨o, hgd, hx, hdt⟩
  have fin : wpAny (model X.prog X.w) X.A (pyIter (.ref s1.heap.objs.size)) (PIE X pins σ (.Tuple elts kk tpos) R) X.xe { s1 with heap := s1.heap.push { cls := .type "dict_items", data := .fields #[.ref d] } } := by
    refine DT.iterI (d := d) ⟨_, Heap.get?_push_size _ rfl, rfl, rfl⟩ (raw.push _) (pi_one (tk := s1.toks) I2 _ (turn_itemsT _ hdt) ⟨.none, .none, ?_⟩ q)
    rw [← hsz]
    exact Heap.get?_push_size _ rfl
  show wpAny _ _ (callWith cpos (.builtin "dict.items") [.ref d] [] []) _ X.xe s1
  exact method_meetsIn F.slot_dict_items F.entry_dict_items rfl (PySem.evalArgs_none ⟨rfl, raw.typeIs, F.args_dict_items_1 _, _, DT.meetsItems hs, raw, fin⟩)
end
end RX
end
/-! R5 -/
section
set_option Elab.async false
set_option linter.all false
set_option maxRecDepth 100000
set_option maxHeartbeats 2000000
namespace RX
open PySem PySem.Spec PyProof.Rows L2
/-! ### 'z' * n -/
theorem fold_sign (c : Nat) : ∀ (n : Nat) (acc : Array Nat), (List.replicate n #[c]).foldl (· ++ ·) acc = acc ++ (List.replicate n c).toArray
  | 0, acc => by simp
  | n + 1, acc => by
    rw [List.replicate_succ, List.foldl_cons, fold_sign c n, List.replicate_succ]
    apply Array.ext'
    simp
section
variable {X : Cx}
def rRepS : R2 := fun x y H Q => ∃ (c : Nat) (n : Nat), x = .str ⟨#[c]⟩ ∧ y = .int (n : Nat) ∧ 1 ≤ n ∧ n ≤ 1000 ∧ Q (.str ⟨(List.replicate n c).toArray⟩) H
theorem op_repS : OpR X (binaryOp .Mult) rRepS := by
  intro pins s σ H x y v u Q I rx ry h
  obtain ⟨c, n, rfl, rfl, h1, h2, q⟩ := h
  obtain ⟨t, rfl⟩ := rx
  obtain ⟨t', rfl⟩ := ry
  have hl : (⟨#[c]⟩ : Str).length = 1 := rfl
  refine PySem.P.mul_str (by rw [decide_eq_false (by omega), decide_eq_false (by omega)]; rfl) (fun _ _ => ?_) (fun _ _ => ?_) ?_
  · rw [hl]
    have e : (1 : Int) ≤ (2 ^ 63 - 1) / (n : Int) := by
      rw [Int.le_ediv_iff_mul_le (by omega)]
      omega
    show ¬ ((1 : Nat) : Int) > _
    omega
  · rw [hl]
    show Builtin.Str.tooLong (1 * (n : Int).toNat) = false
    unfold Builtin.Str.tooLong
    rw [Int.toNat_natCast]
    exact decide_eq_false (by rw [sizeLine_eq]; omega)
  · rw [if_neg (by omega)]
    by_cases e : n = 1
    · subst e
      rw [if_pos (by rfl)]
      exact ⟨.str ⟨#[c]⟩, H, I, ⟨t, rfl⟩, q⟩
    · rw [if_neg (by
        rw [hl, Bool.or_eq_true, beq_iff_eq, beq_iff_eq]
        omega)]
      have e1 : (⟨(List.replicate (n : Int).toNat (⟨#[c]⟩ : Str).cps).foldl (· ++ ·) #[]⟩ : Str) = ⟨(List.replicate n c).toArray⟩ := by
        rw [Int.toNat_natCast]
        show (⟨(List.replicate n #[c]).foldl (· ++ ·) #[]⟩ : Str) = _
        rw [fold_sign]
        simp
      rw [e1]
      refine ⟨?_, .str _, H, I.tok _, ⟨_, rfl⟩, q⟩
      show (List.replicate n c).toArray.size ≤ sizeLine
      rw [List.size_toArray, List.length_replicate, sizeLine_eq]
      omega
/-! ### enumerate(text) -/
def ItS (x : Str) : It :=
  ⟨fun i _ => i < x.cps.size, fun i H v H' => ∃ (T : Addr) (c : Nat), v = .ref T ∧ H T = none ∧ H' = upd H T (.tup [.int (i : Nat), .str ⟨#[c]⟩]) ∧ x.cps[i]? = some c, fun i _ => x.cps.size ≤ i⟩
theorem turn_enumS {P : Program} {w : World} {K : PySem.W.Frag} {elts : List Expr} {kk : Nat} {tpos : Pos} {x : Str} {t : Tok} (e it : Addr) :
    Turn P w K (.Tuple elts kk tpos) (ItS x) [e, it] e (fun i h => (∃ old, IsEnum h e it ((i : Nat) : Int) old) ∧ h.IsStrIter it "str_ascii_iterator" x t i ∧ e ≠ it ∧ i ≤ x.cps.size) where
  mem := by simp
  obj := fun i h st b hb => by
    obtain ⟨⟨old, he⟩, ⟨o, ho, hc, hd⟩, _⟩ := st
    have e' : b = e ∨ b = it := by simpa using hb
    rcases e' with z | z
    · rw [z]; exact ⟨_, he, fun v q => nomatch q⟩
    · rw [z]; exact ⟨o, ho, fun v q => by rw [hd] at q; cases q⟩
  keep := fun i h h' st k => let ⟨⟨old, he⟩, ⟨o, ho, r⟩, hne⟩ := st; ⟨⟨old, k e (by simp) _ he⟩, ⟨o, k it (by simp) o ho, r⟩, hne⟩
  item := by
    intro X hP hw hK hc i pins s σ H E I hf st hg
    subst hP hw hK
    obtain ⟨⟨old, he⟩, hit, hne, hle⟩ := st
    have hel : e < s.heap.objs.size := Heap.lt_size he
    have hil : it < s.heap.objs.size := by obtain ⟨_, q, _⟩ := hit; exact Heap.lt_size q
    refine wpAny_pyNext_enum_itemD (Draws.strAscii (prog := X.prog) (w := X.w) (A := X.A.in1) (I.ok.hd hc) it x t) he hit hg hne (by simpa using hne) fun u h' tk hu ho hit' hT hsz hk => ?_
    obtain ⟨c, tc, hc1, rfl⟩ := hu
    refine ⟨_, rfl, wpAny_letOwnedTupleGo_enum (s := { s with heap := h', toks := tk + 1 }) ho fun h'' he' sb => ?_⟩
    have hT2 : h''.get? s.heap.objs.size = some { cls := .type "tuple", data := .seq #[.int i tk, .str ⟨#[c]⟩ tc] } := (sb.2 _ (Nat.ne_of_gt hel)).trans hT
    have new : ObjOk X.prog X.w (upd H s.heap.objs.size (.tup [.int (i : Nat), .str ⟨#[c]⟩])) h'' s.heap.objs.size (.tup [.int (i : Nat), .str ⟨#[c]⟩]) :=
      ⟨by show 2 ≤ sizeLine; decide, [.int i tk, .str ⟨#[c]⟩ tc], .cons ⟨_, rfl⟩ (.cons ⟨_, rfl⟩ .nil), ⟨_, hT2, rfl, _, rfl⟩⟩
    have I1 : Inv X pins σ (upd H s.heap.objs.size (.tup [.int (i : Nat), .str ⟨#[c]⟩])) { s with heap := h'', toks := tk + 1 } :=
      I.turnedNew (ch := [e, it]) (fun b ob hb q => (sb.2 b (fun z => hb (by simp [z]))).trans (hk b ob (fun z => hb (by simp [z])) (fun z => hb (by simp [z])) q)) hf (Nat.le_refl _) new
    refine ⟨.ref s.heap.objs.size, _, I1, rfl, ⟨_, c, rfl, I.hok.fresh (Nat.le_refl _), rfl, hc1⟩, ⟨⟨.str ⟨#[c]⟩ tc, ?_⟩, ?_, hne, hg⟩, fun b hb => ?_⟩
    · have e1 : ((i + 1 : Nat) : Int) = (i : Int) + 1 := by omega
      rw [e1]; exact he'
    · obtain ⟨o, ho1, r⟩ := hit'
      exact ⟨o, (sb.2 it (Ne.symm hne)).trans ho1, r⟩
    · have hb' : b < s.heap.objs.size := by
        have e' : b = e ∨ b = it := by simpa using hb
        rcases e' with z | z
        · rw [z]; exact hel
        · rw [z]; exact hil
      rw [upd_ne (Nat.ne_of_lt hb')]
      exact (hf b hb).1
  done := by
    intro X hP hw hK hc i pins s σ H E I hf st hg
    subst hP hw hK
    obtain ⟨⟨old, he⟩, hit, hne, hle⟩ := st
    obtain ⟨f0, f1, f2, f3, f4, f5⟩ := hf it (by simp)
    have hi : i = x.cps.size := Nat.le_antisymm hle hg
    subst hi
    exact wpAny_pyNext_enum_endD (Draws.strAscii (prog := X.prog) (w := X.w) (A := X.A.in1) (I.ok.hd hc) it x t) he hit fun h' eb => ⟨rfl, I.turned (t' := s.toks) (fun b o hb q => eb b o hb q) f0 f1 f3 f4 f5⟩
  self := fun A i s Q E st h => let ⟨⟨_, he⟩, _⟩ := st; wpAny_pyIter_enum he h
def iEnumS (ta : TA) : TI := fun σ H R => ta σ H fun vs H1 => ∃ x : Str, vs = [.str x] ∧ x.cps.all (· < 128) = true ∧ R (ItS x) H1
theorem pi_enumS {e : Expr} {ta : TA} {p pos tpos : Pos} {elts : List Expr} {kk : Nat} (hg : Gl X "enumerate") (hm : X.mg "enumerate" = none) (ha : PA X [e] ta) (hs : starEach [e] X.env = [(false, eval e X.env)] := by rfl) :
    PI X (.Tuple elts kk tpos) (.Call (.Name "enumerate" p) [e] [] pos) (iEnumS ta) := by
  refine ⟨fun pins s σ H R I h => ?_⟩
  refine Call_ (ld_blt I hg hm boot_enumerate (PyProof.Rows.callWith_type1 (thn (ha.run pos pins s σ H _ I h) fun us s1 ⟨vs, H1, I1, r1, q1⟩ => ?_) hs rfl))
  obtain ⟨x, ex, hx, q⟩ := q1
  subst ex
  cases r1 with
  | cons r rr =>
    cases rr
    obtain ⟨t, rfl⟩ := r
    refine call_enumerate_str fun h' he hit hsz hk => wpAny_pyIter_enum he ?_
    have I2 : Inv X pins σ H1 { s1 with heap := h' } := I1.kept (t' := s1.toks) hk
    have ety : strIterType x = "str_ascii_iterator" := if_pos hx
    rw [ety] at hit
    refine ⟨s1.heap.objs.size + 1, [s1.heap.objs.size + 1, s1.heap.objs.size], _, _, H1, rfl, I2, turn_enumS (x := x) (t := t) (s1.heap.objs.size + 1) s1.heap.objs.size, ⟨⟨.none, he⟩, hit, Nat.succ_ne_self _, Nat.zero_le _⟩, fun b hb => ?_, q⟩
    have e' : b = s1.heap.objs.size + 1 ∨ b = s1.heap.objs.size := by simpa using hb
    have hle : s1.heap.objs.size ≤ b := by
      rcases e' with z | z
      · rw [z]; exact Nat.le_add_right _ _
      · rw [z]; exact Nat.le_refl _
    exact I1.fpOk hle (I1.hok.fresh hle)
end
end RX
end
/-! B1 -/
section
set_option Elab.async false
set_option linter.all false
set_option maxRecDepth 100000
namespace L2
theorem Room.u1 {k : Nat} {A : PySem.Around} (r : Room k A) : A.units + 1 < PySem.cLine := by have := r.un; omega
theorem Room.u8 {k : Nat} {A : PySem.Around} (r : Room k A) : A.units + 8 < PySem.cLine := by have := r.un; omega
end L2
namespace KK
open PySem PySem.Spec PyProof.Rows L2 KM
/-! ### loops over anything of n turns -/
theorem for_n {J : It} {n : Nat} {g : TG} {tb : TS} {D : Ends} {σ : L2.St} {H : Hp} (Pv : Nat → L2.St → Hp → Prop) (h0 : Pv 0 σ H) (go : ∀ i σ H, i < n → Pv i σ H → J.go i H) (stop : ∀ σ H, Pv n σ H → J.stop n H)
    (hs : ∀ i σ H x H', i < n → Pv i σ H → J.yld i H x H' → g x σ H' fun σ2 H2 => tb { D with nx := Pv (i + 1), ct := Pv (i + 1), bk := D.nx } σ2 H2) (hd : ∀ σ H, Pv n σ H → D.nx σ H) :
    ∃ W : Nat → Nat → L2.St → Hp → Prop, (∃ m, W 0 m σ H) ∧ ∀ i m σ H, W i m σ H →
      (J.stop i H ∧ D.nx σ H) ∨ (J.go i H ∧ ∃ N : L2.St → Hp → Prop, (∀ σ' H', N σ' H' → ∃ m', m' < m ∧ W (i + 1) m' σ' H') ∧ ∀ x H', J.yld i H x H' → g x σ H' fun σ2 H2 => tb { D with nx := N, ct := N, bk := D.nx } σ2 H2) := by
  refine ⟨fun i m σ H => m = n - i ∧ i ≤ n ∧ Pv i σ H, ⟨n, by simp, Nat.zero_le _, h0⟩, ?_⟩
  rintro i m σ H ⟨rfl, hi, p⟩
  rcases Nat.lt_or_eq_of_le hi with hlt | e
  · exact .inr ⟨go i σ H hlt p, Pv (i + 1), fun σ' H' p' => ⟨n - (i + 1), by omega, rfl, hlt, p'⟩, fun x H' y => hs i σ H x H' hlt p y⟩
  · subst e
    exact .inl ⟨stop σ H p, hd σ H p⟩
/-- the list D holds acc, for which P -/
def Acc (D : Addr) (P : List V → Hp → Prop) (H : Hp) : Prop := ∃ acc, H D = some (.lst acc) ∧ P acc H
def App (D : Addr) (P : List V → Hp → Prop) : VK := fun y H4 => ∃ acc, H4 D = some (.lst acc) ∧ acc.length < sizeLine ∧ Acc D P (upd H4 D (.lst (acc ++ [y])))
theorem App.of {D : Addr} {P : List V → Hp → Prop} {y : V} {H : Hp} {acc : List V} (h : H D = some (.lst acc)) (l : acc.length < 1000000) (p : P (acc ++ [y]) (upd H D (.lst (acc ++ [y])))) : App D P y H := ⟨acc, h, Nat.lt_of_lt_of_le l (by decide), acc ++ [y], upd_same, p⟩
theorem lc_n {J : It} {n : Nat} {g : TG} {tt : TT} {te : TE} {vs : List Nat} {σ : L2.St} {H1 : Hp} {D : Addr} {Qd : Hp → Prop} (Pv : Nat → List V → Hp → Prop) (h0 : Pv 0 [] (upd H1 D (.lst []))) (go : ∀ i acc H, i < n → Pv i acc H → J.go i H) (stop : ∀ acc H, Pv n acc H → J.stop n H)
    (hs : ∀ i acc H x H', i < n → H D = some (.lst acc) → Pv i acc H → J.yld i H x H' → g x (wipe σ vs) H' fun σ2 H2 => wipe σ2 vs = wipe σ vs ∧ tt σ2 H2 fun b H3 => if b = true then te σ2 H3 (App D (Pv (i + 1))) else Acc D (Pv (i + 1)) H3)
    (hd : ∀ acc H, H D = some (.lst acc) → Pv n acc H → Qd H) :
    ∃ W : Nat → Nat → Hp → Prop, (∃ m, W 0 m (upd H1 D (.lst []))) ∧ ∀ i m H, W i m H →
      (J.stop i H ∧ Qd H) ∨ (J.go i H ∧ ∃ Nx : Hp → Prop, (∀ H', Nx H' → ∃ m', m' < m ∧ W (i + 1) m' H') ∧ ∀ x H', J.yld i H x H' → g x (wipe σ vs) H' fun σ2 H2 => wipe σ2 vs = wipe σ vs ∧ tt σ2 H2 fun b H3 =>
        if b = true then te σ2 H3 fun y H4 => ∃ acc, H4 D = some (.lst acc) ∧ acc.length < sizeLine ∧ Nx (upd H4 D (.lst (acc ++ [y]))) else Nx H3) := by
  refine ⟨fun i m H => m = n - i ∧ i ≤ n ∧ Acc D (Pv i) H, ⟨n, by simp, Nat.zero_le _, [], upd_same, h0⟩, ?_⟩
  rintro i m H ⟨rfl, hi, acc, ha, p⟩
  rcases Nat.lt_or_eq_of_le hi with hlt | e
  · exact .inr ⟨go i acc H hlt p, Acc D (Pv (i + 1)), fun H' p' => ⟨n - (i + 1), by omega, rfl, hlt, p'⟩, fun x H' y => hs i acc H x H' hlt ha p y⟩
  · subst e
    exact .inl ⟨stop acc H p, hd acc H ha p⟩
theorem gx_n {J : It} {n : Nat} {g : TG} {tt : TT} {te : TE} {vs : List Nat} {σ : L2.St} {Ok : V → Prop} {cont : List V → Hp → Prop} {H : Hp} (Pv : Nat → List V → Hp → Prop) (h0 : Pv 0 [] H) (go : ∀ i ys H, i < n → Pv i ys H → J.go i H) (stop : ∀ ys H, Pv n ys H → J.stop n H)
    (hs : ∀ i ys H x H', i < n → Pv i ys H → J.yld i H x H' → g x (wipe σ vs) H' fun σ2 H2 => wipe σ2 vs = wipe σ vs ∧ tt σ2 H2 fun b H3 => if b = true then te σ2 H3 fun y H4 => Ok y ∧ Pv (i + 1) (ys ++ [y]) H4 else Pv (i + 1) ys H3)
    (hd : ∀ ys H, Pv n ys H → cont ys H) :
    ∃ W : Nat → Nat → List V → Hp → Prop, (∃ m, W 0 m [] H) ∧ GX.turnG J g tt te vs σ Ok cont W := by
  refine ⟨fun i m ys H => m = n - i ∧ i ≤ n ∧ Pv i ys H, ⟨n, by simp, Nat.zero_le _, h0⟩, ?_⟩
  rintro i m ys H ⟨rfl, hi, p⟩
  rcases Nat.lt_or_eq_of_le hi with hlt | e
  · exact .inr ⟨go i ys H hlt p, Pv (i + 1), fun ys' H' p' => ⟨n - (i + 1), by omega, rfl, hlt, p'⟩, fun x H' y => hs i ys H x H' hlt p y⟩
  · subst e
    exact .inl ⟨stop ys H p, hd ys H p⟩
/-! ### readings told in other words -/
theorem castPE {Z : Cx} {e : Expr} {t u : TE} (h : PE Z e t) (q : t = u) : PE Z e u := q ▸ h
theorem castPG {Z : Cx} {e : Expr} {t u : TG} (h : PG Z e t) (q : t = u) : PG Z e u := q ▸ h
theorem castPTs {Z : Cx} {es : List Expr} {t u : TT} (h : PTs Z es t) (q : t = u) : PTs Z es u := q ▸ h
theorem castPI {Z : Cx} {tg e : Expr} {t u : TI} (h : PI Z tg e t) (q : t = u) : PI Z tg e u := q ▸ h
/-! ### dicts of ints -/
abbrev IL := List (Int × Int)
def dk (ws : IL) : List (Key × V) := ws.map fun p => (Sum.inl p.1, V.int p.2)
theorem dk_len (ws : IL) : (dk ws).length = ws.length := by simp [dk]
theorem dk_get {ws : IL} {i : Nat} {k : Key} {v : V} (h : (dk ws)[i]? = some (k, v)) : ∃ a b, ws[i]? = some (a, b) ∧ k = .inl a ∧ v = .int b := by
  unfold dk at h
  rw [List.getElem?_map] at h
  obtain ⟨⟨a, b⟩, h1, h2⟩ := Option.map_eq_some_iff.mp h
  cases h2
  exact ⟨a, b, h1, rfl, rfl⟩
theorem dk_val (ws : IL) (k : Int) : (valV (dk ws) (.inl k)).getD (.int 0) = .int (getI ws k) := by
  induction ws with
  | nil => rfl
  | cons p r ih =>
    rw [getI_cons]
    show (valV ((Sum.inl p.1, V.int p.2) :: dk r) (.inl k)).getD _ = _
    by_cases e : p.1 = k
    · rw [valV_pos (by rw [e]), if_pos e]
      rfl
    · rw [valV_neg (fun z => e (Sum.inl.inj z)), if_neg e]
      exact ih
theorem dk_some {ws : IL} {k : Int} (h : k ∈ ws.map (·.1)) : valV (dk ws) (.inl k) = some (.int (getI ws k)) := by
  induction ws with
  | nil => cases h
  | cons p r ih =>
    rw [getI_cons]
    show valV ((Sum.inl p.1, V.int p.2) :: dk r) (.inl k) = _
    by_cases e : p.1 = k
    · rw [valV_pos (by rw [e]), if_pos e]
    · rw [valV_neg (fun z => e (Sum.inl.inj z)), if_neg e]
      refine ih ?_
      rcases List.mem_cons.mp h with z | z
      · exact absurd z.symm e
      · exact z
theorem putK_cons {κ : Type} [DecidableEq κ] (j k : κ) (x v : V) (r : List (κ × V)) (nd : j ∉ r.map (·.1)) : putK ((j, x) :: r) k v = if j = k then (j, v) :: r else (j, x) :: putK r k v := by
  unfold putK
  rw [List.any_cons]
  by_cases e : j = k
  · rw [decide_eq_true e, Bool.true_or, if_pos rfl, if_pos e, List.map_cons, if_pos e]
    have : r.map (fun kv => if kv.1 = k then (kv.1, v) else kv) = r := by
      refine (List.map_congr_left fun p hp => ?_).trans (List.map_id _)
      exact if_neg fun z => nd (by rw [e, ← z]; exact List.mem_map_of_mem hp)
    rw [this]
  · rw [decide_eq_false e, Bool.false_or, if_neg e, List.map_cons, if_neg e]
    split <;> rfl
theorem dk_put {ws : IL} (k v : Int) (nd : (ws.map (·.1)).Nodup) : putK (dk ws) (.inl k) (.int v) = dk (putI ws k v) := by
  induction ws with
  | nil => rfl
  | cons p r ih =>
    obtain ⟨j, x⟩ := p
    rw [List.map_cons, List.nodup_cons] at nd
    show putK ((Sum.inl j, V.int x) :: dk r) (.inl k) (.int v) = _
    rw [putK_cons _ _ _ _ _ (fun z => ?_), ih nd.2]
    · show _ = dk (if j = k then (j, v) :: r else (j, x) :: putI r k v)
      by_cases e : j = k
      · rw [if_pos e, if_pos (by rw [e])]; rfl
      · rw [if_neg e, if_neg (fun z => e (Sum.inl.inj z))]; rfl
    · unfold dk at z
      rw [List.map_map] at z
      obtain ⟨q, h1, h2⟩ := List.mem_map.mp z
      refine nd.1 (List.mem_map.mpr ⟨q, h1, ?_⟩)
      exact Sum.inl.inj h2
theorem merge_app {κ : Type} [DecidableEq κ] : ∀ (b a : List (κ × V)), ((a ++ b).map (·.1)).Nodup → b.foldl (fun acc kv => putK acc kv.1 kv.2) a = a ++ b
  | [], a, _ => by simp
  | p :: b, a, nd => by
    rw [List.foldl_cons]
    have e : putK a p.1 p.2 = a ++ [p] := by
      refine putK_new p.2 ?_
      rw [← Option.not_isSome_iff_eq_none, ← valV_any]
      intro z
      obtain ⟨q, h1, h2⟩ := List.any_eq_true.mp z
      rw [List.map_append, List.nodup_append] at nd
      exact nd.2.2 _ (List.mem_map_of_mem h1) _ (List.mem_map_of_mem List.mem_cons_self) (of_decide_eq_true h2)
    rw [e, merge_app b (a ++ [p]) (by simpa using nd)]
    simp
theorem mergeK_nd {kvs : List (Key × V)} (nd : (kvs.map (·.1)).Nodup) : mergeK [] kvs = kvs := by
  have e := merge_app kvs [] (by simpa using nd)
  simpa [mergeK] using e
theorem nodup_inj {α β : Type} {f : α → β} (hf : ∀ a b, f a = f b → a = b) : ∀ {l : List α}, l.Nodup → (l.map f).Nodup
  | [], _ => List.nodup_nil
  | a :: l, nd => by
    rw [List.nodup_cons] at nd
    rw [List.map_cons, List.nodup_cons]
    refine ⟨fun z => ?_, nodup_inj hf nd.2⟩
    obtain ⟨b, h1, h2⟩ := List.mem_map.mp z
    rw [hf _ _ h2] at h1
    exact nd.1 h1
theorem dk_nd {ws : IL} (nd : (ws.map (·.1)).Nodup) : ((dk ws).map (·.1)).Nodup := by
  unfold dk
  rw [List.map_map]
  have e : (ws.map ((fun p : Key × V => p.1) ∘ fun p : Int × Int => (Sum.inl p.1, V.int p.2))) = (ws.map (·.1)).map (Sum.inl : Int → Key) := by rw [List.map_map]; rfl
  rw [e]
  exact nodup_inj (fun _ _ z => Sum.inl.inj z) nd
theorem dk_vals (ws : IL) : (dk ws).map (·.2) = (ws.map (·.2)).map V.int := by unfold dk; rw [List.map_map, List.map_map]; rfl
theorem dk_keys (ws : IL) : (dk ws).map (·.1) = (ws.map (·.1)).map Sum.inl := by unfold dk; rw [List.map_map, List.map_map]; rfl
theorem sum_vals (ws : IL) : (ws.map (·.2)).sum = ms ws fun _ => 1 := by
  unfold ms
  congr 1
  exact List.map_congr_left fun p _ => (Int.mul_one _).symm
/-! ### defs whose code is known -/
structure FunC (K : PySem.W.Frag) (x qual : Str) (st : Stmt) (f : Addr) (fd : FuncData) (c : Addr) : Prop where
  ex : ∃ (oc : Value) (od : Option Addr) (dV kV doc pm : Value) (an : Option Addr) (ct : Value) (osl : Array (Option Value)),
    fd = PySem.W.fnOf x qual (C8.fnArgs st) (C8.fnBody st) (C8.fnScope st) dV kV doc pm an (.ref c) ct ∧ K.lookup f = some ⟨oc, od, .func fd, osl⟩ ∧ PySem.W.codeIn K (.ref c) qual = true
section
variable {P : Program} {w : World} {K : PySem.W.Frag} {mg : Str → Option Value} {base : Heap}
theorem fnC {x qual : Str} {st : Stmt} {f c : Addr} {fd : FuncData} {N ps : List Str} {k : Nat} {sp : Sp} (F : FunC K x qual st f fd c) (S : FnScope N ps (C8.fnScope st)) (len : ∀ vs H Q E, sp vs H Q E → vs.length = ps.length)
    (hbody : ∀ (A : Around) (outer : List Env) (s : Shared) (H : Hp) (vs : List V) (Q : VK) (E : XK), Room k (A.deeper (envOfC qual (C8.fnScope st) s.heap.objs.size f (.ref c))) → sp vs H Q E →
      ∃ t, PSs (cxOf C8.CX0 P w K mg base N qual (C8.fnScope st) f (.ref c) A outer s H E).nox (C8.fnBody st) t ∧ t { nx := fun _ H' => Q .non H', rt := Q } (start N vs) H) : FnOk P w K mg base C8.CX0 (k + 1) f fd ps sp := by
  obtain ⟨oc, od, dV, kV, doc, pm, an, ct, osl, rfl, lk, hcd⟩ := F.ex
  refine fn_of lk hcd S len fun A outer s H vs Q E hr hsp => ?_
  obtain ⟨t, h, q⟩ := hbody A outer s H vs Q E hr hsp
  exact ⟨t, h.nox, q⟩
theorem calC {x : Str} {st : Stmt} {f c : Addr} {fd : FuncData} {N ps : List Str} {k : Nat} {sp : Sp} (F : FunC K x x st f fd c) (hm : mg x = some (.ref f)) (kp : PySem.W.keepIn K (.ref f) = true) (b : Binds K fd ps []) (S : FnScope N ps (C8.fnScope st)) (len : ∀ vs H Q E, sp vs H Q E → vs.length = ps.length)
    (hbody : ∀ (A : Around) (outer : List Env) (s : Shared) (H : Hp) (vs : List V) (Q : VK) (E : XK), Room k (A.deeper (envOfC x (C8.fnScope st) s.heap.objs.size f (.ref c))) → sp vs H Q E →
      ∃ t, PSs (cxOf C8.CX0 P w K mg base N x (C8.fnScope st) f (.ref c) A outer s H E).nox (C8.fnBody st) t ∧ t { nx := fun _ H' => Q .non H', rt := Q } (start N vs) H) : C8.Cal P w K mg base (k + 1) x sp [] :=
  ⟨f, fd, ps, [], fnC F S len hbody, hm, kp, b, .nil⟩
theorem metC {m qual : Str} {C : Addr} {st : Stmt} {f c : Addr} {fd : FuncData} {N ps : List Str} {k : Nat} {sp : Sp} (cl : Cls K C) (me : Meth K C m f) (F : FunC K m qual st f fd c) (b : Binds K fd ps []) (S : FnScope N ps (C8.fnScope st)) (len : ∀ vs H Q E, sp vs H Q E → vs.length = ps.length)
    (hbody : ∀ (A : Around) (outer : List Env) (s : Shared) (H : Hp) (vs : List V) (Q : VK) (E : XK), Room k (A.deeper (envOfC qual (C8.fnScope st) s.heap.objs.size f (.ref c))) → sp vs H Q E →
      ∃ t, PSs (cxOf C8.CX0 P w K mg base N qual (C8.fnScope st) f (.ref c) A outer s H E).nox (C8.fnBody st) t ∧ t { nx := fun _ H' => Q .non H', rt := Q } (start N vs) H) : C8.Met P w K mg base (k + 1) C m sp [] :=
  ⟨f, fd, ps, [], cl, me, fnC F S len hbody, b, .nil⟩
theorem makC {x qual : Str} {C : Addr} {st : Stmt} {f c : Addr} {fd : FuncData} {N ps : List Str} {k : Nat} {sp : Sp} (M : Mk K C f) (hm : mg x = some (.ref C)) (F : FunC K "__init__" qual st f fd c) (b : Binds K fd ps []) (S : FnScope N ps (C8.fnScope st)) (len : ∀ vs H Q E, sp vs H Q E → vs.length = ps.length)
    (hbody : ∀ (A : Around) (outer : List Env) (s : Shared) (H : Hp) (vs : List V) (Q : VK) (E : XK), Room k (A.deeper (envOfC qual (C8.fnScope st) s.heap.objs.size f (.ref c))) → sp vs H Q E →
      ∃ t, PSs (cxOf C8.CX0 P w K mg base N qual (C8.fnScope st) f (.ref c) A outer s H E).nox (C8.fnBody st) t ∧ t { nx := fun _ H' => Q .non H', rt := Q } (start N vs) H) : C8.Mak P w K mg base (k + 1) x C sp [] :=
  ⟨f, fd, ps, [], M, fnC F S len hbody, hm, b, .nil⟩
end
end KK
end
/-! K2 -/
section
set_option Elab.async false
set_option linter.all false
set_option maxRecDepth 100000
namespace KK
open PySem PySem.Spec PyProof.Rows L2 KM
/-- a class's suite -/
def inClass (st : Stmt) (k : Nat) : Stmt := (C8.clsBody st).getD k (.Pass ⟨0, 0, 0, 0⟩)
section
variable {P : Program} {w : World} {K : PySem.W.Frag} {mg : Str → Option Value} {base : Heap}
theorem Ex.rfl' {H : Hp} : Ex H H := Evl.Ex.refl H
theorem map_int_inj : ∀ {a b : List Int}, a.map V.int = b.map V.int → a = b
  | [], [], _ => rfl
  | [], _ :: _, h => by cases h
  | _ :: _, [], h => by cases h
  | x :: a, y :: b, h => by
    rw [List.map_cons, List.map_cons] at h
    injection h with h1 h2
    rw [V.int.inj h1, map_int_inj h2]
/-! ### lists of pairs -/
def Prs (K : PySem.W.Frag) (H : Hp) (acc : List V) (kvs : List (Key × V)) : Prop := ∃ ps : List Addr, acc = ps.map V.ref ∧ Paired (fun p kv => SqT K H p [kV kv.1, kv.2]) ps kvs
theorem Prs.nil {H : Hp} : Prs K H [] [] := ⟨[], rfl, .nil⟩
theorem Prs.ex {H H' : Hp} {acc : List V} {kvs : List (Key × V)} (h : Prs K H acc kvs) (e : Ex H H') : Prs K H' acc kvs := by
  obtain ⟨ps, h1, h2⟩ := h
  exact ⟨ps, h1, Paired.mapP h2 fun _ _ z => Evl.ex_t e z⟩
theorem Prs.mut {H : Hp} {acc : List V} {kvs : List (Key × V)} {D : Addr} {l : List V} {o : HO} (h : Prs K H acc kvs) (hD : H D = some (.lst l)) : Prs K (upd H D o) acc kvs := by
  obtain ⟨ps, h1, h2⟩ := h
  refine ⟨ps, h1, Paired.mapP h2 fun p kv z => ?_⟩
  have ne : ∀ u, Rd H p u → p = D → u = .lst l := fun u r e => by
    subst e
    rcases r with r | ⟨ob, r⟩
    · exact Option.some.inj (r.symm.trans hD)
    · rw [hD] at r; cases r
  rcases z with z | z
  · have np : p ≠ D := fun e => nomatch ne _ z e
    rcases z with z | ⟨ob, z⟩
    · exact .inl (.inl ((upd_ne np).trans z))
    · exact .inl (.inr ⟨ob, (upd_ne np).trans z⟩)
  · exact .inr z
theorem Paired.snoc' {α β : Type} {F : α → β → Prop} : ∀ {xs : List α} {ys : List β} {x : α} {y : β}, Paired F xs ys → F x y → Paired F (xs ++ [x]) (ys ++ [y])
  | _, _, _, _, .nil, h => .cons h .nil
  | _, _, _, _, .cons a t, h => .cons a (Paired.snoc' t h)
theorem Prs.snoc {H : Hp} {acc : List V} {kvs : List (Key × V)} {p : Addr} {k : Key} {v : V} (h : Prs K H acc kvs) (hp : SqT K H p [kV k, v]) : Prs K H (acc ++ [.ref p]) (kvs ++ [(k, v)]) := by
  obtain ⟨ps, rfl, h2⟩ := h
  exact ⟨ps ++ [p], by simp, Paired.snoc' h2 hp⟩
theorem Prs.len {H : Hp} {acc : List V} {kvs : List (Key × V)} (h : Prs K H acc kvs) : acc.length = kvs.length := by
  obtain ⟨ps, rfl, h2⟩ := h
  rw [List.length_map, Paired.length h2]
/-- a pair is made and appended -/
theorem prs_step {B H : Hp} {D p : Addr} {acc : List V} {kvs kvs' : List (Key × V)} {k : Key} {v : V} (hD : H D = some (.lst acc)) (h : Prs K H acc kvs) (hp : H p = none) (e : Ex B H) (hB : B D = none) (l : kvs.length < 1000000) (ek : kvs' = kvs ++ [(k, v)]) :
    App D (fun acc H' => Prs K H' acc kvs' ∧ Ex B H') (.ref p) (upd H p (.tup [kV k, v])) := by
  subst ek
  have hD' : upd H p (.tup [kV k, v]) D = some (.lst acc) := (upd_ne (ne_of_none hD hp)).trans hD
  have e1 : Ex H (upd H p (.tup [kV k, v])) := Evl.Ex.new hp
  exact App.of hD' (by rw [h.len]; exact l) ⟨((h.ex e1).snoc (Evl.st_of upd_same)).mut hD', Evl.Ex.mut (e.trans e1) hB⟩
theorem dk_snoc {ws : IL} {i : Nat} {a b : Int} (h : ws[i]? = some (a, b)) : dk (ws.take (i + 1)) = dk (ws.take i) ++ [(.inl a, .int b)] := by
  rw [List.take_add_one, h]
  simp [dk]
theorem iteN {p q : Prop} {b : Bool} (h : b = false) (hq : q) : if b = true then p else q := by subst h; exact hq
theorem iteY {p q : Prop} {b : Bool} (h : b = true) (hp : p) : if b = true then p else q := by subst h; exact hp
/-! ### Spread -/
abbrev s_Spread_init : Stmt := inClass (top 20) 0
abbrev N_Spread_init : List Str := ["self", "weights", "weight", "rows", "by", "value"]
theorem sc_Spread_init : FnScope N_Spread_init ["self", "weights"] (C8.fnScope s_Spread_init) := C8.fnScope_by (by decide +kernel)
-- slots: self=0 weights=1 weight=2 rows=3c by=4c value=5
def spInit (CS : Addr) : Sp := fun vs H Q _ => ∃ (x dx wd : Addr) (rows : IL), vs = [.ref x, .ref wd] ∧ H x = some (.ins CS dx []) ∧ Rd H wd (.dK (dk rows)) ∧ (rows.map (·.1)).Nodup ∧ (∀ p ∈ rows, 0 ≤ p.2) ∧ (∃ p ∈ rows, 0 < p.2) ∧ rows.length ≤ 100000 ∧ (∀ p ∈ rows, Lt2 p.2 8000) ∧
  ∀ (H' : Hp) (ws : IL) (w' : Addr) (od : Obj), (∀ b o, b ≠ x → H b = some o → H' b = some o) → H' x = some (.ins CS dx [("weights", .ref w'), ("whole", .int (ms ws fun _ => 1))]) → H' w' = some (.frz od (.dK (dk ws))) → Nrm ws → (∃ g : Int, 0 < g ∧ ∀ φ, g * ms ws φ = ms rows φ) → ws.length ≤ rows.length → Q .non H'
theorem m_Spread {CS f : Addr} {fd : FuncData} (T : Tx K mg) (M : Mk K CS f) (hm : mg "Spread" = some (.ref CS)) (Fi : C8.Fun K "__init__" "Spread.__init__" s_Spread_init f fd) (bf : Binds K fd ["self", "weights"] []) (cl : Cls K CS) (aw : NoAttr K CS "weights") (ah : NoAttr K CS "whole") (c_shared : C8.Cal P w K mg base 1 "shared" spShared []) : C8.Mak P w K mg base 2 "Spread" CS (spInit CS) [] := by
  refine C8.mak0 M hm Fi bf .nil sc_Spread_init (fun vs H Q E h => ?_) (fun cdv A outer s H vs Q E hr h => ?_)
  · obtain ⟨_, _, _, _, rfl, _⟩ := h; rfl
  · obtain ⟨x, dx, wd, rows, rfl, hx, hw, nd, nn, hpos, hlen, hsm, k⟩ := h
    refine ⟨_, (pss_cons (ps_set (i := 3) sc_Spread_init.nd rfl (Or.inr rfl) (pe_callTy (call_dictP rfl) (by rfl) T.n_dict (by decide +kernel) (pa_cons (pe_lc (own := [("value", 5), ("weight", 2)]) rfl sc_Spread_init.nd (pi_items (RX.pe_frz (pe_callTy call_dictD (by rfl) T.n_dict (by decide +kernel) (pa_cons (pv 1) pa_nil)))) (by first | exact blkOk_by (N := N_Spread_init) (sc := C8.fnScope s_Spread_init) (by decide +kernel) | exact blkOk_by (by rfl)) (fun _ _ _ _ _ => castPG (pg_tup (n := 2) rfl (pgs_cons (pg_name (i := 5) sc_Spread_init.nd rfl (Or.inl rfl) (by first | exact Or.inr rfl | exact Or.inl rfl)) (pgs_cons (pg_name (i := 2) sc_Spread_init.nd rfl (Or.inl rfl) (by first | exact Or.inr rfl | exact Or.inl rfl)) pgs_nil))) (by first | (dsimp only [Cx.blk]; done) | rfl)) (fun _ _ _ _ _ => castPTs (pts_one (pt_cmpR op_ne (pv 2) pe_int (nomark _))) (by first | (dsimp only [Cx.blk]; done) | rfl)) (fun _ _ _ _ _ => castPE (pe_tup (pa_cons (pv 5) (pa_cons (pv 2) pa_nil))) (by first | (dsimp only [Cx.blk]; done) | rfl))) pa_nil)))
      (pss_cons (ps_if (PW.pt (pw_or (pt_cmpR (RX.op_eqE hr.units0) (pv 3) pe_dnewK (nomark _)) (pw_or1 (pt_cmpR op_lt (pe_minVals rfl (by rfl) T.n_min (pv 3)) pe_int (nomark _))))) pss_never pss_nil)
      (pss_cons (ps_set (i := 4) sc_Spread_init.nd rfl (Or.inr rfl) pe_int)
      (pss_cons (ps_for PassesOwn.never rfl (pi_values (RX.pe_frz (pv 3))) (pg_name (i := 2) sc_Spread_init.nd rfl (Or.inl rfl) (by exact Or.inl rfl))
      (pss_one (ps_set (i := 4) sc_Spread_init.nd rfl (Or.inr rfl) (C8.pe_c c_shared hr (by omega) (by rfl) (pa_cons (pv 4) (pa_cons (pv 2) pa_nil))))))
      (pss_cons (ps_fld (pv 0) (RX.pe_frz (pe_callTy (call_dictP rfl) (by rfl) T.n_dict (by decide +kernel) (pa_cons (pe_lc (own := [("value", 5)]) rfl sc_Spread_init.nd (pi_list (pe_callB (RX.call_sortedD rfl) (by rfl) T.n_sorted (by decide +kernel) (pa_cons (pv 3) pa_nil))) (by first | exact blkOk_by (N := N_Spread_init) (sc := C8.fnScope s_Spread_init) (by decide +kernel) | exact blkOk_by (by rfl)) (fun _ _ _ _ _ => castPG (pg_name (i := 5) sc_Spread_init.nd rfl (Or.inl rfl) (by first | exact Or.inr rfl | exact Or.inl rfl)) (by first | (dsimp only [Cx.blk]; done) | rfl)) (fun _ _ _ _ _ => castPTs (pts_nil) (by first | (dsimp only [Cx.blk]; done) | rfl)) (fun _ _ _ _ _ => castPE (pe_tup (pa_cons (pv 5) (pa_cons (pe_op op_fdivW (pe_dget hr.u1 (pv 3) (pv 5) (fun _ _ => rfl)) (pv 4)) pa_nil))) (by first | (dsimp only [Cx.blk]; done) | rfl))) pa_nil))) rfl)
      (pss_one (ps_fld (pv 0) (RX.pe_sumVals rfl (by rfl) T.n_sum (pe_fld (pv 0) rfl)) rfl))))))), ?_⟩
    refine ⟨_, rfl, wd, dk rows, rfl, hw, fun d hd => ⟨d, _, rfl, upd_same, trivial, fun od => ⟨d, od, dk rows, rfl, upd_same, fun D hD => ?_⟩⟩⟩
    rw [upd_upd] at hD ⊢
    have e0 : Ex H (upd H d (.frz od (.dK (dk rows)))) := Evl.Ex.new hd
    have dD : d ≠ D := ne_of_none (o := .frz od (.dK (dk rows))) upd_same hD
    refine lc_n (n := rows.length) (fun i acc H' => Prs K H' acc (dk ((rows.take i).filter fun p => decide (p.2 ≠ 0))) ∧ Ex (upd H d (.frz od (.dK (dk rows)))) H') ⟨.nil, Evl.Ex.new hD⟩ (fun i acc H' hi p => ⟨p.2 _ _ upd_same, by rw [dk_len]; exact hi⟩) (fun acc H' p => ⟨p.2 _ _ upd_same, by rw [dk_len]; exact Nat.le_refl _⟩) (fun i acc H1 u H2 hi hacc p hy => ?_) (fun acc H1 hacc p => ?_)
    · obtain ⟨T0, kk, vv, hk, rfl, hT, rfl⟩ := hy
      obtain ⟨a, b, hab, rfl, rfl⟩ := dk_get hk
      have e1 : Ex H1 (upd H1 T0 (.tup [kV (Sum.inl a), .int b])) := Evl.Ex.new hT
      have tk := List.take_add_one (l := rows) (i := i)
      rw [hab] at tk
      refine ⟨T0, _, rfl, Evl.st_of upd_same, rfl, _, _, rfl, _, _, rfl, rfl, rfl, _, rfl, rfl, _, rfl, ?_⟩
      rw [decV]
      by_cases z : b = 0
      · refine iteN (by rw [decide_eq_true z]; rfl) ⟨acc, (upd_ne (ne_of_none hacc hT)).trans hacc, ?_, p.2.trans e1⟩
        have ef : (rows.take (i + 1)).filter (fun p => decide (p.2 ≠ 0)) = (rows.take i).filter (fun p => decide (p.2 ≠ 0)) := by
          rw [tk]
          simp [z]
        rw [ef]
        exact p.1.ex e1
      · refine iteY (by rw [decide_eq_false z]; rfl) ⟨_, rfl, _, rfl, (by show 2 ≤ sizeLine; decide), fun q hq => ?_⟩
        refine prs_step ((upd_ne (ne_of_none hacc hT)).trans hacc) (p.1.ex e1) hq (p.2.trans e1) hD ?_ ?_
        · rw [dk_len]
          have h1 := List.length_filter_le (fun p : Int × Int => decide (p.2 ≠ 0)) (rows.take i)
          have h2 := List.length_take_le i rows
          omega
        · rw [tk]
          simp [z, dk]
    · rw [List.take_length] at p
      have ndf : ((rows.filter fun p => decide (p.2 ≠ 0)).map (·.1)).Nodup := nd.sublist (List.Sublist.map _ List.filter_sublist)
      obtain ⟨ps, rfl, hps⟩ := p.1
      refine ⟨D, ps, _, rfl, Evl.sq_of hacc, hps, fun r hr => ?_⟩
      rw [mergeK_nd (dk_nd ndf)]
      have hdr : H1 d = some (.frz od (.dK (dk rows))) := p.2 _ _ upd_same
      generalize hfl : (rows.filter fun p => decide (p.2 ≠ 0)) = fl at *
      have pos : ∀ p ∈ fl, 0 < p.2 := fun q hq => by
        rw [← hfl] at hq
        obtain ⟨h1, h2⟩ := List.mem_filter.mp hq
        have := nn q h1
        have := of_decide_eq_true h2
        omega
      have ne : fl ≠ [] := fun z => by
        obtain ⟨q, h1, h2⟩ := hpos
        have : q ∈ fl := by rw [← hfl]; exact List.mem_filter.mpr ⟨h1, decide_eq_true (by omega)⟩
        rw [z] at this
        cases this
      have hms : ∀ φ, ms fl φ = ms rows φ := fun φ => by rw [← hfl]; exact ms_filter rows φ
      have hll : fl.length ≤ rows.length := by rw [← hfl]; exact List.length_filter_le _ _
      -- rows == {} or min(rows.values()) < 0
      refine ⟨_, rfl, fun q hq => ?_⟩
      have hrq : r ≠ q := ne_of_none (o := .dK (dk fl)) upd_same hq
      have hr1 : upd (upd H1 r (.dK (dk fl))) q (.dK []) r = some (.dK (dk fl)) := (upd_ne hrq).trans upd_same
      refine ⟨r, q, dk fl, rfl, rfl, .inl hr1, upd_same, fun z => ne (List.map_eq_nil_iff.mp z), _, rfl, iteF ⟨_, rfl, r, dk fl, fl.map (·.2), rfl, hr1, dk_vals fl, fun z => ne (List.map_eq_nil_iff.mp z), fun mn hmn _ => ⟨_, _, rfl, rfl, _, rfl, ?_⟩⟩⟩
      have hmn0 : ¬ mn < 0 := by
        obtain ⟨q1, h1, h2⟩ := List.mem_map.mp hmn
        have := pos q1 h1
        omega
      rw [decide_eq_false hmn0]
      refine iteF ⟨_, rfl, r, _, rfl, hr1, trivial, fun od2 => ⟨r, od2, dk fl, rfl, upd_same, ?_⟩⟩
      have eB : Ex H1 (upd (upd (upd H1 r (.dK (dk fl))) q (.dK [])) r (.frz od2 (.dK (dk fl)))) := Evl.Ex.mut (Evl.Ex.mut (Evl.Ex.new hr) (by
        cases e : H1 q with
        | none => rfl
        | some u =>
          have := (Evl.Ex.new hr (o := HO.dK (dk fl))) q u e
          rw [this] at hq
          cases hq)) hr
      have eH : Ex H (upd (upd (upd H1 r (.dK (dk fl))) q (.dK [])) r (.frz od2 (.dK (dk fl)))) := (e0.trans p.2).trans eB
      have hB : upd (upd (upd H1 r (.dK (dk fl))) q (.dK [])) r (.frz od2 (.dK (dk fl))) r = some (.frz od2 (.dK (dk fl))) := upd_same
      generalize (upd (upd (upd H1 r (.dK (dk fl))) q (.dK [])) r (.frz od2 (.dK (dk fl)))) = B at eH hB
      refine for_n (n := fl.length) (fun i σ' H' => ∃ (o : Option V) (g : Int), σ' = [some (.ref x), some (.ref wd), o, some (.ref r), some (.int g), none] ∧ Ex B H' ∧ 0 ≤ g ∧ (0 < i → 0 < g) ∧ (∀ p ∈ fl.take i, g ∣ p.2) ∧ ∀ c : Int, (∀ p ∈ fl.take i, c ∣ p.2) → c ∣ g)
        ⟨_, 0, rfl, Evl.Ex.refl _, by omega, fun z => absurd z (by omega), fun p hp => by simp at hp, fun c _ => Int.dvd_zero c⟩ (fun i σ' H' hi ⟨_, _, _, e, _⟩ => ⟨e _ _ hB, by rw [dk_len]; exact hi⟩) (fun σ' H' ⟨_, _, _, e, _⟩ => ⟨e _ _ hB, by rw [dk_len]; exact Nat.le_refl _⟩) ?_ ?_
      · rintro i _ H' u H2 hi ⟨o, g, rfl, e, g0, gp, gd, gm⟩ ⟨rfl, kk, hk⟩
        obtain ⟨a, b, hab, rfl, rfl⟩ := dk_get hk
        have tk := List.take_add_one (l := fl) (i := i)
        rw [hab] at tk
        have hb : 0 < b := pos (a, b) (List.mem_of_getElem? hab)
        refine ⟨_, rfl, _, rfl, g, b, rfl, g0, by omega, ?_⟩
        refine ⟨_, (Int.gcd g b : Nat), rfl, e, by omega, fun _ => ?_, fun q hq => ?_, fun c hc => ?_⟩
        · have := Int.gcd_pos_of_ne_zero_right g (show b ≠ 0 by omega)
          omega
        · rw [tk] at hq
          rcases List.mem_append.mp hq with hq | hq
          · exact Int.dvd_trans (Int.gcd_dvd_left g b) (gd q hq)
          · have := List.mem_singleton.mp (show q ∈ [(a, b)] from by simpa using hq)
            rw [this]
            exact Int.gcd_dvd_right g b
        · rw [tk] at hc
          exact Int.dvd_coe_gcd (gm c fun q hq => hc q (List.mem_append_left _ hq)) (hc (a, b) (List.mem_append_right _ (by simp)))
      · rintro _ H' ⟨o, g, rfl, e, g0, gp, gd, gm⟩
        rw [List.take_length] at gd gm
        have hflp : 0 < fl.length := List.length_pos_iff.mpr ne
        have gpos := gp hflp
        obtain ⟨p0, hp0⟩ : ∃ p0, p0 ∈ fl := List.exists_mem_of_ne_nil fl ne
        have hsm' : ∀ q ∈ fl, Lt2 q.2 8000 := fun q hq => hsm q (by rw [← hfl] at hq; exact (List.mem_filter.mp hq).1)
        have glt : Lt2 g 8000 := (hsm' p0 hp0).le g0 (Int.le_of_dvd (pos p0 hp0) (gd p0 hp0))
        have hr' : H' r = some (.frz od2 (.dK (dk fl))) := e _ _ hB
        refine ⟨_, rfl, r, dk fl, fl.map (·.1), rfl, .inr ⟨od2, hr'⟩, dk_keys fl, fun ns' p2 hperm hsrt hp2 => ⟨p2, rfl, ⟨_, Evl.sq_of upd_same⟩, fun D2 hD2 => ?_⟩⟩
        have hs2 : upd H' p2 (.lst (ns'.map V.int)) p2 = some (.lst (ns'.map V.int)) := upd_same
        have e2 : Ex B (upd H' p2 (.lst (ns'.map V.int))) := e.trans (Evl.Ex.new hp2)
        generalize (upd H' p2 (.lst (ns'.map V.int))) = B2 at hs2 e2 hD2
        refine lc_n (n := ns'.length) (fun i acc H3 => Prs K H3 acc (dk ((ns'.take i).map fun k => (k, getI fl k / g))) ∧ Ex B2 H3) ⟨.nil, Evl.Ex.new hD2⟩ (fun i acc H3 hi p => ?_) (fun acc H3 p => ⟨_, Evl.sq_of (p.2 _ _ hs2), by simp⟩) (fun i acc H3 u H4 hi hacc p hy => ?_) (fun acc H3 hacc p => ?_)
        · exact ⟨_, .int (ns'[i]), Evl.sq_of (p.2 _ _ hs2), by rw [List.getElem?_map, List.getElem?_eq_getElem hi]; rfl⟩
        · obtain ⟨rfl, hu⟩ := hy
          have hu' := hu _ (Evl.sq_of (p.2 _ _ hs2))
          rw [List.getElem?_map, List.getElem?_eq_getElem hi] at hu'
          obtain rfl : V.int ns'[i] = u := Option.some.inj hu'
          have tk := List.take_add_one (l := ns') (i := i)
          rw [List.getElem?_eq_getElem hi] at tk
          have hmem : ns'[i] ∈ fl.map (·.1) := hperm.mem_iff.mp (List.getElem_mem hi)
          refine ⟨rfl, ⟨_, rfl, _, rfl, _, rfl, r, .int (getI fl ns'[i]), rfl, .inl ⟨dk fl, .inl ns'[i], .inr ⟨od2, p.2 _ _ (e2 _ _ hB)⟩, rfl, (dk_some hmem).symm⟩, _, rfl, _, _, rfl, rfl, dw gpos glt, (by show 2 ≤ sizeLine; decide), fun q2 hq2 => ?_⟩⟩
          refine prs_step (k := .inl ns'[i]) (v := .int (getI fl ns'[i] / g)) hacc p.1 hq2 p.2 hD2 ?_ ?_
          · rw [dk_len, List.length_map]
            have h1 := List.length_take_le i ns'
            have h2 := hperm.length_eq
            rw [List.length_map] at h2
            omega
          · rw [tk, Option.toList_some, List.map_append]
            unfold dk
            rw [List.map_append]
            rfl
        · rw [List.take_length] at p
          obtain ⟨hN, hg⟩ := nrm_make ndf pos ne hperm hsrt gpos gd gm
          have hwl : (ns'.map fun k => (k, getI fl k / g)).length = fl.length := by
            have h2 := hperm.length_eq
            rw [List.length_map] at h2 ⊢
            exact h2
          generalize (ns'.map fun k => (k, getI fl k / g)) = ws at p hN hg hwl
          obtain ⟨ps, rfl, hps⟩ := p.1
          refine ⟨D2, ps, _, rfl, Evl.sq_of hacc, hps, fun r3 hr3 => ?_⟩
          rw [mergeK_nd (dk_nd (nodup_of_sorted hN.sorted))]
          refine ⟨r3, _, rfl, upd_same, trivial, fun od3 => ?_⟩
          rw [upd_upd]
          have e5 : Ex H (upd H3 r3 (.frz od3 (.dK (dk ws)))) := (((eH.trans e2).trans p.2)).trans (Evl.Ex.new hr3)
          have h5 : upd H3 r3 (.frz od3 (.dK (dk ws))) r3 = some (.frz od3 (.dK (dk ws))) := upd_same
          generalize (upd H3 r3 (.frz od3 (.dK (dk ws)))) = H5 at e5 h5
          have hxr : r3 ≠ x := ne_of h5 (e5 _ _ hx) (fun z => nomatch z)
          refine ⟨_, rfl, x, CS, dx, [], rfl, e5 _ _ hx, cl, aw, by decide, ?_⟩
          refine ⟨_, rfl, x, CS, dx, _, .ref r3, rfl, upd_same, cl, aw, rfl, r3, dk ws, ws.map (·.2), rfl, .inr ⟨od3, (upd_ne hxr).trans h5⟩, dk_vals ws, _, rfl, x, CS, dx, _, rfl, upd_same, cl, ah, (by show 1 < 1000; decide), ?_⟩
          rw [upd_upd, sum_vals]
          refine k _ ws r3 od3 (fun b o hb ho => (upd_ne hb).trans (e5 _ _ ho)) upd_same ((upd_ne hxr).trans h5) hN ⟨g, gpos, fun φ => (hg φ).trans (hms φ)⟩ (by omega)
end
end KK
end
/-! K3 -/
section
set_option Elab.async false
set_option linter.all false
set_option maxRecDepth 100000
namespace KK
open PySem PySem.Spec PyProof.Rows L2 KM LX
/-! ### spreads as values -/
def SpAt (CS : Addr) (H : Hp) (v : V) (ws : IL) : Prop := ∃ (a dx wd : Addr) (od : Obj), v = .ref a ∧ H a = some (.ins CS dx [("weights", .ref wd), ("whole", .int (ms ws fun _ => 1))]) ∧ H wd = some (.frz od (.dK (dk ws)))
theorem SpAt.mo {CS : Addr} {H H' : Hp} {v : V} {ws : IL} {T : TL} {d : Option Addr} (h : SpAt CS H v ws) (e : ∀ b o, H b = some o → (∀ ps, o ≠ .tbl ps) → (∀ xs, o ≠ .lst xs) → H' b = some o) : SpAt CS H' v ws := by
  obtain ⟨a, dx, wd, od, h1, h2, h3⟩ := h
  exact ⟨a, dx, wd, od, h1, e _ _ h2 (fun _ z => nomatch z) (fun _ z => nomatch z), e _ _ h3 (fun _ z => nomatch z) (fun _ z => nomatch z)⟩
theorem SpAt.ex {CS : Addr} {H H' : Hp} {v : V} {ws : IL} (h : SpAt CS H v ws) (e : Ex H H') : SpAt CS H' v ws := by
  obtain ⟨a, dx, wd, od, h1, h2, h3⟩ := h
  exact ⟨a, dx, wd, od, h1, e _ _ h2, e _ _ h3⟩
theorem pos_of_ms : ∀ {rows : IL}, (∀ p ∈ rows, 0 ≤ p.2) → 0 < (ms rows fun _ => 1) → ∃ p ∈ rows, 0 < p.2
  | [], _, h => by simp at h
  | p :: r, nn, h => by
    by_cases z : 0 < p.2
    · exact ⟨p, List.mem_cons_self, z⟩
    · rw [ms_cons] at h
      obtain ⟨q, h1, h2⟩ := pos_of_ms (fun q hq => nn q (List.mem_cons_of_mem _ hq)) (by omega)
      exact ⟨q, List.mem_cons_of_mem _ h1, h2⟩
/-- Spread(d) -/
theorem mk_sp {CS : Addr} {H1 : Hp} {wd : Addr} {rows : IL} {Q : VK} (hw : Rd H1 wd (.dK (dk rows))) (nd : (rows.map (·.1)).Nodup) (nn : ∀ p ∈ rows, 0 ≤ p.2) (hp : 0 < ms rows fun _ => 1) (hb : Lt2 (ms rows fun _ => 1) 8000) (hl : rows.length ≤ 100000)
    (k : ∀ v H2 ws, Ex H1 H2 → SpAt CS H2 v ws → Spr ws (ms rows) → ws.length ≤ rows.length → Q v H2) :
    ∀ x dx, H1 x = none → H1 dx = none → dx ≠ x → spInit CS (.ref x :: ([.ref wd] ++ [])) (upd (upd H1 dx (.own x)) x (.ins CS dx [])) (fun v H2 => v = .non ∧ Q (.ref x) H2) C8.E0 := by
  intro x dx hx hdx hne
  have e1 : Ex H1 (upd (upd H1 dx (.own x)) x (.ins CS dx [])) := Evl.Ex.mut (Evl.Ex.new hdx) hx
  refine ⟨x, dx, wd, rows, rfl, upd_same, Evl.ex_rd e1 hw, nd, nn, pos_of_ms nn hp, hl, fun p h => hb.le (nn p h) (ms_le_one nn p h), fun H' ws w' od h1 h2 h3 h4 h5 h6 => ⟨rfl, k (.ref x) H' ws (fun b o e => h1 b o (ne_of_none e hx) (e1 b o e)) ⟨x, dx, w', od, rfl, h2, h3⟩ ⟨h4, h5⟩ h6⟩⟩
section
variable {P : Program} {w : World} {K : PySem.W.Frag} {mg : Str → Option Value} {base : Heap} {T9 : TL} {CS : Addr}
/-- what a def that gives a spread promises -/
def RetS (CS : Addr) (H : Hp) (Q : VK) (F : Fn) (n : Nat) : Prop := ∀ v H' ws, Ex H H' → SpAt CS H' v ws → Spr ws F → ws.length ≤ n → Q v H'
def RetSM (CS : Addr) (T9 : TL) (H : Hp) (Q : VK) (F : Fn) (n : Nat) : Prop := ∀ v H' ws, Mo none T9 H H' → SpAt CS H' v ws → Spr ws F → ws.length ≤ n → Q v H'
/-! ### chance -/
abbrev s_Spread_chance : Stmt := inClass (top 20) 2
abbrev N_Spread_chance : List Str := ["self", "value"]
theorem sc_Spread_chance : FnScope N_Spread_chance ["self", "value"] (C8.fnScope s_Spread_chance) := C8.fnScope_by (by decide +kernel)
-- slots: self=0 value=1
def spChanceM (K : PySem.W.Frag) (CS : Addr) : Sp := fun vs H Q _ => ∃ (v : V) (x : Int) (ws : IL), vs = [v, .int x] ∧ SpAt CS H v ws ∧ Nrm ws ∧ Lt2 (ms ws fun _ => 1) 8000 ∧ RetP K H Q (Rat.divInt (getI ws x) (ms ws fun _ => 1))
theorem nrm_whole {ws : IL} (h : Nrm ws) : 0 < ms ws fun _ => 1 := by
  obtain ⟨p, hp⟩ := List.exists_mem_of_ne_nil ws h.ne
  have := ms_le_one (fun q hq => Int.le_of_lt (h.pos q hq)) p hp
  have := h.pos p hp
  omega
theorem getI_le {ws : IL} (h : Nrm ws) (x : Int) : 0 ≤ getI ws x ∧ getI ws x ≤ ms ws fun _ => 1 := by
  have nn : ∀ q ∈ ws, 0 ≤ q.2 := fun q hq => Int.le_of_lt (h.pos q hq)
  refine ⟨getI_nonneg nn x, ?_⟩
  by_cases z : x ∈ ws.map (·.1)
  · obtain ⟨p, hp, rfl⟩ := List.mem_map.mp z
    rw [getI_mem (nodup_of_sorted h.sorted) hp]
    exact ms_le_one nn p hp
  · rw [getI_notin z]
    exact Int.le_of_lt (nrm_whole h)
theorem mt_Spread_chance {f : Addr} {fd : FuncData} (cl : Cls K CS) (me : Meth K CS "chance" f) (F : C8.Fun K "chance" "Spread.chance" s_Spread_chance f fd) (bf : Binds K fd ["self", "value"] []) (aw : NoAttr K CS "weights") (ah : NoAttr K CS "whole")
    (c_part : C8.Cal P w K mg base 2 "part" (spPart K) []) : C8.Met P w K mg base 3 CS "chance" (spChanceM K CS) [] := by
  refine C8.met0 cl me F bf sc_Spread_chance (fun vs H Q E h => ?_) (fun cdv A outer s H vs Q E hr h => ?_)
  · obtain ⟨_, _, _, rfl, _⟩ := h; rfl
  · obtain ⟨_, x, ws, rfl, ⟨a, dx, wd, od, rfl, ha, hwd⟩, hN, hlt, k⟩ := h
    refine ⟨_, (pss_one (ps_ret (C8.pe_c c_part hr (by omega) (by rfl) (pa_cons (pe_dget2 hr.u1 (pe_fld (pv 0) rfl) (pv 1) pe_int ⟨rfl, by rfl, rfl, rfl⟩) (pa_cons (pe_fld (pv 0) rfl) pa_nil))))), ?_⟩
    refine ⟨_, rfl, a, CS, dx, _, .ref wd, rfl, ha, cl, aw, rfl, wd, rfl, .inl ⟨_, .inr ⟨od, hwd⟩⟩, _, rfl, valV (dk ws) (.inl x), .inl ⟨dk ws, .inl x, .inr ⟨od, hwd⟩, rfl, rfl⟩, _, rfl, a, CS, dx, _, .int (ms ws fun _ => 1), rfl, ha, cl, ah, rfl, ?_⟩
    have hg := getI_le hN x
    refine ⟨getI ws x, _, ?_, by have := nrm_whole hN; omega, hlt.le hg.1 hg.2, hlt, k⟩
    rw [dk_val]
    rfl
/-! ### chance_of -/
abbrev s_Spread_chance_of : Stmt := inClass (top 20) 3
abbrev N_Spread_chance_of : List Str := ["self", "test", "value", "weight"]
theorem sc_Spread_chance_of : FnScope N_Spread_chance_of ["self", "test"] (C8.fnScope s_Spread_chance_of) := C8.fnScope_by (by decide +kernel)
-- slots: self=0 test=1c value=2 weight=3
def spChanceOf (P : Program) (w : World) (K : PySem.W.Frag) (mg : Str → Option Value) (base : Heap) (T9 : TL) (CS : Addr) : Sp := fun vs H Q _ => ∃ (v f : V) (ws : IL) (t : Int → Bool), vs = [v, f] ∧ SpAt CS H v ws ∧ Nrm ws ∧ Lt2 (ms ws fun _ => 1) 8000 ∧ Tbs T9 H ∧
  Cb P w K mg base 1 T9 H f (fun xs r => ∃ a : Int, xs = [.int a] ∧ r = .bl (t a)) ∧ ∀ v' H', Mo none T9 H H' → PtAt K H' v' (Rat.divInt (ms ws fun a => if t a then 1 else 0) (ms ws fun _ => 1)) → Q v' H'
theorem ms_sub_le {ws : IL} (h : ∀ p ∈ ws, 0 ≤ p.2) (t : Int → Bool) : 0 ≤ (ms ws fun a => if t a then 1 else 0) ∧ (ms ws fun a => if t a then 1 else 0) ≤ ms ws fun _ => 1 := by
  induction ws with
  | nil => simp
  | cons p r ih =>
    obtain ⟨h1, h2⟩ := ih fun q hq => h q (List.mem_cons_of_mem _ hq)
    have hp := h p List.mem_cons_self
    rw [ms_cons, ms_cons]
    cases t p.1 <;> simp <;> omega
theorem mt_Spread_chance_of {f c Pc : Addr} {fd : FuncData} (T : Tx K mg) (TB : GxR.TabB base mg c Pc) (hTm : (Pc, none) ∈ T9) (hTu : ∀ p ∈ T9, p.1 = Pc → p.2 = none) (cl : Cls K CS) (me : Meth K CS "chance_of" f) (F : FunC K "chance_of" "Spread.chance_of" s_Spread_chance_of f fd c) (bf : Binds K fd ["self", "test"] [])
    (aw : NoAttr K CS "weights") (ah : NoAttr K CS "whole") (c_part : C8.Cal P w K mg base 2 "part" (spPart K) []) : C8.Met P w K mg base 3 CS "chance_of" (spChanceOf P w K mg base T9 CS) [] := by
  refine metC cl me F bf sc_Spread_chance_of (fun vs H Q E h => ?_) (fun A outer s H vs Q E hr h => ?_)
  · obtain ⟨_, _, _, _, rfl, _⟩ := h; rfl
  · obtain ⟨_, fv, ws, t, rfl, ⟨a, dx, wd, od, rfl, ha, hwd⟩, hN, hlt, hT, hcb, k⟩ := h
    refine ⟨_, (pss_one (ps_ret (C8.pe_c c_part hr (by omega) (by rfl) (pa_cons (GX.pe_sumX (own := [("value", 2), ("weight", 3)]) hr (by rfl) T.n_sum TB rfl rfl sc_Spread_chance_of.nd (GX.gsc_by (by decide +kernel)) (by first | exact blkOk_by (N := N_Spread_chance_of) (sc := C8.fnScope s_Spread_chance_of) (by decide +kernel) | exact blkOk_by (by rfl)) (pi_items (pe_fld (pv 0) rfl)) (fun _ _ cenv _ _ _ hs _ => by cases cenv; cases hs; exact castPG (pg_tup (n := 2) rfl (pgs_cons (pg_name (i := 2) sc_Spread_chance_of.nd rfl (Or.inl rfl) (by first | exact Or.inr rfl | exact Or.inl rfl)) (pgs_cons (pg_name (i := 3) sc_Spread_chance_of.nd rfl (Or.inl rfl) (by first | exact Or.inr rfl | exact Or.inl rfl)) pgs_nil))) (by first | (dsimp only [GX.gCx]; done) | rfl)) (fun _ _ cenv _ _ _ hs _ hr => by cases cenv; cases hs; exact castPTs (pts_one (pt_val (LX.pe_cb (k := 1) (T := T9) (i := 1) hr (by omega) rfl (by exact Or.inr (Or.inr rfl)) (pa_cons (pv 2) pa_nil)))) (by first | (dsimp only [GX.gCx]; done) | rfl)) (fun _ _ cenv _ _ _ hs _ hr => by cases cenv; cases hs; exact castPE (pv 3) (by first | (dsimp only [GX.gCx]; done) | rfl))) (pa_cons (pe_fld (pv 0) rfl) pa_nil))))), ?_⟩
    refine ⟨_, rfl, a, CS, dx, _, .ref wd, rfl, ha, cl, aw, rfl, wd, od, dk ws, rfl, hwd, hT _ hTm, fun H2 h2 => ?_⟩
    have m2 : Mo none T9 H H2 := Mo.tabbed (hT _ hTm) hTu h2
    have hw2 : ∀ H', Mo none T9 H2 H' → H' wd = some (.frz od (.dK (dk ws))) := fun H' e => (m2.trans e).1 _ _ (fun z => nomatch z) hwd (fun _ z => nomatch z)
    refine gx_n (n := ws.length) (fun i ys H' => ∃ ns : List Int, ys = ns.map V.int ∧ ns.sum = (ms (ws.take i) fun a => if t a then 1 else 0) ∧ Mo none T9 H2 H') ⟨[], rfl, rfl, Mo.refl _⟩ (fun i ys H' hi ⟨_, _, _, e⟩ => ⟨hw2 _ e, by rw [dk_len]; exact hi⟩) (fun ys H' ⟨_, _, _, e⟩ => ⟨hw2 _ e, by rw [dk_len]; exact Nat.le_refl _⟩) (fun i ys H1 u H3 hi p hy => ?_) (fun ys H1 p ns2 hns2 => ?_)
    · obtain ⟨ns, rfl, hsum, e⟩ := p
      obtain ⟨T0, kk, vv, hk, rfl, hT0, rfl⟩ := hy
      obtain ⟨x, b, hab, rfl, rfl⟩ := dk_get hk
      have e1 : Mo none T9 H2 (upd H1 T0 (.tup [kV (Sum.inl x), .int b])) := e.trans (Mo.of (Evl.Ex.new hT0))
      have hc := hcb.mo (m2.trans e1)
      refine ⟨T0, _, rfl, Evl.st_of upd_same, rfl, _, _, rfl, _, _, rfl, rfl, rfl, fv, _, rfl, hc, _, rfl, .bl (t x), hc, ⟨x, rfl, rfl⟩, _, rfl, ?_⟩
      have tk := ms_take hab fun a => if t a then 1 else 0
      cases ht : t x with
      | false =>
        refine iteF ⟨ns, rfl, ?_, e1⟩
        rw [tk, hsum]
        simp [ht]
      | true =>
        refine iteT ⟨_, rfl, ⟨b, rfl⟩, ns ++ [b], by simp, ?_, e1⟩
        rw [tk, List.sum_append, hsum]
        simp [ht]
    · obtain ⟨ns, hns, hsum, e⟩ := p
      have en : ns = ns2 := by
        have h3 : ns.map V.int = ns2.map V.int := hns.symm.trans hns2
        exact map_int_inj h3
      subst en
      rw [List.take_length] at hsum
      have e3 := m2.trans e
      have ha3 := e3.1 _ _ (fun z => nomatch z) ha (fun _ z => nomatch z)
      have hb := ms_sub_le (fun q hq => Int.le_of_lt (hN.pos q hq)) t
      refine ⟨_, rfl, a, CS, dx, _, .int (ms ws fun _ => 1), rfl, ha3, cl, ah, rfl, _, _, rfl, by have := nrm_whole hN; omega, ?_, hlt, fun v' H' e' h' => k v' H' (e3.trans (Mo.of e')) ?_⟩
      · rw [hsum]
        exact hlt.le hb.1 hb.2
      · rw [hsum] at h'
        exact h'
end
end KK
end
/-! K4 -/
section
set_option Elab.async false
set_option linter.all false
set_option maxRecDepth 100000
namespace KK
open PySem PySem.Spec PyProof.Rows L2 KM LX
section
variable {P : Program} {w : World} {K : PySem.W.Frag} {mg : Str → Option Value} {base : Heap} {T9 : TL} {CS : Addr}
/-! ### shown -/
def pdP (p : Int × Int) : PyData := .tuple [.int p.1, .int p.2]
def shD (ws : IL) : PyData := .tuple [.tuple (ws.map pdP), .int (ms ws fun _ => 1)]
theorem dp_pairs {H : Hp} : ∀ {ts : List Addr} {ws : IL}, Paired (fun (t : Addr) (q : Key × V) => H t = some (.tup [kV q.1, q.2])) ts (dk ws) → DpAll K H (ts.map V.ref) (ws.map pdP)
  | [], [], _ => .nil
  | t :: ts, p :: ws, h => by
    have h : Paired (fun (t : Addr) (q : Key × V) => H t = some (.tup [kV q.1, q.2])) (t :: ts) ((.inl p.1, .int p.2) :: dk ws) := h
    cases h with
    | cons h1 h2 => exact .cons (.tup (Evl.st_of h1) (.cons (.int _) (.cons (.int _) .nil))) (dp_pairs h2)
  | [], p :: ws, h => by cases (show Paired _ [] ((.inl p.1, .int p.2) :: dk ws) from h)
  | t :: ts, [], h => by cases (show Paired _ (t :: ts) [] from h)
abbrev s_Spread_shown : Stmt := inClass (top 20) 12
abbrev N_Spread_shown : List Str := ["self"]
theorem sc_Spread_shown : FnScope N_Spread_shown ["self"] (C8.fnScope s_Spread_shown) := C8.fnScope_by (by decide +kernel)
-- slots: self=0
def spShown (K : PySem.W.Frag) (CS : Addr) : Sp := fun vs H Q _ => ∃ (v : V) (ws : IL), vs = [v] ∧ SpAt CS H v ws ∧ ∀ r H', Ex H H' → Dp K H' r (shD ws) → Q r H'
theorem mt_Spread_shown {f : Addr} {fd : FuncData} (T : Tx K mg) (cl : Cls K CS) (me : Meth K CS "shown" f) (F : C8.Fun K "shown" "Spread.shown" s_Spread_shown f fd) (bf : Binds K fd ["self"] []) (aw : NoAttr K CS "weights") (ah : NoAttr K CS "whole") : C8.Met P w K mg base 1 CS "shown" (spShown K CS) [] := by
  refine C8.met0 cl me F bf sc_Spread_shown (fun vs H Q E h => ?_) (fun cdv A outer s H vs Q E hr h => ?_)
  · obtain ⟨_, _, rfl, _⟩ := h; rfl
  · obtain ⟨_, ws, rfl, ⟨a, dx, wd, od, rfl, ha, hwd⟩, k⟩ := h
    refine ⟨_, (pss_one (ps_ret (pe_tup (pa_cons (RX.pe_tupItems rfl (by rfl) T.n_tuple (pe_fld (pv 0) rfl)) (pa_cons (pe_fld (pv 0) rfl) pa_nil))))), ?_⟩
    refine ⟨_, rfl, a, CS, dx, _, .ref wd, rfl, ha, cl, aw, rfl, wd, dk ws, rfl, .inr ⟨od, hwd⟩, fun H' t ts e ht hts => ⟨_, rfl, a, CS, dx, _, _, rfl, e _ _ ha, cl, ah, rfl, (by show 2 ≤ sizeLine; decide), fun p hp => ?_⟩⟩
    have e1 : Ex H' (upd H' p (.tup [.ref t, .int (ms ws fun _ => 1)])) := Evl.Ex.new hp
    exact k _ _ (Evl.Ex.trans e e1) (.tup (Evl.st_of upd_same) (.cons (.tup (Evl.st_of (e1 _ _ ht)) (dp_pairs (Paired.mapP hts fun _ _ z => e1 _ _ z))) (.cons (.int _) .nil)))
/-! ### sure, even -/
abbrev s_sure : Stmt := top 21
abbrev N_sure : List Str := ["value"]
theorem sc_sure : FnScope N_sure ["value"] (C8.fnScope s_sure) := C8.fnScope_by (by decide +kernel)
-- slots: value=0
def spSure (CS : Addr) : Sp := fun vs H Q _ => ∃ x : Int, vs = [.int x] ∧ RetS CS H Q (fun φ => φ x) 1
theorem k_sure {f : Addr} {fd : FuncData} (T : Tx K mg) (Df : C8.Def K mg "sure" s_sure f fd) (bf : Binds K fd ["value"] []) (m_Spread : C8.Mak P w K mg base 2 "Spread" CS (spInit CS) []) : C8.Cal P w K mg base 4 "sure" (spSure CS) [] := by
  refine C8.cal0 Df bf .nil sc_sure (fun vs H Q E h => ?_) (fun cdv A outer s H vs Q E hr h => ?_)
  · obtain ⟨_, rfl, _⟩ := h; rfl
  · obtain ⟨x, rfl, k⟩ := h
    refine ⟨_, (pss_one (ps_ret (C8.pe_mk m_Spread hr (by omega) (by rfl) (pa_cons (pe_disp (pps_cons (pv 0) pe_int pps_nil) (by rfl) (by rfl) (fun z => by cases z) (by decide)) pa_nil)))), ?_⟩
    refine fun p hp => ⟨_, rfl, upd_same, [(.inl x, .int 1)], rfl, (by show 1 ≤ 15; decide), ?_⟩
    rw [upd_upd]
    refine mk_sp (rows := [(x, 1)]) (.inl upd_same) (by simp) (by simp) (by simp) (by simp; exact Lt2.one) (by simp) fun v H2 ws e h1 h2 h3 => k v H2 ws (Evl.Ex.trans (Evl.Ex.new hp) e) h1 (h2.congr fun φ => by simp) h3
abbrev s_even : Stmt := top 22
abbrev N_even : List Str := ["values", "rows", "value"]
theorem sc_even : FnScope N_even ["values"] (C8.fnScope s_even) := C8.fnScope_by (by decide +kernel)
-- slots: values=0 rows=1 value=2
def spEven (K : PySem.W.Frag) (CS : Addr) : Sp := fun vs H Q _ => ∃ (p : Addr) (xs : List Int), vs = [.ref p] ∧ SqL K H p (xs.map V.int) ∧ xs ≠ [] ∧ xs.length ≤ 1000 ∧ RetS CS H Q (fun φ => (xs.map φ).sum) xs.length
theorem sum_take {xs : List Int} {i : Nat} (h : i < xs.length) (φ : Int → Int) : ((xs.take (i + 1)).map φ).sum = ((xs.take i).map φ).sum + φ xs[i] := by
  rw [List.take_add_one, List.getElem?_eq_getElem h, List.map_append, List.sum_append]
  simp
theorem sum_ones : ∀ xs : List Int, (xs.map fun _ => (1 : Int)).sum = xs.length
  | [] => rfl
  | x :: xs => by rw [List.map_cons, List.sum_cons, sum_ones xs, List.length_cons]; omega
theorem k_even {f : Addr} {fd : FuncData} (T : Tx K mg) (Df : C8.Def K mg "even" s_even f fd) (bf : Binds K fd ["values"] []) (m_Spread : C8.Mak P w K mg base 2 "Spread" CS (spInit CS) []) : C8.Cal P w K mg base 4 "even" (spEven K CS) [] := by
  refine C8.cal0 Df bf .nil sc_even (fun vs H Q E h => ?_) (fun cdv A outer s H vs Q E hr h => ?_)
  · obtain ⟨_, _, rfl, _⟩ := h; rfl
  · obtain ⟨p, xs, rfl, hp, hne, hl, k⟩ := h
    refine ⟨_, (pss_cons (ps_set (i := 1) sc_even.nd rfl (Or.inl rfl) pe_dnewK)
      (pss_cons (ps_for PassesOwn.never rfl (pi_list (pv 0)) (pg_name (i := 2) sc_even.nd rfl (Or.inl rfl) (by exact Or.inl rfl))
      (pss_one (ps_dput hr.u1 (pv 1) (pv 2) (pe_op op_add (pe_dget2 hr.u1 (pv 1) (pv 2) pe_int ⟨rfl, by rfl, rfl, rfl⟩) pe_int) rfl)))
      (pss_one (ps_ret (C8.pe_mk m_Spread hr (by omega) (by rfl) (pa_cons (pv 1) pa_nil)))))), ?_⟩
    refine fun r hr0 => ⟨_, rfl, p, rfl, ⟨_, Evl.ex_l (Evl.Ex.new hr0) hp⟩, ?_⟩
    refine for_n (n := xs.length) (fun i σ' H' => ∃ (o : Option V) (rows : IL), σ' = [some (.ref p), some (.ref r), o] ∧ Ex H H' ∧ H' r = some (.dK (dk rows)) ∧ (rows.map (·.1)).Nodup ∧ (∀ q ∈ rows, 0 ≤ q.2) ∧ (∀ φ, ms rows φ = ((xs.take i).map φ).sum) ∧ rows.length ≤ i)
      ⟨_, [], rfl, Evl.Ex.new hr0, upd_same, List.nodup_nil, fun q hq => (by cases hq), fun φ => rfl, Nat.le_refl _⟩ (fun i σ' H' hi ⟨_, _, _, e, _⟩ => ⟨_, .int xs[i], Evl.ex_l e hp, by rw [List.getElem?_map, List.getElem?_eq_getElem hi]; rfl⟩) (fun σ' H' ⟨_, _, _, e, _⟩ => ⟨_, Evl.ex_l e hp, by simp⟩) ?_ ?_
    · rintro i _ H' u H2 hi ⟨o, rows, rfl, e, hr', nd, nn, hms, hlen⟩ ⟨rfl, hu⟩
      have hu' := hu _ (Evl.ex_l e hp)
      rw [List.getElem?_map, List.getElem?_eq_getElem hi] at hu'
      obtain rfl : V.int xs[i] = u := Option.some.inj hu'
      refine ⟨_, rfl, r, rfl, .inl ⟨_, .inl hr'⟩, _, rfl, valV (dk rows) (.inl xs[i]), .inl ⟨dk rows, .inl xs[i], .inl hr', rfl, rfl⟩, getI rows xs[i], 1, dk_val _ _, rfl, _, rfl, _, rfl, r, _, rfl, .inl ⟨dk rows, .inl xs[i], hr', rfl, Evl.sz_lt (by rw [dk_len]; omega), rfl⟩, ?_⟩
      rw [dk_put _ _ nd]
      refine ⟨_, bump rows xs[i] 1, rfl, Evl.Ex.mut e hr0, upd_same, nodup_bump _ _ nd, vals_bump nn (by decide), fun φ => ?_, by have := length_bump rows xs[i] 1; omega⟩
      rw [ms_bump, hms, sum_take hi, Int.one_mul]
    · rintro _ H' ⟨o, rows, rfl, e, hr', nd, nn, hms, hlen⟩
      rw [List.take_length] at hms
      have hone : (ms rows fun _ => 1) = xs.length := by rw [hms, sum_ones]
      have hlp : 0 < xs.length := List.length_pos_iff.mpr hne
      refine ⟨_, rfl, mk_sp (.inl hr') nd nn (by rw [hone]; omega) ?_ (by omega) fun v H2 ws e2 h1 h2 h3 => k v H2 ws (Evl.Ex.trans e e2) h1 (h2.congr hms) (by omega)⟩
      rw [hone]
      exact Lt2.up (a := 10) (Lt2.nn (by omega) (by show (xs.length : Int) < 1024; omega))
/-! ### together -/
abbrev s_together : Stmt := top 23
abbrev N_together : List Str := ["one", "other", "change", "rows", "left", "weight", "right", "more", "value"]
theorem sc_together : FnScope N_together ["one", "other", "change"] (C8.fnScope s_together) := C8.fnScope_by (by decide +kernel)
-- slots: one=0 other=1 change=2 rows=3 left=4 weight=5 right=6 more=7 value=8
def spTogether (P : Program) (w : World) (K : PySem.W.Frag) (mg : Str → Option Value) (base : Heap) (T9 : TL) (CS : Addr) : Sp := fun vs H Q _ => ∃ (va vb vf : V) (wa wb : IL), vs = [va, vb, vf] ∧ SpAt CS H va wa ∧ SpAt CS H vb wb ∧ Nrm wa ∧ Nrm wb ∧ wa.length * wb.length ≤ 100000 ∧ Lt2 ((ms wa fun _ => 1) * (ms wb fun _ => 1)) 8000 ∧
  Cb P w K mg base 1 T9 H vf (fun xs r => ∃ a b : Int, xs = [.int a, .int b] ∧ r = .int (a + b)) ∧ RetS CS H Q (fun φ => ms wa fun x => ms wb fun y => φ (x + y)) (wa.length * wb.length)
theorem ms_const (ws : IL) (c : Int) : (ms ws fun _ => c) = (ms ws fun _ => 1) * c := by
  have := ms_mul ws c fun _ => 1
  rw [show (fun _ : Int => c * 1) = fun _ => c from by funext; omega] at this
  rw [this, Int.mul_comm]
theorem k_together {f : Addr} {fd : FuncData} (T : Tx K mg) (Df : C8.Def K mg "together" s_together f fd) (bf : Binds K fd ["one", "other", "change"] []) (cl : Cls K CS) (aw : NoAttr K CS "weights") (m_Spread : C8.Mak P w K mg base 2 "Spread" CS (spInit CS) []) : C8.Cal P w K mg base 4 "together" (spTogether P w K mg base T9 CS) [] := by
  refine C8.cal0 Df bf .nil sc_together (fun vs H Q E h => ?_) (fun cdv A outer s H vs Q E hr h => ?_)
  · obtain ⟨_, _, _, _, _, rfl, _⟩ := h; rfl
  · obtain ⟨_, _, vf, wa, wb, rfl, ⟨a, dxa, da, oda, rfl, ha, hda⟩, ⟨b, dxb, db, odb, rfl, hb, hdb⟩, Na, Nb, hl, hlt, hcb, k⟩ := h
    refine ⟨_, (pss_cons (ps_set (i := 3) sc_together.nd rfl (Or.inl rfl) pe_dnewK)
      (pss_cons (ps_for PassesOwn.never rfl (pi_items (pe_fld (pv 0) rfl)) (pg_tup (n := 2) rfl (pgs_cons (pg_name (i := 4) sc_together.nd rfl (Or.inl rfl) (by exact Or.inl rfl)) (pgs_cons (pg_name (i := 5) sc_together.nd rfl (Or.inl rfl) (by exact Or.inl rfl)) pgs_nil)))
      (pss_one (ps_for PassesOwn.never rfl (pi_items (pe_fld (pv 1) rfl)) (pg_tup (n := 2) rfl (pgs_cons (pg_name (i := 6) sc_together.nd rfl (Or.inl rfl) (by exact Or.inl rfl)) (pgs_cons (pg_name (i := 7) sc_together.nd rfl (Or.inl rfl) (by exact Or.inl rfl)) pgs_nil)))
        (pss_cons (ps_set (i := 8) sc_together.nd rfl (Or.inl rfl) (LX.pe_cb (k := 1) (T := T9) (i := 2) hr (by omega) rfl (Or.inl rfl) (pa_cons (pv 4) (pa_cons (pv 6) pa_nil))))
          (pss_one (ps_dput hr.u1 (pv 3) (pv 8) (pe_op op_add (pe_dget2 hr.u1 (pv 3) (pv 8) pe_int ⟨rfl, by rfl, rfl, rfl⟩) (pe_op op_mulW (pv 5) (pv 7))) rfl))))))
      (pss_one (ps_ret (C8.pe_mk m_Spread hr (by omega) (by rfl) (pa_cons (pv 3) pa_nil)))))), ?_⟩
    have pa : ∀ q ∈ wa, 0 ≤ q.2 := fun q hq => Int.le_of_lt (Na.pos q hq)
    have pb : ∀ q ∈ wb, 0 ≤ q.2 := fun q hq => Int.le_of_lt (Nb.pos q hq)
    have wap := nrm_whole Na
    have wbp := nrm_whole Nb
    have lta : Lt2 (ms wa fun _ => 1) 8000 := hlt.le (by omega) (by have := Int.mul_le_mul_of_nonneg_left (show 1 ≤ ms wb fun _ => 1 by omega) (show 0 ≤ ms wa fun _ => 1 by omega); omega)
    have ltb : Lt2 (ms wb fun _ => 1) 8000 := hlt.le (by omega) (by have := Int.mul_le_mul_of_nonneg_right (show 1 ≤ ms wa fun _ => 1 by omega) (show 0 ≤ ms wb fun _ => 1 by omega); omega)
    refine fun r hr0 => ⟨_, rfl, a, CS, dxa, _, .ref da, rfl, Evl.Ex.new hr0 _ _ ha, cl, aw, rfl, da, oda, dk wa, rfl, Evl.Ex.new hr0 _ _ hda, ?_⟩
    refine for_n (n := wa.length) (fun i σ' H' => ∃ (o4 o5 o6 o7 o8 : Option V) (rows : IL), σ' = [some (.ref a), some (.ref b), some vf, some (.ref r), o4, o5, o6, o7, o8] ∧ Ex H H' ∧ H' r = some (.dK (dk rows)) ∧ (rows.map (·.1)).Nodup ∧ (∀ q ∈ rows, 0 ≤ q.2) ∧ (∀ φ, ms rows φ = ms (wa.take i) fun x => ms wb fun y => φ (x + y)) ∧ rows.length ≤ i * wb.length)
      ⟨_, _, _, _, _, [], rfl, Evl.Ex.new hr0, upd_same, List.nodup_nil, fun q hq => (by cases hq), fun φ => rfl, by simp⟩ (fun i σ' H' hi ⟨_, _, _, _, _, _, _, e, _⟩ => ⟨e _ _ hda, by rw [dk_len]; exact hi⟩) (fun σ' H' ⟨_, _, _, _, _, _, _, e, _⟩ => ⟨e _ _ hda, by rw [dk_len]; exact Nat.le_refl _⟩) ?_ ?_
    · rintro i _ H' u H2 hi ⟨o4, o5, o6, o7, o8, rows, rfl, e, hr', nd, nn, hms, hlen⟩ ⟨T0, kk, vv, hk, rfl, hT0, rfl⟩
      obtain ⟨x, wt, hab, rfl, rfl⟩ := dk_get hk
      have e1 : Ex H (upd H' T0 (.tup [kV (Sum.inl x), .int wt])) := e.trans (Evl.Ex.new hT0)
      refine ⟨T0, _, rfl, Evl.st_of upd_same, rfl, _, _, rfl, _, _, rfl, rfl, ?_⟩
      refine ⟨_, rfl, b, CS, dxb, _, .ref db, rfl, e1 _ _ hb, cl, aw, rfl, db, odb, dk wb, rfl, e1 _ _ hdb, ?_⟩
      refine for_n (n := wb.length) (fun j σ' H' => ∃ (o6 o7 o8 : Option V) (rows : IL), σ' = [some (.ref a), some (.ref b), some vf, some (.ref r), some (.int x), some (.int wt), o6, o7, o8] ∧ Ex H H' ∧ H' r = some (.dK (dk rows)) ∧ (rows.map (·.1)).Nodup ∧ (∀ q ∈ rows, 0 ≤ q.2) ∧ (∀ φ, ms rows φ = (ms (wa.take i) fun x => ms wb fun y => φ (x + y)) + wt * ms (wb.take j) fun y => φ (x + y)) ∧ rows.length ≤ i * wb.length + j)
        ⟨_, _, _, rows, rfl, e1, (upd_ne (ne_of_none hr' hT0)).trans hr', nd, nn, fun φ => by rw [hms]; simp, by omega⟩ (fun j σ' H' hj ⟨_, _, _, _, _, e, _⟩ => ⟨e _ _ hdb, by rw [dk_len]; exact hj⟩) (fun σ' H' ⟨_, _, _, _, _, e, _⟩ => ⟨e _ _ hdb, by rw [dk_len]; exact Nat.le_refl _⟩) ?_ ?_
      · rintro j _ H3 u H4 hj ⟨p6, p7, p8, rows2, rfl, e2, hr2, nd2, nn2, hms2, hlen2⟩ ⟨T1, kk, vv, hk1, rfl, hT1, rfl⟩
        obtain ⟨y, wu, hcd, rfl, rfl⟩ := dk_get hk1
        have e3 : Ex H (upd H3 T1 (.tup [kV (Sum.inl y), .int wu])) := e2.trans (Evl.Ex.new hT1)
        have hr3 : upd H3 T1 (.tup [kV (Sum.inl y), .int wu]) r = some (.dK (dk rows2)) := (upd_ne (ne_of_none hr2 hT1)).trans hr2
        have hc := hcb.mo (Mo.of e3)
        have hwt := ms_le_one pa (x, wt) (List.mem_of_getElem? hab)
        have hwu := ms_le_one pb (y, wu) (List.mem_of_getElem? hcd)
        have hwt0 : 0 ≤ wt := pa (x, wt) (List.mem_of_getElem? hab)
        have hwu0 : 0 ≤ wu := pb (y, wu) (List.mem_of_getElem? hcd)
        refine ⟨T1, _, rfl, Evl.st_of upd_same, rfl, _, _, rfl, _, _, rfl, rfl, vf, _, rfl, hc, _, rfl, _, rfl, .int (x + y), hc, ⟨x, y, rfl, rfl⟩, ?_⟩
        refine ⟨_, rfl, r, rfl, .inl ⟨_, .inl hr3⟩, _, rfl, valV (dk rows2) (.inl (x + y)), .inl ⟨dk rows2, .inl (x + y), .inl hr3, rfl, rfl⟩, _, rfl, _, rfl, _, _, rfl, rfl, mw (lta.le hwt0 hwt) (ltb.le hwu0 hwu), getI rows2 (x + y), wt * wu, dk_val _ _, rfl, _, rfl, _, rfl, r, _, rfl, .inl ⟨dk rows2, .inl (x + y), hr3, rfl, Evl.sz_lt ?_, rfl⟩, ?_⟩
        · rw [dk_len]
          have h1 : i * wb.length + j < (i + 1) * wb.length := by rw [Nat.add_mul, Nat.one_mul]; omega
          have h2 : (i + 1) * wb.length ≤ wa.length * wb.length := Nat.mul_le_mul_right _ hi
          omega
        · rw [dk_put _ _ nd2]
          refine ⟨_, _, _, bump rows2 (x + y) (wt * wu), rfl, Evl.Ex.mut e3 hr0, upd_same, nodup_bump _ _ nd2, vals_bump nn2 (Int.mul_nonneg hwt0 hwu0), fun φ => ?_, by have := length_bump rows2 (x + y) (wt * wu); omega⟩
          rw [ms_bump, hms2, ms_take hcd, Int.mul_add, Int.mul_assoc]
          exact Int.add_assoc _ _ _
      · rintro _ H3 ⟨p6, p7, p8, rows2, rfl, e2, hr2, nd2, nn2, hms2, hlen2⟩
        refine ⟨_, _, _, _, _, rows2, rfl, e2, hr2, nd2, nn2, fun φ => ?_, by rw [Nat.add_mul, Nat.one_mul]; omega⟩
        rw [hms2, ms_take hab, List.take_length]
    · rintro _ H' ⟨o4, o5, o6, o7, o8, rows, rfl, e, hr', nd, nn, hms, hlen⟩
      rw [List.take_length] at hms
      have hone : (ms rows fun _ => 1) = (ms wa fun _ => 1) * ms wb fun _ => 1 := by rw [hms, ms_const]
      exact ⟨_, rfl, mk_sp (.inl hr') nd nn (by rw [hone]; exact Int.mul_pos wap wbp) (by rw [hone]; exact hlt) (by omega) fun v H2 ws e2 h1 h2 h3 => k v H2 ws (Evl.Ex.trans e e2) h1 (h2.congr hms) (by omega)⟩
end
end KK
end
/-! K5 -/
section
set_option Elab.async false
set_option linter.all false
set_option maxRecDepth 100000
namespace LX
open PySem PySem.Spec PyProof.Rows L2 LamX NdefX
/-- a lambda at hand may be called -/
theorem cb_of {P : Program} {w : World} {K : PySem.W.Frag} {mg : Str → Option Value} {base : Heap} {k : Nat} {T : TL} {H : Hp} {f : Addr} {F : LF} {ps fr : List Str} {ws : List (Option V)} {sp : List (Option V) → List V → Hp → VK → Prop} {R : List V → V → Prop}
    (o : LOk P w K mg base k f F ps fr sp) (hf : H f = some (LO f F)) (hc : H F.c = some (CodeO F.c F.qual)) (C : CellsIn F.cl fr ws H) (h : ∀ H' vs r Q, Mo none T H H' → R vs r → Q r (off F.cl H') → sp ws vs (off F.cl H') Q) : Cb P w K mg base k T H (.ref f) R := by
  refine ⟨f, F, _, rfl, hf, lrun_of o, fun H' m vs r Q hR q => ?_⟩
  refine ⟨m.1 _ _ (fun z => nomatch z) hf lo_ne, m.1 _ _ (fun z => nomatch z) hc codeO_ne, ws, C.mo fun b o e n => m.1 b o (fun z => nomatch z) e n, h H' vs r _ m hR ⟨rfl, q⟩⟩
theorem cellsIn_nil {H : Hp} : CellsIn [] [] [] H := ⟨rfl, fun y c h => (by cases h), fun x y c h => (by cases h), fun i y h => absurd h (by simp)⟩
end LX
namespace KK
open PySem PySem.Spec PyProof.Rows L2 KM LX LamX NdefX
section
variable {P : Program} {w : World} {K : PySem.W.Frag} {mg : Str → Option Value} {base : Heap} {T9 : LX.TL} {CS : Addr}
theorem SpAt.m {H H' : Hp} {v : V} {ws : IL} (h : SpAt CS H v ws) (e : Mo none T9 H H') : SpAt CS H' v ws := SpAt.mo (T := T9) (d := none) h fun b o h n _ => e.1 b o (fun z => nomatch z) h n
abbrev s_added : Stmt := top 24
abbrev N_added : List Str := ["one", "other", "left", "right"]
theorem sc_added : FnScope N_added ["one", "other"] (C8.fnScope s_added) := C8.fnScope_by (by decide +kernel)
-- slots: one=0 other=1 left=2 right=3
def spAdded (T9 : LX.TL) (CS : Addr) : Sp := fun vs H Q _ => ∃ (va vb : V) (wa wb : IL), vs = [va, vb] ∧ SpAt CS H va wa ∧ SpAt CS H vb wb ∧ Nrm wa ∧ Nrm wb ∧ wa.length * wb.length ≤ 100000 ∧ Lt2 ((ms wa fun _ => 1) * (ms wb fun _ => 1)) 8000 ∧ Tbs T9 H ∧
  RetSM CS T9 H Q (fun φ => ms wa fun x => ms wb fun y => φ (x + y)) (wa.length * wb.length)
def qAdded : Str := "added.<locals>.<lambda>"
theorem k_added {f c Pc : Addr} {fd : FuncData} (Df : FunC K "added" "added" s_added f fd c) (hm : mg "added" = some (.ref f)) (kp : PySem.W.keepIn K (.ref f) = true) (bf : Binds K fd ["one", "other"] []) (TL : LamX.TabB base mg c Pc) (hTm : (Pc, some qAdded) ∈ T9) (hTu : ∀ p ∈ T9, p.1 = Pc → p.2 = some qAdded)
    (c_together : C8.Cal P w K mg base 4 "together" (spTogether P w K mg base T9 CS) []) : C8.Cal P w K mg base 5 "added" (spAdded T9 CS) [] := by
  refine calC Df hm kp bf sc_added (fun vs H Q E h => ?_) (fun A outer s H vs Q E hr h => ?_)
  · obtain ⟨_, _, _, _, rfl, _⟩ := h; rfl
  · obtain ⟨va, vb, wa, wb, rfl, ha, hb, Na, Nb, hl, hlt, hT, k⟩ := h
    refine ⟨_, (pss_one (ps_ret (C8.pe_c c_together hr (by omega) (by rfl) (pa_cons (pv 0) (pa_cons (pv 1) (pa_cons (LX.pe_lam (T := T9) TL rfl (by rfl) hTm hTu rfl (NdefX.ndef_free (sc := C8.fnScope s_added) (fr := []) (by decide +kernel))) pa_nil)))))), ?_⟩
    refine ⟨_, rfl, _, rfl, hT, fun f1 c1 H1 m1 hT1 hn hf1 hc1 => ?_⟩
    refine ⟨va, vb, .ref f1, wa, wb, rfl, ha.m m1, hb.m m1, Na, Nb, hl, hlt, ?_, fun v H' ws e h1 h2 h3 => k v H' ws (m1.trans (Mo.of e)) h1 h2 h3⟩
    refine cb_of (ps := ["left", "right"]) (fr := []) (ws := []) (sp := fun _ vs H Q => ∃ a b : Int, vs = [.int a, .int b] ∧ Q (.int (a + b)) H) ?_ hf1 hc1 cellsIn_nil (fun H' vs r Q _ ⟨a, b, e1, e2⟩ q => ⟨a, b, e1, by rw [← e2]; exact q⟩)
    refine lok_of (N := ["left", "right"]) (nscope_by (by dsimp only [LF.made]; decide +kernel)) ?_ (fun ws vs H Q h => ?_) (fun A outer s H vs ws Q hr hf hc hw h => ?_)
    · intro pm ctv us hu
      match us, hu with
      | [u, v], _ => rfl
    · obtain ⟨_, _, rfl, _⟩ := h; rfl
    · obtain ⟨a, b, rfl, q⟩ := h
      exact ⟨_, pe_op op_add (pv 0) (pv 1), _, rfl, _, rfl, a, b, rfl, rfl, q⟩
end
end KK
end
/-! K6 -/
section
set_option Elab.async false
set_option linter.all false
set_option maxRecDepth 100000
namespace KK
open PySem PySem.Spec PyProof.Rows L2 KM LX LamX NdefX
section
variable {P : Program} {w : World} {K : PySem.W.Frag} {mg : Str → Option Value} {base : Heap} {T9 : LX.TL} {CS : Addr}
abbrev s_added_often : Stmt := top 25
abbrev N_added_often : List Str := ["one", "many", "half", "found"]
theorem sc_added_often : FnScope N_added_often ["one", "many"] (C8.fnScope s_added_often) := C8.fnScope_by (by decide +kernel)
-- slots: one=0 many=1 half=2 found=3
/-- many < n of dice with s sides -/
def spOften (n : Nat) (T9 : LX.TL) (CS : Addr) : Sp := fun vs H Q _ => ∃ (v : V) (many s : Nat) (wd : IL), vs = [v, .int (many : Nat)] ∧ many < n ∧ many ≤ 20 ∧ 1 ≤ s ∧ s ≤ 30 ∧ SpAt CS H v wd ∧ Spr wd (fun φ => Ep s 1 φ 0) ∧ Tbs T9 H ∧ RetSM CS T9 H Q (fun φ => Ep s many φ 0) 700
theorem often_step {f : Addr} {fd : FuncData} {k n m : Nat} (hk : 5 ≤ k) (hn : ∀ x : Nat, 0 < x → x < n → x / 2 < m) (T : Tx K mg) (Df : C8.Def K mg "added_often" s_added_often f fd) (bf : Binds K fd ["one", "many"] []) (c_sure : C8.Cal P w K mg base 4 "sure" (spSure CS) [])
    (c_added : C8.Cal P w K mg base 5 "added" (spAdded T9 CS) []) (c_added_often : C8.Cal P w K mg base k "added_often" (spOften m T9 CS) []) : C8.Cal P w K mg base (k + 1) "added_often" (spOften n T9 CS) [] := by
  refine C8.cal0 Df bf .nil sc_added_often (fun vs H Q E h => ?_) (fun cdv A outer s H vs Q E hr h => ?_)
  · obtain ⟨_, _, _, _, rfl, _⟩ := h; rfl
  · obtain ⟨v, many, s, wd, rfl, hmn, h20, hs1, hs30, hv, hd, hT, k9⟩ := h
    refine ⟨_, (pss_cons (ps_if (pt_cmpR op_lt (pv 1) pe_int (nomark _)) pss_never pss_nil)
      (pss_cons (ps_if (pt_cmpR op_eq (pv 1) pe_int (nomark _)) (pss_one (ps_ret (C8.pe_c c_sure hr (by omega) (by rfl) (pa_cons pe_int pa_nil)))) pss_nil)
      (pss_cons (ps_set (i := 2) sc_added_often.nd rfl (Or.inl rfl) (C8.pe_c c_added_often hr (by omega) (by rfl) (pa_cons (pv 0) (pa_cons (pe_op op_fdivW (pv 1) pe_int) pa_nil))))
      (pss_cons (ps_set (i := 3) sc_added_often.nd rfl (Or.inl rfl) (C8.pe_c c_added hr (by omega) (by rfl) (pa_cons (pv 2) (pa_cons (pv 2) pa_nil))))
      (pss_one (ps_ret (pe_ifExp (pt_cmpR op_eq (pe_op op_mod (pv 1) pe_int) pe_int (nomark _)) (C8.pe_c c_added hr (by omega) (by rfl) (pa_cons (pv 3) (pa_cons (pv 0) pa_nil))) (pv 3)))))))), ?_⟩
    refine ⟨_, rfl, _, _, rfl, rfl, _, rfl, ?_⟩
    rw [decide_eq_false (by omega)]
    refine iteF ⟨_, rfl, rfl, _, rfl, ?_⟩
    rw [decV]
    by_cases z : many = 0
    · subst z
      refine iteY (by rfl) ⟨0, rfl, fun v' H' ws e h1 h2 h3 => k9 v' H' ws (Mo.of e) h1 (h2.congr fun φ => rfl) (by omega)⟩
    · rw [decide_eq_false (by omega)]
      refine iteF ⟨_, rfl, _, rfl, _, _, rfl, rfl, dw (by omega) (Lt2.of (a := 2) (by decide) (by decide)), ?_⟩
      have e2 : ((many : Nat) : Int) / 2 = ((many / 2 : Nat) : Int) := by omega
      refine ⟨v, many / 2, s, wd, (by show [v, V.int (((many : Nat) : Int) / 2)] = _; rw [e2]), hn many (by omega) hmn, by omega, hs1, hs30, hv, hd, hT, fun vh H1 wh m1 hh hsh hlh => ?_⟩
      have lh := dice_len hsh hs1
      have wh1 := dice_whole hsh
      have wh2 := dice_lt hs1 hs30 (show many / 2 ≤ 20 by omega)
      have bh : Lt2 (ms wh fun _ => 1) 100 := Lt2.nn (by have := nrm_whole hsh.1; omega) (by omega)
      have l1 : many / 2 * s - many / 2 + 1 ≤ 300 := by
        have h1 : many / 2 * s ≤ many / 2 * 30 := Nat.mul_le_mul_left _ hs30
        have h2 : many / 2 ≤ many / 2 * s := Nat.le_mul_of_pos_right _ hs1
        omega
      refine ⟨_, rfl, _, rfl, vh, vh, wh, wh, rfl, hh, hh, hsh.1, hsh.1, ?_, (bh.mul bh).up (by decide), m1.2 hT, fun vf H2 wf m2 hf hsf hlf => ?_⟩
      · have := Nat.mul_le_mul (show wh.length ≤ 300 by omega) (show wh.length ≤ 300 by omega)
        omega
      have hsf' : Spr wf (fun φ => Ep s (many / 2 + many / 2) φ 0) := (hsh.added hsh hsf).congr fun φ => Ep_conv s _ _ φ
      refine ⟨_, rfl, _, _, rfl, rfl, by show (0 : Int) < 2; decide, rfl, _, rfl, ?_⟩
      rw [decV]
      have m12 := m1.trans m2
      by_cases odd : many % 2 = 1
      · rw [decide_eq_true (by omega)]
        have lf := dice_len hsf' hs1
        have wf1 := dice_whole hsf'
        have wf2 := dice_lt hs1 hs30 (show many / 2 + many / 2 ≤ 20 by omega)
        have bf' : Lt2 (ms wf fun _ => 1) 100 := Lt2.nn (by have := nrm_whole hsf.1; omega) (by omega)
        have ld := dice_len hd hs1
        have wd1 := dice_whole hd
        have wd2 := dice_lt hs1 hs30 (show 1 ≤ 20 by omega)
        have bd : Lt2 (ms wd fun _ => 1) 100 := Lt2.nn (by have := nrm_whole hd.1; omega) (by omega)
        have l2 : (many / 2 + many / 2) * s - (many / 2 + many / 2) + 1 ≤ 600 := by
          have h1 : (many / 2 + many / 2) * s ≤ (many / 2 + many / 2) * 30 := Nat.mul_le_mul_left _ hs30
          have h2 : (many / 2 + many / 2) ≤ (many / 2 + many / 2) * s := Nat.le_mul_of_pos_right _ hs1
          omega
        refine iteT ⟨_, rfl, _, rfl, vf, v, wf, wd, rfl, hf, (hv.m m1).m m2, hsf.1, hd.1, ?_, (bf'.mul bd).up (by decide), m12.2 hT, fun v3 H3 w3 m3 h3 hs3 hl3 => ?_⟩
        · have := Nat.mul_le_mul (show wf.length ≤ 600 by omega) (show wd.length ≤ 31 by omega)
          omega
        · have em : many / 2 + many / 2 + 1 = many := by omega
          have hs3' : Spr w3 (fun φ => Ep s many φ 0) := (hsf'.added hd hs3).congr fun φ => (Ep_conv s _ 1 φ).trans (by rw [em])
          refine k9 v3 H3 w3 (m12.trans m3) h3 hs3' ?_
          have := dice_len hs3' hs1
          have h1 : many * s ≤ many * 30 := Nat.mul_le_mul_left _ hs30
          omega
      · rw [decide_eq_false (by omega)]
        have em : many / 2 + many / 2 = many := by omega
        rw [em] at hsf'
        refine iteF ⟨_, rfl, k9 vf H2 wf m12 hf hsf' ?_⟩
        have := dice_len hsf' hs1
        have h1 : many * s ≤ many * 30 := Nat.mul_le_mul_left _ hs30
        omega
theorem k_often0 {f : Addr} {fd : FuncData} (Df : C8.Def K mg "added_often" s_added_often f fd) (bf : Binds K fd ["one", "many"] []) : C8.Cal P w K mg base 5 "added_often" (spOften 0 T9 CS) [] :=
  ⟨f, fd, _, [], ⟨fun vs H Q E h => by obtain ⟨_, _, _, _, _, h, _⟩ := h; omega, fun A outer s H args us vs Q E _ _ _ _ h => by obtain ⟨_, _, _, _, _, h, _⟩ := h; omega⟩, Df.mgf, Df.kp, bf, .nil⟩
theorem k_often {f : Addr} {fd : FuncData} (T : Tx K mg) (Df : C8.Def K mg "added_often" s_added_often f fd) (bf : Binds K fd ["one", "many"] []) (c_sure : C8.Cal P w K mg base 4 "sure" (spSure CS) []) (c_added : C8.Cal P w K mg base 5 "added" (spAdded T9 CS) []) : C8.Cal P w K mg base 11 "added_often" (spOften 32 T9 CS) [] := by
  have c1 := often_step (n := 1) (by decide) (fun x h1 h2 => by omega) T Df bf c_sure c_added (k_often0 (T9 := T9) (CS := CS) (P := P) (w := w) (base := base) Df bf)
  have c2 := often_step (n := 2) (by decide) (fun x h1 h2 => by omega) T Df bf c_sure c_added c1
  have c3 := often_step (n := 4) (by decide) (fun x h1 h2 => by omega) T Df bf c_sure c_added c2
  have c4 := often_step (n := 8) (by decide) (fun x h1 h2 => by omega) T Df bf c_sure c_added c3
  have c5 := often_step (n := 16) (by decide) (fun x h1 h2 => by omega) T Df bf c_sure c_added c4
  exact often_step (n := 32) (by decide) (fun x h1 h2 => by omega) T Df bf c_sure c_added c5
/-! ### die, rolls -/
abbrev s_die : Stmt := top 28
abbrev N_die : List Str := ["sides"]
theorem sc_die : FnScope N_die ["sides"] (C8.fnScope s_die) := C8.fnScope_by (by decide +kernel)
-- slots: sides=0
def spDie (CS : Addr) : Sp := fun vs H Q _ => ∃ s : Nat, vs = [.int (s : Nat)] ∧ 1 ≤ s ∧ s ≤ 30 ∧ RetS CS H Q (fun φ => Ep s 1 φ 0) 700
theorem k_die {f : Addr} {fd : FuncData} (T : Tx K mg) (Df : C8.Def K mg "die" s_die f fd) (bf : Binds K fd ["sides"] []) (c_even : C8.Cal P w K mg base 4 "even" (spEven K CS) []) : C8.Cal P w K mg base 5 "die" (spDie CS) [] := by
  refine C8.cal0 Df bf .nil sc_die (fun vs H Q E h => ?_) (fun cdv A outer s H vs Q E hr h => ?_)
  · obtain ⟨_, rfl, _⟩ := h; rfl
  · obtain ⟨s, rfl, hs1, hs30, k⟩ := h
    refine ⟨_, (pss_cons (ps_if (pt_cmpR op_lt (pv 0) pe_int (nomark _)) pss_never pss_nil)
      (pss_one (ps_ret (C8.pe_c c_even hr (by omega) (by rfl) (pa_cons (pe_listRg rfl (by rfl) T.n_list (prg_2 (by rfl) T.n_range pe_int (pe_op op_add (pv 0) pe_int))) pa_nil))))), ?_⟩
    refine ⟨_, rfl, _, _, rfl, rfl, _, rfl, ?_⟩
    rw [decide_eq_false (by omega)]
    refine iteF ⟨_, rfl, _, _, rfl, rfl, _, _, rfl, rfl, RgOk.of_le (by omega) (by omega) (by omega) (by omega), fun q hq => ?_⟩
    have e1 : rgV 1 (s + 1) = ((List.range s).map fun i : Nat => (1 : Int) + i).map V.int := by
      unfold rgV
      rw [List.map_map]
      have : ((s : Int) + 1 - 1).toNat = s := by omega
      rw [this]
      rfl
    refine ⟨q, (List.range s).map fun i : Nat => (1 : Int) + i, rfl, Evl.sq_of (by rw [← e1]; exact upd_same), fun z => ?_, by simp; omega, fun v H' ws e h1 h2 h3 => k v H' ws (Evl.Ex.trans (Evl.Ex.new hq) e) h1 (h2.congr fun φ => ?_) (by simp at h3; omega)⟩
    · have := congrArg List.length z
      simp at this
      omega
    · rw [List.map_map]
      show ((List.range s).map fun i : Nat => φ (1 + i)).sum = KM.E s φ 0
      rw [range_sum]
      unfold KM.E
      exact sumr_congr fun i _ => by rw [Int.zero_add]
abbrev s_rolls : Stmt := top 29
abbrev N_rolls : List Str := ["many", "sides"]
theorem sc_rolls : FnScope N_rolls ["many", "sides"] (C8.fnScope s_rolls) := C8.fnScope_by (by decide +kernel)
-- slots: many=0 sides=1
def spRolls (T9 : LX.TL) (CS : Addr) : Sp := fun vs H Q _ => ∃ many s : Nat, vs = [.int (many : Nat), .int (s : Nat)] ∧ many ≤ 20 ∧ 1 ≤ s ∧ s ≤ 30 ∧ Tbs T9 H ∧ RetSM CS T9 H Q (fun φ => Ep s many φ 0) 700
theorem k_rolls {f : Addr} {fd : FuncData} (T : Tx K mg) (Df : C8.Def K mg "rolls" s_rolls f fd) (bf : Binds K fd ["many", "sides"] []) (c_die : C8.Cal P w K mg base 5 "die" (spDie CS) []) (c_added_often : C8.Cal P w K mg base 11 "added_often" (spOften 32 T9 CS) []) : C8.Cal P w K mg base 12 "rolls" (spRolls T9 CS) [] := by
  refine C8.cal0 Df bf .nil sc_rolls (fun vs H Q E h => ?_) (fun cdv A outer s H vs Q E hr h => ?_)
  · obtain ⟨_, _, rfl, _⟩ := h; rfl
  · obtain ⟨many, s, rfl, hm, hs1, hs30, hT, k⟩ := h
    refine ⟨_, (pss_cons (ps_if (pt_cmpR op_lt (pv 0) pe_int (nomark _)) pss_never pss_nil)
      (pss_one (ps_ret (C8.pe_c c_added_often hr (by omega) (by rfl) (pa_cons (C8.pe_c c_die hr (by omega) (by rfl) (pa_cons (pv 1) pa_nil)) (pa_cons (pv 0) pa_nil)))))), ?_⟩
    refine ⟨_, rfl, _, _, rfl, rfl, _, rfl, ?_⟩
    rw [decide_eq_false (by omega)]
    refine iteF ⟨_, rfl, s, rfl, hs1, hs30, fun vd H1 wd e1 hd hsd _ => ⟨_, rfl, vd, many, s, wd, rfl, by omega, hm, hs1, hs30, hd, hsd, (Mo.of e1 : Mo none T9 _ _).2 hT, fun v H' ws m h1 h2 h3 => k v H' ws ((Mo.of e1).trans m) h1 h2 h3⟩⟩
end
end KK
end
/-! K7 -/
section
set_option Elab.async false
set_option linter.all false
set_option maxRecDepth 100000
namespace KK
open PySem PySem.Spec PyProof.Rows L2 KM LX LamX NdefX
section
variable {P : Program} {w : World} {K : PySem.W.Frag} {mg : Str → Option Value} {base : Heap} {T9 : LX.TL} {CS : Addr}
/-! ### whole counting -/
/-- a def on two counts that gives a whole number and leaves the heap -/
def spN2 (C : Nat → Nat → Prop) (g : Nat → Nat → Int) : Sp := fun vs H Q _ => ∃ a b : Nat, vs = [.int (a : Nat), .int (b : Nat)] ∧ C a b ∧ Q (.int (g a b)) H
def spN1 (C : Nat → Prop) (g : Nat → Int) : Sp := fun vs H Q _ => ∃ a : Nat, vs = [.int (a : Nat)] ∧ C a ∧ Q (.int (g a)) H
theorem bin_lt {n k : Nat} (h : n ≤ 60) : (bin n k : Int) < 2 ^ 64 := by
  have h1 := bin_le_pow n k
  have h2 : (2 : Nat) ^ n ≤ 2 ^ 60 := Nat.pow_le_pow_right (by decide) h
  have h3 : (2 : Nat) ^ 60 < 2 ^ 64 := by decide
  have : ((2 ^ 60 : Nat) : Int) < 2 ^ 64 := by decide
  omega
theorem cm_l {i j : Int} (h0 : 0 ≤ i) (h : i < 2 ^ 64) : CMul i j := .inl ⟨by omega, h⟩
theorem cm_r {i j : Int} (h0 : 0 ≤ j) (h : j < 2 ^ 64) : CMul i j := .inr ⟨by omega, h⟩
theorem dw_n {i : Int} {j : Nat} (h : j ≤ 1000) : CDivW i ((j : Int) + 1) := dw (b := 10) (by omega) (Lt2.nn (by omega) (by show ((j : Int) + 1) < 1024; omega))
theorem ip_mul {X : Cx} : PIp X .Mult (rI CMul fun i j => .int (i * j)) := fun pins s σ H x y v u Q I r1 r2 h => iop_mul pins s σ H x y v u Q I r1 r2 h
abbrev s_ways : Stmt := top 32
abbrev N_ways : List Str := ["many", "few", "found", "turn"]
theorem sc_ways : FnScope N_ways ["many", "few"] (C8.fnScope s_ways) := C8.fnScope_by (by decide +kernel)
-- slots: many=0 few=1 found=2 turn=3
theorem k_ways {f : Addr} {fd : FuncData} (T : Tx K mg) (Df : C8.Def K mg "ways" s_ways f fd) (bf : Binds K fd ["many", "few"] []) : C8.Cal P w K mg base 1 "ways" (spN2 (fun n k => n ≤ 60 ∧ k ≤ 100) fun n k => bin n k) [] := by
  refine C8.cal0 Df bf .nil sc_ways (fun vs H Q E h => ?_) (fun cdv A outer s H vs Q E hr h => ?_)
  · obtain ⟨_, _, rfl, _⟩ := h; rfl
  · obtain ⟨n, k, rfl, ⟨hn, hk⟩, q⟩ := h
    refine ⟨_, (pss_cons (ps_set (i := 2) sc_ways.nd rfl (Or.inl rfl) pe_int)
      (pss_cons (ps_for PassesOwn.never rfl (pi_range1 (by rfl) T.n_range (pa_cons (pv 1) pa_nil)) (pg_name (i := 3) sc_ways.nd rfl (Or.inl rfl) (by exact Or.inl rfl))
      (pss_one (ps_set (i := 2) sc_ways.nd rfl (Or.inl rfl) (pe_op op_fdivW (pe_op op_mul (pv 2) (pe_op op_sub (pv 0) (pv 3))) (pe_op op_add (pv 3) pe_int)))))
      (pss_one (ps_ret (pv 2))))), ?_⟩
    refine ⟨_, rfl, k, rfl, by omega, by omega, ?_⟩
    refine for_n (n := k) (fun i σ' H' => ∃ o : Option V, σ' = [some (.int (n : Nat)), some (.int (k : Nat)), some (.int (bin n i : Nat)), o] ∧ H' = H) ⟨_, by rw [bin_zero]; rfl, rfl⟩ (fun i σ' H' hi _ => by show i < (k : Int).toNat; omega) (fun σ' H' _ => by show (k : Int).toNat ≤ k; omega) ?_ ?_
    · rintro i _ _ u H2 hi ⟨o, rfl, rfl⟩ ⟨rfl, rfl⟩
      refine ⟨_, rfl, _, rfl, _, rfl, _, _, rfl, rfl, _, _, rfl, rfl, cm_l (by omega) (bin_lt hn), _, rfl, _, _, rfl, rfl, _, _, rfl, rfl, ?_, ?_⟩
      · rw [Int.zero_add]
        exact dw_n (by omega)
      · refine ⟨some (.int (i : Nat)), ?_, rfl⟩
        simp only [Int.zero_add, bin_step]
        rfl
    · rintro _ _ ⟨o, rfl, rfl⟩
      exact ⟨_, rfl, q⟩
abbrev s_check_count : Stmt := top 41
abbrev N_check_count : List Str := ["many"]
theorem sc_check_count : FnScope N_check_count ["many"] (C8.fnScope s_check_count) := C8.fnScope_by (by decide +kernel)
-- slots: many=0
theorem k_check_count {f : Addr} {fd : FuncData} (T : Tx K mg) (Df : C8.Def K mg "check_count" s_check_count f fd) (bf : Binds K fd ["many"] []) : C8.Cal P w K mg base 1 "check_count" (spN1 (fun _ => True) fun n => (n : Nat)) [] := by
  refine C8.cal0 Df bf .nil sc_check_count (fun vs H Q E h => ?_) (fun cdv A outer s H vs Q E hr h => ?_)
  · obtain ⟨_, rfl, _⟩ := h; rfl
  · obtain ⟨n, rfl, _, q⟩ := h
    refine ⟨_, (pss_cons (ps_if (pt_cmpR op_lt (pv 0) pe_int (nomark _)) pss_never pss_nil)
      (pss_one (ps_ret (pv 0)))), ?_⟩
    refine ⟨_, rfl, _, _, rfl, rfl, _, rfl, ?_⟩
    rw [decide_eq_false (by omega)]
    exact iteF ⟨_, rfl, q⟩
abbrev s_check_many : Stmt := top 47
abbrev N_check_many : List Str := ["many"]
theorem sc_check_many : FnScope N_check_many ["many"] (C8.fnScope s_check_many) := C8.fnScope_by (by decide +kernel)
-- slots: many=0
theorem k_check_many {f : Addr} {fd : FuncData} (T : Tx K mg) (Df : C8.Def K mg "check_many" s_check_many f fd) (bf : Binds K fd ["many"] []) : C8.Cal P w K mg base 1 "check_many" (spN1 (fun n => 1 ≤ n) fun n => (n : Nat)) [] := by
  refine C8.cal0 Df bf .nil sc_check_many (fun vs H Q E h => ?_) (fun cdv A outer s H vs Q E hr h => ?_)
  · obtain ⟨_, rfl, _⟩ := h; rfl
  · obtain ⟨n, rfl, hn, q⟩ := h
    refine ⟨_, (pss_cons (ps_if (pt_cmpR op_lt (pv 0) pe_int (nomark _)) pss_never pss_nil)
      (pss_one (ps_ret (pv 0)))), ?_⟩
    refine ⟨_, rfl, _, _, rfl, rfl, _, rfl, ?_⟩
    rw [decide_eq_false (by omega)]
    exact iteF ⟨_, rfl, q⟩
abbrev s_factorial : Stmt := top 42
abbrev N_factorial : List Str := ["many", "found", "one"]
theorem sc_factorial : FnScope N_factorial ["many"] (C8.fnScope s_factorial) := C8.fnScope_by (by decide +kernel)
-- slots: many=0 found=1 one=2
theorem fac_lt : ∀ n : Nat, n < 15 → (fac n : Int) < 2 ^ 64 := by decide
theorem k_factorial {f : Addr} {fd : FuncData} (T : Tx K mg) (Df : C8.Def K mg "factorial" s_factorial f fd) (bf : Binds K fd ["many"] []) (c_check_count : C8.Cal P w K mg base 1 "check_count" (spN1 (fun _ => True) fun n => (n : Nat)) []) : C8.Cal P w K mg base 2 "factorial" (spN1 (fun n => n ≤ 14) fun n => (fac n : Nat)) [] := by
  refine C8.cal0 Df bf .nil sc_factorial (fun vs H Q E h => ?_) (fun cdv A outer s H vs Q E hr h => ?_)
  · obtain ⟨_, rfl, _⟩ := h; rfl
  · obtain ⟨n, rfl, hn, q⟩ := h
    refine ⟨_, (pss_cons (ps_set (i := 1) sc_factorial.nd rfl (Or.inl rfl) pe_int)
      (pss_cons (ps_for PassesOwn.never rfl (pi_range2 (by rfl) T.n_range (pa_cons pe_int (pa_cons (pe_op op_add (C8.pe_c c_check_count hr (by omega) (by rfl) (pa_cons (pv 0) pa_nil)) pe_int) pa_nil))) (pg_name (i := 2) sc_factorial.nd rfl (Or.inl rfl) (by exact Or.inl rfl))
      (pss_one (ps_aug (i := 1) sc_factorial.nd rfl (Or.inl rfl) (pv 2) ip_mul)))
      (pss_one (ps_ret (pv 1))))), ?_⟩
    refine ⟨_, rfl, n, rfl, trivial, _, _, rfl, rfl, 2, ((n : Nat) : Int) + 1, rfl, ⟨by omega, by omega, by omega, by omega⟩, ?_⟩
    refine for_n (n := n - 1) (fun i σ' H' => ∃ o : Option V, σ' = [some (.int (n : Nat)), some (.int (fac (i + 1) : Nat)), o] ∧ H' = H) ⟨_, rfl, rfl⟩ (fun i σ' H' hi _ => by show i < ((n : Int) + 1 - 2).toNat; omega) (fun σ' H' _ => by show ((n : Int) + 1 - 2).toNat ≤ n - 1; omega) ?_ ?_
    · rintro i _ _ u H2 hi ⟨o, rfl, rfl⟩ ⟨rfl, rfl⟩
      refine ⟨_, rfl, _, rfl, _, _, rfl, rfl, cm_l (by omega) (fac_lt _ (by omega)), some (.int (2 + (i : Nat))), ?_, rfl⟩
      have e : ((fac (i + 1) : Nat) : Int) * (2 + (i : Nat)) = ((fac (i + 1 + 1) : Nat) : Int) := by
        show _ = ((fac (i + 1) * (i + 1 + 1) : Nat) : Int)
        rw [Int.natCast_mul]
        congr 1
        omega
      simp only [e]
      rfl
    · rintro _ _ ⟨o, rfl, rfl⟩
      refine ⟨_, rfl, ?_⟩
      rcases Nat.eq_zero_or_pos n with z | z
      · subst z; exact q
      · rw [show n - 1 + 1 = n by omega]; exact q
abbrev s_choose : Stmt := top 43
abbrev N_choose : List Str := ["many", "few", "found", "turn"]
theorem sc_choose : FnScope N_choose ["many", "few"] (C8.fnScope s_choose) := C8.fnScope_by (by decide +kernel)
-- slots: many=0 few=1 found=2 turn=3
theorem k_choose {f : Addr} {fd : FuncData} (T : Tx K mg) (Df : C8.Def K mg "choose" s_choose f fd) (bf : Binds K fd ["many", "few"] []) (c_check_count : C8.Cal P w K mg base 1 "check_count" (spN1 (fun _ => True) fun n => (n : Nat)) []) : C8.Cal P w K mg base 2 "choose" (spN2 (fun n k => n ≤ 60 ∧ k ≤ 100) fun n k => bin n k) [] := by
  refine C8.cal0 Df bf .nil sc_choose (fun vs H Q E h => ?_) (fun cdv A outer s H vs Q E hr h => ?_)
  · obtain ⟨_, _, rfl, _⟩ := h; rfl
  · obtain ⟨n, k, rfl, ⟨hn, hk⟩, q⟩ := h
    refine ⟨_, (pss_cons (ps_expr (C8.pe_c c_check_count hr (by omega) (by rfl) (pa_cons (pv 0) pa_nil)))
      (pss_cons (ps_if (pt_not (pt_chain op_le op_le pe_int (pv 1) (pv 0))) (pss_one (ps_ret pe_int)) pss_nil)
      (pss_cons (ps_set (i := 2) sc_choose.nd rfl (Or.inl rfl) pe_int)
      (pss_cons (ps_for PassesOwn.never rfl (pi_range1 (by rfl) T.n_range (pa_cons (pv 1) pa_nil)) (pg_name (i := 3) sc_choose.nd rfl (Or.inl rfl) (by exact Or.inl rfl))
      (pss_one (ps_set (i := 2) sc_choose.nd rfl (Or.inl rfl) (pe_op op_fdivW (pe_op op_mul (pv 2) (pe_op op_sub (pv 0) (pv 3))) (pe_op op_add (pv 3) pe_int)))))
      (pss_one (ps_ret (pv 2))))))), ?_⟩
    refine ⟨_, rfl, n, rfl, trivial, _, rfl, _, _, rfl, rfl, _, rfl, ?_⟩
    rw [decide_eq_true (by omega)]
    refine iteT ⟨_, rfl, _, _, rfl, rfl, _, rfl, ?_⟩
    by_cases hle : k ≤ n
    · rw [decide_eq_true (by omega)]
      refine ⟨_, rfl, k, rfl, by omega, by omega, ?_⟩
      refine for_n (n := k) (fun i σ' H' => ∃ o : Option V, σ' = [some (.int (n : Nat)), some (.int (k : Nat)), some (.int (bin n i : Nat)), o] ∧ H' = H) ⟨_, by rw [bin_zero]; rfl, rfl⟩ (fun i σ' H' hi _ => by show i < (k : Int).toNat; omega) (fun σ' H' _ => by show (k : Int).toNat ≤ k; omega) ?_ ?_
      · rintro i _ _ u H2 hi ⟨o, rfl, rfl⟩ ⟨rfl, rfl⟩
        refine ⟨_, rfl, _, rfl, _, rfl, _, _, rfl, rfl, _, _, rfl, rfl, cm_l (by omega) (bin_lt hn), _, rfl, _, _, rfl, rfl, _, _, rfl, rfl, ?_, ?_⟩
        · rw [Int.zero_add]
          exact dw_n (by omega)
        · refine ⟨some (.int (i : Nat)), ?_, rfl⟩
          simp only [Int.zero_add, bin_step]
          rfl
      · rintro _ _ ⟨o, rfl, rfl⟩
        exact ⟨_, rfl, q⟩
    · rw [decide_eq_false (by omega)]
      have z := bin_gt (show n < k by omega)
      have e : ((bin n k : Nat) : Int) = 0 := by rw [z]; rfl
      have q : Q (.int ((bin n k : Nat) : Int)) H := q
      rw [e] at q
      exact q
abbrev s_none_home : Stmt := top 44
abbrev N_none_home : List Str := ["many", "ahead", "here", "one"]
theorem sc_none_home : FnScope N_none_home ["many"] (C8.fnScope s_none_home) := C8.fnScope_by (by decide +kernel)
-- slots: many=0 ahead=1 here=2 one=3
theorem k_none_home {f : Addr} {fd : FuncData} (T : Tx K mg) (Df : C8.Def K mg "none_home" s_none_home f fd) (bf : Binds K fd ["many"] []) (c_check_count : C8.Cal P w K mg base 1 "check_count" (spN1 (fun _ => True) fun n => (n : Nat)) []) : C8.Cal P w K mg base 2 "none_home" (fun vs H Q _ => ∃ n : Nat, vs = [.int (n : Nat)] ∧ n ≤ 14 ∧ ∀ H', Ex H H' → Q (.int (der n)) H') [] := by
  refine C8.cal0 Df bf .nil sc_none_home (fun vs H Q E h => ?_) (fun cdv A outer s H vs Q E hr h => ?_)
  · obtain ⟨_, rfl, _⟩ := h; rfl
  · obtain ⟨n, rfl, hn, q⟩ := h
    refine ⟨_, (pss_cons (ps_asg (pe_tup (pa_cons pe_int (pa_cons pe_int pa_nil))) (pg_tup (n := 2) rfl (pgs_cons (pg_name (i := 1) sc_none_home.nd rfl (Or.inl rfl) (by exact Or.inl rfl)) (pgs_cons (pg_name (i := 2) sc_none_home.nd rfl (Or.inl rfl) (by exact Or.inl rfl)) pgs_nil))))
      (pss_cons (ps_for PassesOwn.never rfl (pi_range2 (by rfl) T.n_range (pa_cons pe_int (pa_cons (pe_op op_add (C8.pe_c c_check_count hr (by omega) (by rfl) (pa_cons (pv 0) pa_nil)) pe_int) pa_nil))) (pg_name (i := 3) sc_none_home.nd rfl (Or.inl rfl) (by exact Or.inl rfl))
      (pss_one (ps_par (i := 1) (j := 2) (by rfl) sc_none_home.nd rfl rfl (by decide) rfl rfl (pa_cons (pv 2) (pa_cons (pe_op op_mul (pe_op op_sub (pv 3) pe_int) (pe_op op_add (pv 1) (pv 2))) pa_nil)) (by rfl))))
      (pss_one (ps_ret (pe_ifExp (pt_cmpR op_eq (pv 0) pe_int (nomark _)) pe_int (pv 2)))))), ?_⟩
    refine ⟨(by show 2 ≤ sizeLine; decide), fun p hp => ⟨p, _, rfl, Evl.st_of upd_same, rfl, _, _, rfl, _, _, rfl, rfl, _, rfl, n, rfl, trivial, _, _, rfl, rfl, 2, ((n : Nat) : Int) + 1, rfl, ⟨by omega, by omega, by omega, by omega⟩, ?_⟩⟩
    refine for_n (n := n - 1) (fun i σ' H' => ∃ o : Option V, σ' = [some (.int (n : Nat)), some (.int (der i)), some (.int (der (i + 1))), o] ∧ Ex H H') ⟨_, rfl, Evl.Ex.new hp⟩ (fun i σ' H' hi _ => by show i < ((n : Int) + 1 - 2).toNat; omega) (fun σ' H' _ => by show ((n : Int) + 1 - 2).toNat ≤ n - 1; omega) ?_ ?_
    · rintro i _ H1 u H2 hi ⟨o, rfl, e⟩ ⟨rfl, rfl⟩
      have d1 := der_lt i (by omega)
      have d2 := der_lt (i + 1) (by omega)
      refine ⟨_, rfl, _, rfl, _, _, rfl, rfl, _, rfl, _, rfl, _, _, rfl, rfl, _, _, rfl, rfl, cm_r (by omega) (by omega), _, _, rfl, some (.int (2 + (i : Nat))), ?_, e⟩
      have e2 : (2 + ((i : Nat) : Int) - 1) * (der i + der (i + 1)) = der (i + 1 + 1) := by
        show _ = ((i : Int) + 1) * (der i + der (i + 1))
        congr 1
        omega
      simp only [e2]
      rfl
    · rintro _ H1 ⟨o, rfl, e⟩
      refine ⟨_, rfl, rfl, _, rfl, ?_⟩
      rw [decV]
      rcases Nat.eq_zero_or_pos n with z | z
      · subst z
        exact iteY (by rfl) (q _ e)
      · rw [decide_eq_false (by omega)]
        refine iteF ⟨_, rfl, ?_⟩
        rw [show n - 1 + 1 = n by omega]
        exact q _ e
end
end KK
end
/-! K8 -/
section
set_option Elab.async false
set_option linter.all false
set_option maxRecDepth 100000
namespace KK
open PySem PySem.Spec PyProof.Rows L2 KM LX LamX NdefX
section
variable {P : Program} {w : World} {K : PySem.W.Frag} {mg : Str → Option Value} {base : Heap} {T9 : LX.TL} {CS : Addr}
abbrev s_raised : Stmt := top 16
abbrev N_raised : List Str := ["number", "count", "half"]
theorem sc_raised : FnScope N_raised ["number", "count"] (C8.fnScope s_raised) := C8.fnScope_by (by decide +kernel)
-- slots: number=0 count=1 half=2
def spRaised (n : Nat) : Sp := spN2 (fun b e => b ≤ 12 ∧ e < n ∧ e ≤ 20) fun b e => ((b ^ e : Nat) : Int)
theorem pow_lt {b e : Nat} (hb : b ≤ 12) (he : e ≤ 20) : Lt2 ((b ^ e : Nat) : Int) 80 := by
  have h2 : b ^ e ≤ 12 ^ 20 := Nat.le_trans (Nat.pow_le_pow_left hb e) (Nat.pow_le_pow_right (by omega) he)
  have h3 : (12 : Nat) ^ 20 < 2 ^ 80 := by decide
  refine Lt2.nn (by omega) ?_
  have h4 : ((12 ^ 20 : Nat) : Int) < 2 ^ 80 := by decide
  omega
theorem raised_step {f : Addr} {fd : FuncData} {k n m : Nat} (hn : ∀ x : Nat, 0 < x → x < n → x / 2 < m) (T : Tx K mg) (Df : C8.Def K mg "raised" s_raised f fd) (bf : Binds K fd ["number", "count"] []) (c_raised : C8.Cal P w K mg base k "raised" (spRaised m) []) : C8.Cal P w K mg base (k + 1) "raised" (spRaised n) [] := by
  refine C8.cal0 Df bf .nil sc_raised (fun vs H Q E h => ?_) (fun cdv A outer s H vs Q E hr h => ?_)
  · obtain ⟨_, _, rfl, _⟩ := h; rfl
  · obtain ⟨b, e, rfl, ⟨hb, hen, h20⟩, q⟩ := h
    refine ⟨_, (pss_cons (ps_if (pt_cmpR op_lt (pv 1) pe_int (nomark _)) pss_never pss_nil)
      (pss_cons (ps_if (pt_cmpR op_eq (pv 1) pe_int (nomark _)) (pss_one (ps_ret pe_int)) pss_nil)
      (pss_cons (ps_set (i := 2) sc_raised.nd rfl (Or.inl rfl) (C8.pe_c c_raised hr (by omega) (by rfl) (pa_cons (pv 0) (pa_cons (pe_op op_fdivW (pv 1) pe_int) pa_nil))))
      (pss_one (ps_ret (pe_op op_mulW (pe_op op_mulW (pv 2) (pv 2)) (pe_ifExp (pt_cmpR op_eq (pe_op op_mod (pv 1) pe_int) pe_int (nomark _)) (pv 0) pe_int))))))), ?_⟩
    refine ⟨_, rfl, _, _, rfl, rfl, _, rfl, ?_⟩
    rw [decide_eq_false (by omega)]
    refine iteF ⟨_, rfl, rfl, _, rfl, ?_⟩
    rw [decV]
    by_cases z : e = 0
    · subst z
      exact iteY (by rfl) q
    · rw [decide_eq_false (by omega)]
      have e2 : ((e : Nat) : Int) / 2 = ((e / 2 : Nat) : Int) := by omega
      refine iteF ⟨_, rfl, _, rfl, _, _, rfl, rfl, dw (by omega) (Lt2.of (a := 2) (by decide) (by decide)), b, e / 2, (by show [V.int (b : Nat), V.int (((e : Nat) : Int) / 2)] = _; rw [e2]), ⟨hb, hn e (by omega) hen, by omega⟩, ?_⟩
      have l1 := pow_lt (e := e / 2) hb (by omega)
      refine ⟨_, rfl, _, rfl, _, _, rfl, rfl, mw l1 l1, _, rfl, _, _, rfl, rfl, by show (0 : Int) < 2; decide, rfl, _, rfl, ?_⟩
      rw [decV]
      have q : Q (.int ((b ^ e : Nat) : Int)) H := q
      have lb : Lt2 ((b : Nat) : Int) 4 := Lt2.nn (by omega) (by show ((b : Nat) : Int) < 16; omega)
      by_cases odd : e % 2 = 1
      · rw [decide_eq_true (by omega)]
        refine iteT ⟨_, rfl, _, _, rfl, rfl, mw (l1.mul l1) lb, ?_⟩
        have e3 : ((b ^ (e / 2) : Nat) : Int) * ((b ^ (e / 2) : Nat) : Int) * ((b : Nat) : Int) = ((b ^ e : Nat) : Int) := by
          rw [← Int.natCast_mul, ← Int.natCast_mul, ← Nat.pow_add, ← Nat.pow_succ]
          congr 2
          omega
        rw [← e3] at q
        exact q
      · rw [decide_eq_false (by omega)]
        refine iteF ⟨_, _, rfl, rfl, mw (b := 4) (l1.mul l1) (Lt2.of (by decide) (by decide)), ?_⟩
        have e3 : ((b ^ (e / 2) : Nat) : Int) * ((b ^ (e / 2) : Nat) : Int) * 1 = ((b ^ e : Nat) : Int) := by
          rw [Int.mul_one, ← Int.natCast_mul, ← Nat.pow_add]
          congr 2
          omega
        rw [← e3] at q
        exact q
theorem k_raised0 {f : Addr} {fd : FuncData} (Df : C8.Def K mg "raised" s_raised f fd) (bf : Binds K fd ["number", "count"] []) : C8.Cal P w K mg base 1 "raised" (spRaised 0) [] :=
  ⟨f, fd, _, [], ⟨fun vs H Q E h => by obtain ⟨_, _, _, ⟨_, h, _⟩, _⟩ := h; omega, fun A outer s H args us vs Q E _ _ _ _ h => by obtain ⟨_, _, _, ⟨_, h, _⟩, _⟩ := h; omega⟩, Df.mgf, Df.kp, bf, .nil⟩
theorem k_raised {f : Addr} {fd : FuncData} (T : Tx K mg) (Df : C8.Def K mg "raised" s_raised f fd) (bf : Binds K fd ["number", "count"] []) : C8.Cal P w K mg base 7 "raised" (spRaised 32) [] := by
  have c1 := raised_step (n := 1) (fun x h1 h2 => by omega) T Df bf (k_raised0 (P := P) (w := w) (base := base) Df bf)
  have c2 := raised_step (n := 2) (fun x h1 h2 => by omega) T Df bf c1
  have c3 := raised_step (n := 4) (fun x h1 h2 => by omega) T Df bf c2
  have c4 := raised_step (n := 8) (fun x h1 h2 => by omega) T Df bf c3
  have c5 := raised_step (n := 16) (fun x h1 h2 => by omega) T Df bf c4
  exact raised_step (n := 32) (fun x h1 h2 => by omega) T Df bf c5
abbrev s_onto : Stmt := top 45
abbrev N_onto : List Str := ["many", "few", "found", "out", "sign"]
theorem sc_onto : FnScope N_onto ["many", "few"] (C8.fnScope s_onto) := C8.fnScope_by (by decide +kernel)
-- slots: many=0 few=1 found=2 out=3 sign=4
abbrev CC : Prop := True
theorem k_onto {f : Addr} {fd : FuncData} (T : Tx K mg) (Df : C8.Def K mg "onto" s_onto f fd) (bf : Binds K fd ["many", "few"] []) (c_check_count : C8.Cal P w K mg base 1 "check_count" (spN1 (fun _ => True) fun n => (n : Nat)) []) (c_choose : C8.Cal P w K mg base 2 "choose" (spN2 (fun n k => n ≤ 60 ∧ k ≤ 100) fun n k => bin n k) [])
    (c_raised : C8.Cal P w K mg base 7 "raised" (spRaised 32) []) : C8.Cal P w K mg base 8 "onto" (spN2 (fun m f => m ≤ 20 ∧ f ≤ 12) ont) [] := by
  refine C8.cal0 Df bf .nil sc_onto (fun vs H Q E h => ?_) (fun cdv A outer s H vs Q E hr h => ?_)
  · obtain ⟨_, _, rfl, _⟩ := h; rfl
  · obtain ⟨m, n, rfl, ⟨hm, hn⟩, q⟩ := h
    refine ⟨_, (pss_cons (ps_expr (C8.pe_c c_check_count hr (by omega) (by rfl) (pa_cons (pv 1) pa_nil)))
      (pss_cons (ps_set (i := 2) sc_onto.nd rfl (Or.inl rfl) pe_int)
      (pss_cons (ps_for PassesOwn.never rfl (pi_range1 (by rfl) T.n_range (pa_cons (pe_op op_add (pv 1) pe_int) pa_nil)) (pg_name (i := 3) sc_onto.nd rfl (Or.inl rfl) (by exact Or.inl rfl))
      (pss_cons (ps_set (i := 4) sc_onto.nd rfl (Or.inl rfl) (pe_ifExp (pt_cmpR op_eq (pe_op op_mod (pv 3) pe_int) pe_int (nomark _)) pe_int (pe_un un_neg pe_int)))
        (pss_one (ps_aug (i := 2) sc_onto.nd rfl (Or.inl rfl) (pe_op op_mulW (pe_op op_mulW (pv 4) (C8.pe_c c_choose hr (by omega) (by rfl) (pa_cons (pv 1) (pa_cons (pv 3) pa_nil)))) (C8.pe_c c_raised hr (by omega) (by rfl) (pa_cons (pe_op op_sub (pv 1) (pv 3)) (pa_cons (C8.pe_c c_check_count hr (by omega) (by rfl) (pa_cons (pv 0) pa_nil)) pa_nil)))) ip_add))))
      (pss_one (ps_ret (pv 2)))))), ?_⟩
    refine ⟨_, rfl, n, rfl, trivial, _, rfl, _, _, rfl, rfl, ((n : Nat) : Int) + 1, rfl, by omega, by omega, ?_⟩
    have q : Q (.int (sumr (n + 1) fun j => (if j % 2 = 0 then 1 else -1) * (bin n j : Int) * (((n : Int) - j) ^ m))) H := q
    generalize hF : (fun j : Nat => (if j % 2 = 0 then 1 else -1) * (bin n j : Int) * (((n : Int) - j) ^ m)) = F at q
    refine for_n (n := n + 1) (fun i σ' H' => ∃ o o2 : Option V, σ' = [some (.int (m : Nat)), some (.int (n : Nat)), some (.int (sumr i F)), o, o2] ∧ H' = H) ⟨_, _, rfl, rfl⟩ (fun i σ' H' hi _ => by show i < ((n : Int) + 1).toNat; omega) (fun σ' H' _ => by show ((n : Int) + 1).toNat ≤ n + 1; omega) ?_ ?_
    · rintro i _ _ u H2 hi ⟨o, o2, rfl, rfl⟩ ⟨rfl, rfl⟩
      refine ⟨_, rfl, _, _, rfl, rfl, by show (0 : Int) < 2; decide, rfl, _, rfl, ?_⟩
      rw [decV]
      have rest : ∀ sg : Int, sg = (if i % 2 = 0 then 1 else -1) → ∀ (nx : L2.St → Hp → Prop) (D : Ends), D.nx = nx → nx [some (.int (m : Nat)), some (.int (n : Nat)), some (.int (sumr (i + 1) F)), some (.int (0 + (i : Nat))), some (.int sg)] H2 →
          (tAug 2 (tOp (rI CMulW fun i j => .int (i * j)) (tOp (rI CMulW fun i j => .int (i * j)) (tVar 4) (tCall (spN2 (fun n k => n ≤ 60 ∧ k ≤ 100) fun n k => bin n k) [] C8.E0 (tCons (tVar 1) (tCons (tVar 3) tNil)))) (tCall (spRaised 32) [] C8.E0 (tCons (tOp (rI0 fun i j => .int (i - j)) (tVar 1) (tVar 3)) (tCons (tCall (spN1 (fun _ => True) fun n => (n : Nat)) [] C8.E0 (tCons (tVar 0) tNil)) tNil)))) (ipI fun i j => i + j)) D [some (.int (m : Nat)), some (.int (n : Nat)), some (.int (sumr i F)), some (.int (0 + (i : Nat))), some (.int sg)] H2 := by
        intro sg hsg nx D hD hnx
        have ls : Lt2 sg 1 := by rw [hsg]; split <;> (unfold Lt2 Ln; decide)
        have lb : Lt2 ((bin n i : Nat) : Int) 64 := Lt2.nn (by omega) (bin_lt (by omega))
        have lp := pow_lt (b := n - i) (e := m) (by omega) hm
        refine ⟨_, rfl, _, rfl, _, rfl, _, rfl, n, i, (by show [V.int (n : Nat), V.int (0 + (i : Nat))] = _; rw [Int.zero_add]), ⟨by omega, by omega⟩, _, _, rfl, rfl, mw ls lb, _, rfl, _, rfl, _, _, rfl, rfl, _, rfl, m, rfl, trivial, n - i, m, ?_, ⟨by omega, by omega, hm⟩, _, _, rfl, rfl, mw (ls.mul lb) lp, _, _, rfl, rfl, ?_⟩
        · show [V.int (((n : Nat) : Int) - (0 + (i : Nat))), V.int (m : Nat)] = _
          rw [Int.zero_add, show ((n : Nat) : Int) - (i : Nat) = ((n - i : Nat) : Int) by omega]
        · rw [hD]
          have e3 : sumr i F + sg * ((bin n i : Nat) : Int) * (((n - i) ^ m : Nat) : Int) = sumr (i + 1) F := by
            show _ = sumr i F + F i
            rw [← hF, hsg, Int.natCast_pow, show ((n - i : Nat) : Int) = (n : Int) - i by omega]
          simp only [e3]
          exact hnx
      by_cases ev : i % 2 = 0
      · rw [decide_eq_true (by omega)]
        refine iteT (rest 1 (by rw [if_pos ev]) _ _ rfl ⟨_, _, rfl, rfl⟩)
      · rw [decide_eq_false (by omega)]
        refine iteF ⟨_, rfl, rest (-1) (by rw [if_neg ev]) _ _ rfl ⟨_, _, rfl, rfl⟩⟩
    · rintro _ _ ⟨o, o2, rfl, rfl⟩
      exact ⟨_, rfl, q⟩
/-! ### dicts of pairs over a range -/
theorem dk_rg (n : Nat) (f : Nat → Int) : dk (rg (n + 1) f) = dk (rg n f) ++ [(.inl (n : Int), .int (f n))] := by rw [rg_succ]; unfold dk; rw [List.map_append]; rfl
/-- Spread(dict(pairs)) -/
theorem dict_sp {H1 : Hp} {D : Addr} {acc : List V} {rows : IL} {Q : VK} (hacc : H1 D = some (.lst acc)) (p : Prs K H1 acc (dk rows)) (nd : (rows.map (·.1)).Nodup) (nn : ∀ p ∈ rows, 0 ≤ p.2) (hp : 0 < ms rows fun _ => 1) (hb : Lt2 (ms rows fun _ => 1) 8000) (hl : rows.length ≤ 100000)
    (k : ∀ v H2 ws, Ex H1 H2 → SpAt CS H2 v ws → Spr ws (ms rows) → ws.length ≤ rows.length → Q v H2) :
    ∃ (a : Addr) (ps : List Addr) (kvs : List (Key × V)), [V.ref D] = [V.ref a] ∧ SqL K H1 a (ps.map V.ref) ∧ Paired (fun p kv => SqT K H1 p [kV kv.1, kv.2]) ps kvs ∧ ∀ q, H1 q = none →
      ∀ x dx, upd H1 q (.dK (mergeK [] kvs)) x = none → upd H1 q (.dK (mergeK [] kvs)) dx = none → dx ≠ x → spInit CS (.ref x :: ([.ref q] ++ [])) (upd (upd (upd H1 q (.dK (mergeK [] kvs))) dx (.own x)) x (.ins CS dx [])) (fun v H2 => v = .non ∧ Q (.ref x) H2) C8.E0 := by
  obtain ⟨ps, rfl, hps⟩ := p
  refine ⟨D, ps, dk rows, rfl, Evl.sq_of hacc, hps, fun q hq => ?_⟩
  rw [mergeK_nd (dk_nd nd)]
  exact mk_sp (.inl upd_same) nd nn hp hb hl fun v H2 ws e h1 h2 h3 => k v H2 ws (Evl.Ex.trans (Evl.Ex.new hq) e) h1 h2 h3
theorem rg_bound {n : Nat} {f : Nat → Int} (hn : n ≤ 100) (h : ∀ k, k < n → 0 ≤ f k ∧ f k < 2 ^ 200) : (0 : Int) ≤ (ms (rg n f) fun _ => 1) ∧ Lt2 (ms (rg n f) fun _ => 1) 8000 := by
  rw [rg_ms]
  have h0 : 0 ≤ sumr n fun k => f k * 1 := sumr_nonneg fun i hi => by simpa using (h i hi).1
  have h1 : (sumr n fun k => f k * 1) ≤ n * 2 ^ 200 := sumr_le fun i hi => by simpa using Int.le_of_lt (h i hi).2
  refine ⟨h0, Lt2.up (a := 240) (Lt2.nn h0 ?_) (by decide)⟩
  have h2 : (n : Int) * 2 ^ 200 ≤ 100 * 2 ^ 200 := Int.mul_le_mul_of_nonneg_right (by omega) (by decide)
  have h3 : (100 : Int) * 2 ^ 200 < 2 ^ 240 := by decide
  omega
theorem rg_whole {n k : Nat} {f : Nat → Int} (h : ∀ k, k < n → 0 ≤ f k) (hk : k < n) (hp : 0 < f k) : 0 < ms (rg n f) fun _ => 1 := by
  rw [rg_ms]
  exact sumr_pos (fun i hi => by simpa using h i hi) hk (by simpa using hp)
theorem mul_lt {a b : Int} {i j : Nat} (ha : 0 ≤ a) (ha2 : a < 2 ^ i) (hb : 0 ≤ b) (hb2 : b < 2 ^ j) : 0 ≤ a * b ∧ a * b < 2 ^ (i + j) := by
  refine ⟨Int.mul_nonneg ha hb, ?_⟩
  have h1 : a * b ≤ a * 2 ^ j := Int.mul_le_mul_of_nonneg_left (Int.le_of_lt hb2) ha
  have h2 : a * 2 ^ j < 2 ^ i * 2 ^ j := Int.mul_lt_mul_of_pos_right ha2 (Int.pow_pos (by decide))
  rw [Int.pow_add]
  omega
abbrev s_at_home : Stmt := top 48
abbrev N_at_home : List Str := ["many", "one"]
theorem sc_at_home : FnScope N_at_home ["many"] (C8.fnScope s_at_home) := C8.fnScope_by (by decide +kernel)
-- slots: many=0c one=1
def spAtHome (CS : Addr) : Sp := fun vs H Q _ => ∃ n : Nat, vs = [.int (n : Nat)] ∧ 1 ≤ n ∧ n ≤ 14 ∧ RetS CS H Q (ms (rg (n + 1) fun k => (bin n k : Int) * der (n - k))) 60
theorem k_at_home {f : Addr} {fd : FuncData} (T : Tx K mg) (Df : C8.Def K mg "at_home" s_at_home f fd) (bf : Binds K fd ["many"] []) (c_check_many : C8.Cal P w K mg base 1 "check_many" (spN1 (fun n => 1 ≤ n) fun n => (n : Nat)) []) (c_choose : C8.Cal P w K mg base 2 "choose" (spN2 (fun n k => n ≤ 60 ∧ k ≤ 100) fun n k => bin n k) [])
    (c_none_home : C8.Cal P w K mg base 2 "none_home" (fun vs H Q _ => ∃ n : Nat, vs = [.int (n : Nat)] ∧ n ≤ 14 ∧ ∀ H', Ex H H' → Q (.int (der n)) H') []) (m_Spread : C8.Mak P w K mg base 2 "Spread" CS (spInit CS) []) : C8.Cal P w K mg base 4 "at_home" (spAtHome CS) [] := by
  refine C8.cal0 Df bf .nil sc_at_home (fun vs H Q E h => ?_) (fun cdv A outer s H vs Q E hr h => ?_)
  · obtain ⟨_, rfl, _⟩ := h; rfl
  · obtain ⟨n, rfl, h1, h14, k⟩ := h
    refine ⟨_, (pss_cons (ps_expr (C8.pe_c c_check_many hr (by omega) (by rfl) (pa_cons (pv 0) pa_nil)))
      (pss_one (ps_ret (C8.pe_mk m_Spread hr (by omega) (by rfl) (pa_cons (pe_callTy (call_dictP rfl) (by rfl) T.n_dict (by decide +kernel) (pa_cons (pe_lc (own := [("one", 1)]) rfl sc_at_home.nd (pi_range1 (by rfl) T.n_range (pa_cons (pe_op op_add (pv 0) pe_int) pa_nil)) (by first | exact blkOk_by (N := N_at_home) (sc := C8.fnScope s_at_home) (by decide +kernel) | exact blkOk_by (by rfl)) (fun _ _ _ _ _ => castPG (pg_name (i := 1) sc_at_home.nd rfl (Or.inl rfl) (by first | exact Or.inr rfl | exact Or.inl rfl)) (by first | (dsimp only [Cx.blk]; done) | rfl)) (fun _ _ _ _ _ => castPTs (pts_nil) (by first | (dsimp only [Cx.blk]; done) | rfl)) (fun _ _ _ _ _ => castPE (pe_tup (pa_cons (pv 1) (pa_cons (pe_op op_mul (C8.pe_c c_choose hr (by omega) (by rfl) (pa_cons (pv 0) (pa_cons (pv 1) pa_nil))) (C8.pe_c c_none_home hr (by omega) (by rfl) (pa_cons (pe_op op_sub (pv 0) (pv 1)) pa_nil))) pa_nil))) (by first | (dsimp only [Cx.blk]; done) | rfl))) pa_nil)) pa_nil))))), ?_⟩
    refine ⟨_, rfl, n, rfl, h1, _, rfl, _, _, rfl, rfl, ((n : Nat) : Int) + 1, rfl, by omega, by omega, fun D hD => ?_⟩
    refine lc_n (n := n + 1) (fun i acc H' => Prs K H' acc (dk (rg i fun k => (bin n k : Int) * der (n - k))) ∧ Ex H H') ⟨.nil, Evl.Ex.new hD⟩ (fun i acc H' hi _ => by show i < ((n : Int) + 1).toNat; omega) (fun acc H' _ => by show ((n : Int) + 1).toNat ≤ n + 1; omega) (fun i acc H1 u H2 hi hacc p hy => ?_) (fun acc H1 hacc p => ?_)
    · obtain ⟨rfl, rfl⟩ := hy
      have d1 := der_lt (n - i) (by omega)
      refine ⟨rfl, ⟨_, rfl, _, rfl, _, rfl, n, i, (by show [V.int (n : Nat), V.int (0 + (i : Nat))] = _; rw [Int.zero_add]), ⟨by omega, by omega⟩, _, rfl, _, rfl, _, _, rfl, rfl, n - i, (by show [V.int (((n : Nat) : Int) - (0 + (i : Nat)))] = _; rw [Int.zero_add, show ((n : Nat) : Int) - (i : Nat) = ((n - i : Nat) : Int) by omega]), by omega, fun H3 e3 => ?_⟩⟩
      refine ⟨_, _, rfl, rfl, cm_l (Int.natCast_nonneg _) (bin_lt (by omega)), (by show 2 ≤ sizeLine; decide), fun q hq => ?_⟩
      simp only [Int.zero_add]
      exact prs_step (k := .inl (i : Int)) (v := .int ((bin n i : Int) * der (n - i))) (e3 _ _ hacc) (p.1.ex e3) hq (p.2.trans e3) hD (by rw [dk_len, rg_len]; omega) (dk_rg _ _)
    · have nn : ∀ k, k < n + 1 → 0 ≤ (bin n k : Int) * der (n - k) ∧ (bin n k : Int) * der (n - k) < 2 ^ 200 := fun k hk => by
        have d1 := der_lt (n - k) (by omega)
        have := mul_lt (Int.natCast_nonneg _) (bin_lt (n := n) (k := k) (by omega)) d1.1 d1.2
        refine ⟨this.1, Int.lt_trans this.2 (by decide)⟩
      have hw := rg_whole (n := n + 1) (k := n) (f := fun k => (bin n k : Int) * der (n - k)) (fun k hk => (nn k hk).1) (by omega) (by rw [bin_self, Nat.sub_self]; decide)
      exact dict_sp hacc p.1 (rg_nd _ _) (rg_nn fun k hk => (nn k hk).1) hw (rg_bound (by omega) nn).2 (by rw [rg_len]; omega) fun v H2 ws e h1 h2 h3 => k v H2 ws (p.2.trans e) h1 h2 (by rw [rg_len] at h3; omega)
abbrev s_bare_lots : Stmt := top 60
abbrev N_bare_lots : List Str := ["lots", "balls", "rows", "bare"]
theorem sc_bare_lots : FnScope N_bare_lots ["lots", "balls"] (C8.fnScope s_bare_lots) := C8.fnScope_by (by decide +kernel)
-- slots: lots=0c balls=1c rows=2 bare=3
def spBareLots (CS : Addr) : Sp := fun vs H Q _ => ∃ l m : Nat, vs = [.int (l : Nat), .int (m : Nat)] ∧ 1 ≤ l ∧ l ≤ 12 ∧ m ≤ 20 ∧ (∃ k, k < l + 1 ∧ 0 < (bin l k : Int) * ont m (l - k)) ∧ RetS CS H Q (ms (rg (l + 1) fun k => (bin l k : Int) * ont m (l - k))) 60
theorem k_bare_lots {f : Addr} {fd : FuncData} (T : Tx K mg) (Df : C8.Def K mg "bare_lots" s_bare_lots f fd) (bf : Binds K fd ["lots", "balls"] []) (c_choose : C8.Cal P w K mg base 2 "choose" (spN2 (fun n k => n ≤ 60 ∧ k ≤ 100) fun n k => bin n k) []) (c_onto : C8.Cal P w K mg base 8 "onto" (spN2 (fun m f => m ≤ 20 ∧ f ≤ 12) ont) [])
    (m_Spread : C8.Mak P w K mg base 2 "Spread" CS (spInit CS) []) : C8.Cal P w K mg base 9 "bare_lots" (spBareLots CS) [] := by
  refine C8.cal0 Df bf .nil sc_bare_lots (fun vs H Q E h => ?_) (fun cdv A outer s H vs Q E hr h => ?_)
  · obtain ⟨_, _, rfl, _⟩ := h; rfl
  · obtain ⟨l, m, rfl, h1, h12, hm, ⟨k0, hk0, hp0⟩, k⟩ := h
    refine ⟨_, (pss_cons (ps_if (PW.pt (pw_or (pt_cmpR op_lt (pv 0) pe_int (nomark _)) (pw_or1 (pt_cmpR op_lt (pv 1) pe_int (nomark _))))) pss_never pss_nil)
      (pss_cons (ps_setLc (i := 2) (own := [("bare", 3)]) rfl sc_bare_lots.nd rfl rfl (sw_true rfl rfl rfl (by decide +kernel)) (pi_range1 (by rfl) T.n_range (pa_cons (pe_op op_add (pv 0) pe_int) pa_nil)) (by first | exact blkOk_by (N := N_bare_lots) (sc := C8.fnScope s_bare_lots) (by decide +kernel) | exact blkOk_by (by rfl)) (fun _ _ _ _ _ => castPG (pg_name (i := 3) sc_bare_lots.nd rfl (Or.inl rfl) (by first | exact Or.inr rfl | exact Or.inl rfl)) (by first | (dsimp only [Cx.blk]; done) | rfl)) (fun _ _ _ _ _ => castPTs (pts_nil) (by first | (dsimp only [Cx.blk]; done) | rfl)) (fun _ _ _ _ _ => castPE (pe_tup (pa_cons (pv 3) (pa_cons (pe_op op_mul (C8.pe_c c_choose hr (by omega) (by rfl) (pa_cons (pv 0) (pa_cons (pv 3) pa_nil))) (C8.pe_c c_onto hr (by omega) (by rfl) (pa_cons (pv 1) (pa_cons (pe_op op_sub (pv 0) (pv 3)) pa_nil)))) pa_nil))) (by first | (dsimp only [Cx.blk]; done) | rfl)))
      (pss_one (ps_ret (C8.pe_mk m_Spread hr (by omega) (by rfl) (pa_cons (pe_callTy (call_dictP rfl) (by rfl) T.n_dict (by decide +kernel) (pa_cons (pv 2) pa_nil)) pa_nil)))))), ?_⟩
    refine ⟨_, rfl, _, _, rfl, rfl, _, rfl, ?_⟩
    rw [decide_eq_false (by omega)]
    refine iteF ⟨_, rfl, _, _, rfl, rfl, _, rfl, ?_⟩
    rw [decide_eq_false (by omega)]
    refine iteF ⟨_, rfl, _, _, rfl, rfl, ((l : Nat) : Int) + 1, rfl, by omega, by omega, fun D hD => ?_⟩
    have nn : ∀ k, k < l + 1 → 0 ≤ (bin l k : Int) * ont m (l - k) ∧ (bin l k : Int) * ont m (l - k) < 2 ^ 200 := fun k hk => by
      have d1 := ont_lt m (by omega) (l - k) (by omega)
      have := mul_lt (Int.natCast_nonneg _) (bin_lt (n := l) (k := k) (by omega)) d1.1 d1.2
      refine ⟨this.1, Int.lt_trans this.2 (by decide)⟩
    refine lc_n (n := l + 1) (fun i acc H' => Prs K H' acc (dk (rg i fun k => (bin l k : Int) * ont m (l - k))) ∧ Ex H H') ⟨.nil, Evl.Ex.new hD⟩ (fun i acc H' hi _ => by show i < ((l : Int) + 1).toNat; omega) (fun acc H' _ => by show ((l : Int) + 1).toNat ≤ l + 1; omega) (fun i acc H1 u H2 hi hacc p hy => ?_) (fun acc H1 hacc p => ?_)
    · obtain ⟨rfl, rfl⟩ := hy
      refine ⟨rfl, ⟨_, rfl, _, rfl, _, rfl, l, i, (by show [V.int (l : Nat), V.int (0 + (i : Nat))] = _; rw [Int.zero_add]), ⟨by omega, by omega⟩, _, rfl, _, rfl, _, rfl, _, _, rfl, rfl, m, l - i, (by show [V.int (m : Nat), V.int (((l : Nat) : Int) - (0 + (i : Nat)))] = _; rw [Int.zero_add, show ((l : Nat) : Int) - (i : Nat) = ((l - i : Nat) : Int) by omega]), ⟨hm, by omega⟩, ?_⟩⟩
      refine ⟨_, _, rfl, rfl, cm_l (Int.natCast_nonneg _) (bin_lt (by omega)), (by show 2 ≤ sizeLine; decide), fun q hq => ?_⟩
      simp only [Int.zero_add]
      exact prs_step (k := .inl (i : Int)) (v := .int ((bin l i : Int) * ont m (l - i))) hacc p.1 hq p.2 hD (by rw [dk_len, rg_len]; omega) (dk_rg _ _)
    · have hw := rg_whole (n := l + 1) (f := fun k => (bin l k : Int) * ont m (l - k)) (fun k hk => (nn k hk).1) hk0 hp0
      exact ⟨_, rfl, dict_sp hacc p.1 (rg_nd _ _) (rg_nn fun k hk => (nn k hk).1) hw (rg_bound (by omega) nn).2 (by rw [rg_len]; omega) fun v H2 ws e h1 h2 h3 => k v H2 ws (p.2.trans e) h1 h2 (by rw [rg_len] at h3; omega)⟩
end
end KK
end
/-! K9 -/
section
set_option Elab.async false
set_option linter.all false
set_option maxRecDepth 100000
namespace KK
open PySem PySem.Spec PyProof.Rows L2 KM LX LamX NdefX
section
variable {P : Program} {w : World} {K : PySem.W.Frag} {mg : Str → Option Value} {base : Heap} {T9 : LX.TL} {CS : Addr}
/-! ### all_found -/
abbrev s_all_found : Stmt := top 49
abbrev N_all_found : List Str := ["many", "tries", "ways", "size", "here", "ring"]
theorem sc_all_found : FnScope N_all_found ["many", "tries"] (C8.fnScope s_all_found) := C8.fnScope_by (by decide +kernel)
-- slots: many=0 tries=1 ways=2 size=3 here=4 ring=5
def spAllFound (K : PySem.W.Frag) : Sp := fun vs H Q _ => ∃ n t : Nat, vs = [.int (n : Nat), .int (t : Nat)] ∧ 1 ≤ n ∧ n ≤ 14 ∧ t ≤ 14 ∧ RetP K H Q (Rat.divInt ((rl t n).getD n 0) (fac n))
theorem rl_get {t n k : Nat} (h : k ≤ n) : ((rl t n).map V.int)[k]? = some (.int ((rl t n).getD k 0)) := by
  rw [List.getElem?_map, List.getD_eq_getElem?_getD, List.getElem?_eq_getElem (by rw [rl_len]; omega)]
  rfl
theorem fac_pos : ∀ n : Nat, n < 15 → 0 < fac n := by decide
theorem k_all_found {f : Addr} {fd : FuncData} (T : Tx K mg) (Df : C8.Def K mg "all_found" s_all_found f fd) (bf : Binds K fd ["many", "tries"] []) (c_check_many : C8.Cal P w K mg base 1 "check_many" (spN1 (fun n => 1 ≤ n) fun n => (n : Nat)) []) (c_choose : C8.Cal P w K mg base 2 "choose" (spN2 (fun n k => n ≤ 60 ∧ k ≤ 100) fun n k => bin n k) [])
    (c_factorial : C8.Cal P w K mg base 2 "factorial" (spN1 (fun n => n ≤ 14) fun n => (fac n : Nat)) []) (c_part : C8.Cal P w K mg base 2 "part" (spPart K) []) : C8.Cal P w K mg base 3 "all_found" (spAllFound K) [] := by
  refine C8.cal0 Df bf .nil sc_all_found (fun vs H Q E h => ?_) (fun cdv A outer s H vs Q E hr h => ?_)
  · obtain ⟨_, _, rfl, _⟩ := h; rfl
  · obtain ⟨n, t, rfl, h1, h14, ht, k⟩ := h
    refine ⟨_, (pss_cons (ps_expr (C8.pe_c c_check_many hr (by omega) (by rfl) (pa_cons (pv 0) pa_nil)))
      (pss_cons (ps_if (pt_cmpR op_lt (pv 1) pe_int (nomark _)) pss_never pss_nil)
      (pss_cons (ps_set (i := 2) sc_all_found.nd rfl (Or.inl rfl) (pe_lst (pa_cons pe_int pa_nil)))
      (pss_cons (ps_for PassesOwn.never rfl (pi_range2 (by rfl) T.n_range (pa_cons pe_int (pa_cons (pe_op op_add (pv 0) pe_int) pa_nil))) (pg_name (i := 3) sc_all_found.nd rfl (Or.inl rfl) (by exact Or.inl rfl))
      (pss_cons (ps_set (i := 4) sc_all_found.nd rfl (Or.inl rfl) pe_int)
        (pss_cons (ps_for PassesOwn.never rfl (pi_range2 (by rfl) T.n_range (pa_cons pe_int (pa_cons (pe_op op_add (pe_callB (call_min2 rfl) (by rfl) T.n_min (by decide +kernel) (pa_cons (pv 3) (pa_cons (pv 1) pa_nil))) pe_int) pa_nil))) (pg_name (i := 5) sc_all_found.nd rfl (Or.inl rfl) (by exact Or.inl rfl))
        (pss_one (ps_aug (i := 4) sc_all_found.nd rfl (Or.inl rfl) (pe_op op_mulW (pe_op op_mulW (C8.pe_c c_choose hr (by omega) (by rfl) (pa_cons (pe_op op_sub (pv 3) pe_int) (pa_cons (pe_op op_sub (pv 5) pe_int) pa_nil))) (C8.pe_c c_factorial hr (by omega) (by rfl) (pa_cons (pe_op op_sub (pv 5) pe_int) pa_nil))) (pe_ix ix_list (pv 2) (pe_op op_sub (pv 3) (pv 5)) (fun _ _ => rfl))) ip_add)))
        (pss_one (ps_expr (pe_bm PySem.F.plainAttrs_list PySem.F.slot_list_append PySem.F.type_list_append mt_append (pv 2) (pa_cons (pv 4) pa_nil)))))))
      (pss_one (ps_ret (C8.pe_c c_part hr (by omega) (by rfl) (pa_cons (pe_ix ix_list (pv 2) (pv 0) (fun _ _ => rfl)) (pa_cons (C8.pe_c c_factorial hr (by omega) (by rfl) (pa_cons (pv 0) pa_nil)) pa_nil))))))))), ?_⟩
    refine ⟨_, rfl, n, rfl, h1, _, rfl, _, _, rfl, rfl, _, rfl, ?_⟩
    rw [decide_eq_false (by omega)]
    refine iteF ⟨(by show 1 ≤ sizeLine; decide), fun D hD => ?_⟩
    refine ⟨_, rfl, _, _, rfl, rfl, 1, ((n : Nat) : Int) + 1, rfl, ⟨by omega, by omega, by omega, by omega⟩, ?_⟩
    refine for_n (n := n) (fun i σ' H' => ∃ o3 o4 o5 : Option V, σ' = [some (.int (n : Nat)), some (.int (t : Nat)), some (.ref D), o3, o4, o5] ∧ (∀ b o, b ≠ D → H b = some o → H' b = some o) ∧ H' D = some (.lst ((rl t i).map V.int)))
      ⟨_, _, _, rfl, fun b o nb hb => (upd_ne nb).trans hb, upd_same⟩ (fun i σ' H' hi _ => by show i < ((n : Int) + 1 - 1).toNat; omega) (fun σ' H' _ => by show ((n : Int) + 1 - 1).toNat ≤ n; omega) ?_ ?_
    · rintro i _ H' u H2 hi ⟨o3, o4, o5, rfl, e, hD'⟩ ⟨rfl, rfl⟩
      refine ⟨_, rfl, _, rfl, 1 + (i : Nat), (t : Nat), rfl, _, _, rfl, rfl, 1, (if ((t : Nat) : Int) < 1 + (i : Nat) then ((t : Nat) : Int) else 1 + (i : Nat)) + 1, rfl, ⟨by omega, by omega, by split <;> omega, by split <;> omega⟩, ?_⟩
      have hmin : (if ((t : Nat) : Int) < 1 + (i : Nat) then ((t : Nat) : Int) else 1 + (i : Nat)) = ((min (i + 1) t : Nat) : Int) := by split <;> omega
      rw [hmin]
      refine for_n (n := min (i + 1) t) (fun j σ' H3 => ∃ o5 : Option V, σ' = [some (.int (n : Nat)), some (.int (t : Nat)), some (.ref D), some (.int (1 + (i : Nat))), some (.int (sumr j fun r => ff i r * (rl t i).getD (i - r) 0)), o5] ∧ H3 = H2)
        ⟨_, rfl, rfl⟩ (fun j σ' H3 hj _ => by show j < (((min (i + 1) t : Nat) : Int) + 1 - 1).toNat; omega) (fun σ' H3 _ => by show (((min (i + 1) t : Nat) : Int) + 1 - 1).toNat ≤ min (i + 1) t; omega) ?_ ?_
      · rintro j _ _ u H4 hj ⟨o5, rfl, rfl⟩ ⟨rfl, rfl⟩
        have ji : j ≤ i := by omega
        have ws := rl_lt t (by omega) i (by omega) (i - j) (by omega)
        refine ⟨_, rfl, _, rfl, _, _, rfl, rfl, _, rfl, _, _, rfl, rfl, i, j, ?_, ⟨by omega, by omega⟩, _, rfl, _, _, rfl, rfl, j, ?_, by omega, ?_⟩
        · show [V.int (1 + (i : Nat) - 1), V.int (1 + (j : Nat) - 1)] = _
          rw [show (1 : Int) + (i : Nat) - 1 = (i : Nat) by omega, show (1 : Int) + (j : Nat) - 1 = (j : Nat) by omega]
        · show [V.int (1 + (j : Nat) - 1)] = _
          rw [show (1 : Int) + (j : Nat) - 1 = (j : Nat) by omega]
        · have hb : Lt2 ((bin i j : Nat) : Int) 64 := Lt2.nn (by omega) (bin_lt (by omega))
          have hf : Lt2 ((fac j : Nat) : Int) 64 := Lt2.nn (by omega) (fac_lt _ (by omega))
          have hw : Lt2 ((rl t i).getD (i - j) 0) 64 := Lt2.nn ws.1 (Int.lt_trans ws.2 (by decide))
          refine ⟨_, _, rfl, rfl, mw hb hf, ?_⟩
          refine ⟨_, rfl, _, rfl, _, rfl, _, _, rfl, rfl, D, (rl t i).map V.int, ((i - j : Nat) : Int), .int ((rl t i).getD (i - j) 0), rfl, ?_, Evl.sq_of hD', atI_nat (rl_get (by omega)), _, _, rfl, rfl, mw (hb.mul hf) hw, _, _, rfl, rfl, some (.int (1 + (j : Nat))), ?_, rfl⟩
          · show V.int (1 + (i : Nat) - (1 + (j : Nat))) = _
            rw [show (1 : Int) + (i : Nat) - (1 + (j : Nat)) = ((i - j : Nat) : Int) by omega]
          · rw [show ((bin i j : Nat) : Int) * ((fac j : Nat) : Int) = ff i j from bin_fac i j]
            rfl
      · rintro _ _ ⟨o5, rfl, rfl⟩
        refine ⟨_, rfl, .inl ⟨rfl, _, Evl.sq_of hD'⟩, _, rfl, D, (rl t i).map V.int, _, rfl, rfl, hD', by rw [List.length_map, rl_len]; exact Nat.lt_of_lt_of_le (show i + 1 < 1000000 by omega) (by decide), some (.int (1 + (i : Nat))), _, o5, rfl, fun b o nb hb => (upd_ne nb).trans (e b o nb hb), ?_⟩
        · rw [upd_same]
          show _ = some (HO.lst ((rl t i ++ [_]).map V.int))
          rw [List.map_append]
          rfl
    · rintro _ H' ⟨o3, o4, o5, rfl, e, hD'⟩
      refine ⟨_, rfl, _, rfl, D, (rl t n).map V.int, (n : Nat), .int ((rl t n).getD n 0), rfl, rfl, Evl.sq_of hD', atI_nat (rl_get (by omega)), _, rfl, n, rfl, h14, ?_⟩
      have ws := rl_lt t (by omega) n (by omega) n (by omega)
      have fp := fac_pos n (by omega)
      exact ⟨_, _, rfl, by show ((fac n : Nat) : Int) ≠ 0; omega, (Lt2.nn ws.1 ws.2).up (by decide), (Lt2.nn (by omega) (fac_lt _ (by omega))).up (by decide), fun v H3 e3 h3 => k v H3 (fun b o hb => e3 b o (e b o (ne_of_none hb hD) hb)) h3⟩
/-! ### urns -/
abbrev s_check_urn : Stmt := top 58
abbrev N_check_urn : List Str := ["counts"]
theorem sc_check_urn : FnScope N_check_urn ["counts"] (C8.fnScope s_check_urn) := C8.fnScope_by (by decide +kernel)
-- slots: counts=0
def spUrn (K : PySem.W.Frag) : Sp := fun vs H Q _ => ∃ (p : Addr) (xs : List Int), vs = [.ref p] ∧ SqL K H p (xs.map V.int) ∧ xs ≠ [] ∧ (∀ x ∈ xs, 1 ≤ x) ∧ ∀ v H', Ex H H' → Q v H'
theorem sum_pos : ∀ {xs : List Int}, xs ≠ [] → (∀ x ∈ xs, 1 ≤ x) → 1 ≤ xs.sum
  | [], h, _ => absurd rfl h
  | [x], _, h => by simpa using h x List.mem_cons_self
  | x :: y :: r, _, h => by
    have := sum_pos (xs := y :: r) (by simp) fun z hz => h z (List.mem_cons_of_mem _ hz)
    have := h x List.mem_cons_self
    rw [List.sum_cons]; omega
theorem k_check_urn {f : Addr} {fd : FuncData} (T : Tx K mg) (Df : C8.Def K mg "check_urn" s_check_urn f fd) (bf : Binds K fd ["counts"] []) : C8.Cal P w K mg base 1 "check_urn" (spUrn K) [] := by
  refine C8.cal0 Df bf .nil sc_check_urn (fun vs H Q E h => ?_) (fun cdv A outer s H vs Q E hr h => ?_)
  · obtain ⟨_, _, rfl, _⟩ := h; rfl
  · obtain ⟨p, xs, rfl, hp, hne, h1, k⟩ := h
    refine ⟨_, (pss_cons (ps_if (PW.pt (pw_or (pt_cmpR op_eq (pe_callB call_len_seq (by rfl) T.n_len (by decide +kernel) (pa_cons (pv 0) pa_nil)) pe_int (nomark _)) (pw_or (pt_cmpR op_lt (pe_callB (cr_min rfl) (by rfl) T.n_min (by decide +kernel) (pa_cons (pv 0) pa_nil)) pe_int (nomark _)) (pw_or1 (pt_cmpR op_eq (pe_callB (cr_sum rfl) (by rfl) T.n_sum (by decide +kernel) (pa_cons (pv 0) pa_nil)) pe_int (nomark _)))))) pss_never pss_nil)
      (pss_one (ps_ret (pe_callTy call_tuple_of (by rfl) T.n_tuple (by decide +kernel) (pa_cons (pv 0) pa_nil))))), ?_⟩
    have hl : 0 < xs.length := List.length_pos_iff.mpr hne
    refine ⟨_, rfl, p, _, rfl, .inl hp, rfl, _, rfl, ?_⟩
    rw [decV, decide_eq_false (by rw [List.length_map]; omega)]
    refine iteF ⟨_, rfl, p, xs, rfl, hp, hl, fun m hm _ => ⟨_, _, rfl, rfl, _, rfl, ?_⟩⟩
    have := h1 m hm
    rw [decide_eq_false (by omega)]
    refine iteF ⟨_, rfl, p, xs, rfl, hp, rfl, _, rfl, ?_⟩
    have := sum_pos hne h1
    rw [decV, decide_eq_false (by omega)]
    exact iteF ⟨_, rfl, p, _, rfl, .inl ⟨hp, fun l hl => k _ _ (Evl.Ex.new hl)⟩⟩
abbrev s_kept_out : Stmt := top 59
abbrev N_kept_out : List Str := ["counts", "kind", "many", "mine", "rest", "one"]
theorem sc_kept_out : FnScope N_kept_out ["counts", "kind", "many"] (C8.fnScope s_kept_out) := C8.fnScope_by (by decide +kernel)
-- slots: counts=0 kind=1 many=2c mine=3c rest=4c one=5
def spKeptOut (K : PySem.W.Frag) (CS : Addr) : Sp := fun vs H Q _ => ∃ (p : Addr) (xs : List Int) (kd m g b : Nat), vs = [.ref p, .int (kd : Nat), .int (m : Nat)] ∧ SqL K H p (xs.map V.int) ∧ xs ≠ [] ∧ (∀ x ∈ xs, 1 ≤ x) ∧ xs[kd]? = some ((g : Nat) : Int) ∧ xs.sum = ((g + b : Nat) : Int) ∧ g ≤ 60 ∧ b ≤ 60 ∧ m ≤ g + b ∧ m ≤ 99 ∧
  RetS CS H Q (ms (rg (m + 1) fun k => (bin g k : Int) * bin b (m - k))) 100
theorem bin_pos : ∀ {n k : Nat}, k ≤ n → 0 < bin n k
  | _, 0, _ => by rw [bin_zero]; decide
  | 0, k + 1, h => by omega
  | n + 1, k + 1, h => by
    have := bin_pos (n := n) (k := k) (by omega)
    show 0 < bin n k + bin n (k + 1)
    omega
theorem k_kept_out {f : Addr} {fd : FuncData} (T : Tx K mg) (Df : C8.Def K mg "kept_out" s_kept_out f fd) (bf : Binds K fd ["counts", "kind", "many"] []) (c_check_urn : C8.Cal P w K mg base 1 "check_urn" (spUrn K) []) (c_choose : C8.Cal P w K mg base 2 "choose" (spN2 (fun n k => n ≤ 60 ∧ k ≤ 100) fun n k => bin n k) [])
    (m_Spread : C8.Mak P w K mg base 2 "Spread" CS (spInit CS) []) : C8.Cal P w K mg base 4 "kept_out" (spKeptOut K CS) [] := by
  refine C8.cal0 Df bf .nil sc_kept_out (fun vs H Q E h => ?_) (fun cdv A outer s H vs Q E hr h => ?_)
  · obtain ⟨_, _, _, _, _, _, rfl, _⟩ := h; rfl
  · obtain ⟨p, xs, kd, m, g, b, rfl, hp, hne, h1, hkd, hsum, hg, hb, hm, hm9, k⟩ := h
    refine ⟨_, (pss_cons (ps_expr (C8.pe_c c_check_urn hr (by omega) (by rfl) (pa_cons (pv 0) pa_nil)))
      (pss_cons (ps_if (pt_not (pt_chain op_le op_le pe_int (pv 2) (pe_callB (cr_sum rfl) (by rfl) T.n_sum (by decide +kernel) (pa_cons (pv 0) pa_nil)))) pss_never pss_nil)
      (pss_cons (ps_asg (pe_tup (pa_cons (pe_ix ix_list (pv 0) (pv 1) (fun _ _ => rfl)) (pa_cons (pe_op op_sub (pe_callB (cr_sum rfl) (by rfl) T.n_sum (by decide +kernel) (pa_cons (pv 0) pa_nil)) (pe_ix ix_list (pv 0) (pv 1) (fun _ _ => rfl))) pa_nil))) (pg_tup (n := 2) rfl (pgs_cons (pg_name (i := 3) sc_kept_out.nd rfl (Or.inr rfl) (by exact Or.inl rfl)) (pgs_cons (pg_name (i := 4) sc_kept_out.nd rfl (Or.inr rfl) (by exact Or.inl rfl)) pgs_nil))))
      (pss_one (ps_ret (C8.pe_mk m_Spread hr (by omega) (by rfl) (pa_cons (pe_callTy (call_dictP rfl) (by rfl) T.n_dict (by decide +kernel) (pa_cons (pe_lc (own := [("one", 5)]) rfl sc_kept_out.nd (pi_range1 (by rfl) T.n_range (pa_cons (pe_op op_add (pv 2) pe_int) pa_nil)) (by first | exact blkOk_by (N := N_kept_out) (sc := C8.fnScope s_kept_out) (by decide +kernel) | exact blkOk_by (by rfl)) (fun _ _ _ _ _ => castPG (pg_name (i := 5) sc_kept_out.nd rfl (Or.inl rfl) (by first | exact Or.inr rfl | exact Or.inl rfl)) (by first | (dsimp only [Cx.blk]; done) | rfl)) (fun _ _ _ _ _ => castPTs (pts_nil) (by first | (dsimp only [Cx.blk]; done) | rfl)) (fun _ _ _ _ _ => castPE (pe_tup (pa_cons (pv 5) (pa_cons (pe_op op_mul (C8.pe_c c_choose hr (by omega) (by rfl) (pa_cons (pv 3) (pa_cons (pv 5) pa_nil))) (C8.pe_c c_choose hr (by omega) (by rfl) (pa_cons (pv 4) (pa_cons (pe_op op_sub (pv 2) (pv 5)) pa_nil)))) pa_nil))) (by first | (dsimp only [Cx.blk]; done) | rfl))) pa_nil)) pa_nil))))))), ?_⟩
    refine ⟨_, rfl, p, xs, rfl, hp, hne, h1, fun _ H1 e1 => ?_⟩
    have hp1 := Evl.ex_l e1 hp
    have hat : (xs.map V.int)[kd]? = some (.int ((g : Nat) : Int)) := by rw [List.getElem?_map, hkd]; rfl
    refine ⟨_, rfl, _, _, rfl, rfl, _, rfl, ?_⟩
    rw [decide_eq_true (by omega)]
    refine iteT ⟨_, rfl, p, xs, rfl, hp1, _, _, rfl, rfl, _, rfl, ?_⟩
    rw [decide_eq_true (by omega)]
    refine ⟨_, rfl, _, rfl, p, _, (kd : Nat), _, rfl, rfl, hp1, atI_nat hat, _, rfl, p, xs, rfl, hp1, _, rfl, _, rfl, p, _, (kd : Nat), _, rfl, rfl, hp1, atI_nat hat, _, _, rfl, rfl, (by show 2 ≤ sizeLine; decide), fun q hq => ?_⟩
    have e2 : Ex H (upd H1 q (.tup [.int ((g : Nat) : Int), .int (xs.sum - ((g : Nat) : Int))])) := Evl.Ex.trans e1 (Evl.Ex.new hq)
    refine ⟨q, _, rfl, Evl.st_of upd_same, rfl, _, _, rfl, _, _, rfl, rfl, ?_⟩
    have hdif : xs.sum - ((g : Nat) : Int) = ((b : Nat) : Int) := by omega
    simp only [hdif] at e2 ⊢
    generalize (upd H1 q (.tup [.int ((g : Nat) : Int), .int ((b : Nat) : Int)])) = G2 at e2
    refine ⟨_, rfl, _, _, rfl, rfl, ((m : Nat) : Int) + 1, rfl, by omega, by omega, fun D hD => ?_⟩
    have nn : ∀ k, k < m + 1 → 0 ≤ (bin g k : Int) * bin b (m - k) ∧ (bin g k : Int) * bin b (m - k) < 2 ^ 200 := fun k hk => by
      have := mul_lt (Int.natCast_nonneg _) (bin_lt (n := g) (k := k) hg) (Int.natCast_nonneg _) (bin_lt (n := b) (k := m - k) hb)
      refine ⟨this.1, Int.lt_trans this.2 (by decide)⟩
    refine lc_n (n := m + 1) (fun i acc H' => Prs K H' acc (dk (rg i fun k => (bin g k : Int) * bin b (m - k))) ∧ Ex G2 H') ⟨.nil, Evl.Ex.new hD⟩ (fun i acc H' hi _ => by show i < ((m : Int) + 1).toNat; omega) (fun acc H' _ => by show ((m : Int) + 1).toNat ≤ m + 1; omega) (fun i acc H1 u H2 hi hacc p hy => ?_) (fun acc H1 hacc p => ?_)
    · obtain ⟨rfl, rfl⟩ := hy
      refine ⟨rfl, ⟨_, rfl, _, rfl, _, rfl, g, i, (by show [V.int (g : Nat), V.int (0 + (i : Nat))] = _; rw [Int.zero_add]), ⟨by omega, by omega⟩, _, rfl, _, rfl, _, rfl, _, _, rfl, rfl, b, m - i, (by show [V.int (b : Nat), V.int (((m : Nat) : Int) - (0 + (i : Nat)))] = _; rw [Int.zero_add, show ((m : Nat) : Int) - (i : Nat) = ((m - i : Nat) : Int) by omega]), ⟨hb, by omega⟩, ?_⟩⟩
      refine ⟨_, _, rfl, rfl, cm_l (Int.natCast_nonneg _) (bin_lt hg), (by show 2 ≤ sizeLine; decide), fun q hq => ?_⟩
      simp only [Int.zero_add]
      exact prs_step (k := .inl (i : Int)) (v := .int ((bin g i : Int) * bin b (m - i))) hacc p.1 hq p.2 hD (by rw [dk_len, rg_len]; omega) (dk_rg _ _)
    · have hw := rg_whole (n := m + 1) (k := min m g) (f := fun k => (bin g k : Int) * bin b (m - k)) (fun k hk => (nn k hk).1) (by omega) (Int.mul_pos (by have := bin_pos (n := g) (k := min m g) (by omega); omega) (by have := bin_pos (n := b) (k := m - min m g) (by omega); omega))
      exact dict_sp hacc p.1 (rg_nd _ _) (rg_nn fun k hk => (nn k hk).1) hw (rg_bound (by omega) nn).2 (by rw [rg_len]; omega) fun v H2 ws e h1 h2 h3 => k v H2 ws ((e2.trans p.2).trans e) h1 h2 (by rw [rg_len] at h3; omega)
end
end KK
end
/-! K10 -/
section
set_option Elab.async false
set_option linter.all false
set_option maxRecDepth 100000
namespace KK
open PySem PySem.Spec PyProof.Rows L2 KM LX LamX NdefX
section
variable {P : Program} {w : World} {K : PySem.W.Frag} {mg : Str → Option Value} {base : Heap} {T9 : LX.TL} {CS : Addr}
theorem paired_get {α β : Type} {F : α → β → Prop} {a : α} : ∀ {l₁ : List α} {l₂ : List β} {i : Nat}, Paired F l₁ l₂ → l₁[i]? = some a → ∃ b, l₂[i]? = some b ∧ F a b
  | _, _, _, .nil, h => by cases h
  | _, _, 0, .cons h _, e => by cases e; exact ⟨_, rfl, h⟩
  | _, _, i + 1, .cons _ h, e => paired_get (i := i) h e
/-! ### parts as data -/
def qD (q : Rat) : PyData := .tuple [.int q.num, .int ((q.den : Nat) : Int)]
theorem PtAt.dp {H : Hp} {v : V} {q : Rat} (h : PtAt K H v q) : Dp K H v (qD q) := by
  obtain ⟨p, rfl, hp⟩ := h
  exact .tup hp (.cons (.int _) (.cons (.int _) .nil))
theorem qD_eqv (p q : Rat) : PyData.eqv (qD p) (qD q) = decide (p = q) := by
  have e : PyData.eqv (qD p) (qD q) = ((p.num == q.num) && (((p.den : Nat) : Int) == ((q.den : Nat) : Int)) && true) := by simp only [qD, PyData.eqv, PyData.eqvAll, Bool.and_assoc]
  rw [e, Bool.and_true]
  by_cases h : p = q
  · subst h; simp
  · rw [decide_eq_false h]
    by_cases h1 : p.num = q.num
    · have h2 : ¬ (((p.den : Nat) : Int) = ((q.den : Nat) : Int)) := fun z => h (Rat.ext h1 (by omega))
      rw [beq_false_of_ne h2, Bool.and_false]
    · rw [beq_false_of_ne h1, Bool.false_and]
theorem dp_pair {H : Hp} {p : Addr} {q : Rat} (h : SqT K H p [.int q.num, .int ((q.den : Nat) : Int)]) : Dp K H (.ref p) (qD q) := PtAt.dp ⟨p, rfl, h⟩
/-- tuples are kept -/
def Kt (H H' : Hp) : Prop := ∀ b xs, Rd H b (.tup xs) → Rd H' b (.tup xs)
theorem Kt.of {H H' : Hp} (e : Ex H H') : Kt H H' := fun _ _ h => Evl.ex_rd e h
theorem Kt.trans {H H1 H2 : Hp} (a : Kt H H1) (b : Kt H1 H2) : Kt H H2 := fun c xs h => b c xs (a c xs h)
theorem Kt.sq {H H' : Hp} {p : Addr} {xs : List V} (e : Kt H H') (h : SqT K H p xs) : SqT K H' p xs := by
  rcases h with h | h
  · exact .inl (e _ _ h)
  · exact .inr h
theorem PtAt.kt {H H' : Hp} {v : V} {q : Rat} (h : PtAt K H v q) (e : Kt H H') : PtAt K H' v q := by
  obtain ⟨p, rfl, h⟩ := h
  exact ⟨p, rfl, e.sq h⟩
/-- all but D is kept -/
def Xp (D : Addr) (H H' : Hp) : Prop := ∀ b o, b ≠ D → H b = some o → H' b = some o
theorem Xp.ex {D : Addr} {H H1 H2 : Hp} (a : Xp D H H1) (b : Ex H1 H2) : Xp D H H2 := fun c o n h => b _ _ (a c o n h)
theorem Xp.of {D : Addr} {H H' : Hp} (e : Ex H H') : Xp D H H' := fun _ _ _ h => e _ _ h
theorem Xp.upd {D : Addr} {H H' : Hp} {o : HO} (e : Xp D H H') : Xp D H (upd H' D o) := fun c u n h => (upd_ne n).trans (e c u n h)
theorem Xp.trans {D : Addr} {H H1 H2 : Hp} (a : Xp D H H1) (b : Xp D H1 H2) : Xp D H H2 := fun c o n h => b _ _ n (a c o n h)
theorem Xp.new {D : Addr} {H H' : Hp} (h : H D = none) (e : Xp D H H') : Ex H H' := fun c o g => e c o (ne_of_none g h) g
theorem Xp.kt {D : Addr} {H H' : Hp} {o : HO} (e : Xp D H H') (hD : H D = some o) (n1 : ∀ xs, o ≠ .tup xs) (n2 : ∀ ob xs, o ≠ .frz ob (.tup xs)) : Kt H H' := by
  rintro b xs (h | ⟨ob, h⟩)
  · refine .inl (e b _ (fun z => ?_) h)
    subst z
    exact n1 xs (Option.some.inj (hD.symm.trans h))
  · refine .inr ⟨ob, e b _ (fun z => ?_) h⟩
    subst z
    exact n2 ob xs (Option.some.inj (hD.symm.trans h))
/-- the dict holds the rows -/
def RowsAt (K : PySem.W.Frag) (H : Hp) (kvs : List (Key × V)) (rows : RL) : Prop := Paired (fun kv r => kv.1 = .inl r.1 ∧ PtAt K H kv.2 r.2) kvs rows
theorem RowsAt.ex {H H' : Hp} {kvs : List (Key × V)} {rows : RL} (h : RowsAt K H kvs rows) (e : ∀ a q, PtAt K H a q → PtAt K H' a q) : RowsAt K H' kvs rows := Paired.mapP h fun _ _ z => ⟨z.1, e _ _ z.2⟩
abbrev s_from_chances : Stmt := top 26
abbrev N_from_chances : List Str := ["rows", "low", "whole", "chance", "value"]
theorem sc_from_chances : FnScope N_from_chances ["rows"] (C8.fnScope s_from_chances) := C8.fnScope_by (by decide +kernel)
-- slots: rows=0 low=1c whole=2 chance=3 value=4
def spFromChances (K : PySem.W.Frag) (CS : Addr) : Sp := fun vs H Q _ => ∃ (D : Addr) (kvs : List (Key × V)) (rows : RL) (M : Nat), vs = [.ref D] ∧ H D = some (.dK kvs) ∧ RowsAt K H kvs rows ∧ (rows.map (·.1)).Nodup ∧ (∀ r ∈ rows, 0 < r.2 ∧ r.2.den ∣ M) ∧ 0 < M ∧ Ln M 1000 ∧ (rows.map (·.2)).sum = 1 ∧ rows.length ≤ 100 ∧
  ∀ v H' ws L, (∀ b o, b ≠ D → H b = some o → H' b = some o) → SpAt CS H' v ws → 0 < L → (∀ r ∈ rows, r.2.den ∣ L) → L ∣ M → Spr ws (ms (wrows L rows)) → ws.length ≤ rows.length → Q v H'
theorem k_from_chances {f : Addr} {fd : FuncData} (T : Tx K mg) (Df : C8.Def K mg "from_chances" s_from_chances f fd) (bf : Binds K fd ["rows"] []) (c_shared : C8.Cal P w K mg base 1 "shared" spShared []) (c_plus : C8.Cal P w K mg base 3 "plus" (spTwo K (· + ·)) [])
    (m_Spread : C8.Mak P w K mg base 2 "Spread" CS (spInit CS) []) : C8.Cal P w K mg base 4 "from_chances" (spFromChances K CS) [] := by
  refine C8.cal0 Df bf .nil sc_from_chances (fun vs H Q E h => ?_) (fun cdv A outer s H vs Q E hr h => ?_)
  · obtain ⟨_, _, _, _, rfl, _⟩ := h; rfl
  · obtain ⟨D, kvs, rows, M, rfl, hD, hrows, nd, hpos, hM, lM, hone, hlen, k⟩ := h
    refine ⟨_, (pss_cons (ps_asg (pe_tup (pa_cons pe_int (pa_cons (pe_tup (pa_cons pe_int (pa_cons pe_int pa_nil))) pa_nil))) (pg_tup (n := 2) rfl (pgs_cons (pg_name (i := 1) sc_from_chances.nd rfl (Or.inr rfl) (by exact Or.inl rfl)) (pgs_cons (pg_name (i := 2) sc_from_chances.nd rfl (Or.inl rfl) (by exact Or.inl rfl)) pgs_nil))))
      (pss_cons (ps_for PassesOwn.never rfl (pi_values (RX.pe_frz (pv 0))) (pg_name (i := 3) sc_from_chances.nd rfl (Or.inl rfl) (by exact Or.inl rfl))
      (pss_cons (ps_set (i := 1) sc_from_chances.nd rfl (Or.inr rfl) (pe_op op_fdivW (pe_op op_mulW (pv 1) (pe_ix ix_tup (pv 3) pe_int (fun _ _ => rfl))) (C8.pe_c c_shared hr (by omega) (by rfl) (pa_cons (pv 1) (pa_cons (pe_ix ix_tup (pv 3) pe_int (fun _ _ => rfl)) pa_nil)))))
        (pss_one (ps_set (i := 2) sc_from_chances.nd rfl (Or.inl rfl) (C8.pe_c c_plus hr (by omega) (by rfl) (pa_cons (pv 2) (pa_cons (pv 3) pa_nil)))))))
      (pss_cons (ps_if (pt_cmpR (op_neD hr.units) (pv 2) (pe_tup (pa_cons pe_int (pa_cons pe_int pa_nil))) (nomark _)) pss_never pss_nil)
      (pss_one (ps_ret (C8.pe_mk m_Spread hr (by omega) (by rfl) (pa_cons (pe_callTy (call_dictP rfl) (by rfl) T.n_dict (by decide +kernel) (pa_cons (pe_lc (own := [("value", 4), ("chance", 3)]) rfl sc_from_chances.nd (pi_items (pv 0)) (by first | exact blkOk_by (N := N_from_chances) (sc := C8.fnScope s_from_chances) (by decide +kernel) | exact blkOk_by (by rfl)) (fun _ _ _ _ _ => castPG (pg_tup (n := 2) rfl (pgs_cons (pg_name (i := 4) sc_from_chances.nd rfl (Or.inl rfl) (by first | exact Or.inr rfl | exact Or.inl rfl)) (pgs_cons (pg_name (i := 3) sc_from_chances.nd rfl (Or.inl rfl) (by first | exact Or.inr rfl | exact Or.inl rfl)) pgs_nil))) (by first | (dsimp only [Cx.blk]; done) | rfl)) (fun _ _ _ _ _ => castPTs (pts_nil) (by first | (dsimp only [Cx.blk]; done) | rfl)) (fun _ _ _ _ _ => castPE (pe_tup (pa_cons (pv 4) (pa_cons (pe_op op_mulW (pe_ix ix_tup (pv 3) pe_int (fun _ _ => rfl)) (pe_op op_fdivW (pv 1) (pe_ix ix_tup (pv 3) pe_int (fun _ _ => rfl)))) pa_nil))) (by first | (dsimp only [Cx.blk]; done) | rfl))) pa_nil)) pa_nil))))))), ?_⟩
    have hl := Paired.length hrows
    have nn : ∀ q ∈ rows.map (·.2), 0 ≤ q := fun q hq => by
      obtain ⟨r, hr1, rfl⟩ := List.mem_map.mp hq
      exact Rat.le_of_lt (hpos r hr1).1
    have dv : ∀ q ∈ rows.map (·.2), Dv M q := fun q hq => by
      obtain ⟨r, hr1, rfl⟩ := List.mem_map.mp hq
      exact Dv.of_den (hpos r hr1).2
    have smp : ∀ i, sm (((rows.map (·.2)).take i).sum) := fun i => by
      have := rsum_le nn i
      rw [hone] at this
      exact sm_unit hM (rsum_dv fun q hq => dv q (List.mem_of_mem_take hq)) this.1 this.2 lM
    have smq : ∀ r ∈ rows, sm r.2 := fun r hr1 => by
      obtain ⟨i, hi, e⟩ := List.getElem_of_mem hr1
      have hi' : (rows.map (·.2))[i]? = some r.2 := by rw [List.getElem?_map, List.getElem?_eq_getElem hi, e]; rfl
      have h1 := rsum_take hi'
      have h2 := rsum_le nn i
      have h3 := rsum_le nn (i + 1)
      rw [hone] at h2 h3
      rw [h1] at h3
      have h4 := Rat.le_of_lt (hpos r hr1).1
      exact sm_unit hM (dv r.2 (List.mem_of_getElem? hi')) h4 (by grind) lM
    refine ⟨(by show 2 ≤ sizeLine; decide), fun p0 hp0 => ⟨(by show 2 ≤ sizeLine; decide), fun p1 hp1 => ⟨p1, _, rfl, Evl.st_of upd_same, rfl, _, _, rfl, _, _, rfl, rfl, ?_⟩⟩⟩
    refine ⟨_, rfl, D, _, rfl, (upd_ne (ne_of_none (Evl.Ex.new hp0 _ _ hD) hp1)).trans ((upd_ne (ne_of_none hD hp0)).trans hD), trivial, fun od => ⟨D, od, kvs, rfl, upd_same, ?_⟩⟩
    have x0 : Xp D H (upd (upd (upd H p0 (.tup [.int 0, .int 1])) p1 (.tup [.int 1, .ref p0])) D (.frz od (.dK kvs))) := (Xp.of (Evl.Ex.trans (Evl.Ex.new hp0) (Evl.Ex.new hp1))).upd
    have w0 : PtAt K (upd (upd (upd H p0 (.tup [.int 0, .int 1])) p1 (.tup [.int 1, .ref p0])) D (.frz od (.dK kvs))) (.ref p0) 0 := ⟨p0, rfl, Evl.st_of ((upd_ne (fun z => by rw [z, hD] at hp0; cases hp0)).trans (Evl.Ex.new hp1 _ _ upd_same))⟩
    have d0 : upd (upd (upd H p0 (.tup [.int 0, .int 1])) p1 (.tup [.int 1, .ref p0])) D (.frz od (.dK kvs)) D = some (.frz od (.dK kvs)) := upd_same
    generalize (upd (upd (upd H p0 (.tup [.int 0, .int 1])) p1 (.tup [.int 1, .ref p0])) D (.frz od (.dK kvs))) = G at x0 w0 d0
    refine for_n (n := kvs.length) (fun i σ' H' => ∃ (L : Nat) (wv : V) (o3 o4 : Option V), σ' = [some (.ref D), some (.int (L : Nat)), some wv, o3, o4] ∧ Ex G H' ∧ PtAt K H' wv ((rows.map (·.2)).take i).sum ∧ 0 < L ∧ L ∣ M ∧ ∀ r ∈ rows.take i, r.2.den ∣ L)
      ⟨1, _, _, _, rfl, Evl.Ex.refl _, w0, by decide, Nat.one_dvd _, fun r hr1 => by simp at hr1⟩ (fun i σ' H' hi ⟨_, _, _, _, _, e, _⟩ => ⟨e _ _ d0, hi⟩) (fun σ' H' ⟨_, _, _, _, _, e, _⟩ => ⟨e _ _ d0, Nat.le_refl _⟩) ?_ ?_
    · rintro i _ H' u H2 hi ⟨L, wv, o3, o4, rfl, e, hw, hL, hLM, hLd⟩ ⟨rfl, kk, hk⟩
      obtain ⟨⟨c, q⟩, hrc, hk1, hq⟩ := paired_get hrows hk
      have hmem := List.mem_of_getElem? hrc
      have hq2 : PtAt K H2 u q := (hq.kt (x0.kt hD (fun _ z => nomatch z) (fun _ _ z => nomatch z))).ex e
      obtain ⟨a, rfl, ha⟩ := hq2
      have sq := smq _ hmem
      have hLl : Lt2 ((L : Nat) : Int) 1000 := lM.le (Nat.le_of_dvd hM hLM)
      have gp : 0 < ((Int.gcd (L : Int) (q.den : Int) : Nat) : Int) := by
        have := Int.gcd_pos_of_ne_zero_left ((q.den : Nat) : Int) (show ((L : Nat) : Int) ≠ 0 by omega)
        omega
      have gl : Lt2 ((Int.gcd (L : Int) (q.den : Int) : Nat) : Int) 1000 := by
        refine hLl.le (by omega) ?_
        have := Nat.le_of_dvd hL (Nat.gcd_dvd_left L q.den)
        rw [Int.gcd_natCast_natCast]
        omega
      refine ⟨_, rfl, _, rfl, _, _, _, _, rfl, rfl, ha, atI_nat (j := 1) rfl, _, _, rfl, rfl, mw hLl sq.d, _, rfl, _, rfl, _, _, _, _, rfl, rfl, ha, atI_nat (j := 1) rfl, ((L : Nat) : Int), ((q.den : Nat) : Int), rfl, by omega, by omega, _, _, rfl, rfl, dw gp gl, ?_⟩
      refine ⟨_, rfl, _, rfl, wv, .ref a, _, q, rfl, hw, ⟨a, rfl, ha⟩, smp i, sq, fun v H3 e3 hv => ?_⟩
      have tk := rsum_take (l := rows.map (·.2)) (i := i) (q := q) (by rw [List.getElem?_map, hrc]; rfl)
      refine ⟨Nat.lcm L q.den, v, some (.ref a), o4, by show [some (V.ref D), some (V.int (((L : Nat) : Int) * ((q.den : Nat) : Int) / ((Int.gcd (L : Int) (q.den : Int) : Nat) : Int))), some v, some (.ref a), o4] = _; rw [lcm_step], Evl.Ex.trans e e3, by rw [tk]; exact hv, Nat.lcm_pos hL q.den_pos, Nat.lcm_dvd hLM (hpos _ hmem).2, fun r hr1 => ?_⟩
      rw [List.take_add_one, hrc] at hr1
      rcases List.mem_append.mp hr1 with hr1 | hr1
      · exact Nat.dvd_trans (hLd r hr1) (Nat.dvd_lcm_left _ _)
      · have := List.mem_singleton.mp (show r ∈ [(c, q)] from by simpa using hr1)
        rw [this]
        exact Nat.dvd_lcm_right _ _
    · rintro _ H' ⟨L, wv, o3, o4, rfl, e, hw, hL, hLM, hLd⟩
      rw [hl, List.take_length] at hLd
      rw [hl, show rows.length = (rows.map (·.2)).length by simp, List.take_length, hone] at hw
      refine ⟨_, rfl, (by show 2 ≤ sizeLine; decide), fun p2 hp2 => ?_⟩
      have e2 : Ex G (upd H' p2 (.tup [.int 1, .int 1])) := Evl.Ex.trans e (Evl.Ex.new hp2)
      refine ⟨qD 1, qD 1, (hw.ex (Evl.Ex.new hp2)).dp, dp_pair (q := 1) (Evl.st_of upd_same), rfl, rfl, _, rfl, ?_⟩
      rw [qD_eqv, decide_eq_true rfl]
      generalize (upd H' p2 (.tup [.int 1, .int 1])) = G2 at e2
      refine iteF ?_
      have kt : Kt H G2 := (x0.kt hD (fun _ z => nomatch z) (fun _ _ z => nomatch z)).trans (Kt.of e2)
      have hdL : ∀ r ∈ rows, r.2.den ∣ L := hLd
      have hms := wrows_one hdL
      rw [hone, Rat.one_mul, ← Rat.intCast_natCast] at hms
      have hms1 : (ms (wrows L rows) fun _ => 1) = (L : Nat) := Rat.intCast_inj.mp hms
      have hLl : Ln L 1000 := lM.le (Nat.le_of_dvd hM hLM)
      have wnn : ∀ p ∈ wrows L rows, 0 ≤ p.2 := fun p hp => by
        obtain ⟨r, hr1, rfl⟩ := List.mem_map.mp hp
        exact wgt_nn (Rat.le_of_lt (hpos r hr1).1)
      refine ⟨_, rfl, D, od, kvs, rfl, e2 _ _ d0, fun C hC => ?_⟩
      refine lc_n (n := kvs.length) (fun i acc H' => Prs K H' acc (dk ((wrows L rows).take i)) ∧ Ex G2 H') ⟨.nil, Evl.Ex.new hC⟩ (fun i acc H' hi p => ⟨p.2 _ _ (e2 _ _ d0), hi⟩) (fun acc H' p => ⟨p.2 _ _ (e2 _ _ d0), Nat.le_refl _⟩) (fun i acc H1 u H2 hi hacc p hy => ?_) (fun acc H1 hacc p => ?_)
      · obtain ⟨T0, kk, vv, hk, rfl, hT0, rfl⟩ := hy
        obtain ⟨⟨c, q⟩, hrc, rfl, hq⟩ := paired_get hrows hk
        have hmem := List.mem_of_getElem? hrc
        have e3 : Ex G2 (upd H1 T0 (.tup [kV (.inl c), vv])) := Evl.Ex.trans p.2 (Evl.Ex.new hT0)
        obtain ⟨a, rfl, ha⟩ := (hq.kt kt).ex e3
        have sq := smq _ hmem
        have dp : (0 : Int) < ((q.den : Nat) : Int) := by have := q.den_pos; omega
        have hh : upd H1 T0 (.tup [kV (.inl c), .ref a]) C = some (.lst acc) := (upd_ne (ne_of_none hacc hT0)).trans hacc
        refine ⟨T0, _, rfl, Evl.st_of upd_same, rfl, _, _, rfl, _, _, rfl, rfl, rfl, ⟨_, rfl, _, rfl, _, _, _, _, rfl, rfl, ha, atI_nat (j := 0) rfl, _, rfl, _, rfl, _, _, _, _, rfl, rfl, ha, atI_nat (j := 1) rfl, _, _, rfl, rfl, dw dp sq.d, _, _, rfl, rfl, ?_, (by show 2 ≤ sizeLine; decide), fun q2 hq2 => ?_⟩⟩
        · rw [← Int.natCast_ediv]
          refine mw sq.1 (b := 1000) ?_
          exact hLl.le (Nat.div_le_self _ _)
        · refine prs_step (k := .inl c) (v := .int (wgt L q)) hh (p.1.ex (Evl.Ex.new hT0)) hq2 e3 hC ?_ ?_
          · rw [dk_len]
            have h5 := List.length_take_le' i (wrows L rows)
            rw [wrows_len] at h5
            omega
          · refine dk_snoc ?_
            unfold wrows
            rw [List.getElem?_map, hrc]
            rfl
      · rw [hl, ← wrows_len L rows, List.take_length] at p
        have e4 : Xp D H H1 := x0.ex (Evl.Ex.trans e2 p.2)
        refine dict_sp hacc p.1 (by rw [wrows_keys]; exact nd) wnn (by rw [hms1]; omega) (by rw [hms1]; exact (show Lt2 ((L : Nat) : Int) 1000 from hLl).up (by decide)) (by rw [wrows_len]; omega) fun v H2 ws e5 h1 h2 h3 => k v H2 ws L (e4.ex e5) h1 hL hdL hLM h2 (by rw [wrows_len] at h3; exact h3)
end
end KK
end
/-! K11 -/
section
set_option Elab.async false
set_option linter.all false
set_option maxRecDepth 100000
namespace KK
open PySem PySem.Spec PyProof.Rows L2 KM LX LamX NdefX
/-! ### a loop over a list or a tuple -/
section
variable {X : Cx} {K : PySem.W.Frag} {tg e : Expr} {te : TE}
def SqE (K : PySem.W.Frag) (H : Hp) (a : Addr) (xs : List V) : Prop := SqL K H a xs ∨ SqT K H a xs
theorem SqE.ex {H H' : Hp} {a : Addr} {xs : List V} (h : SqE K H a xs) (e : Ex H H') : SqE K H' a xs := h.imp (Evl.ex_l e) (Evl.ex_t e)
def iSeq (K : PySem.W.Frag) (te : TE) : TI := fun σ H R => iList K te σ H R ∨ iTup K te σ H R
theorem pi_seq (h : PE X e te) : PI X tg e (iSeq X.K te) := ⟨fun pins s σ H R I q => q.elim (fun q => (pi_list h).run pins s σ H R I q) (fun q => (pi_tup h).run pins s σ H R I q)⟩
def rIxS (K : PySem.W.Frag) : R2 := fun x y H Q => rIxL K x y H Q ∨ rIxT K x y H Q
theorem ix_seq : IxR X (rIxS X.K) := fun value slice pins s σ H x y v u Q I rx ry h hs => h.elim (fun q => ix_list value slice pins s σ H x y v u Q I rx ry q hs) (fun q => ix_tup value slice pins s σ H x y v u Q I rx ry q hs)
theorem rIxS_of {H : Hp} {a : Addr} {xs : List V} {j : Nat} {v : V} {Q : VK} (h : SqE K H a xs) (g : xs[j]? = some v) (q : Q v H) : rIxS K (.ref a) (.int (j : Nat)) H Q :=
  h.elim (fun h => .inl ⟨a, xs, _, v, rfl, rfl, h, atI_nat g, q⟩) (fun h => .inr ⟨a, xs, _, v, rfl, rfl, h, atI_nat g, q⟩)
structure SeqIt (xs : List V) (S : Hp → Prop) (J : It) : Prop where
  go : ∀ i H', S H' → i < xs.length → J.go i H'
  stop : ∀ H', S H' → J.stop xs.length H'
  yld : ∀ i H' u H2, S H' → J.yld i H' u H2 → H2 = H' ∧ xs[i]? = some u
def Kp (a : Addr) (H H' : Hp) : Prop := ∀ o, H a = some o → H' a = some o
theorem kp_l {H H' : Hp} {a : Addr} {xs : List V} (h : SqL K H a xs) (e : Kp a H H') : SqL K H' a xs := by
  rcases h with (h | ⟨ob, h⟩) | h
  · exact .inl (.inl (e _ h))
  · exact .inl (.inr ⟨ob, e _ h⟩)
  · exact .inr h
theorem kp_t {H H' : Hp} {a : Addr} {xs : List V} (h : SqT K H a xs) (e : Kp a H H') : SqT K H' a xs := by
  rcases h with (h | ⟨ob, h⟩) | h
  · exact .inl (.inl (e _ h))
  · exact .inl (.inr ⟨ob, e _ h⟩)
  · exact .inr h
theorem SqE.kp {H H' : Hp} {a : Addr} {xs : List V} (h : SqE K H a xs) (e : Kp a H H') : SqE K H' a xs := h.imp (kp_l · e) (kp_t · e)
theorem Ex.kp {a : Addr} {H H' : Hp} (e : Ex H H') : Kp a H H' := fun _ h => e _ _ h
theorem iSeq_of {σ : L2.St} {H H1 : Hp} {R : It → Hp → Prop} {a : Addr} {xs : List V} (hte : ∀ R' : VK, R' (.ref a) H1 → te σ H R') (hs : SqE K H1 a xs) (k : ∀ S J, (∀ H', Kp a H1 H' → S H') → SeqIt xs S J → R J H1) : iSeq K te σ H R := by
  rcases hs with hs | hs
  · refine .inl (hte _ ⟨a, rfl, ⟨xs, hs⟩, k (fun H' => SqL K H' a xs) _ (fun H' e => kp_l hs e) ⟨fun i H' h hi => ⟨xs, xs[i], h, List.getElem?_eq_getElem hi⟩, fun H' h => ⟨xs, h, Nat.le_refl _⟩, fun i H' u H2 h y => ⟨y.1, y.2 _ h⟩⟩⟩)
  · refine .inr (hte _ ⟨a, rfl, ⟨xs, hs⟩, k (fun H' => SqT K H' a xs) _ (fun H' e => kp_t hs e) ⟨fun i H' h hi => ⟨xs, xs[i], h, List.getElem?_eq_getElem hi⟩, fun H' h => ⟨xs, h, Nat.le_refl _⟩, fun i H' u H2 h y => ⟨y.1, y.2 _ h⟩⟩⟩)
theorem Kt.lst {H : Hp} {D : Addr} {l : List V} {o : HO} (h : H D = some (.lst l)) : Kt H (upd H D o) := (Xp.upd (Xp.of (Evl.Ex.refl H))).kt h (fun _ z => nomatch z) (fun _ _ z => nomatch z)
/-- both ways of a choice go on alike -/
theorem with_if {tA : TT} {ta tb : TE} {σ : L2.St} {H : Hp} {Q : VK} (Φ : VK) (h : ∀ Q' : VK, (∀ v H', Φ v H' → Q' v H') → tIf tA ta tb σ H Q') (k : ∀ v H', Φ v H' → Q v H') : tIf tA ta tb σ H Q := h Q k
theorem none_ex {H H' : Hp} {a : Addr} (e : Ex H H') (h : H' a = none) : H a = none := by
  cases g : H a with
  | none => rfl
  | some o => rw [e _ _ g] at h; cases h
/-! ### lists of parts -/
def Pq (K : PySem.W.Frag) (H : Hp) (xs : List V) (n : Nat) (q : Nat → Rat) : Prop := xs.length = n ∧ ∀ i v, xs[i]? = some v → PtAt K H v (q i)
theorem Pq.nil {H : Hp} {q : Nat → Rat} : Pq K H [] 0 q := ⟨rfl, fun i v h => by cases h⟩
theorem Pq.kt {H H' : Hp} {xs : List V} {n : Nat} {q : Nat → Rat} (h : Pq K H xs n q) (e : Kt H H') : Pq K H' xs n q := ⟨h.1, fun i v g => (h.2 i v g).kt e⟩
theorem Pq.ex {H H' : Hp} {xs : List V} {n : Nat} {q : Nat → Rat} (h : Pq K H xs n q) (e : Ex H H') : Pq K H' xs n q := h.kt (Kt.of e)
theorem Pq.snoc {H : Hp} {xs : List V} {n : Nat} {q : Nat → Rat} {v : V} (h : Pq K H xs n q) (hv : PtAt K H v (q n)) : Pq K H (xs ++ [v]) (n + 1) q := by
  refine ⟨by rw [List.length_append, h.1]; rfl, fun i u g => ?_⟩
  rw [List.getElem?_append] at g
  split at g
  · exact h.2 i u g
  · next z =>
    have := h.1
    have hi : i - xs.length = 0 := by
      by_cases e : i - xs.length = 0
      · exact e
      · rw [List.getElem?_eq_none (by simp; omega)] at g; cases g
    rw [hi] at g
    cases g
    have : i = n := by omega
    rw [this]; exact hv
theorem Pq.get {H : Hp} {xs : List V} {n : Nat} {q : Nat → Rat} (h : Pq K H xs n q) {i : Nat} (hi : i < n) : ∃ v, xs[i]? = some v ∧ PtAt K H v (q i) := by
  have hi' : i < xs.length := by rw [h.1]; exact hi
  exact ⟨xs[i], List.getElem?_eq_getElem hi', h.2 i _ (List.getElem?_eq_getElem hi')⟩
theorem Pq.congr {H : Hp} {xs : List V} {n : Nat} {q r : Nat → Rat} (h : Pq K H xs n q) (e : ∀ i, i < n → q i = r i) : Pq K H xs n r := ⟨h.1, fun i v g => by
  have hi : i < n := by
    have := h.1
    have := (List.getElem?_eq_some_iff.mp g).1
    omega
  rw [← e i hi]; exact h.2 i v g⟩
end
section
variable {P : Program} {w : World} {K : PySem.W.Frag} {mg : Str → Option Value} {base : Heap} {T9 : LX.TL} {CS : Addr}
abbrev s_total : Stmt := top 15
abbrev N_total : List Str := ["parts", "whole", "one"]
theorem sc_total : FnScope N_total ["parts"] (C8.fnScope s_total) := C8.fnScope_by (by decide +kernel)
-- slots: parts=0 whole=1 one=2
def spTotal (K : PySem.W.Frag) : Sp := fun vs H Q _ => ∃ (p : Addr) (xs : List V) (n : Nat) (q : Nat → Rat), vs = [.ref p] ∧ SqE K H p xs ∧ Pq K H xs n q ∧ (∀ i, i < n → sm (q i)) ∧ (∀ i, i ≤ n → sm (sumq i q)) ∧ RetP K H Q (sumq n q)
theorem k_total {f aN : Addr} {fd : FuncData} (Df : C8.Def K mg "total" s_total f fd) (bf : Binds K fd ["parts"] []) (g_NOUGHT : mg "NOUGHT" = some (.ref aN)) (hN : ∀ H, SqT K H aN [.int 0, .int 1]) (c_plus : C8.Cal P w K mg base 3 "plus" (spTwo K (· + ·)) []) : C8.Cal P w K mg base 4 "total" (spTotal K) [] := by
  refine C8.cal0 Df bf .nil sc_total (fun vs H Q E h => ?_) (fun cdv A outer s H vs Q E hr h => ?_)
  · obtain ⟨_, _, _, _, rfl, _⟩ := h; rfl
  · obtain ⟨p, xs, n, q, rfl, hp, hq, hs1, hs2, k⟩ := h
    refine ⟨_, (pss_cons (ps_set (i := 1) sc_total.nd rfl (Or.inl rfl) (pe_glob (v := V.ref _) (by rfl) g_NOUGHT rfl))
      (pss_cons (ps_for PassesOwn.never rfl (pi_seq (pv 0)) (pg_name (i := 2) sc_total.nd rfl (Or.inl rfl) (by exact Or.inl rfl))
      (pss_one (ps_set (i := 1) sc_total.nd rfl (Or.inl rfl) (C8.pe_c c_plus hr (by omega) (by rfl) (pa_cons (pv 1) (pa_cons (pv 2) pa_nil))))))
      (pss_one (ps_ret (pv 1))))), ?_⟩
    refine iSeq_of (fun R' r => ⟨_, rfl, r⟩) hp fun S J hS hJ => ?_
    obtain rfl := hq.1
    refine for_n (n := xs.length) (fun i σ' H' => ∃ (wv : V) (o : Option V), σ' = [some (.ref p), some wv, o] ∧ Ex H H' ∧ PtAt K H' wv (sumq i q)) ⟨_, _, rfl, Evl.Ex.refl _, aN, rfl, hN H⟩ (fun i σ' H' hi ⟨_, _, _, e, _⟩ => hJ.go i H' (hS _ (Ex.kp e)) hi) (fun σ' H' ⟨_, _, _, e, _⟩ => hJ.stop H' (hS _ (Ex.kp e))) ?_ ?_
    · rintro i _ H' u H2 hi ⟨wv, o, rfl, e, hw⟩ y
      obtain ⟨rfl, hu⟩ := hJ.yld i H' u H2 (hS _ (Ex.kp e)) y
      exact ⟨_, rfl, _, rfl, wv, u, _, _, rfl, hw, (hq.2 i u hu).ex e, hs2 i (by omega), hs1 i hi, fun v H3 e3 hv => ⟨_, _, rfl, Evl.Ex.trans e e3, hv⟩⟩
    · rintro _ H' ⟨wv, o, rfl, e, hw⟩
      exact ⟨_, rfl, k _ _ e hw⟩
abbrev s_how_many : Stmt := top 51
abbrev N_how_many : List Str := ["chances", "rows", "one", "yes", "fresh", "count", "stays", "chance"]
theorem sc_how_many : FnScope N_how_many ["chances"] (C8.fnScope s_how_many) := C8.fnScope_by (by decide +kernel)
-- slots: chances=0 rows=1 one=2 yes=3 fresh=4 count=5 stays=6 chance=7
/-- a spread of the chances q of 0 .. n comes back -/
def RetH (CS : Addr) (H : Hp) (Q : VK) (n : Nat) (q : Nat → Rat) : Prop := ∀ v H' ws, Ex H H' → SpAt CS H' v ws → Nrm ws → HM ws n q → Lt2 (ms ws fun _ => 1) 200 → ws.length ≤ 100 → Q v H'
def spHowMany (K : PySem.W.Frag) (CS : Addr) : Sp := fun vs H Q _ => ∃ (p : Addr) (xs : List V) (n B : Nat) (pr : Nat → Rat), vs = [.ref p] ∧ SqL K H p xs ∧ Pq K H xs n pr ∧ n ≤ 12 ∧ (∀ i, 0 ≤ pr i ∧ pr i ≤ 1) ∧ (∀ i, Dv B (pr i)) ∧ 0 < B ∧ (∀ m, m ≤ 13 → Ln (B ^ m) 200) ∧ RetH CS H Q n (hm pr n)
theorem hm_le {p : Nat → Rat} (h : ∀ i, 0 ≤ p i ∧ p i ≤ 1) (n k : Nat) : hm p n k ≤ 1 := by
  by_cases hk : k < n + 1
  · have := sumq_ge (f := hm p n) (fun i _ => hm_nn p h n i) hk
    rw [hm_sum] at this
    exact this
  · rw [hm_gt p n k (by omega)]; decide
theorem hm_s0 (p : Nat → Rat) (n : Nat) : hm p (n + 1) 0 = (1 - p n) * hm p n 0 + 0 := by show (1 - p n) * hm p n 0 = _; grind
theorem hm_s1 (p : Nat → Rat) (n k : Nat) (h : 0 < k) : hm p (n + 1) k = (1 - p n) * hm p n k + p n * hm p n (k - 1) := by
  obtain ⟨j, rfl⟩ : ∃ j, k = j + 1 := ⟨k - 1, by omega⟩
  rfl
theorem unit_mul {a b : Rat} (h0 : 0 ≤ a) (h1 : a ≤ 1) (g0 : 0 ≤ b) (g1 : b ≤ 1) : 0 ≤ a * b ∧ a * b ≤ 1 := by
  refine ⟨Rat.mul_nonneg h0 g0, ?_⟩
  have h2 := Rat.mul_nonneg (show 0 ≤ 1 - a by grind) g0
  grind
end
end KK
end
/-! K12 -/
section
set_option Elab.async false
set_option linter.all false
set_option maxRecDepth 100000
namespace KK
open PySem PySem.Spec PyProof.Rows L2 KM LX LamX NdefX
section
variable {P : Program} {w : World} {K : PySem.W.Frag} {mg : Str → Option Value} {base : Heap} {T9 : LX.TL} {CS : Addr}
theorem rows_nd {H : Hp} {kvs : List (Key × V)} {rows : RL} (h : RowsAt K H kvs rows) (nd : (rows.map (·.1)).Nodup) : (kvs.map (·.1)).Nodup := by
  have e : kvs.map (·.1) = (rows.map (·.1)).map (Sum.inl : Int → Key) := by
    clear nd
    induction h with
    | nil => rfl
    | cons a _ ih => rw [List.map_cons, List.map_cons, List.map_cons, ih, a.1]
  rw [e]
  exact nodup_inj (fun _ _ z => Sum.inl.inj z) nd
theorem App.mono {D : Addr} {p p' : List V → Hp → Prop} {y : V} {H : Hp} (h : ∀ acc H', p acc H' → p' acc H') (a : App D p y H) : App D p' y H := by
  obtain ⟨acc, h1, h2, acc2, h3, h4⟩ := a
  exact ⟨acc, h1, h2, acc2, h3, h _ _ h4⟩
theorem k_how_many {f : Addr} {fd : FuncData} (T : Tx K mg) (Df : C8.Def K mg "how_many" s_how_many f fd) (bf : Binds K fd ["chances"] []) (c_check_chance : C8.Cal P w K mg base 3 "check_chance" (spChance K) []) (c_plus : C8.Cal P w K mg base 3 "plus" (spTwo K (· + ·)) []) (c_minus : C8.Cal P w K mg base 3 "minus" (spTwo K (· - ·)) [])
    (c_times : C8.Cal P w K mg base 3 "times" (spTwo K (· * ·)) []) (c_from_chances : C8.Cal P w K mg base 4 "from_chances" (spFromChances K CS) []) : C8.Cal P w K mg base 5 "how_many" (spHowMany K CS) [] := by
  refine C8.cal0 Df bf .nil sc_how_many (fun vs H Q E h => ?_) (fun cdv A outer s H vs Q E hr h => ?_)
  · obtain ⟨_, _, _, _, _, rfl, _⟩ := h; rfl
  · obtain ⟨p, xs, n, B, pr, rfl, hp, hq, hn, h01, hdv, hB, lB, k⟩ := h
    refine ⟨_, (pss_cons (ps_set (i := 1) sc_how_many.nd rfl (Or.inl rfl) (pe_lst (pa_cons (pe_tup (pa_cons pe_int (pa_cons pe_int pa_nil))) pa_nil)))
      (pss_cons (ps_for PassesOwn.never rfl (pi_list (pv 0)) (pg_name (i := 2) sc_how_many.nd rfl (Or.inl rfl) (by exact Or.inl rfl))
      (pss_cons (ps_par (i := 3) (j := 4) (by rfl) sc_how_many.nd rfl rfl (by decide) rfl rfl (pa_cons (C8.pe_c c_check_chance hr (by omega) (by rfl) (pa_cons (pv 2) pa_nil)) (pa_cons (pe_lst pa_nil) pa_nil)) (by rfl))
        (pss_cons (ps_for PassesOwn.never rfl (pi_range1 (by rfl) T.n_range (pa_cons (pe_op op_add (pe_callB call_len_seq (by rfl) T.n_len (by decide +kernel) (pa_cons (pv 1) pa_nil)) pe_int) pa_nil)) (pg_name (i := 5) sc_how_many.nd rfl (Or.inl rfl) (by exact Or.inl rfl))
        (pss_cons (ps_set (i := 6) sc_how_many.nd rfl (Or.inl rfl) (pe_ifExp (pt_cmpR op_lt (pv 5) (pe_callB call_len_seq (by rfl) T.n_len (by decide +kernel) (pa_cons (pv 1) pa_nil)) (nomark _)) (C8.pe_c c_times hr (by omega) (by rfl) (pa_cons (C8.pe_c c_minus hr (by omega) (by rfl) (pa_cons (pe_tup (pa_cons pe_int (pa_cons pe_int pa_nil))) (pa_cons (pv 3) pa_nil))) (pa_cons (pe_ix ix_list (pv 1) (pv 5) (fun _ _ => rfl)) pa_nil))) (pe_tup (pa_cons pe_int (pa_cons pe_int pa_nil)))))
          (pss_one (ps_expr (pe_bm PySem.F.plainAttrs_list PySem.F.slot_list_append PySem.F.type_list_append mt_append (pv 4) (pa_cons (C8.pe_c c_plus hr (by omega) (by rfl) (pa_cons (pv 6) (pa_cons (pe_ifExp (pt_cmpR op_gt (pv 5) pe_int (nomark _)) (C8.pe_c c_times hr (by omega) (by rfl) (pa_cons (pv 3) (pa_cons (pe_ix ix_list (pv 1) (pe_op op_sub (pv 5) pe_int) (fun _ _ => rfl)) pa_nil))) (pe_tup (pa_cons pe_int (pa_cons pe_int pa_nil)))) pa_nil))) pa_nil))))))
        (pss_one (ps_set (i := 1) sc_how_many.nd rfl (Or.inl rfl) (pv 4))))))
      (pss_one (ps_ret (C8.pe_c c_from_chances hr (by omega) (by rfl) (pa_cons (pe_callTy (call_dictP rfl) (by rfl) T.n_dict (by decide +kernel) (pa_cons (pe_lc (own := [("count", 5), ("chance", 7)]) rfl sc_how_many.nd (pi_enum (by rfl) T.n_enumerate (pa_cons (pv 1) pa_nil)) (by first | exact blkOk_by (N := N_how_many) (sc := C8.fnScope s_how_many) (by decide +kernel) | exact blkOk_by (by rfl)) (fun _ _ _ _ _ => castPG (pg_tup (n := 2) rfl (pgs_cons (pg_name (i := 5) sc_how_many.nd rfl (Or.inl rfl) (by first | exact Or.inr rfl | exact Or.inl rfl)) (pgs_cons (pg_name (i := 7) sc_how_many.nd rfl (Or.inl rfl) (by first | exact Or.inr rfl | exact Or.inl rfl)) pgs_nil))) (by first | (dsimp only [Cx.blk]; done) | rfl)) (fun _ _ _ _ _ => castPTs (pts_one (pt_cmpR op_gt (pe_ix ix_tup (pv 7) pe_int (fun _ _ => rfl)) pe_int (nomark _))) (by first | (dsimp only [Cx.blk]; done) | rfl)) (fun _ _ _ _ _ => castPE (pe_tup (pa_cons (pv 5) (pa_cons (pv 7) pa_nil))) (by first | (dsimp only [Cx.blk]; done) | rfl))) pa_nil)) pa_nil)))))), ?_⟩
    have hsm : ∀ (m : Nat) (x : Rat), m ≤ 13 → Dv (B ^ m) x → 0 ≤ x → x ≤ 1 → sm x := fun m x hm hd h0 h1 => sm_unit (Nat.pow_pos hB) hd h0 h1 ((lB m hm).up (by decide))
    have hnn : ∀ i, 0 ≤ 1 - pr i ∧ 1 - pr i ≤ 1 := fun i => by have := h01 i; grind
    have dv1 : ∀ i, Dv B (1 - pr i) := fun i => Dv.sub (Dv.one) (hdv i)
    have hdB : ∀ x, Dv B x → Dv (B ^ 1) x := fun x h => by rw [Nat.pow_one]; exact h
    have sm1 : ∀ i, sm (1 - pr i) := fun i => hsm 1 _ (by omega) (hdB _ (dv1 i)) (hnn i).1 (hnn i).2
    have smh : ∀ i j, i ≤ 12 → sm (hm pr i j) := fun i j hi => hsm i _ (by omega) (hm_dv pr B hdv i j) (hm_nn pr h01 i j) (hm_le h01 i j)
    refine ⟨(by show 2 ≤ sizeLine; decide), fun p0 hp0 => ⟨(by show 1 ≤ sizeLine; decide), fun R0 hR0 => ?_⟩⟩
    have e0 : Ex H (upd (upd H p0 (.tup [.int 1, .int 1])) R0 (.lst [.ref p0])) := Evl.Ex.trans (Evl.Ex.new hp0) (Evl.Ex.new hR0)
    have q0 : Pq K (upd (upd H p0 (.tup [.int 1, .int 1])) R0 (.lst [.ref p0])) [.ref p0] (0 + 1) (hm pr 0) := Pq.snoc Pq.nil ⟨p0, rfl, Evl.st_of (Evl.Ex.new hR0 _ _ upd_same)⟩
    have r0 : upd (upd H p0 (.tup [.int 1, .int 1])) R0 (.lst [.ref p0]) R0 = some (.lst [.ref p0]) := upd_same
    generalize (upd (upd H p0 (.tup [.int 1, .int 1])) R0 (.lst [.ref p0])) = G at e0 q0 r0
    refine ⟨_, rfl, p, rfl, ⟨xs, Evl.ex_l e0 hp⟩, ?_⟩
    obtain rfl := hq.1
    refine for_n (n := xs.length) (fun i σ' H' => ∃ (R : Addr) (ys : List V) (o2 o3 o4 o5 o6 o7 : Option V), σ' = [some (.ref p), some (.ref R), o2, o3, o4, o5, o6, o7] ∧ Ex H H' ∧ H' R = some (.lst ys) ∧ Pq K H' ys (i + 1) (hm pr i)) ⟨_, _, _, _, _, _, _, _, rfl, e0, r0, q0⟩
      (fun i σ' H' hi ⟨_, _, _, _, _, _, _, _, _, e, _⟩ => ⟨_, _, Evl.ex_l e hp, List.getElem?_eq_getElem hi⟩) (fun σ' H' ⟨_, _, _, _, _, _, _, _, _, e, _⟩ => ⟨_, Evl.ex_l e hp, Nat.le_refl _⟩) ?_ ?_
    · rintro i _ H' u H2 hi ⟨R, ys, o2, o3, o4, o5, o6, o7, rfl, e, hR, hys⟩ ⟨rfl, hu⟩
      have hu' := (hq.2 i u (hu _ (Evl.ex_l e hp))).ex e
      have sp1 : sm (pr i) := hsm 1 _ (by omega) (hdB _ (hdv i)) (h01 i).1 (h01 i).2
      refine ⟨_, rfl, u, pr i, rfl, hu', sp1, (h01 i).1, (h01 i).2, fun yv H3 e3 hy => ⟨(by show 0 ≤ sizeLine; exact Nat.zero_le _), fun F hF => ⟨_, _, rfl, ?_⟩⟩⟩
      have eF : Ex H2 (upd H3 F (.lst [])) := Evl.Ex.trans e3 (Evl.Ex.new hF)
      have hyF : PtAt K (upd H3 F (.lst [])) yv (pr i) := hy.ex (Evl.Ex.new hF)
      have fF : upd H3 F (.lst []) F = some (.lst []) := upd_same
      have nF : H2 F = none := none_ex e3 hF
      clear hy
      generalize (upd H3 F (.lst [])) = G3 at eF hyF fF
      refine ⟨_, rfl, R, ys, rfl, .inl (Evl.sq_of (eF _ _ hR)), _, _, rfl, rfl, ((i + 1 + 1 : Nat) : Int), (by show [V.int ((ys.length : Int) + 1)] = _; rw [hys.1]; rfl), by omega, by omega, ?_⟩
      refine for_n (n := i + 2) (fun j σ' H' => ∃ (zs : List V) (o2 o5 o6 o7 : Option V), σ' = [some (.ref p), some (.ref R), o2, some yv, some (.ref F), o5, o6, o7] ∧ Ex H2 H' ∧ PtAt K H' yv (pr i) ∧ H' F = some (.lst zs) ∧ Pq K H' zs j (hm pr (i + 1))) ⟨[], _, _, _, _, rfl, eF, hyF, fF, Pq.nil⟩
        (fun j σ' H' hj _ => by show j < (((i + 1 + 1 : Nat) : Int)).toNat; omega) (fun σ' H' _ => by show (((i + 1 + 1 : Nat) : Int)).toNat ≤ i + 2; omega) ?_ ?_
      · rintro j _ H4 u4 H5 hj ⟨zs, o2, o5, o6, o7, rfl, e4, hy4, hF4, hz⟩ ⟨rfl, rfl⟩
        refine with_if (fun sv H6 => Ex H5 H6 ∧ PtAt K H6 sv ((1 - pr i) * hm pr i j)) (fun Q' k' => ?_) ?_
        · refine ⟨_, rfl, _, rfl, R, ys, rfl, .inl (Evl.sq_of (e4 _ _ (hR))), _, _, rfl, rfl, _, rfl, ?_⟩
          rw [hys.1]
          by_cases hj2 : j < i + 1
          · rw [decide_eq_true (by omega)]
            obtain ⟨vr, hvr, hvq⟩ := hys.get hj2
            refine iteT ⟨(by show 2 ≤ sizeLine; decide), fun q hq3 => ⟨_, rfl, .ref q, yv, 1, pr i, rfl, ⟨q, rfl, Evl.st_of upd_same⟩, hy4.ex (Evl.Ex.new hq3), sm_one, sp1, fun v6 H6 e6 h6 => ?_⟩⟩
            have e56 : Ex H5 H6 := Evl.Ex.trans (Evl.Ex.new hq3) e6
            have e26 : Ex H2 H6 := Evl.Ex.trans e4 e56
            refine ⟨_, rfl, _, rfl, R, ys, (j : Nat), vr, rfl, (by show V.int (0 + (j : Nat)) = _; rw [Int.zero_add]), Evl.sq_of (e26 _ _ hR), atI_nat hvr, v6, vr, 1 - pr i, hm pr i j, rfl, h6, hvq.ex e26, sm1 i, smh i j (by omega), fun v7 H7 e7 h7 => k' v7 H7 ⟨Evl.Ex.trans e56 e7, h7⟩⟩
          · rw [decide_eq_false (by omega)]
            refine iteF ⟨(by show 2 ≤ sizeLine; decide), fun q hq3 => k' _ _ ⟨Evl.Ex.new hq3, ?_⟩⟩
            rw [hm_gt pr i j (by omega), Rat.mul_zero]
            exact ⟨q, rfl, Evl.st_of upd_same⟩
        · rintro sv H6 ⟨e6, h6⟩
          have F6 : H6 F = some (.lst zs) := e6 _ _ hF4
          have s1 : sm ((1 - pr i) * hm pr i j) := by
            have := unit_mul (hnn i).1 (hnn i).2 (hm_nn pr h01 i j) (hm_le h01 i j)
            exact hsm (1 + i) _ (by omega) (by rw [Nat.pow_add, Nat.pow_one]; exact Dv.mul (dv1 i) (hm_dv pr B hdv i j)) this.1 this.2
          refine ⟨_, rfl, .inl ⟨rfl, _, Evl.sq_of F6⟩, _, rfl, ?_⟩
          refine with_if (fun tv H7 => Ex H6 H7 ∧ ∃ x : Rat, PtAt K H7 tv x ∧ sm x ∧ (1 - pr i) * hm pr i j + x = hm pr (i + 1) j) (fun Q' k' => ?_) ?_
          · refine ⟨_, rfl, _, _, rfl, rfl, _, rfl, ?_⟩
            rcases Nat.eq_zero_or_pos j with z | z
            · subst z
              refine iteF ⟨(by show 2 ≤ sizeLine; decide), fun q hq3 => k' _ _ ⟨Evl.Ex.new hq3, 0, ⟨q, rfl, Evl.st_of upd_same⟩, sm_zero, (hm_s0 pr i).symm⟩⟩
            · rw [decide_eq_true (by omega)]
              obtain ⟨vr, hvr, hvq⟩ := hys.get (show j - 1 < i + 1 by omega)
              have e26 : Ex H2 H6 := Evl.Ex.trans e4 e6
              refine iteT ⟨_, rfl, _, rfl, _, rfl, _, _, rfl, rfl, R, ys, ((j - 1 : Nat) : Int), vr, rfl, (by show V.int (0 + (j : Nat) - 1) = _; rw [show (0 : Int) + (j : Nat) - 1 = ((j - 1 : Nat) : Int) by omega]), Evl.sq_of (e26 _ _ hR), atI_nat hvr, yv, vr, pr i, hm pr i (j - 1), rfl, hy4.ex e6, hvq.ex e26, sp1, smh i (j - 1) (by omega), fun v7 H7 e7 h7 => k' v7 H7 ⟨e7, _, h7, ?_, (hm_s1 pr i j z).symm⟩⟩
              have := unit_mul (h01 i).1 (h01 i).2 (hm_nn pr h01 i (j - 1)) (hm_le h01 i (j - 1))
              exact hsm (1 + i) _ (by omega) (by rw [Nat.pow_add, Nat.pow_one]; exact Dv.mul (hdv i) (hm_dv pr B hdv i (j - 1))) this.1 this.2
          · rintro tv H7 ⟨e7, x, h7, sx, hx⟩
            refine ⟨sv, tv, _, x, rfl, h6.ex e7, h7, s1, sx, fun v8 H8 e8 h8 => ?_⟩
            have F8 : H8 F = some (.lst zs) := e8 _ _ (e7 _ _ F6)
            have e58 : Ex H5 H8 := Evl.Ex.trans (Evl.Ex.trans e6 e7) e8
            have h8 : PtAt K H8 v8 ((1 - pr i) * hm pr i j + x) := h8
            rw [hx] at h8
            refine ⟨F, zs, v8, rfl, rfl, F8, Nat.lt_of_lt_of_le (show zs.length < 1000000 by rw [hz.1]; omega) (by decide), zs ++ [v8], o2, _, _, _, rfl, Evl.Ex.mut (Evl.Ex.trans e4 e58) nF, (hy4.ex e58).kt (Kt.lst F8), upd_same, Pq.snoc ((hz.ex e58).kt (Kt.lst F8)) (h8.kt (Kt.lst F8))⟩
      · rintro _ H4 ⟨zs, o2, o5, o6, o7, rfl, e4, hy4, hF4, hz⟩
        exact ⟨_, rfl, F, zs, _, _, _, _, _, _, rfl, Evl.Ex.trans e e4, hF4, hz⟩
    · rintro _ H' ⟨R, ys, o2, o3, o4, o5, o6, o7, rfl, e, hR, hys⟩
      have hone : sumq (xs.length + 1) (hm pr xs.length) = 1 := hm_sum pr xs.length
      have hmn := fun i (_ : i < xs.length + 1) => hm_nn pr h01 xs.length i
      have hBn : 0 < B ^ xs.length := Nat.pow_pos hB
      have hden : ∀ r ∈ hrows (hm pr xs.length) (xs.length + 1), 0 < r.2 ∧ r.2.den ∣ B ^ xs.length := fun r hr1 => by
        obtain ⟨i, _, rfl, hp1⟩ := hrows_mem hr1
        exact ⟨hp1, Dv.den hBn (hm_dv pr B hdv _ _)⟩
      refine ⟨_, rfl, R, ys, rfl, Evl.sq_of hR, fun D hD => ?_⟩
      refine lc_n (n := ys.length) (fun i acc H2 => ∃ kvs, RowsAt K H' kvs (hrows (hm pr xs.length) i) ∧ Prs K H2 acc kvs ∧ Ex H' H2) ⟨[], .nil, .nil, Evl.Ex.new hD⟩ (fun i acc H2 hi ⟨_, _, _, e2⟩ => ⟨ys, ys[i], Evl.sq_of (e2 _ _ hR), List.getElem?_eq_getElem hi⟩) (fun acc H2 ⟨_, _, _, e2⟩ => ⟨ys, Evl.sq_of (e2 _ _ hR), Nat.le_refl _⟩) (fun i acc H1 u H2 hi hacc p hy => ?_) (fun acc H1 hacc p => ?_)
      · obtain ⟨kvs, hrw, hps, e2⟩ := p
        obtain ⟨T0, x, rfl, hT0, rfl, hu⟩ := hy
        have hu := hys.2 i x (hu _ (Evl.sq_of (e2 _ _ hR)))
        have eT : Ex H1 (upd H1 T0 (.tup [.int (i : Nat), x])) := Evl.Ex.new hT0
        have e3 := Evl.Ex.trans e2 eT
        obtain ⟨a, rfl, ha⟩ := hu.ex e3
        have hh : upd H1 T0 (.tup [.int (i : Nat), .ref a]) D = some (.lst acc) := (upd_ne (ne_of_none hacc hT0)).trans hacc
        refine ⟨T0, _, rfl, Evl.st_of upd_same, rfl, _, _, rfl, _, _, rfl, rfl, rfl, _, rfl, _, _, _, _, rfl, rfl, ha, atI_nat (j := 0) rfl, _, _, rfl, rfl, _, rfl, ?_⟩
        by_cases hpos : 0 < hm pr xs.length i
        · have np : (0 : Int) < (hm pr xs.length i).num := by
            have h0 := Rat.num_nonneg.mpr (Rat.le_of_lt hpos)
            rcases Int.lt_or_eq_of_le h0 with z | z
            · exact z
            · have : hm pr xs.length i = 0 := by rw [← rat_self (hm pr xs.length i), ← z, Rat.zero_divInt]
              rw [this] at hpos
              exact absurd hpos (by decide)
          rw [decide_eq_true np]
          refine iteT ⟨_, rfl, _, rfl, (by show 2 ≤ sizeLine; decide), fun q2 hq2 => ?_⟩
          have st := prs_step (k := .inl (i : Int)) (v := .ref a) hh (hps.ex eT) hq2 e3 hD (kvs' := kvs ++ [(.inl (i : Int), .ref a)]) (by
            rw [Paired.length hrw]
            have := hrows_len (hm pr xs.length) i
            have := hys.1
            omega) rfl
          refine App.mono (fun acc2 H3 z => ⟨_, ?_, z⟩) st
          unfold hrows
          rw [if_pos hpos]
          exact Paired.snoc' hrw ⟨rfl, hu⟩
        · have np : ¬ (0 : Int) < (hm pr xs.length i).num := by
            have h0 : hm pr xs.length i = 0 := by have := hm_nn pr h01 xs.length i; grind
            rw [h0]; decide
          rw [decide_eq_false np]
          refine iteF ⟨acc, hh, kvs, ?_, hps.ex eT, e3⟩
          unfold hrows
          rw [if_neg hpos, List.append_nil]
          exact hrw
      · obtain ⟨kvs, hrw, ⟨ps, rfl, hps⟩, e2⟩ := p
        rw [hys.1] at hrw
        refine ⟨D, ps, kvs, rfl, Evl.sq_of hacc, hps, fun q hq2 => ?_⟩
        rw [mergeK_nd (rows_nd hrw (hrows_nd _ _))]
        have e3 : Ex H1 (upd H1 q (.dK kvs)) := Evl.Ex.new hq2
        have e4 := Evl.Ex.trans e2 e3
        refine ⟨q, kvs, _, B ^ xs.length, rfl, upd_same, hrw.ex fun a r z => z.ex e4, hrows_nd _ _, hden, hBn, (lB _ (by omega)).up (by decide), by rw [hrows_sum hmn, hone], by have := hrows_len (hm pr xs.length) (xs.length + 1); omega, fun v H3 ws L x hv hL hd hLM hs hl => ?_⟩
        have nq : H q = none := none_ex (Evl.Ex.trans e e2) hq2
        have e5 : Ex H H3 := fun b o hb => x b o (ne_of_none hb nq) (e4 b o (e b o hb))
        refine k v H3 ws e5 hv hs.1 (HM.of hL hs hmn hd hone) ?_ (by have := hrows_len (hm pr xs.length) (xs.length + 1); omega)
        have wl := HM.whole hs hmn hd hone
        have hLl : Lt2 ((L : Nat) : Int) 200 := (lB xs.length (by omega)).le (Nat.le_of_dvd hBn hLM)
        exact hLl.le (Int.le_of_lt (nrm_whole hs.1)) wl
end
end KK
end
/-! K13 -/
section
set_option Elab.async false
set_option linter.all false
set_option maxRecDepth 100000
namespace KK
open PySem PySem.Spec PyProof.Rows L2 KM LX LamX NdefX
section
variable {P : Program} {w : World} {K : PySem.W.Frag} {mg : Str → Option Value} {base : Heap} {T9 : LX.TL} {CS : Addr}
/-- a tuple of parts comes back -/
def RetT (K : PySem.W.Frag) (H : Hp) (Q : VK) (m : Nat) (r : Nat → Rat) : Prop := ∀ t H' ys, Ex H H' → SqT K H' t ys → Pq K H' ys m r → Q (.ref t) H'
theorem ms_bound {B : Int} : ∀ {ws : IL} {φ : Int → Int}, (∀ p ∈ ws, 0 ≤ p.2 ∧ 0 ≤ φ p.1 ∧ φ p.1 ≤ B) → ∀ i, 0 ≤ ms (ws.take i) φ ∧ ms (ws.take i) φ ≤ B * ms ws fun _ => 1
  | [], φ, _, i => by simp
  | p :: r, φ, h, 0 => by
    have ih := ms_bound (ws := r) (φ := φ) (fun q hq => h q (List.mem_cons_of_mem _ hq)) 0
    have h1 := h p List.mem_cons_self
    rw [List.take_zero] at ih ⊢
    rw [ms_nil] at ih ⊢
    rw [ms_cons, Int.mul_one, Int.mul_add]
    have := Int.mul_nonneg (show 0 ≤ B by omega) h1.1
    omega
  | p :: r, φ, h, i + 1 => by
    have ih := ms_bound (ws := r) (φ := φ) (fun q hq => h q (List.mem_cons_of_mem _ hq)) i
    have h1 := h p List.mem_cons_self
    rw [List.take_succ_cons, ms_cons, ms_cons, Int.mul_one, Int.mul_add]
    have h2 := Int.mul_nonneg h1.1 h1.2.1
    have h3 := Int.mul_le_mul_of_nonneg_left h1.2.2 h1.1
    rw [Int.mul_comm B p.2]
    omega
theorem _root_.KM.Ln.le' {W a : Nat} {b : Int} (h : Ln W a) (h0 : 0 ≤ b) (h1 : b ≤ (W : Nat)) : Lt2 b a := Lt2.le (show Lt2 ((W : Nat) : Int) a from h) h0 h1
theorem div_add {a b : Int} {W : Nat} : Rat.divInt a W + Rat.divInt b W = Rat.divInt (a + b) W := by
  rw [Rat.divInt_eq_div, Rat.divInt_eq_div, Rat.divInt_eq_div, Rat.intCast_add, Rat.div_def, Rat.div_def, Rat.div_def]
  grind
abbrev s_overlaps_of : Stmt := top 53
abbrev N_overlaps_of : List Str := ["spread", "many", "found", "size", "whole", "value", "weight", "ways", "turn"]
theorem sc_overlaps_of : FnScope N_overlaps_of ["spread", "many"] (C8.fnScope s_overlaps_of) := C8.fnScope_by (by decide +kernel)
-- slots: spread=0 many=1 found=2 size=3 whole=4 value=5 weight=6 ways=7 turn=8
def spOverlapsOf (K : PySem.W.Frag) (CS : Addr) : Sp := fun vs H Q _ => ∃ (v : V) (n : Nat) (ws : IL) (q : Nat → Rat), vs = [v, .int (n : Nat)] ∧ SpAt CS H v ws ∧ Nrm ws ∧ HM ws n q ∧ n ≤ 12 ∧ Lt2 (ms ws fun _ => 1) 200 ∧ ws.length ≤ 100 ∧ RetT K H Q (n + 1) (fun s => sumq (n + 1) fun k => q k * ((bin k s : Nat) : Rat))
theorem k_overlaps_of {f : Addr} {fd : FuncData} (T : Tx K mg) (Df : C8.Def K mg "overlaps_of" s_overlaps_of f fd) (bf : Binds K fd ["spread", "many"] []) (cl : Cls K CS) (aw : NoAttr K CS "weights") (ah : NoAttr K CS "whole") (c_plus : C8.Cal P w K mg base 3 "plus" (spTwo K (· + ·)) []) (c_part : C8.Cal P w K mg base 2 "part" (spPart K) []) : C8.Cal P w K mg base 4 "overlaps_of" (spOverlapsOf K CS) [] := by
  refine C8.cal0 Df bf .nil sc_overlaps_of (fun vs H Q E h => ?_) (fun cdv A outer s H vs Q E hr h => ?_)
  · obtain ⟨_, _, _, _, rfl, _⟩ := h; rfl
  · obtain ⟨_, n, ws, q, rfl, ⟨a, dx, wd, od, rfl, ha, hwd⟩, hN, hH, hn, hlt, hlen, k⟩ := h
    refine ⟨_, (pss_cons (ps_set (i := 2) sc_overlaps_of.nd rfl (Or.inl rfl) (pe_lst pa_nil))
      (pss_cons (ps_for PassesOwn.never rfl (pi_range1 (by rfl) T.n_range (pa_cons (pe_op op_add (pv 1) pe_int) pa_nil)) (pg_name (i := 3) sc_overlaps_of.nd rfl (Or.inl rfl) (by exact Or.inl rfl))
      (pss_cons (ps_set (i := 4) sc_overlaps_of.nd rfl (Or.inl rfl) (pe_tup (pa_cons pe_int (pa_cons pe_int pa_nil))))
        (pss_cons (ps_for PassesOwn.never rfl (pi_items (pe_fld (pv 0) rfl)) (pg_tup (n := 2) rfl (pgs_cons (pg_name (i := 5) sc_overlaps_of.nd rfl (Or.inl rfl) (by exact Or.inl rfl)) (pgs_cons (pg_name (i := 6) sc_overlaps_of.nd rfl (Or.inl rfl) (by exact Or.inl rfl)) pgs_nil)))
        (pss_cons (ps_set (i := 7) sc_overlaps_of.nd rfl (Or.inl rfl) pe_int)
          (pss_cons (ps_for PassesOwn.never rfl (pi_range1 (by rfl) T.n_range (pa_cons (pv 3) pa_nil)) (pg_name (i := 8) sc_overlaps_of.nd rfl (Or.inl rfl) (by exact Or.inl rfl))
          (pss_one (ps_set (i := 7) sc_overlaps_of.nd rfl (Or.inl rfl) (pe_op op_fdivW (pe_op op_mulW (pv 7) (pe_op op_sub (pv 5) (pv 8))) (pe_op op_add (pv 8) pe_int)))))
          (pss_one (ps_set (i := 4) sc_overlaps_of.nd rfl (Or.inl rfl) (C8.pe_c c_plus hr (by omega) (by rfl) (pa_cons (pv 4) (pa_cons (C8.pe_c c_part hr (by omega) (by rfl) (pa_cons (pe_op op_mulW (pv 6) (pe_ifExp (pt_cmpR op_ge (pv 5) (pv 3) (nomark _)) (pv 7) pe_int)) (pa_cons (pe_fld (pv 0) rfl) pa_nil))) pa_nil))))))))
        (pss_one (ps_expr (pe_bm PySem.F.plainAttrs_list PySem.F.slot_list_append PySem.F.type_list_append mt_append (pv 2) (pa_cons (pv 4) pa_nil)))))))
      (pss_one (ps_ret (pe_callTy call_tuple_of (by rfl) T.n_tuple (by decide +kernel) (pa_cons (pv 2) pa_nil)))))), ?_⟩
    obtain ⟨W, hW⟩ : ∃ W : Nat, (ms ws fun _ => 1) = (W : Nat) := ⟨(ms ws fun _ => 1).toNat, by have := nrm_whole hN; omega⟩
    have hWp : 0 < W := by have := nrm_whole hN; omega
    rw [hW] at hlt ha
    have hWl : Ln W 200 := hlt
    have hk : ∀ p ∈ ws, ∃ k : Nat, p.1 = k ∧ k ≤ n := fun p hp => hH.keys hN hp
    have hφ : ∀ s : Nat, ∀ p ∈ ws, 0 ≤ p.2 ∧ 0 ≤ ((bin p.1.toNat s : Nat) : Int) ∧ ((bin p.1.toNat s : Nat) : Int) ≤ 4096 := fun s p hp => by
      obtain ⟨k, hk1, hk2⟩ := hk p hp
      refine ⟨Int.le_of_lt (hN.pos p hp), Int.natCast_nonneg _, ?_⟩
      have h1 := bin_le_pow p.1.toNat s
      have h2 : (2 : Nat) ^ p.1.toNat ≤ 2 ^ 12 := Nat.pow_le_pow_right (by decide) (by omega)
      have h3 : (2 : Nat) ^ 12 = 4096 := by decide
      omega
    refine ⟨(by show 0 ≤ sizeLine; exact Nat.zero_le _), fun F hF => ⟨_, rfl, _, _, rfl, rfl, ((n : Nat) : Int) + 1, rfl, by omega, by omega, ?_⟩⟩
    refine for_n (n := n + 1) (fun i σ' H' => ∃ (ys : List V) (o3 o4 o5 o6 o7 o8 : Option V), σ' = [some (.ref a), some (.int (n : Nat)), some (.ref F), o3, o4, o5, o6, o7, o8] ∧ Ex H H' ∧ H' F = some (.lst ys) ∧ Pq K H' ys i (fun s => sumq (n + 1) fun k => q k * ((bin k s : Nat) : Rat)))
      ⟨[], _, _, _, _, _, _, rfl, Evl.Ex.new hF, upd_same, Pq.nil⟩ (fun i σ' H' hi _ => by show i < ((n : Int) + 1).toNat; omega) (fun σ' H' _ => by show ((n : Int) + 1).toNat ≤ n + 1; omega) ?_ ?_
    · rintro i _ H2 u H3 hi ⟨ys, o3, o4, o5, o6, o7, o8, rfl, e, hF2, hys⟩ ⟨rfl, rfl⟩
      refine ⟨(by show 2 ≤ sizeLine; decide), fun p0 hp0 => ⟨_, rfl, a, CS, dx, _, .ref wd, rfl, Evl.Ex.new hp0 _ _ (e _ _ ha), cl, aw, rfl, wd, od, dk ws, rfl, Evl.Ex.new hp0 _ _ (e _ _ hwd), ?_⟩⟩
      refine for_n (n := ws.length) (fun j σ' H' => ∃ (wv : V) (o5 o6 o7 o8 : Option V), σ' = [some (.ref a), some (.int (n : Nat)), some (.ref F), some (.int (0 + (i : Nat))), some wv, o5, o6, o7, o8] ∧ Ex H3 H' ∧ PtAt K H' wv (Rat.divInt (ms (ws.take j) fun v => ((bin v.toNat i : Nat) : Int)) (W : Nat)))
        ⟨_, _, _, _, _, rfl, Evl.Ex.new hp0, ?_⟩ (fun j σ' H' hj ⟨_, _, _, _, _, _, e2, _⟩ => ⟨e2 _ _ (e _ _ hwd), by rw [dk_len]; exact hj⟩) (fun σ' H' ⟨_, _, _, _, _, _, e2, _⟩ => ⟨e2 _ _ (e _ _ hwd), by rw [dk_len]; exact Nat.le_refl _⟩) ?_ ?_
      · rw [List.take_zero, ms_nil, Rat.zero_divInt]
        exact ⟨p0, rfl, Evl.st_of upd_same⟩
      · rintro j _ H4 u4 H5 hj ⟨wv, o5, o6, o7, o8, rfl, e4, hw⟩ ⟨T0, kk, vv, hk4, rfl, hT0, rfl⟩
        obtain ⟨x, b, hab, rfl, rfl⟩ := dk_get hk4
        have hmem := List.mem_of_getElem? hab
        obtain ⟨kx, hkx, hkn⟩ := hk _ hmem
        obtain rfl : x = (kx : Nat) := hkx
        have e5 : Ex H3 (upd H4 T0 (.tup [kV (Sum.inl ((kx : Nat) : Int)), .int b])) := Evl.Ex.trans e4 (Evl.Ex.new hT0)
        have hw5 := hw.ex (Evl.Ex.new (o := .tup [kV (Sum.inl ((kx : Nat) : Int)), .int b]) hT0)
        refine ⟨T0, _, rfl, Evl.st_of upd_same, rfl, _, _, rfl, _, _, rfl, rfl, ?_⟩
        generalize (upd H4 T0 (.tup [kV (Sum.inl ((kx : Nat) : Int)), .int b])) = G5 at e5 hw5
        refine ⟨_, rfl, ((i : Nat) : Int), (by show [V.int (0 + (i : Nat))] = _; rw [Int.zero_add]), by omega, by omega, ?_⟩
        refine for_n (n := i) (fun t σ' H' => ∃ (o8 : Option V), σ' = [some (.ref a), some (.int (n : Nat)), some (.ref F), some (.int (0 + (i : Nat))), some wv, some (.int (kx : Nat)), some (.int b), some (.int (bin kx t : Nat)), o8] ∧ H' = G5)
          ⟨_, by rw [bin_zero]; rfl, rfl⟩ (fun t σ' H' ht _ => by show t < (i : Int).toNat; omega) (fun σ' H' _ => by show (i : Int).toNat ≤ i; omega) ?_ ?_
        · rintro t _ _ u6 H6 ht ⟨o8, rfl, rfl⟩ ⟨rfl, rfl⟩
          have hb : Lt2 ((bin kx t : Nat) : Int) 64 := Lt2.nn (Int.natCast_nonneg _) (bin_lt (by omega))
          refine ⟨_, rfl, _, rfl, _, rfl, _, _, rfl, rfl, _, _, rfl, rfl, mw hb (Lt2.of (a := 10) (by show -(1024 : Int) < _; omega) (by show _ < (1024 : Int); omega)), _, rfl, _, _, rfl, rfl, _, _, rfl, rfl, ?_, ?_⟩
          · rw [Int.zero_add]
            exact dw_n (by omega)
          · refine ⟨some (.int (t : Nat)), ?_, rfl⟩
            simp only [Int.zero_add, bin_step]
            rfl
        · rintro _ G6 ⟨o8, rfl, e6⟩
          have e56 : Ex H3 G6 := e6 ▸ e5
          have hw6 : PtAt K G6 wv (Rat.divInt (ms (ws.take j) fun v => ((bin v.toNat i : Nat) : Int)) (W : Nat)) := e6 ▸ hw5
          clear e6
          have hbp := hφ i _ hmem
          have hbp : 0 ≤ b ∧ 0 ≤ ((bin kx i : Nat) : Int) ∧ ((bin kx i : Nat) : Int) ≤ 4096 := hbp
          have hbW : b ≤ (W : Nat) := by rw [← hW]; exact ms_le_one (fun p hp => Int.le_of_lt (hN.pos p hp)) _ hmem
          refine ⟨_, rfl, _, rfl, ?_⟩
          refine with_if (fun v H' => v = .int (bin kx i : Nat) ∧ H' = G6) (fun Q' k' => ?_) ?_
          · refine ⟨_, rfl, _, rfl, _, _, rfl, rfl, _, rfl, ?_⟩
            by_cases hik : i ≤ kx
            · rw [decide_eq_true (by omega)]
              exact iteT ⟨_, rfl, k' _ _ ⟨rfl, rfl⟩⟩
            · rw [decide_eq_false (by omega)]
              have z := k' (.int (bin kx i : Nat)) G6 ⟨rfl, rfl⟩
              rw [bin_gt (show kx < i by omega)] at z
              exact iteF z
          · rintro v7 H7 ⟨e7, e7'⟩
            subst e7
            rw [e7']
            have bl : Lt2 b 200 := hWl.le' hbp.1 hbW
            have wb : Lt2 ((W : Nat) : Int) 200 := hWl
            have ml : Lt2 (b * ((bin kx i : Nat) : Int)) 8000 := (bl.mul (Lt2.nn (a := 13) hbp.2.1 (by show _ < (8192 : Int); omega))).up (by decide)
            have bd := ms_bound (ws := ws) (φ := fun v => ((bin v.toNat i : Nat) : Int)) (B := 4096) (hφ i) j
            have tk := ms_take hab (fun v => ((bin v.toNat i : Nat) : Int))
            have tk : ms (ws.take (j + 1)) (fun v => ((bin v.toNat i : Nat) : Int)) = ms (ws.take j) (fun v => ((bin v.toNat i : Nat) : Int)) + b * ((bin kx i : Nat) : Int) := tk
            rw [hW] at bd
            refine ⟨_, _, rfl, rfl, mw bl (Lt2.nn (a := 13) hbp.2.1 (by show _ < (8192 : Int); omega)), _, rfl, a, CS, dx, _, .int (W : Nat), rfl, e56 _ _ (e _ _ ha), cl, ah, rfl, _, _, rfl, by omega, ml, wb.up (by decide), fun v8 H8 e8 h8 => ?_⟩
            refine ⟨wv, v8, _, _, rfl, hw6.ex e8, h8, sm_part hWp bd.1 bd.2 hWl, sm_part hWp (Int.mul_nonneg hbp.1 hbp.2.1) ?_ hWl, fun v9 H9 e9 h9 => ⟨v9, _, _, _, _, rfl, Evl.Ex.trans (Evl.Ex.trans e56 e8) e9, ?_⟩⟩
            · have h1 := Int.mul_le_mul_of_nonneg_left hbp.2.2 hbp.1
              have h2 := Int.mul_le_mul_of_nonneg_right hbW (show (0 : Int) ≤ 4096 by decide)
              rw [Int.mul_comm 4096]
              omega
            · have h9 : PtAt K H9 v9 (Rat.divInt (ms (ws.take j) fun v => ((bin v.toNat i : Nat) : Int)) (W : Nat) + Rat.divInt (b * ((bin kx i : Nat) : Int)) (W : Nat)) := h9
              rw [div_add, ← tk] at h9
              exact h9
      · rintro _ H4 ⟨wv, o5, o6, o7, o8, rfl, e4, hw⟩
        have F4 : H4 F = some (.lst ys) := e4 _ _ hF2
        have e34 := Evl.Ex.trans e e4
        rw [List.take_length, ← hW, HM.ovl hH hN] at hw
        refine ⟨_, rfl, .inl ⟨rfl, _, Evl.sq_of F4⟩, _, rfl, F, ys, wv, rfl, rfl, F4, Nat.lt_of_lt_of_le (show ys.length < 1000000 by rw [hys.1]; omega) (by decide), ys ++ [wv], _, _, _, _, _, _, rfl, Evl.Ex.mut e34 hF, upd_same, Pq.snoc ((hys.ex e4).kt (Kt.lst F4)) (hw.kt (Kt.lst F4))⟩
    · rintro _ H2 ⟨ys, o3, o4, o5, o6, o7, o8, rfl, e, hF2, hys⟩
      exact ⟨_, rfl, F, ys, rfl, .inl ⟨Evl.sq_of hF2, fun l hl => k l _ ys (Evl.Ex.trans e (Evl.Ex.new hl)) (Evl.st_of upd_same) (hys.ex (Evl.Ex.new hl))⟩⟩
end
end KK
end
/-! K14 -/
section
set_option Elab.async false
set_option linter.all false
set_option maxRecDepth 100000
namespace KK
open PySem PySem.Spec PyProof.Rows L2 KM LX LamX NdefX
section
variable {P : Program} {w : World} {K : PySem.W.Frag} {mg : Str → Option Value} {base : Heap} {T9 : LX.TL} {CS : Addr}
abbrev s_from_overlaps : Stmt := top 52
abbrev N_from_overlaps : List Str := ["overlaps", "many", "found", "count", "whole", "ways", "size", "here"]
theorem sc_from_overlaps : FnScope N_from_overlaps ["overlaps"] (C8.fnScope s_from_overlaps) := C8.fnScope_by (by decide +kernel)
-- slots: overlaps=0 many=1 found=2 count=3 whole=4 ways=5 size=6 here=7
def spFromOverlaps (K : PySem.W.Frag) : Sp := fun vs H Q _ => ∃ (p : Addr) (xs : List V) (n M : Nat) (O q : Nat → Rat), vs = [.ref p] ∧ SqT K H p xs ∧ Pq K H xs (n + 1) O ∧ n ≤ 12 ∧ 0 < M ∧ Ln M 200 ∧ (∀ s, Dv M (O s)) ∧ (∀ s, 0 ≤ O s ∧ O s ≤ 4096) ∧ (∀ c, c ≤ n → und O c (n + 1 - c) = q c ∧ 0 ≤ q c) ∧ RetT K H Q (n + 1) q
theorem lnU (i : Nat) (h : i ≤ 13) : Ln (i * 16777216) 40 := by
  have h2 : (2 : Nat) ^ 40 = 1099511627776 := by decide
  unfold Ln
  omega
theorem int_num (b : Nat) : (((b : Nat) : Int) : Rat).num = (b : Nat) ∧ (((((b : Nat) : Int) : Rat).den : Nat) : Int) = 1 := ⟨rfl, rfl⟩
theorem k_from_overlaps {f : Addr} {fd : FuncData} (T : Tx K mg) (Df : C8.Def K mg "from_overlaps" s_from_overlaps f fd) (bf : Binds K fd ["overlaps"] []) (c_plus : C8.Cal P w K mg base 3 "plus" (spTwo K (· + ·)) []) (c_minus : C8.Cal P w K mg base 3 "minus" (spTwo K (· - ·)) []) (c_times : C8.Cal P w K mg base 3 "times" (spTwo K (· * ·)) []) : C8.Cal P w K mg base 4 "from_overlaps" (spFromOverlaps K) [] := by
  refine C8.cal0 Df bf .nil sc_from_overlaps (fun vs H Q E h => ?_) (fun cdv A outer s H vs Q E hr h => ?_)
  · obtain ⟨_, _, _, _, _, _, rfl, _⟩ := h; rfl
  · obtain ⟨p, xs, n, M, O, q, rfl, hp, hq, hn, hM, lM, hdv, hO, hund, k⟩ := h
    refine ⟨_, (pss_cons (ps_par (i := 1) (j := 2) (by rfl) sc_from_overlaps.nd rfl rfl (by decide) rfl rfl (pa_cons (pe_op op_sub (pe_callB call_len_seq (by rfl) T.n_len (by decide +kernel) (pa_cons (pv 0) pa_nil)) pe_int) (pa_cons (pe_lst pa_nil) pa_nil)) (by rfl))
      (pss_cons (ps_for PassesOwn.never rfl (pi_range1 (by rfl) T.n_range (pa_cons (pe_op op_add (pv 1) pe_int) pa_nil)) (pg_name (i := 3) sc_from_overlaps.nd rfl (Or.inl rfl) (by exact Or.inl rfl))
      (pss_cons (ps_asg (pe_tup (pa_cons (pe_tup (pa_cons pe_int (pa_cons pe_int pa_nil))) (pa_cons pe_int pa_nil))) (pg_tup (n := 2) rfl (pgs_cons (pg_name (i := 4) sc_from_overlaps.nd rfl (Or.inl rfl) (by exact Or.inl rfl)) (pgs_cons (pg_name (i := 5) sc_from_overlaps.nd rfl (Or.inl rfl) (by exact Or.inl rfl)) pgs_nil))))
        (pss_cons (ps_for PassesOwn.never rfl (pi_range2 (by rfl) T.n_range (pa_cons (pv 3) (pa_cons (pe_op op_add (pv 1) pe_int) pa_nil))) (pg_name (i := 6) sc_from_overlaps.nd rfl (Or.inl rfl) (by exact Or.inl rfl))
        (pss_cons (ps_set (i := 7) sc_from_overlaps.nd rfl (Or.inl rfl) (C8.pe_c c_times hr (by omega) (by rfl) (pa_cons (pe_ix ix_tup (pv 0) (pv 6) (fun _ _ => rfl)) (pa_cons (pe_tup (pa_cons (pv 5) (pa_cons pe_int pa_nil))) pa_nil))))
          (pss_cons (ps_set (i := 4) sc_from_overlaps.nd rfl (Or.inl rfl) (pe_ifExp (pt_cmpR op_eq (pe_op op_mod (pe_op op_sub (pv 6) (pv 3)) pe_int) pe_int (nomark _)) (C8.pe_c c_plus hr (by omega) (by rfl) (pa_cons (pv 4) (pa_cons (pv 7) pa_nil))) (C8.pe_c c_minus hr (by omega) (by rfl) (pa_cons (pv 4) (pa_cons (pv 7) pa_nil)))))
          (pss_one (ps_set (i := 5) sc_from_overlaps.nd rfl (Or.inl rfl) (pe_op op_fdivW (pe_op op_mul (pv 5) (pe_op op_add (pv 6) pe_int)) (pe_op op_sub (pe_op op_add (pv 6) pe_int) (pv 3))))))))
        (pss_cons (ps_if (pt_cmpR op_lt (pe_ix ix_tup (pv 4) pe_int (fun _ _ => rfl)) pe_int (nomark _)) pss_never pss_nil)
        (pss_one (ps_expr (pe_bm PySem.F.plainAttrs_list PySem.F.slot_list_append PySem.F.type_list_append mt_append (pv 2) (pa_cons (pv 4) pa_nil))))))))
      (pss_one (ps_ret (pe_callTy call_tuple_of (by rfl) T.n_tuple (by decide +kernel) (pa_cons (pv 2) pa_nil)))))), ?_⟩
    have smO : ∀ s, sm (O s) := fun s => sm_of (B := 4096) hM (hdv s) (Rat.le_trans (by decide) (hO s).1) (hO s).2 ((lM.mul (show Ln 4096 13 by unfold Ln; decide)).up (by decide)) (lM.up (by decide))
    have smU : ∀ c i, c + i ≤ 13 → c < 14 → sm (und O c i) := fun c i h1 h2 => by
      have b := und_bd hO i h1 h2
      refine sm_of (B := i * 16777216) hM (und_dv hdv i) b.1 b.2 ((lM.mul (lnU i (by omega))).up (by decide)) (lM.up (by decide))
    have smB : ∀ b : Nat, b ≤ 4096 → sm (((b : Nat) : Int) : Rat) := fun b hb => ⟨Lt2.up (a := 13) (Lt2.nn (Int.natCast_nonneg _) (by show ((b : Nat) : Int) < 8192; omega)), Ln.one⟩
    have smX : ∀ (s b : Nat), b ≤ 4096 → sm (O s * (((b : Nat) : Int) : Rat)) := fun s b hb => by
      have hb1 : (((b : Nat) : Int) : Rat) ≤ ((4096 : Int) : Rat) := Rat.intCast_le_intCast.mpr (by omega)
      have hb0 : (0 : Rat) ≤ (((b : Nat) : Int) : Rat) := Rat.intCast_le_intCast.mpr (Int.natCast_nonneg _)
      have c4 : ((4096 : Int) : Rat) = 4096 := rfl
      rw [c4] at hb1
      have d := Dv.mul (hdv s) (Dv.int (M := 1) ((b : Nat) : Int))
      rw [Nat.mul_one] at d
      have h0 := Rat.mul_nonneg (hO s).1 hb0
      have h1 := Rat.mul_nonneg (hO s).1 (show (0 : Rat) ≤ 4096 - (((b : Nat) : Int) : Rat) by grind)
      have := hO s
      have cB : ((16777216 : Nat) : Rat) = 16777216 := rfl
      exact sm_of (B := 16777216) hM d (by rw [cB]; grind) (by rw [cB]; grind) ((lM.mul (show Ln 16777216 25 by unfold Ln; decide)).up (by decide)) (lM.up (by decide))
    have en : ((xs.length : Nat) : Int) - 1 = (n : Nat) := by rw [hq.1]; omega
    refine ⟨_, rfl, p, xs, rfl, .inr hp, _, _, rfl, rfl, (by show 0 ≤ sizeLine; exact Nat.zero_le _), fun F hF => ⟨.int (n : Nat), .ref F, (by show [V.int (((xs.length : Nat) : Int) - 1), V.ref F] = _; rw [en]), ?_⟩⟩
    refine ⟨_, rfl, _, _, rfl, rfl, ((n : Nat) : Int) + 1, rfl, by omega, by omega, ?_⟩
    refine for_n (n := n + 1) (fun i σ' H' => ∃ (ys : List V) (o3 o4 o5 o6 o7 : Option V), σ' = [some (.ref p), some (.int (n : Nat)), some (.ref F), o3, o4, o5, o6, o7] ∧ Ex H H' ∧ H' F = some (.lst ys) ∧ Pq K H' ys i q)
      ⟨[], _, _, _, _, _, rfl, Evl.Ex.new hF, upd_same, Pq.nil⟩ (fun i σ' H' hi _ => by show i < ((n : Int) + 1).toNat; omega) (fun σ' H' _ => by show ((n : Int) + 1).toNat ≤ n + 1; omega) ?_ ?_
    · rintro c _ H2 u H3 hc ⟨ys, o3, o4, o5, o6, o7, rfl, e, hF2, hys⟩ ⟨rfl, rfl⟩
      refine ⟨(by show 2 ≤ sizeLine; decide), fun p0 hp0 => ⟨(by show 2 ≤ sizeLine; decide), fun p1 hp1 => ⟨p1, _, rfl, Evl.st_of upd_same, rfl, _, _, rfl, _, _, rfl, rfl, ?_⟩⟩⟩
      have hp0' : upd (upd H3 p0 (.tup [.int 0, .int 1])) p1 (.tup [.ref p0, .int 1]) p0 = some (.tup [.int 0, .int 1]) := Evl.Ex.new hp1 _ _ upd_same
      have e01 : Ex H3 (upd (upd H3 p0 (.tup [.int 0, .int 1])) p1 (.tup [.ref p0, .int 1])) := Evl.Ex.trans (Evl.Ex.new hp0) (Evl.Ex.new hp1)
      generalize (upd (upd H3 p0 (.tup [.int 0, .int 1])) p1 (.tup [.ref p0, .int 1])) = G at hp0' e01
      refine ⟨_, rfl, _, rfl, _, _, rfl, rfl, ((c : Nat) : Int), ((n : Nat) : Int) + 1, (by show [V.int (0 + (c : Nat)), _] = _; rw [Int.zero_add]), ⟨by omega, by omega, by omega, by omega⟩, ?_⟩
      refine for_n (n := n + 1 - c) (fun j σ' H' => ∃ (wv : V) (o6 o7 : Option V), σ' = [some (.ref p), some (.int (n : Nat)), some (.ref F), some (.int (0 + (c : Nat))), some wv, some (.int (bin (c + j) c : Nat)), o6, o7] ∧ Ex H3 H' ∧ PtAt K H' wv (und O c j))
        ⟨_, _, _, (by rw [Nat.add_zero, bin_self]; rfl), e01, p0, rfl, Evl.st_of hp0'⟩ (fun j σ' H' hj _ => by show j < ((n : Int) + 1 - c).toNat; omega) (fun σ' H' _ => by show ((n : Int) + 1 - c).toNat ≤ n + 1 - c; omega) ?_ ?_
      · rintro j _ H4 u4 H5 hj ⟨wv, o6, o7, rfl, e4, hw⟩ ⟨rfl, rfl⟩
        obtain ⟨vr, hvr, hvq⟩ := hq.get (show c + j < n + 1 by omega)
        have e14 := Evl.Ex.trans e e4
        have hb := bin_small (c + j) (by omega) c (by omega)
        have hb' : bin (c + j) c ≤ 4096 := by omega
        refine ⟨_, rfl, _, rfl, p, xs, ((c + j : Nat) : Int), vr, rfl, rfl, Evl.ex_t e14 hp, atI_nat hvr, _, rfl, (by show 2 ≤ sizeLine; decide), fun q2 hq2 => ?_⟩
        have e5 : Ex H5 (upd H5 q2 (.tup [.int (bin (c + j) c : Nat), .int 1])) := Evl.Ex.new hq2
        refine ⟨vr, .ref q2, O (c + j), (((bin (c + j) c : Nat) : Int) : Rat), rfl, (hvq.ex e14).ex e5, ⟨q2, rfl, Evl.st_of upd_same⟩, smO _, smB _ hb', fun hv H6 e6 h6 => ?_⟩
        have e56 := Evl.Ex.trans e5 e6
        dsimp only [gName, tSeq, tAsg]
        refine with_if (fun v H' => Ex H6 H' ∧ PtAt K H' v (und O c (j + 1))) (fun Q' k' => ?_) ?_
        · refine ⟨_, rfl, _, rfl, _, _, rfl, rfl, _, _, rfl, rfl, by show (0 : Int) < 2; decide, rfl, _, rfl, ?_⟩
          rw [decV]
          have ue : und O c (j + 1) = und O c j + ((sg j * (bin (c + j) c : Int) : Int) : Rat) * O (c + j) := rfl
          by_cases ev : j % 2 = 0
          · rw [decide_eq_true (by omega)]
            refine iteT ⟨_, rfl, _, rfl, wv, hv, und O c j, _, rfl, hw.ex e56, h6, smU c j (by omega) (by omega), smX _ _ hb', fun v7 H7 e7 h7 => k' v7 H7 ⟨e7, ?_⟩⟩
            rw [ue, show sg j = 1 from if_pos ev, Int.one_mul, Rat.mul_comm]
            exact h7
          · rw [decide_eq_false (by omega)]
            refine iteF ⟨_, rfl, _, rfl, wv, hv, und O c j, _, rfl, hw.ex e56, h6, smU c j (by omega) (by omega), smX _ _ hb', fun v7 H7 e7 h7 => k' v7 H7 ⟨e7, ?_⟩⟩
            rw [ue, show sg j = -1 from if_neg ev, Int.neg_mul, Int.one_mul, Rat.intCast_neg, Rat.neg_mul, Rat.mul_comm, ← Rat.sub_eq_add_neg]
            exact h7
        · rintro v7 H7 ⟨e7, h7⟩
          have bu := bin_up (c + j) (by omega) c (by omega) (by omega)
          refine ⟨_, rfl, _, rfl, _, _, rfl, rfl, _, _, rfl, rfl, cm_l (Int.natCast_nonneg _) (Int.lt_of_le_of_lt hb (by decide)), _, rfl, _, _, rfl, rfl, _, rfl, _, _, rfl, rfl, _, _, rfl, rfl, dw (by omega) (Lt2.nn (a := 10) (by omega) (by show _ < (1024 : Int); omega)), v7, some (.int (((c : Nat) : Int) + ((j : Nat) : Int))), some hv, ?_, Evl.Ex.trans (Evl.Ex.trans e4 e56) e7, h7⟩
          show [some (V.ref p), some (.int (n : Nat)), some (.ref F), some (.int (0 + (c : Nat))), some v7, some (.int (((bin (c + j) c : Nat) : Int) * (((c : Nat) : Int) + ((j : Nat) : Int) + 1) / (((c : Nat) : Int) + ((j : Nat) : Int) + 1 - (0 + ((c : Nat) : Int))))), some (.int (((c : Nat) : Int) + ((j : Nat) : Int))), some hv] = _
          rw [Int.zero_add, ← Int.natCast_add, bu]
          rfl
      · rintro _ H4 ⟨wv, o6, o7, rfl, e4, hw⟩
        have F4 : H4 F = some (.lst ys) := e4 _ _ hF2
        have e34 := Evl.Ex.trans e e4
        obtain ⟨hu1, hu2⟩ := hund c (by omega)
        rw [hu1] at hw
        obtain ⟨aw, rfl, haw⟩ := hw
        have nn := Rat.num_nonneg.mpr hu2
        refine ⟨_, rfl, _, _, _, _, rfl, rfl, haw, atI_nat (j := 0) rfl, _, _, rfl, rfl, _, rfl, ?_⟩
        rw [decide_eq_false (by omega)]
        refine iteF ⟨_, rfl, .inl ⟨rfl, _, Evl.sq_of F4⟩, _, rfl, F, ys, .ref aw, rfl, rfl, F4, Nat.lt_of_lt_of_le (show ys.length < 1000000 by rw [hys.1]; omega) (by decide), ys ++ [.ref aw], _, _, _, _, _, rfl, Evl.Ex.mut e34 hF, upd_same, Pq.snoc ((hys.ex e4).kt (Kt.lst F4)) (PtAt.kt ⟨aw, rfl, haw⟩ (Kt.lst F4))⟩
    · rintro _ H2 ⟨ys, o3, o4, o5, o6, o7, rfl, e, hF2, hys⟩
      exact ⟨_, rfl, F, ys, rfl, .inl ⟨Evl.sq_of hF2, fun l hl => k l _ ys (Evl.Ex.trans e (Evl.Ex.new hl)) (Evl.st_of upd_same) (hys.ex (Evl.Ex.new hl))⟩⟩
end
end KK
end
/-! K15 -/
section
set_option Elab.async false
set_option linter.all false
set_option maxRecDepth 100000
namespace KM
/-- who wins a race of parts p -/
def rc (p : Rat) : Nat → Nat → Rat
  | 0, 0 => 0
  | 0, _ + 1 => 1
  | _ + 1, 0 => 0
  | a + 1, b + 1 => p * rc p a (b + 1) + (1 - p) * rc p (a + 1) b
theorem rc_unit {p : Rat} (h0 : 0 ≤ p) (h1 : p ≤ 1) : ∀ a b : Nat, 0 ≤ rc p a b ∧ rc p a b ≤ 1
  | 0, 0 => by unfold rc; decide
  | 0, b + 1 => by unfold rc; decide
  | a + 1, 0 => by unfold rc; decide
  | a + 1, b + 1 => by
    have i1 := rc_unit h0 h1 a (b + 1)
    have i2 := rc_unit h0 h1 (a + 1) b
    unfold rc
    have m1 := Rat.mul_nonneg h0 i1.1
    have m2 := Rat.mul_nonneg (show 0 ≤ 1 - p by grind) i2.1
    have m3 := Rat.mul_nonneg h0 (show 0 ≤ 1 - rc p a (b + 1) by grind)
    have m4 := Rat.mul_nonneg (show 0 ≤ 1 - p by grind) (show 0 ≤ 1 - rc p (a + 1) b by grind)
    grind
theorem rc_dv {p : Rat} {B : Nat} (h : Dv B p) : ∀ a b : Nat, Dv (B ^ (a + b)) (rc p a b)
  | 0, 0 => by unfold rc; exact Dv.zero
  | 0, b + 1 => by unfold rc; exact Dv.one
  | a + 1, 0 => by unfold rc; exact Dv.zero
  | a + 1, b + 1 => by
    have i1 := Dv.mul h (rc_dv h a (b + 1))
    have i2 := Dv.mul (Dv.sub Dv.one h) (rc_dv h (a + 1) b)
    unfold rc
    rw [show B * B ^ (a + (b + 1)) = B ^ (a + 1 + (b + 1)) by rw [← Nat.pow_succ']; congr 1; omega] at i1
    rw [show B * B ^ (a + 1 + b) = B ^ (a + 1 + (b + 1)) by rw [← Nat.pow_succ']; congr 1] at i2
    exact Dv.add i1 i2
end KM
namespace KK
open PySem PySem.Spec PyProof.Rows L2 KM LX LamX NdefX
section
variable {P : Program} {w : World} {K : PySem.W.Frag} {mg : Str → Option Value} {base : Heap} {T9 : LX.TL} {CS : Addr}
/-! ### lists of lists of parts -/
theorem Pq.set {H : Hp} {xs : List V} {n j : Nat} {q : Nat → Rat} {v : V} {r : Rat} (h : Pq K H xs n q) (hv : PtAt K H v r) : Pq K H (xs.set j v) n (fun b => if b = j then r else q b) := by
  refine ⟨by rw [List.length_set]; exact h.1, fun i u g => ?_⟩
  rw [List.getElem?_set] at g
  show PtAt K H u (if i = j then r else q i)
  by_cases e : j = i
  · subst e
    rw [if_pos rfl] at g ⊢
    split at g
    · cases g; exact hv
    · cases g
  · rw [if_neg e] at g
    rw [if_neg (fun z => e z.symm)]
    exact h.2 i u g
structure GridAt (K : PySem.W.Frag) (B H : Hp) (rs : List Addr) (n : Nat) (g : Nat → Nat → Rat) : Prop where
  ex : Ex B H
  nd : rs.Nodup
  at_ : ∀ i r, rs[i]? = some r → B r = none ∧ ∃ xs, H r = some (.lst xs) ∧ Pq K H xs n (g i)
theorem GridAt.go {B H H' : Hp} {rs : List Addr} {n : Nat} {g : Nat → Nat → Rat} (h : GridAt K B H rs n g) (e : Ex H H') : GridAt K B H' rs n g :=
  ⟨Evl.Ex.trans h.ex e, h.nd, fun i r hr => by obtain ⟨h1, xs, h2, h3⟩ := h.at_ i r hr; exact ⟨h1, xs, e _ _ h2, h3.ex e⟩⟩
theorem GridAt.mut {B H : Hp} {rs : List Addr} {n : Nat} {g : Nat → Nat → Rat} {R : Addr} {l : List V} {o : HO} (h : GridAt K B H rs n g) (hR : H R = some (.lst l)) (hB : B R = none) (hn : R ∉ rs) : GridAt K B (upd H R o) rs n g :=
  ⟨Evl.Ex.mut h.ex hB, h.nd, fun i r hr => by
    obtain ⟨h1, xs, h2, h3⟩ := h.at_ i r hr
    have ne : r ≠ R := fun z => hn (by rw [← z]; exact List.mem_of_getElem? hr)
    exact ⟨h1, xs, (upd_ne ne).trans h2, h3.kt (Kt.lst hR)⟩⟩
theorem GridAt.snoc {B H : Hp} {rs : List Addr} {n : Nat} {g : Nat → Nat → Rat} {D : Addr} {xs : List V} (h : GridAt K B H rs n g) (hD : H D = some (.lst xs)) (hB : B D = none) (hn : D ∉ rs) (hp : Pq K H xs n (g rs.length)) : GridAt K B H (rs ++ [D]) n g :=
  ⟨h.ex, by rw [List.nodup_append]; exact ⟨h.nd, by simp, fun a ha b hb e => hn (by rw [List.mem_singleton] at hb; rw [← hb, ← e]; exact ha)⟩, fun i r hr => by
    rw [List.getElem?_append] at hr
    split at hr
    · exact h.at_ i r hr
    · next z =>
      have hi : i - rs.length = 0 := by
        by_cases e : i - rs.length = 0
        · exact e
        · rw [List.getElem?_eq_none (by simp; omega)] at hr; cases hr
      rw [hi] at hr
      cases hr
      have : i = rs.length := by omega
      rw [this]
      exact ⟨hB, xs, hD, hp⟩⟩
theorem GridAt.set {B H : Hp} {rs : List Addr} {n i j : Nat} {g : Nat → Nat → Rat} {r : Addr} {xs : List V} {v : V} {q : Rat} (h : GridAt K B H rs n g) (hi : rs[i]? = some r) (hx : H r = some (.lst xs)) (hp : Pq K H xs n (g i)) (hv : PtAt K H v q) :
    GridAt K B (upd H r (.lst (xs.set j v))) rs n (fun a b => if a = i ∧ b = j then q else g a b) := by
  have hB := (h.at_ i r hi).1
  have kt : Kt H (upd H r (.lst (xs.set j v))) := Kt.lst hx
  refine ⟨Evl.Ex.mut h.ex hB, h.nd, fun i' r' hr' => ?_⟩
  by_cases e : i' = i
  · subst e
    rw [hi] at hr'
    cases hr'
    refine ⟨hB, _, upd_same, ((hp.kt kt).set (hv.kt kt)).congr fun b _ => ?_⟩
    by_cases e2 : b = j
    · rw [if_pos e2, if_pos ⟨rfl, e2⟩]
    · rw [if_neg e2, if_neg fun z => e2 z.2]
  · obtain ⟨h1, xs', h2, h3⟩ := h.at_ i' r' hr'
    have ne : r' ≠ r := fun z => e (by
      have hl : i' < rs.length := (List.getElem?_eq_some_iff.mp hr').1
      exact (List.getElem?_inj hl h.nd).mp (by rw [hr', hi, z]))
    exact ⟨h1, xs', (upd_ne ne).trans h2, (h3.kt kt).congr fun b _ => (if_neg fun z => e z.1).symm⟩
theorem ixN_nat {n j : Nat} (h : j < n) : ixN n (j : Nat) = some j := by
  unfold ixN
  rw [if_pos (by omega), if_pos (by omega)]
  rfl
def rini (i j : Nat) : Rat := if i = 0 ∧ 0 < j then 1 else 0
abbrev s_race : Stmt := top 34
abbrev N_race : List Str := ["chance", "mine", "theirs", "win", "one", "other", "rows", "rise"]
theorem sc_race : FnScope N_race ["chance", "mine", "theirs"] (C8.fnScope s_race) := C8.fnScope_by (by decide +kernel)
-- slots: chance=0 mine=1 theirs=2c win=3 one=4 other=5 rows=6 rise=7
def spRace (K : PySem.W.Frag) : Sp := fun vs H Q _ => ∃ (v : V) (p : Rat) (m n B : Nat), vs = [v, .int (m : Nat), .int (n : Nat)] ∧ PtAt K H v p ∧ 0 ≤ p ∧ p ≤ 1 ∧ 0 < B ∧ Dv B p ∧ (∀ t, t ≤ 26 → Ln (B ^ t) 200) ∧ m ≤ 12 ∧ 1 ≤ n ∧ n ≤ 12 ∧ RetP K H Q (rc p m n)
theorem k_race {f : Addr} {fd : FuncData} (T : Tx K mg) (Df : C8.Def K mg "race" s_race f fd) (bf : Binds K fd ["chance", "mine", "theirs"] []) (c_check_chance : C8.Cal P w K mg base 3 "check_chance" (spChance K) []) (c_plus : C8.Cal P w K mg base 3 "plus" (spTwo K (· + ·)) [])
    (c_times : C8.Cal P w K mg base 3 "times" (spTwo K (· * ·)) []) (c_other_way : C8.Cal P w K mg base 4 "other_way" (spOther K) []) : C8.Cal P w K mg base 5 "race" (spRace K) [] := by
  refine C8.cal0 Df bf .nil sc_race (fun vs H Q E h => ?_) (fun cdv A outer s H vs Q E hr h => ?_)
  · obtain ⟨_, _, _, _, _, rfl, _⟩ := h; rfl
  · obtain ⟨v, p, m, n, B, rfl, hv, h0, h1, hB, hdv, lB, hm, hn1, hn, k⟩ := h
    refine ⟨_, (pss_cons (ps_if (PW.pt (pw_or (pt_cmpR op_lt (pv 1) pe_int (nomark _)) (pw_or (pt_cmpR op_lt (pv 2) pe_int (nomark _)) (pw_or1 (pt_cmpR op_eq (pe_op op_add (pv 1) (pv 2)) pe_int (nomark _)))))) pss_never pss_nil)
      (pss_cons (ps_set (i := 3) sc_race.nd rfl (Or.inl rfl) (C8.pe_c c_check_chance hr (by omega) (by rfl) (pa_cons (pv 0) pa_nil)))
      (pss_cons (ps_setLc (i := 6) (own := [("one", 4)]) rfl sc_race.nd rfl rfl (sw_true rfl rfl rfl (by decide +kernel)) (pi_range1 (by rfl) T.n_range (pa_cons (pe_op op_add (pv 1) pe_int) pa_nil)) (by first | exact blkOk_by (N := N_race) (sc := C8.fnScope s_race) (by decide +kernel) | exact blkOk_by (by rfl)) (fun _ _ _ _ _ => castPG (pg_name (i := 4) sc_race.nd rfl (Or.inr rfl) (by first | exact Or.inr rfl | exact Or.inl rfl)) (by first | (dsimp only [Cx.blk]; done) | rfl)) (fun _ _ _ _ _ => castPTs (pts_nil) (by first | (dsimp only [Cx.blk]; done) | rfl)) (fun _ _ _ _ _ => castPE (pe_lc (own := [("other", 5)]) rfl sc_race.nd (pi_range1 (by rfl) T.n_range (pa_cons (pe_op op_add (pv 2) pe_int) pa_nil)) (by first | exact blkOk_by (N := N_race) (sc := C8.fnScope s_race) (by decide +kernel) | exact blkOk_by (by rfl)) (fun _ _ _ _ _ => castPG (pg_name (i := 5) sc_race.nd rfl (Or.inl rfl) (by first | exact Or.inr rfl | exact Or.inl rfl)) (by first | (dsimp only [Cx.blk]; done) | rfl)) (fun _ _ _ _ _ => castPTs (pts_nil) (by first | (dsimp only [Cx.blk]; done) | rfl)) (fun _ _ _ _ _ => castPE (pe_ifExp (PW.pt (pw_and (pt_cmpR op_eq (pv 4) pe_int (nomark _)) (pw_and1 (pt_cmpR op_gt (pv 5) pe_int (nomark _))))) (pe_tup (pa_cons pe_int (pa_cons pe_int pa_nil))) (pe_tup (pa_cons pe_int (pa_cons pe_int pa_nil)))) (by first | (dsimp only [Cx.blk]; done) | rfl))) (by first | (dsimp only [Cx.blk]; done) | rfl)))
      (pss_cons (ps_for PassesOwn.never rfl (pi_range2 (by rfl) T.n_range (pa_cons pe_int (pa_cons (pe_op op_add (pv 1) pe_int) pa_nil))) (pg_name (i := 4) sc_race.nd rfl (Or.inl rfl) (by exact Or.inl rfl))
      (pss_one (ps_for PassesOwn.never rfl (pi_range2 (by rfl) T.n_range (pa_cons pe_int (pa_cons (pe_op op_add (pv 2) pe_int) pa_nil))) (pg_name (i := 5) sc_race.nd rfl (Or.inl rfl) (by exact Or.inl rfl))
        (pss_cons (ps_set (i := 7) sc_race.nd rfl (Or.inl rfl) (C8.pe_c c_times hr (by omega) (by rfl) (pa_cons (pv 3) (pa_cons (pe_ix ix_list (pe_ix ix_list (pv 6) (pe_op op_sub (pv 4) pe_int) (fun _ _ => rfl)) (pv 5) (fun _ _ => rfl)) pa_nil))))
          (pss_one (ps_asg (C8.pe_c c_plus hr (by omega) (by rfl) (pa_cons (pv 7) (pa_cons (C8.pe_c c_times hr (by omega) (by rfl) (pa_cons (C8.pe_c c_other_way hr (by omega) (by rfl) (pa_cons (pv 3) pa_nil)) (pa_cons (pe_ix ix_list (pe_ix ix_list (pv 6) (pv 4) (fun _ _ => rfl)) (pe_op op_sub (pv 5) pe_int) (fun _ _ => rfl)) pa_nil))) pa_nil))) (pg_sub (pe_ix ix_list (pv 6) (pv 4) (fun _ _ => rfl)) (pv 5) set_list)))))))
      (pss_one (ps_ret (pe_ix ix_list (pe_ix ix_list (pv 6) (pv 1) (fun _ _ => rfl)) (pv 2) (fun _ _ => rfl)))))))), ?_⟩
    refine ⟨_, rfl, _, _, rfl, rfl, _, rfl, ?_⟩
    rw [decide_eq_false (by omega)]
    refine iteF ⟨_, rfl, _, _, rfl, rfl, _, rfl, ?_⟩
    rw [decide_eq_false (by omega)]
    refine iteF ⟨_, rfl, _, rfl, _, _, rfl, rfl, rfl, _, rfl, ?_⟩
    rw [decV, decide_eq_false (by omega)]
    have hsm : ∀ (t : Nat) (x : Rat), t ≤ 26 → Dv (B ^ t) x → 0 ≤ x → x ≤ 1 → sm x := fun t x ht hd h0 h1 => sm_unit (Nat.pow_pos hB) hd h0 h1 ((lB t ht).up (by decide))
    have sp : sm p := hsm 1 p (by decide) (by rw [Nat.pow_one]; exact hdv) h0 h1
    refine iteF ⟨_, rfl, v, p, rfl, hv, sp, h0, h1, fun wn H1 e1 hw => ?_⟩
    refine ⟨_, rfl, _, _, rfl, rfl, ((m : Nat) : Int) + 1, rfl, by omega, by omega, fun R hR => ?_⟩
    refine lc_n (n := m + 1) (fun i acc H' => ∃ rs : List Addr, acc = rs.map V.ref ∧ rs.length = i ∧ R ∉ rs ∧ GridAt K H1 H' rs (n + 1) rini) ⟨[], rfl, rfl, by simp, Evl.Ex.new hR, List.nodup_nil, fun i r hr => by cases hr⟩ (fun i acc H' hi _ => by show i < ((m : Int) + 1).toNat; omega) (fun acc H' _ => by show ((m : Int) + 1).toNat ≤ m + 1; omega) (fun i acc H2 u H3 hi hacc pv hy => ?_) (fun acc H2 hacc pv => ?_)
    · obtain ⟨rfl, rfl⟩ := hy
      obtain ⟨rs, rfl, hrl, hRn, hG⟩ := pv
      refine ⟨rfl, ⟨_, rfl, _, _, rfl, rfl, ((n : Nat) : Int) + 1, rfl, by omega, by omega, fun D hD => ?_⟩⟩
      refine lc_n (n := n + 1) (fun j acc2 H'' => Pq K H'' acc2 j (rini i) ∧ Ex H3 H'') ⟨Pq.nil, Evl.Ex.new hD⟩ (fun j acc2 H'' hj _ => by show j < ((n : Int) + 1).toNat; omega) (fun acc2 H'' _ => by show ((n : Int) + 1).toNat ≤ n + 1; omega) (fun j acc2 H4 u4 H5 hj hacc2 pv2 hy2 => ?_) (fun acc2 H4 hacc2 pv2 => ?_)
      · obtain ⟨rfl, rfl⟩ := hy2
        refine ⟨rfl, ?_⟩
        dsimp only [tYes]
        rw [if_pos rfl]
        refine with_if (fun v' H' => Ex H5 H' ∧ PtAt K H' v' (rini i j)) (fun Q' k' => ?_) ?_
        · refine ⟨_, rfl, rfl, _, rfl, ?_⟩
          rw [decV]
          by_cases i0 : i = 0
          · rw [decide_eq_true (by omega)]
            refine iteT ⟨_, rfl, _, _, rfl, rfl, _, rfl, ?_⟩
            by_cases j0 : 0 < j
            · rw [decide_eq_true (by omega)]
              refine iteT ⟨(by show 2 ≤ sizeLine; decide), fun q2 hq2 => k' _ _ ⟨Evl.Ex.new hq2, ?_⟩⟩
              rw [show rini i j = 1 from if_pos ⟨i0, j0⟩]
              exact ⟨q2, rfl, Evl.st_of upd_same⟩
            · rw [decide_eq_false (by omega)]
              refine iteF ⟨(by show 2 ≤ sizeLine; decide), fun q2 hq2 => k' _ _ ⟨Evl.Ex.new hq2, ?_⟩⟩
              rw [show rini i j = 0 from if_neg fun z => j0 z.2]
              exact ⟨q2, rfl, Evl.st_of upd_same⟩
          · rw [decide_eq_false (by omega)]
            refine iteF (iteF ⟨(by show 2 ≤ sizeLine; decide), fun q2 hq2 => k' _ _ ⟨Evl.Ex.new hq2, ?_⟩⟩)
            rw [show rini i j = 0 from if_neg fun z => i0 z.1]
            exact ⟨q2, rfl, Evl.st_of upd_same⟩
        · rintro v' H6 ⟨e6, h6⟩
          have hD6 := e6 _ _ hacc2
          exact App.of hD6 (by rw [pv2.1.1]; omega) ⟨Pq.snoc ((pv2.1.ex e6).kt (Kt.lst hD6)) (h6.kt (Kt.lst hD6)), Evl.Ex.mut (Evl.Ex.trans pv2.2 e6) hD⟩
      · have hR4 := pv2.2 _ _ hacc
        have nDR : D ≠ R := (ne_of_none hacc hD).symm
        have hDn : D ∉ rs := fun z => by
          obtain ⟨i', hi', e'⟩ := List.getElem_of_mem z
          obtain ⟨_, xs, h2, _⟩ := hG.at_ i' D (by rw [List.getElem?_eq_getElem hi', e'])
          rw [hD] at h2; cases h2
        refine App.of hR4 (by rw [List.length_map]; omega) ⟨rs ++ [D], by simp, by simp [hrl], by simp [hRn]; exact fun z => nDR z.symm, ?_⟩
        exact GridAt.snoc ((hG.go pv2.2).mut hR4 hR hRn) ((upd_ne nDR).trans hacc2) (none_ex hG.ex hD) hDn (by rw [hrl]; exact pv2.1.kt (Kt.lst hR4))
    · obtain ⟨rs, rfl, hrl, hRn, hG⟩ := pv
      have hset : ∀ {H' : Hp} {g : Nat → Nat → Rat}, GridAt K H1 H' rs (n + 1) g → ∀ i, i ≤ m → ∃ r, (rs.map V.ref)[i]? = some (.ref r) ∧ rs[i]? = some r ∧ r ∈ rs := fun {H' g} _ i hi => by
        have hl : i < rs.length := by omega
        exact ⟨rs[i], by rw [List.getElem?_map, List.getElem?_eq_getElem hl]; rfl, List.getElem?_eq_getElem hl, List.getElem_mem hl⟩
      have hsmr : ∀ a b, a ≤ 12 → b ≤ 12 → sm (rc p a b) := fun a b ha hb => by
        have := rc_unit h0 h1 a b
        exact hsm (a + b) _ (by omega) (rc_dv hdv a b) this.1 this.2
      refine ⟨_, rfl, _, _, rfl, rfl, 1, ((m : Nat) : Int) + 1, rfl, ⟨by omega, by omega, by omega, by omega⟩, ?_⟩
      refine for_n (n := m) (fun a σ' H' => ∃ (o4 o5 o7 : Option V) (g : Nat → Nat → Rat), σ' = [some v, some (.int (m : Nat)), some (.int (n : Nat)), some wn, o4, o5, some (.ref R), o7] ∧ GridAt K H1 H' rs (n + 1) g ∧ H' R = some (.lst (rs.map V.ref)) ∧ ∀ i j, j ≤ n → (i ≤ a ∨ j = 0) → g i j = rc p i j)
        ⟨_, _, _, rini, rfl, hG, hacc, ?_⟩ (fun a σ' H' ha _ => by show a < ((m : Int) + 1 - 1).toNat; omega) (fun σ' H' _ => by show ((m : Int) + 1 - 1).toNat ≤ m; omega) ?_ ?_
      · rintro i j _ (hi | hj)
        · obtain rfl : i = 0 := by omega
          cases j <;> simp [rini, rc]
        · subst hj
          cases i <;> simp [rini, rc]
      · rintro a _ H3 u3 H4 ha ⟨o4, o5, o7, g, rfl, hG3, hR3, hg⟩ ⟨rfl, rfl⟩
        refine ⟨_, rfl, _, _, rfl, rfl, 1, ((n : Nat) : Int) + 1, rfl, ⟨by omega, by omega, by omega, by omega⟩, ?_⟩
        refine for_n (n := n) (fun b σ' H' => ∃ (o5 o7 : Option V) (g : Nat → Nat → Rat), σ' = [some v, some (.int (m : Nat)), some (.int (n : Nat)), some wn, some (.int (1 + (a : Nat))), o5, some (.ref R), o7] ∧ GridAt K H1 H' rs (n + 1) g ∧ H' R = some (.lst (rs.map V.ref)) ∧ ∀ i j, j ≤ n → (i ≤ a ∨ j = 0 ∨ (i = a + 1 ∧ j ≤ b)) → g i j = rc p i j)
          ⟨_, _, g, rfl, hG3, hR3, ?_⟩ (fun b σ' H' hb _ => by show b < ((n : Int) + 1 - 1).toNat; omega) (fun σ' H' _ => by show ((n : Int) + 1 - 1).toNat ≤ n; omega) ?_ ?_
        · rintro i j hj (h | h | h)
          · exact hg i j hj (.inl h)
          · exact hg i j hj (.inr h)
          · exact hg i j hj (.inr (by omega))
        · rintro b _ G u5 G' hb ⟨o5, o7, g, rfl, hGG, hRG, hg⟩ ⟨rfl, rfl⟩
          obtain ⟨ra, hra, hra', _⟩ := hset hGG a (by omega)
          obtain ⟨rb, hrb, hrb', hrbm⟩ := hset hGG (a + 1) (by omega)
          obtain ⟨_, xa, hxa, hqa⟩ := hGG.at_ a ra hra'
          obtain ⟨_, xb, hxb, hqb⟩ := hGG.at_ (a + 1) rb hrb'
          obtain ⟨va, hva, hvq⟩ := hqa.get (show b + 1 < n + 1 by omega)
          obtain ⟨vb, hvb, hvbq⟩ := hqb.get (show b < n + 1 by omega)
          rw [hg a (b + 1) (by omega) (by omega)] at hvq
          rw [hg (a + 1) b (by omega) (by omega)] at hvbq
          have hwG := hw.ex hGG.ex
          have u1 := rc_unit h0 h1 a (b + 1)
          have u2 := rc_unit h0 h1 (a + 1) b
          have m1 := unit_mul h0 h1 u1.1 u1.2
          have m2 := unit_mul (show 0 ≤ 1 - p by grind) (show 1 - p ≤ 1 by grind) u2.1 u2.2
          have d1 : Dv (B ^ (1 + (a + (b + 1)))) (p * rc p a (b + 1)) := by rw [Nat.pow_add, Nat.pow_one]; exact Dv.mul hdv (rc_dv hdv a (b + 1))
          have d2 : Dv (B ^ (1 + (a + 1 + b))) ((1 - p) * rc p (a + 1) b) := by rw [Nat.pow_add, Nat.pow_one]; exact Dv.mul (Dv.sub Dv.one hdv) (rc_dv hdv (a + 1) b)
          refine ⟨_, rfl, _, rfl, _, rfl, _, _, rfl, rfl, R, _, ((a : Nat) : Int), .ref ra, rfl, (by show V.int (1 + (a : Nat) - 1) = _; rw [show (1 : Int) + (a : Nat) - 1 = (a : Nat) by omega]), Evl.sq_of hRG, atI_nat hra, _, rfl, ra, xa, ((b + 1 : Nat) : Int), va, rfl, (by show V.int (1 + (b : Nat)) = _; rw [show (1 : Int) + (b : Nat) = ((b + 1 : Nat) : Int) by omega]), Evl.sq_of hxa, atI_nat hva, wn, va, p, rc p a (b + 1), rfl, hwG, hvq, sp, hsmr a (b + 1) (by omega) (by omega), fun v5 H5 e5 h5 => ?_⟩
          refine ⟨_, rfl, _, rfl, wn, p, rfl, hwG.ex e5, sp, fun ov H6 e6 h6 => ?_⟩
          have e56 := Evl.Ex.trans e5 e6
          refine ⟨_, rfl, _, rfl, R, _, ((a + 1 : Nat) : Int), .ref rb, rfl, (by show V.int (1 + (a : Nat)) = _; rw [show (1 : Int) + (a : Nat) = ((a + 1 : Nat) : Int) by omega]), Evl.sq_of (e56 _ _ hRG), atI_nat hrb, _, rfl, _, _, rfl, rfl, rb, xb, ((b : Nat) : Int), vb, rfl, (by show V.int (1 + (b : Nat) - 1) = _; rw [show (1 : Int) + (b : Nat) - 1 = (b : Nat) by omega]), Evl.sq_of (e56 _ _ hxb), atI_nat hvb, ov, vb, 1 - p, rc p (a + 1) b, rfl, h6, hvbq.ex e56, hsm 1 _ (by decide) (by rw [Nat.pow_one]; exact Dv.sub Dv.one hdv) (by grind) (by grind), hsmr (a + 1) b (by omega) (by omega), fun v7 H7 e7 h7 => ?_⟩
          refine ⟨v5, v7, _, _, rfl, (h5.ex e6).ex e7, h7, hsm _ _ (by omega) d1 m1.1 m1.2, hsm _ _ (by omega) d2 m2.1 m2.2, fun v8 H8 e8 h8 => ?_⟩
          have eG8 := Evl.Ex.trans (Evl.Ex.trans e56 e7) e8
          have hx8 := eG8 _ _ hxb
          have hG8 := hGG.go eG8
          refine ⟨_, rfl, _, rfl, R, _, ((a + 1 : Nat) : Int), .ref rb, rfl, (by show V.int (1 + (a : Nat)) = _; rw [show (1 : Int) + (a : Nat) = ((a + 1 : Nat) : Int) by omega]), Evl.sq_of (eG8 _ _ hRG), atI_nat hrb, _, rfl, rb, xb, ((b + 1 : Nat) : Int), b + 1, rfl, (by show V.int (1 + (b : Nat)) = _; rw [show (1 : Int) + (b : Nat) = ((b + 1 : Nat) : Int) by omega]), hx8, ixN_nat (by rw [hqb.1]; omega), ?_⟩
          have hs := hG8.set (j := b + 1) hrb' hx8 (hqb.ex eG8) h8
          refine ⟨some (.int (1 + (b : Nat))), some v5, _, rfl, hs, (upd_ne (fun z => hRn (by rw [z]; exact hrbm))).trans (eG8 _ _ hRG), fun i j hj h => ?_⟩
          show (if i = a + 1 ∧ j = b + 1 then p * rc p a (b + 1) + (1 - p) * rc p (a + 1) b else g i j) = _
          by_cases z : i = a + 1 ∧ j = b + 1
          · rw [if_pos z, z.1, z.2]
            simp only [rc]
          · rw [if_neg z]
            exact hg i j hj (by omega)
        · rintro _ G ⟨o5, o7, g, rfl, hGG, hRG, hg⟩
          refine ⟨_, _, _, g, rfl, hGG, hRG, fun i j hj h => hg i j hj (by omega)⟩
      · rintro _ G ⟨o4, o5, o7, g, rfl, hGG, hRG, hg⟩
        obtain ⟨rm, hrm, hrm', _⟩ := hset hGG m (by omega)
        obtain ⟨_, xm, hxm, hqm⟩ := hGG.at_ m rm hrm'
        obtain ⟨vm, hvm, hvq⟩ := hqm.get (show n < n + 1 by omega)
        rw [hg m n (by omega) (by omega)] at hvq
        exact ⟨_, rfl, _, rfl, R, _, ((m : Nat) : Int), .ref rm, rfl, rfl, Evl.sq_of hRG, atI_nat hrm, _, rfl, rm, xm, ((n : Nat) : Int), vm, rfl, rfl, Evl.sq_of hxm, atI_nat hvm, k _ _ (Evl.Ex.trans e1 hGG.ex) hvq⟩
end
end KK
end
/-! K16 -/
section
set_option Elab.async false
set_option linter.all false
set_option maxRecDepth 100000
namespace KK
open PySem PySem.Spec PyProof.Rows L2 KM LX LamX NdefX
section
variable {P : Program} {w : World} {K : PySem.W.Frag} {mg : Str → Option Value} {base : Heap} {T9 : LX.TL} {CS : Addr}
/-! ### a list of tuples of parts -/
def RowsOf (K : PySem.W.Frag) (H : Hp) (xs : List V) (k m : Nat) (R : Nat → Nat → Rat) : Prop := xs.length = k ∧ ∀ i v, xs[i]? = some v → ∃ t ys, v = .ref t ∧ SqT K H t ys ∧ Pq K H ys m (R i)
theorem RowsOf.kt {H H' : Hp} {xs : List V} {k m : Nat} {R : Nat → Nat → Rat} (h : RowsOf K H xs k m R) (e : Kt H H') : RowsOf K H' xs k m R := ⟨h.1, fun i v g => by
  obtain ⟨t, ys, h1, h2, h3⟩ := h.2 i v g
  exact ⟨t, ys, h1, e.sq h2, h3.kt e⟩⟩
theorem RowsOf.ex {H H' : Hp} {xs : List V} {k m : Nat} {R : Nat → Nat → Rat} (h : RowsOf K H xs k m R) (e : Ex H H') : RowsOf K H' xs k m R := h.kt (Kt.of e)
theorem RowsOf.nil {H : Hp} {m : Nat} {R : Nat → Nat → Rat} : RowsOf K H [] 0 m R := ⟨rfl, fun i v h => by cases h⟩
theorem RowsOf.snoc {H : Hp} {xs ys : List V} {k m : Nat} {R : Nat → Nat → Rat} {t : Addr} (h : RowsOf K H xs k m R) (ht : SqT K H t ys) (hp : Pq K H ys m (R k)) : RowsOf K H (xs ++ [.ref t]) (k + 1) m R := by
  refine ⟨by rw [List.length_append, h.1]; rfl, fun i u g => ?_⟩
  rw [List.getElem?_append] at g
  split at g
  · exact h.2 i u g
  · next z =>
    have := h.1
    have hi : i - xs.length = 0 := by
      by_cases e : i - xs.length = 0
      · exact e
      · rw [List.getElem?_eq_none (by simp; omega)] at g; cases g
    rw [hi] at g
    cases g
    have : i = k := by omega
    rw [this]; exact ⟨t, ys, rfl, ht, hp⟩
theorem RowsOf.get {H : Hp} {xs : List V} {k m : Nat} {R : Nat → Nat → Rat} (h : RowsOf K H xs k m R) {i : Nat} (hi : i < k) : ∃ t ys, xs[i]? = some (.ref t) ∧ SqT K H t ys ∧ Pq K H ys m (R i) := by
  have hi' : i < xs.length := by rw [h.1]; exact hi
  obtain ⟨t, ys, h1, h2⟩ := h.2 i _ (List.getElem?_eq_getElem hi')
  exact ⟨t, ys, by rw [List.getElem?_eq_getElem hi', h1], h2⟩
abbrev s_step : Stmt := top 37
abbrev N_step : List Str := ["start", "rows", "found", "place", "one"]
theorem sc_step : FnScope N_step ["start", "rows"] (C8.fnScope s_step) := C8.fnScope_by (by decide +kernel)
-- slots: start=0c rows=1c found=2 place=3c one=4
/-- all that a step meets is small -/
structure StSm (m : Nat) (R : Nat → Nat → Rat) (v : Nat → Rat) : Prop where
  hv : ∀ j, j < m → sm (v j)
  hr : ∀ j k, j < m → k < m → sm (R j k)
  hp : ∀ j k, j < m → k < m → sm (v j * R j k)
  hs : ∀ i k, i ≤ m → k < m → sm (sumq i fun j => v j * R j k)
def spStep (K : PySem.W.Frag) : Sp := fun vs H Q _ => ∃ (a b : Addr) (xs rs : List V) (m : Nat) (v : Nat → Rat) (R : Nat → Nat → Rat), vs = [.ref a, .ref b] ∧ SqT K H a xs ∧ Pq K H xs m v ∧ SqL K H b rs ∧ RowsOf K H rs m m R ∧ m ≤ 1000 ∧ StSm m R v ∧ RetT K H Q m (stp m R v)
theorem k_step {f : Addr} {fd : FuncData} (T : Tx K mg) (Df : C8.Def K mg "step" s_step f fd) (bf : Binds K fd ["start", "rows"] []) (c_times : C8.Cal P w K mg base 3 "times" (spTwo K (· * ·)) []) (c_total : C8.Cal P w K mg base 4 "total" (spTotal K) []) : C8.Cal P w K mg base 5 "step" (spStep K) [] := by
  refine C8.cal0 Df bf .nil sc_step (fun vs H Q E h => ?_) (fun cdv A outer s H vs Q E hr h => ?_)
  · obtain ⟨_, _, _, _, _, _, _, rfl, _⟩ := h; rfl
  · obtain ⟨a, b, xs, rs, m, v, R, rfl, ha, hv, hb, hR, hm, hS, k⟩ := h
    refine ⟨_, (pss_cons (ps_set (i := 2) sc_step.nd rfl (Or.inl rfl) (pe_lst pa_nil))
      (pss_cons (ps_for PassesOwn.never rfl (pi_range1 (by rfl) T.n_range (pa_cons (pe_callB call_len_seq (by rfl) T.n_len (by decide +kernel) (pa_cons (pv 1) pa_nil)) pa_nil)) (pg_name (i := 3) sc_step.nd rfl (Or.inr rfl) (by exact Or.inl rfl))
      (pss_one (ps_expr (pe_bm PySem.F.plainAttrs_list PySem.F.slot_list_append PySem.F.type_list_append mt_append (pv 2) (pa_cons (C8.pe_c c_total hr (by omega) (by rfl) (pa_cons (pe_lc (own := [("one", 4)]) rfl sc_step.nd (pi_range1 (by rfl) T.n_range (pa_cons (pe_callB call_len_seq (by rfl) T.n_len (by decide +kernel) (pa_cons (pv 1) pa_nil)) pa_nil)) (by first | exact blkOk_by (N := N_step) (sc := C8.fnScope s_step) (by decide +kernel) | exact blkOk_by (by rfl)) (fun _ _ _ _ _ => castPG (pg_name (i := 4) sc_step.nd rfl (Or.inl rfl) (by first | exact Or.inr rfl | exact Or.inl rfl)) (by first | (dsimp only [Cx.blk]; done) | rfl)) (fun _ _ _ _ _ => castPTs (pts_nil) (by first | (dsimp only [Cx.blk]; done) | rfl)) (fun _ _ _ _ _ => castPE (C8.pe_c c_times hr (by omega) (by rfl) (pa_cons (pe_ix ix_tup (pv 0) (pv 4) (fun _ _ => rfl)) (pa_cons (pe_ix ix_tup (pe_ix ix_list (pv 1) (pv 4) (fun _ _ => rfl)) (pv 3) (fun _ _ => rfl)) pa_nil))) (by first | (dsimp only [Cx.blk]; done) | rfl))) pa_nil)) pa_nil)))))
      (pss_one (ps_ret (pe_callTy call_tuple_of (by rfl) T.n_tuple (by decide +kernel) (pa_cons (pv 2) pa_nil)))))), ?_⟩
    refine ⟨(by show 0 ≤ sizeLine; exact Nat.zero_le _), fun F hF => ⟨_, rfl, b, rs, rfl, .inl (Evl.ex_l (Evl.Ex.new hF) hb), ((m : Nat) : Int), (by rw [hR.1]), by omega, by omega, ?_⟩⟩
    refine for_n (n := m) (fun i σ' H' => ∃ (ys : List V) (o3 o4 : Option V), σ' = [some (.ref a), some (.ref b), some (.ref F), o3, o4] ∧ Ex H H' ∧ H' F = some (.lst ys) ∧ Pq K H' ys i (stp m R v)) ⟨[], _, _, rfl, Evl.Ex.new hF, upd_same, Pq.nil⟩
      (fun i σ' H' hi _ => by show i < (m : Int).toNat; omega) (fun σ' H' _ => by show (m : Int).toNat ≤ m; omega) ?_ ?_
    · rintro c _ H2 u H3 hc ⟨ys, o3, o4, rfl, e, hF2, hys⟩ ⟨rfl, rfl⟩
      refine ⟨_, rfl, .inl ⟨rfl, _, Evl.sq_of hF2⟩, _, rfl, b, rs, rfl, .inl (Evl.ex_l e hb), ((m : Nat) : Int), (by rw [hR.1]), by omega, by omega, fun D hD => ?_⟩
      refine lc_n (n := m) (fun j acc H' => Pq K H' acc j (fun j => v j * R j c) ∧ Ex H3 H') ⟨Pq.nil, Evl.Ex.new hD⟩ (fun j acc H' hj _ => by show j < (m : Int).toNat; omega) (fun acc H' _ => by show (m : Int).toNat ≤ m; omega) (fun j acc H4 u4 H5 hj hacc pv hy => ?_) (fun acc H4 hacc pv => ?_)
      · obtain ⟨rfl, rfl⟩ := hy
        obtain ⟨vj, hvj, hvq⟩ := hv.get hj
        obtain ⟨t, zs, ht, hts, hz⟩ := hR.get hj
        obtain ⟨vr, hvr, hvrq⟩ := hz.get hc
        have e5 := Evl.Ex.trans e pv.2
        refine ⟨rfl, ⟨_, rfl, _, rfl, a, xs, ((j : Nat) : Int), vj, rfl, (by show V.int (0 + (j : Nat)) = _; rw [Int.zero_add]), Evl.ex_t e5 ha, atI_nat hvj, _, rfl, _, rfl, b, rs, ((j : Nat) : Int), .ref t, rfl, (by show V.int (0 + (j : Nat)) = _; rw [Int.zero_add]), Evl.ex_l e5 hb, atI_nat ht, _, rfl, t, zs, ((c : Nat) : Int), vr, rfl, (by show V.int (0 + (c : Nat)) = _; rw [Int.zero_add]), Evl.ex_t e5 hts, atI_nat hvr, ?_⟩⟩
        refine ⟨vj, vr, v j, R j c, rfl, hvq.ex e5, hvrq.ex e5, hS.hv j hj, hS.hr j c hj hc, fun v6 H6 e6 h6 => ?_⟩
        have hD6 := e6 _ _ hacc
        exact App.of hD6 (by rw [pv.1.1]; omega) ⟨Pq.snoc ((pv.1.ex e6).kt (Kt.lst hD6)) (h6.kt (Kt.lst hD6)), Evl.Ex.mut (Evl.Ex.trans pv.2 e6) hD⟩
      · refine ⟨D, acc, m, fun j => v j * R j c, rfl, .inl (Evl.sq_of hacc), pv.1, fun i hi => hS.hp i c hi hc, fun i hi => hS.hs i c hi hc, fun v6 H6 e6 h6 => ?_⟩
        have e36 := Evl.Ex.trans pv.2 e6
        have F6 := e36 _ _ hF2
        exact ⟨F, ys, v6, rfl, rfl, F6, Nat.lt_of_lt_of_le (show ys.length < 1000000 by rw [hys.1]; omega) (by decide), ys ++ [v6], _, _, rfl, Evl.Ex.mut (Evl.Ex.trans e e36) hF, upd_same, Pq.snoc ((hys.ex e36).kt (Kt.lst F6)) (PtAt.kt h6 (Kt.lst F6))⟩
    · rintro _ H2 ⟨ys, o3, o4, rfl, e, hF2, hys⟩
      exact ⟨_, rfl, F, ys, rfl, .inl ⟨Evl.sq_of hF2, fun l hl => k l _ ys (Evl.Ex.trans e (Evl.Ex.new hl)) (Evl.st_of upd_same) (hys.ex (Evl.Ex.new hl))⟩⟩
end
end KK
end
/-! K17 -/
section
set_option Elab.async false
set_option linter.all false
set_option maxRecDepth 100000
namespace KK
open PySem PySem.Spec PyProof.Rows L2 KM LX LamX NdefX
section
variable {P : Program} {w : World} {K : PySem.W.Frag} {mg : Str → Option Value} {base : Heap} {T9 : LX.TL} {CS : Addr}
/-! ### data of parts -/
def Flat (n : Nat) (d : PyData) : Prop := d.canLay0 = true ∧ d.depth ≤ n
theorem flat_all {n : Nat} : ∀ {ds : List PyData}, (∀ d ∈ ds, Flat n d) → PyData.canLayAll0 ds = true ∧ PyData.depthAll ds ≤ n
  | [], _ => by simp [PyData.canLayAll0, PyData.depthAll]
  | d :: ds, h => by
    have ih := flat_all (n := n) (ds := ds) fun x hx => h x (List.mem_cons_of_mem _ hx)
    have h1 := h d List.mem_cons_self
    refine ⟨by simp only [PyData.canLayAll0, h1.1, ih.1, Bool.and_self], ?_⟩
    simp only [PyData.depthAll]
    have := h1.2
    omega
theorem Flat.list {n : Nat} {ds : List PyData} (h : ∀ d ∈ ds, Flat n d) : Flat (n + 1) (.list ds) := by
  have := flat_all h
  exact ⟨by simp only [PyData.canLay0]; exact this.1, by simp only [PyData.depth]; omega⟩
theorem Flat.tuple {n : Nat} {ds : List PyData} (h : ∀ d ∈ ds, Flat n d) : Flat (n + 1) (.tuple ds) := by
  have := flat_all h
  exact ⟨by simp only [PyData.canLay0]; exact this.1, by simp only [PyData.depth]; omega⟩
theorem Flat.int {n : Nat} (i : Int) : Flat n (.int i) := ⟨rfl, by simp only [PyData.depth]; omega⟩
theorem Flat.qD (q : Rat) : Flat 1 (qD q) := Flat.tuple fun d hd => by
  rcases List.mem_cons.mp hd with rfl | hd
  · exact Flat.int _
  · rw [List.mem_singleton] at hd; subst hd; exact Flat.int _
theorem Flat.shaped {n : Nat} {d : PyData} (h : Flat n d) (hn : n ≤ 64) : SeqAt.shaped d = true := by
  unfold SeqAt.shaped
  rw [h.1, decide_eq_true (Nat.le_trans h.2 hn)]
  rfl
theorem Flat.refl {n : Nat} {d : PyData} (h : Flat n d) : PyData.eqv d d = true := SeqAt.eqv_refl d h.1
theorem dpall_of {H : Hp} : ∀ {xs : List V} {ds : List PyData}, xs.length = ds.length → (∀ (i : Nat) (v : V), xs[i]? = some v → ∃ d, ds[i]? = some d ∧ Dp K H v d) → DpAll K H xs ds
  | [], [], _, _ => .nil
  | x :: xs, d :: ds, hl, h => by
    obtain ⟨d', h1, h2⟩ := h 0 x rfl
    cases h1
    exact .cons h2 (dpall_of (by simpa using hl) fun i v g => h (i + 1) v g)
  | [], d :: ds, hl, _ => by cases hl
  | x :: xs, [], hl, _ => by cases hl
def qsD (n : Nat) (q : Nat → Rat) : List PyData := (List.range n).map fun i => qD (q i)
theorem qsD_flat {n : Nat} {q : Nat → Rat} : ∀ d ∈ qsD n q, Flat 1 d := fun d hd => by
  obtain ⟨i, _, rfl⟩ := List.mem_map.mp hd
  exact Flat.qD _
theorem qsD_get {n i : Nat} {q : Nat → Rat} (h : i < n) : (qsD n q)[i]? = some (qD (q i)) := by
  unfold qsD
  rw [List.getElem?_map, List.getElem?_range h]
  rfl
theorem Pq.dpall {H : Hp} {xs : List V} {n : Nat} {q : Nat → Rat} (h : Pq K H xs n q) : DpAll K H xs (qsD n q) := dpall_of (by rw [h.1]; simp [qsD]) fun i v g => ⟨qD (q i), qsD_get (by
  have := (List.getElem?_eq_some_iff.mp g).1
  have := h.1
  omega), (h.2 i v g).dp⟩
theorem RowsOf.dpall {H : Hp} {xs : List V} {k m : Nat} {R : Nat → Nat → Rat} (h : RowsOf K H xs k m R) : DpAll K H xs ((List.range k).map fun i => .tuple (qsD m (R i))) := dpall_of (by rw [h.1]; simp) fun i v g => by
  obtain ⟨t, ys, rfl, h2, h3⟩ := h.2 i v g
  refine ⟨.tuple (qsD m (R i)), ?_, .tup h2 h3.dpall⟩
  rw [List.getElem?_map, List.getElem?_range (by
    have := (List.getElem?_eq_some_iff.mp g).1
    have := h.1
    omega)]
  rfl
theorem rows_flat {k m : Nat} {R : Nat → Nat → Rat} : Flat 3 (.list ((List.range k).map fun i => .tuple (qsD m (R i)))) := Flat.list fun d hd => by
  obtain ⟨i, _, rfl⟩ := List.mem_map.mp hd
  exact Flat.tuple qsD_flat
abbrev s_check_rows : Stmt := top 36
abbrev N_check_rows : List Str := ["rows", "found", "row", "one"]
theorem sc_check_rows : FnScope N_check_rows ["rows"] (C8.fnScope s_check_rows) := C8.fnScope_by (by decide +kernel)
-- slots: rows=0 found=1c row=2 one=3
/-- rows that a walk can have -/
structure RwOk (m : Nat) (R : Nat → Nat → Rat) : Prop where
  m1 : 1 ≤ m
  m2 : m ≤ 100
  nn : ∀ i j, i < m → j < m → 0 ≤ R i j
  one : ∀ i, i < m → sumq m (R i) = 1
  el : ∀ i j, i < m → j < m → sm (R i j)
  sums : ∀ i j, i < m → j ≤ m → sm (sumq j (R i))
def spRows (K : PySem.W.Frag) (T9 : LX.TL) : Sp := fun vs H Q _ => ∃ (b : Addr) (rs : List V) (m : Nat) (R : Nat → Nat → Rat), vs = [.ref b] ∧ SqL K H b rs ∧ RowsOf K H rs m m R ∧ RwOk m R ∧ Tbs T9 H ∧
  ∀ F H' ys, Mo none T9 H H' → H' F = some (.lst ys) → H F = none → RowsOf K H' ys m m R → Q (.ref F) H'
end
end KK
end
/-! K18 -/
section
set_option Elab.async false
set_option linter.all false
set_option maxRecDepth 100000
namespace KK
open PySem PySem.Spec PyProof.Rows L2 KM LX LamX NdefX
section
variable {P : Program} {w : World} {K : PySem.W.Frag} {mg : Str → Option Value} {base : Heap} {T9 : LX.TL} {CS : Addr}
theorem gx2_n {J : It} {n n2 : Nat} {g g2 : TG} {tt tt2 : TT} {wi2 : TI} {te : TE} {vs vs2 : List Nat} {σ : L2.St} {Ok : V → Prop} {cont : List V → Hp → Prop} {H : Hp} (Pv : Nat → Hp → Prop) (h0 : Pv 0 H) (go : ∀ i H, i < n → Pv i H → J.go i H) (stop : ∀ H, Pv n H → J.stop n H)
    (hs : ∀ (i : Nat) (ys : List V) H x H', i < n → Pv i H → J.yld i H x H' → g x (wipe σ vs) H' fun σ2 H2 => wipe σ2 vs = wipe σ vs ∧ tt σ2 H2 fun b H3 =>
      if b = true then wi2 σ2 H3 fun J2 H4 => ∃ W2 : Nat → Nat → List V → Hp → Prop, (∃ m2, m2 < (n - i) * (n2 + 2) ∧ W2 0 m2 ys H4) ∧ GX.turnIn J2 g2 tt2 te vs2 σ2 Ok (fun m' ys' H' => m' = (n - (i + 1)) * (n2 + 2) ∧ i + 1 ≤ n ∧ Pv (i + 1) H') W2
      else ∃ m', m' < (n - i) * (n2 + 2) ∧ m' = (n - (i + 1)) * (n2 + 2) ∧ i + 1 ≤ n ∧ Pv (i + 1) H3)
    (hd : ∀ ys H, Pv n H → cont ys H) :
    ∃ W : Nat → Nat → List V → Hp → Prop, (∃ m, W 0 m [] H) ∧ GX.turnG2 J g tt wi2 g2 tt2 te vs vs2 σ Ok cont W := by
  refine ⟨fun i m ys H => m = (n - i) * (n2 + 2) ∧ i ≤ n ∧ Pv i H, ⟨_, rfl, Nat.zero_le _, h0⟩, ?_⟩
  rintro i m ys H ⟨rfl, hi, p⟩
  rcases Nat.lt_or_eq_of_le hi with hlt | e
  · exact .inr ⟨go i H hlt p, fun x H' y => hs i ys H x H' hlt p y⟩
  · subst e
    exact .inl ⟨stop H p, hd ys H p⟩
theorem gx2_in {J2 : It} {n n2 i : Nat} {g2 : TG} {tt2 : TT} {te : TE} {vs2 : List Nat} {σ2 : L2.St} {Ok : V → Prop} {ys : List V} {H4 : Hp} {Pv : Nat → Hp → Prop} (hi : i < n) (Pi : Nat → Hp → Prop) (h0 : Pi 0 H4) (go : ∀ j H, j < n2 → Pi j H → J2.go j H) (stop : ∀ H, Pi n2 H → J2.stop n2 H ∧ Pv (i + 1) H)
    (hs : ∀ (j : Nat) (ys : List V) H x H', j < n2 → Pi j H → J2.yld j H x H' → g2 x (wipe σ2 vs2) H' fun σ3 H3 => wipe σ3 vs2 = wipe σ2 vs2 ∧ tt2 σ3 H3 fun b H5 => if b = true then te σ3 H5 fun y H6 => Ok y ∧ Pi (j + 1) H6 else Pi (j + 1) H5) :
    ∃ W2 : Nat → Nat → List V → Hp → Prop, (∃ m2, m2 < (n - i) * (n2 + 2) ∧ W2 0 m2 ys H4) ∧ GX.turnIn J2 g2 tt2 te vs2 σ2 Ok (fun m' ys' H' => m' = (n - (i + 1)) * (n2 + 2) ∧ i + 1 ≤ n ∧ Pv (i + 1) H') W2 := by
  refine ⟨fun j m ys H => m = (n - (i + 1)) * (n2 + 2) + (n2 - j) ∧ j ≤ n2 ∧ Pi j H, ⟨_, ?_, rfl, Nat.zero_le _, h0⟩, ?_⟩
  · have : (n - i) = (n - (i + 1)) + 1 := by omega
    rw [this, Nat.add_mul, Nat.one_mul]
    omega
  · rintro j m ys H ⟨rfl, hj, p⟩
    rcases Nat.lt_or_eq_of_le hj with hlt | e
    · exact .inr ⟨go j H hlt p, fun ys H => Pi (j + 1) H, fun ys' H' p' => ⟨_, by omega, rfl, hlt, p'⟩, fun x H' y => hs j ys H x H' hlt p y⟩
    · subst e
      exact .inl ⟨(stop H p).1, _, by omega, rfl, hi, (stop H p).2⟩
theorem eqv_nil {ds : List PyData} (h : ds ≠ []) : PyData.eqv (.list ds) (.list []) = false := by
  cases ds with
  | nil => exact absurd rfl h
  | cons d r => simp only [PyData.eqv, PyData.eqvAll]
theorem Mo.kt {T : LX.TL} {H H' : Hp} (m : Mo none T H H') : Kt H H' := by
  rintro b xs (h | ⟨ob, h⟩)
  · exact .inl (m.1 b _ (fun z => nomatch z) h (fun _ z => nomatch z))
  · exact .inr ⟨ob, m.1 b _ (fun z => nomatch z) h (fun _ z => nomatch z)⟩
theorem Mo.lst {T : LX.TL} {H H' : Hp} {D : Addr} {l : List V} (m : Mo none T H H') (h : H D = some (.lst l)) : H' D = some (.lst l) := m.1 D _ (fun z => nomatch z) h (fun _ z => nomatch z)
theorem k_check_rows {f c Pc : Addr} {fd : FuncData} (T : Tx K mg) (TB : GxR.TabB base mg c Pc) (hTm : (Pc, none) ∈ T9) (hTu : ∀ p ∈ T9, p.1 = Pc → p.2 = none) (F : FunC K "check_rows" "check_rows" s_check_rows f fd c) (hmg : mg "check_rows" = some (.ref f)) (kp : PySem.W.keepIn K (.ref f) = true) (bf : Binds K fd ["rows"] []) (c_part : C8.Cal P w K mg base 2 "part" (spPart K) []) (c_total : C8.Cal P w K mg base 4 "total" (spTotal K) []) : C8.Cal P w K mg base 6 "check_rows" (spRows K T9) [] := by
  refine calC F hmg kp bf sc_check_rows (fun vs H Q E h => ?_) (fun A outer s H vs Q E hr h => ?_)
  · obtain ⟨_, _, _, _, rfl, _⟩ := h; rfl
  · obtain ⟨b, rs, m, R, rfl, hb, hR, hO, hT, k⟩ := h
    refine ⟨_, (pss_cons (ps_set (i := 1) sc_check_rows.nd rfl (Or.inr rfl) (pe_lc (own := [("row", 2)]) rfl sc_check_rows.nd (pi_list (pv 0)) (by first | exact blkOk_by (N := N_check_rows) (sc := C8.fnScope s_check_rows) (by decide +kernel) | exact blkOk_by (by rfl)) (fun _ _ _ _ _ => castPG (pg_name (i := 2) sc_check_rows.nd rfl (Or.inl rfl) (by first | exact Or.inr rfl | exact Or.inl rfl)) (by first | (dsimp only [Cx.blk]; done) | rfl)) (fun _ _ _ _ _ => castPTs (pts_nil) (by first | (dsimp only [Cx.blk]; done) | rfl)) (fun _ _ _ _ _ => castPE (pe_callTy call_tuple_of (by rfl) T.n_tuple (by decide +kernel) (pa_cons (pe_lc (own := [("one", 3)]) rfl sc_check_rows.nd (pi_tup (pv 2)) (by first | exact blkOk_by (N := N_check_rows) (sc := C8.fnScope s_check_rows) (by decide +kernel) | exact blkOk_by (by rfl)) (fun _ _ _ _ _ => castPG (pg_name (i := 3) sc_check_rows.nd rfl (Or.inl rfl) (by first | exact Or.inr rfl | exact Or.inl rfl)) (by first | (dsimp only [Cx.blk]; done) | rfl)) (fun _ _ _ _ _ => castPTs (pts_nil) (by first | (dsimp only [Cx.blk]; done) | rfl)) (fun _ _ _ _ _ => castPE (C8.pe_c c_part hr (by omega) (by rfl) (pa_cons (pe_ix ix_tup (pv 3) pe_int (fun _ _ => rfl)) (pa_cons (pe_ix ix_tup (pv 3) pe_int (fun _ _ => rfl)) pa_nil))) (by first | (dsimp only [Cx.blk]; done) | rfl))) pa_nil)) (by first | (dsimp only [Cx.blk]; done) | rfl))))
      (pss_cons (ps_if (PW.pt (pw_or (pt_cmpR (op_eqD hr.units) (pv 1) (pe_lst pa_nil) (nomark _)) (pw_or1 (pt_val (GX.pe_anyX (own := [("row", 2)]) hr (by rfl) T.n_any TB rfl rfl sc_check_rows.nd (GX.gsc_by (by decide +kernel)) (by first | exact blkOk_by (N := N_check_rows) (sc := C8.fnScope s_check_rows) (by decide +kernel) | exact blkOk_by (by rfl)) (pi_list (pv 1)) (fun _ _ cenv _ _ _ hs _ => by cases cenv; cases hs; exact castPG (pg_name (i := 2) sc_check_rows.nd rfl (Or.inl rfl) (by first | exact Or.inr rfl | exact Or.inl rfl)) (by first | (dsimp only [GX.gCx]; done) | rfl)) (fun _ _ cenv _ _ _ hs _ hr => by cases cenv; cases hs; exact castPTs pts_nil (by first | (dsimp only [GX.gCx]; done) | rfl)) (fun _ _ cenv _ _ _ hs _ hr => by cases cenv; cases hs; exact castPE (pe_cmpR op_ne (pe_callB call_len_seq (by rfl) T.n_len (by decide +kernel) (pa_cons (pv 2) pa_nil)) (pe_callB call_len_seq (by rfl) T.n_len (by decide +kernel) (pa_cons (pv 1) pa_nil)) (nomark _)) (by first | (dsimp only [GX.gCx]; done) | rfl))))))) pss_never pss_nil)
      (pss_cons (ps_if (PW.pt (pw_or (pt_val (GX.pe_any2 (own := [("row", 2), ("one", 3)]) (vs2 := [3]) hr (by rfl) T.n_any TB rfl rfl sc_check_rows.nd (GX.gsc_by (by decide +kernel)) (by first | exact blkOk_by (N := N_check_rows) (sc := C8.fnScope s_check_rows) (by decide +kernel) | exact blkOk_by (by rfl)) (pi_list (pv 1)) (fun _ _ cenv _ _ _ hs _ => by cases cenv; cases hs; exact castPG (pg_name (i := 2) sc_check_rows.nd rfl (Or.inl rfl) (by first | exact Or.inr rfl | exact Or.inl rfl)) (by first | (dsimp only [GX.gCx]; done) | rfl)) (fun _ _ cenv _ _ _ hs _ hr => by cases cenv; cases hs; exact castPTs pts_nil (by first | (dsimp only [GX.gCx]; done) | rfl)) (fun _ _ cenv _ _ _ hs _ hr => by cases cenv; cases hs; exact castPI (pi_tup (pv 2)) (by first | (dsimp only [GX.gCx]; done) | rfl)) (fun _ _ cenv _ _ _ hs _ => by cases cenv; cases hs; exact castPG (pg_name (i := 3) sc_check_rows.nd rfl (Or.inl rfl) (by first | exact Or.inr rfl | exact Or.inl rfl)) (by first | (dsimp only [GX.gCx]; done) | rfl)) (fun _ _ cenv _ _ _ hs _ hr => by cases cenv; cases hs; exact castPTs pts_nil (by first | (dsimp only [GX.gCx]; done) | rfl)) (fun _ _ => rfl) (by decide) (fun _ _ cenv _ _ _ hs _ hr => by cases cenv; cases hs; exact castPE (pe_cmpR op_lt (pe_ix ix_tup (pv 3) pe_int (fun _ _ => rfl)) pe_int (nomark _)) (by first | (dsimp only [GX.gCx]; done) | rfl)))) (pw_or1 (pt_val (GX.pe_anyX (own := [("row", 2)]) hr (by rfl) T.n_any TB rfl rfl sc_check_rows.nd (GX.gsc_by (by decide +kernel)) (by first | exact blkOk_by (N := N_check_rows) (sc := C8.fnScope s_check_rows) (by decide +kernel) | exact blkOk_by (by rfl)) (pi_list (pv 1)) (fun _ _ cenv _ _ _ hs _ => by cases cenv; cases hs; exact castPG (pg_name (i := 2) sc_check_rows.nd rfl (Or.inl rfl) (by first | exact Or.inr rfl | exact Or.inl rfl)) (by first | (dsimp only [GX.gCx]; done) | rfl)) (fun _ _ cenv _ _ _ hs _ hr => by cases cenv; cases hs; exact castPTs pts_nil (by first | (dsimp only [GX.gCx]; done) | rfl)) (fun _ _ cenv _ _ _ hs _ hr => by cases cenv; cases hs; exact castPE (pe_cmpR (op_neD hr.units) (C8.pe_c c_total hr (by omega) (by rfl) (pa_cons (pv 2) pa_nil)) (pe_tup (pa_cons pe_int (pa_cons pe_int pa_nil))) (nomark _)) (by first | (dsimp only [GX.gCx]; done) | rfl))))))) pss_never pss_nil)
      (pss_one (ps_ret (pv 1)))))), ?_⟩
    have m1 := hO.m1
    have m2 := hO.m2
    obtain rfl : rs.length = m := hR.1
    refine ⟨_, rfl, b, rfl, ⟨rs, hb⟩, fun D hD => ?_⟩
    refine lc_n (n := rs.length) (fun i acc H' => RowsOf K H' acc i rs.length R ∧ Ex H H') ⟨RowsOf.nil, Evl.Ex.new hD⟩ (fun i acc H' hi p => ⟨rs, rs[i], Evl.ex_l p.2 hb, List.getElem?_eq_getElem hi⟩) (fun acc H' p => ⟨rs, Evl.ex_l p.2 hb, Nat.le_refl _⟩) (fun i acc H1 u H2 hi hacc p hy => ?_) (fun acc H1 hacc p => ?_)
    · obtain ⟨rfl, hu⟩ := hy
      obtain ⟨t, ys, ht, hts, hys⟩ := hR.get hi
      have hu := hu _ (Evl.ex_l p.2 hb)
      rw [ht] at hu
      cases hu
      refine ⟨rfl, ⟨_, rfl, t, rfl, ⟨ys, Evl.ex_t p.2 hts⟩, fun C hC => ?_⟩⟩
      obtain ⟨hyl, _⟩ := id hys
      refine lc_n (n := ys.length) (fun j acc2 H' => Pq K H' acc2 j (R i) ∧ Ex H2 H') ⟨Pq.nil, Evl.Ex.new hC⟩ (fun j acc2 H' hj p2 => ⟨ys, ys[j], Evl.ex_t (Evl.Ex.trans p.2 p2.2) hts, List.getElem?_eq_getElem hj⟩) (fun acc2 H' p2 => ⟨ys, Evl.ex_t (Evl.Ex.trans p.2 p2.2) hts, Nat.le_refl _⟩) (fun j acc2 H3 u3 H4 hj hacc2 p2 hy2 => ?_) (fun acc2 H3 hacc2 p2 => ?_)
      · obtain ⟨rfl, hu3⟩ := hy2
        have e4 := Evl.Ex.trans p.2 p2.2
        obtain ⟨a, rfl, ha⟩ := (hys.2 j u3 (hu3 _ (Evl.ex_t e4 hts))).ex e4
        have sR := hO.el i j hi (by omega)
        refine ⟨rfl, ⟨_, rfl, a, _, _, _, rfl, rfl, ha, atI_nat (j := 0) rfl, _, rfl, a, _, _, _, rfl, rfl, ha, atI_nat (j := 1) rfl, _, _, rfl, den_ne _, sR.1.up, sR.d.up, fun v6 H6 e6 h6 => ?_⟩⟩
        rw [rat_self] at h6
        have hD6 := e6 _ _ hacc2
        exact App.of hD6 (by rw [p2.1.1]; omega) ⟨Pq.snoc ((p2.1.ex e6).kt (Kt.lst hD6)) (h6.kt (Kt.lst hD6)), Evl.Ex.mut (Evl.Ex.trans p2.2 e6) hC⟩
      · refine ⟨C, acc2, rfl, .inl ⟨Evl.sq_of hacc2, fun t2 ht2 => ?_⟩⟩
        have e3 := Evl.Ex.trans p2.2 (Evl.Ex.new (o := .tup acc2) ht2)
        have hD6 := e3 _ _ hacc
        have p2' := p2.1
        rw [hyl] at p2'
        exact App.of hD6 (by rw [p.1.1]; omega) ⟨((p.1.ex e3).kt (Kt.lst hD6)).snoc ((Kt.lst hD6).sq (Evl.st_of upd_same)) ((p2'.ex (Evl.Ex.new ht2)).kt (Kt.lst hD6)), Evl.Ex.mut (Evl.Ex.trans p.2 e3) hD⟩
    · obtain ⟨hA, e1⟩ := p
      refine ⟨_, rfl, (by show 0 ≤ sizeLine; exact Nat.zero_le _), fun D2 hD2 => ?_⟩
      refine ⟨.list _, .list [], .lst (Evl.ex_l (Evl.Ex.new hD2) (Evl.sq_of hacc)) ((hA.ex (Evl.Ex.new hD2)).dpall), .lst (Evl.sq_of upd_same) .nil, rows_flat.shaped (by decide), rfl, _, rfl, ?_⟩
      rw [eqv_nil (by
        intro z
        have := congrArg List.length z
        rw [List.length_map, List.length_range] at this
        exact absurd this (by show ¬ rs.length = 0; omega))]
      have mB : Mo none T9 H (upd H1 D2 (.lst [])) := Mo.of (Evl.Ex.trans e1 (Evl.Ex.new hD2))
      have hB : upd H1 D2 (.lst []) D = some (.lst acc) := Evl.Ex.new hD2 _ _ hacc
      have hAB := hA.ex (Evl.Ex.new (o := .lst []) hD2)
      generalize (upd H1 D2 (.lst [])) = B at mB hB hAB
      obtain ⟨hal, _⟩ := id hA
      refine iteF ⟨_, rfl, D, rfl, ⟨acc, Evl.sq_of hB⟩, (mB.2 hT) _ hTm, fun H2 h2 => ?_⟩
      have m2' : Mo none T9 B H2 := Mo.tabbed ((mB.2 hT) _ hTm) hTu h2
      refine gx_n (n := rs.length) (fun i ys H' => Mo none T9 B H') m2' (fun i ys H' hi m => ⟨acc, acc[i], Evl.sq_of (Mo.lst m hB), List.getElem?_eq_getElem (by omega)⟩) (fun ys H' m => ⟨acc, Evl.sq_of (Mo.lst m hB), by omega⟩) (fun i ys H3 u H4 hi m hy => ?_) (fun ys H3 m => ?_)
      · obtain ⟨rfl, hu⟩ := hy
        obtain ⟨t, zs, ht, hts, hz⟩ := (hAB.kt (Mo.kt m)).get hi
        have hu := hu _ (Evl.sq_of (Mo.lst m hB))
        rw [ht] at hu
        cases hu
        refine ⟨rfl, ⟨_, rfl, t, zs, rfl, .inr hts, _, rfl, D, acc, rfl, .inl (Evl.sq_of (Mo.lst m hB)), rfl, ?_, m⟩⟩
        show V.bl _ = V.bl false
        rw [decV, decide_eq_true (by rw [hz.1, hal])]
        rfl
      · refine ⟨_, rfl, ?_⟩
        refine iteF ⟨_, rfl, D, rfl, ⟨acc, Evl.sq_of (Mo.lst m hB)⟩, (m.2 (mB.2 hT)) _ hTm, fun H4 h4 => ?_⟩
        have m4 : Mo none T9 B H4 := m.trans (Mo.tabbed ((m.2 (mB.2 hT)) _ hTm) hTu h4)
        refine gx2_n (n := rs.length) (n2 := rs.length) (fun i H' => Mo none T9 B H') m4 (fun i H' hi m => ⟨acc, acc[i], Evl.sq_of (Mo.lst m hB), List.getElem?_eq_getElem (by omega)⟩) (fun H' m => ⟨acc, Evl.sq_of (Mo.lst m hB), by omega⟩) (fun i ys H5 u H6 hi m hy => ?_) (fun ys H5 m => ?_)
        · obtain ⟨rfl, hu⟩ := hy
          obtain ⟨t, zs, ht, hts, hz⟩ := (hAB.kt (Mo.kt m)).get hi
          have hu := hu _ (Evl.sq_of (Mo.lst m hB))
          rw [ht] at hu
          cases hu
          refine ⟨rfl, ?_⟩
          dsimp only [tYes]
          rw [if_pos rfl]
          refine ⟨_, rfl, t, rfl, ⟨zs, hts⟩, ?_⟩
          refine gx2_in (J2 := Itt K t) (Pv := fun i H' => Mo none T9 B H') (n2 := rs.length) hi (fun j H' => Mo none T9 H6 H') (Mo.refl _) (fun j H' hj m5 => ⟨zs, zs[j]'(by rw [hz.1]; exact hj), (Mo.kt m5).sq hts, List.getElem?_eq_getElem _⟩) (fun H' m5 => ⟨⟨zs, (Mo.kt m5).sq hts, by rw [hz.1]; exact Nat.le_refl _⟩, m.trans m5⟩) (fun j ys H7 u7 H8 hj m5 hy7 => ?_)
          obtain ⟨rfl, hu7⟩ := hy7
          have hts8 := (Mo.kt m5).sq hts
          obtain ⟨aq, rfl, haq⟩ := (hz.kt (Mo.kt m5)).2 j u7 (hu7 _ hts8)
          have nn := Rat.num_nonneg.mpr (hO.nn i j hi hj)
          refine ⟨rfl, ⟨_, rfl, aq, _, _, _, rfl, rfl, haq, atI_nat (j := 0) rfl, _, _, rfl, rfl, ?_, m5⟩⟩
          show V.bl _ = V.bl false
          rw [decide_eq_false (by omega)]
        · refine ⟨_, rfl, ?_⟩
          refine iteF ⟨_, rfl, D, rfl, ⟨acc, Evl.sq_of (Mo.lst m hB)⟩, (m.2 (mB.2 hT)) _ hTm, fun H6 h6 => ?_⟩
          have m6 : Mo none T9 B H6 := m.trans (Mo.tabbed ((m.2 (mB.2 hT)) _ hTm) hTu h6)
          refine gx_n (n := rs.length) (fun i ys H' => Mo none T9 B H') m6 (fun i ys H' hi m => ⟨acc, acc[i], Evl.sq_of (Mo.lst m hB), List.getElem?_eq_getElem (by omega)⟩) (fun ys H' m => ⟨acc, Evl.sq_of (Mo.lst m hB), by omega⟩) (fun i ys H7 u H8 hi m hy => ?_) (fun ys H7 m => ?_)
          · obtain ⟨rfl, hu⟩ := hy
            obtain ⟨t, zs, ht, hts, hz⟩ := (hAB.kt (Mo.kt m)).get hi
            have hu := hu _ (Evl.sq_of (Mo.lst m hB))
            rw [ht] at hu
            cases hu
            refine ⟨rfl, ⟨_, rfl, t, zs, rs.length, R i, rfl, .inr hts, hz, fun j hj => hO.el i j hi hj, fun j hj => hO.sums i j hi hj, fun v9 H9 e9 h9 => ?_⟩⟩
            rw [hO.one i hi] at h9
            refine ⟨(by show 2 ≤ sizeLine; decide), fun q9 hq9 => ⟨qD 1, qD 1, (h9.ex (Evl.Ex.new hq9)).dp, dp_pair (q := 1) (Evl.st_of upd_same), rfl, rfl, ?_, m.trans (Mo.of (Evl.Ex.trans e9 (Evl.Ex.new hq9)))⟩⟩
            show V.bl _ = V.bl false
            rw [qD_eqv, decide_eq_true rfl]
            rfl
          · refine ⟨_, rfl, ?_⟩
            refine iteF ⟨_, rfl, k D H7 acc (mB.trans m) (Mo.lst m hB) hD (hAB.kt (Mo.kt m))⟩
end
end KK
end
/-! K19 -/
section
set_option Elab.async false
set_option linter.all false
set_option maxRecDepth 100000
namespace KK
open PySem PySem.Spec PyProof.Rows L2 KM LX LamX NdefX
section
variable {P : Program} {w : World} {K : PySem.W.Frag} {mg : Str → Option Value} {base : Heap} {T9 : LX.TL} {CW : Addr}
/-- an instance or a list may change -/
theorem Tbs.muts {T : LX.TL} {H : Hp} {x : Addr} {o o' : HO} (hx : H x = some o) (h : (∃ C d fs, o = .ins C d fs) ∨ ∃ l, o = .lst l) (t : Tbs T H) : Tbs T (upd H x o') := by
  intro p hp
  have tp := t p hp
  obtain ⟨P, z⟩ := p
  have ne : ∀ b u, H b = some u → (∀ C d fs, u ≠ .ins C d fs) → (∀ l, u ≠ .lst l) → upd H x o' b = some u := fun b u hb n1 n2 => by
    refine (upd_ne fun e => ?_).trans hb
    subst e
    rw [hx] at hb
    obtain rfl := Option.some.inj hb
    rcases h with ⟨C, d, fs, e⟩ | ⟨l, e⟩
    · exact n1 _ _ _ e
    · exact n2 _ e
  cases z with
  | none =>
    obtain ⟨ps, h1, h2⟩ := (show GxR.TabG H P from tp)
    exact (show GxR.TabG _ P from ⟨ps, ne _ _ h1 (fun _ _ _ z => nomatch z) (fun _ z => nomatch z), h2⟩)
  | some q =>
    obtain ⟨ps, h1, h2, h3⟩ := (show TabS H P q from tp)
    refine (show TabS _ P q from ⟨ps, ne _ _ h1 (fun _ _ _ z => nomatch z) (fun _ z => nomatch z), h2, fun pos cv hc => ?_⟩)
    obtain ⟨c, e1, e2⟩ := h3 pos cv hc
    exact ⟨c, e1, ne _ _ e2 (fun _ _ _ z => nomatch z) (fun _ z => nomatch z)⟩
theorem Mo.muts {T : LX.TL} {H : Hp} {x : Addr} {o o' : HO} (hx : H x = some o) (h : (∃ C d fs, o = .ins C d fs) ∨ ∃ l, o = .lst l) : Mo (some x) T H (upd H x o') :=
  ⟨fun b u n hb _ => (upd_ne fun e => n (by rw [e])).trans hb, Tbs.muts hx h⟩
abbrev s_Walk_init : Stmt := inClass (top 62) 0
abbrev N_Walk_init : List Str := ["self", "rows"]
theorem sc_Walk_init : FnScope N_Walk_init ["self", "rows"] (C8.fnScope s_Walk_init) := C8.fnScope_by (by decide +kernel)
-- slots: self=0 rows=1
def WalkAt (K : PySem.W.Frag) (CW : Addr) (H : Hp) (v : V) (m : Nat) (R : Nat → Nat → Rat) : Prop := ∃ (a dx Fl : Addr) (ys : List V), v = .ref a ∧ H a = some (.ins CW dx [("rows", .ref Fl), ("many", .int (m : Nat))]) ∧ SqL K H Fl ys ∧ RowsOf K H ys m m R
def spWalkInit (K : PySem.W.Frag) (T9 : LX.TL) (CW : Addr) : Sp := fun vs H Q _ => ∃ (x dx b : Addr) (rs : List V) (m : Nat) (R : Nat → Nat → Rat), vs = [.ref x, .ref b] ∧ H x = some (.ins CW dx []) ∧ SqL K H b rs ∧ RowsOf K H rs m m R ∧ RwOk m R ∧ Tbs T9 H ∧
  ∀ H' F ys, Mo (some x) T9 H H' → H' x = some (.ins CW dx [("rows", .ref F), ("many", .int (m : Nat))]) → H' F = some (.lst ys) → RowsOf K H' ys m m R → Q .non H'
theorem m_Walk {f : Addr} {fd : FuncData} (T : Tx K mg) (M : Mk K CW f) (hm : mg "Walk" = some (.ref CW)) (Fi : C8.Fun K "__init__" "Walk.__init__" s_Walk_init f fd) (bf : Binds K fd ["self", "rows"] []) (cl : Cls K CW) (aw : NoAttr K CW "rows") (ah : NoAttr K CW "many") (c_check_rows : C8.Cal P w K mg base 6 "check_rows" (spRows K T9) []) : C8.Mak P w K mg base 7 "Walk" CW (spWalkInit K T9 CW) [] := by
  refine C8.mak0 M hm Fi bf .nil sc_Walk_init (fun vs H Q E h => ?_) (fun cdv A outer s H vs Q E hr h => ?_)
  · obtain ⟨_, _, _, _, _, _, rfl, _⟩ := h; rfl
  · obtain ⟨x, dx, b, rs, m, R, rfl, hx, hb, hR, hO, hT, k⟩ := h
    refine ⟨_, (pss_cons (ps_fld (pv 0) (C8.pe_c c_check_rows hr (by omega) (by rfl) (pa_cons (pv 1) pa_nil)) rfl)
      (pss_one (ps_fld (pv 0) (pe_callB call_len_seq (by rfl) T.n_len (by decide +kernel) (pa_cons (pe_fld (pv 0) rfl) pa_nil)) rfl))), ?_⟩
    refine ⟨_, rfl, b, rs, m, R, rfl, hb, hR, hO, hT, fun F H1 ys m1 hF nF hys => ?_⟩
    have hx1 : H1 x = some (.ins CW dx []) := m1.1 x _ (fun z => nomatch z) hx (fun _ z => nomatch z)
    have nFx : F ≠ x := fun z => by rw [z, hx] at nF; cases nF
    refine ⟨_, rfl, x, CW, dx, [], rfl, hx1, cl, aw, by decide, ?_⟩
    refine ⟨_, rfl, x, CW, dx, _, .ref F, rfl, upd_same, cl, aw, rfl, F, ys, rfl, .inl (Evl.sq_of ((upd_ne nFx).trans hF)), _, rfl, x, CW, dx, _, rfl, upd_same, cl, ah, (by show 1 < 1000; decide), ?_⟩
    rw [upd_upd]
    have em : (ys.length : Int) = (m : Nat) := by rw [hys.1]
    rw [em]
    have kt : Kt H1 (upd H1 x (.ins CW dx (putF "many" (.int (m : Nat)) (putF "rows" (.ref F) [])))) := (Xp.upd (Xp.of (Evl.Ex.refl _))).kt hx1 (fun _ z => nomatch z) (fun _ _ z => nomatch z)
    exact k _ F ys ((Mo.any m1).trans (Mo.muts hx1 (.inl ⟨_, _, _, rfl⟩))) upd_same ((upd_ne nFx).trans hF) (hys.kt kt)
end
end KK
end
/-! K20 -/
section
set_option Elab.async false
set_option linter.all false
set_option maxRecDepth 100000
namespace KK
open PySem PySem.Spec PyProof.Rows L2 KM LX LamX NdefX
section
variable {P : Program} {w : World} {K : PySem.W.Frag} {mg : Str → Option Value} {base : Heap} {T9 : LX.TL} {CW : Addr}
abbrev s_Walk_after : Stmt := inClass (top 62) 1
abbrev N_Walk_after : List Str := ["self", "place", "count", "here", "turn", "one"]
theorem sc_Walk_after : FnScope N_Walk_after ["self", "place", "count"] (C8.fnScope s_Walk_after) := C8.fnScope_by (by decide +kernel)
-- slots: self=0 place=1c count=2 here=3 turn=4 one=5
def spAfter (K : PySem.W.Frag) (CW : Addr) : Sp := fun vs H Q _ => ∃ (v : V) (pl t m : Nat) (R : Nat → Nat → Rat), vs = [v, .int (pl : Nat), .int (t : Nat)] ∧ WalkAt K CW H v m R ∧ m ≤ 100 ∧ pl < m ∧ t ≤ 1000 ∧ (∀ i, i < t → StSm m R (itr m R (unit pl) i)) ∧ RetT K H Q m (itr m R (unit pl) t)
theorem mt_Walk_after {f : Addr} {fd : FuncData} (T : Tx K mg) (cl : Cls K CW) (me : Meth K CW "after" f) (F : C8.Fun K "after" "Walk.after" s_Walk_after f fd) (bf : Binds K fd ["self", "place", "count"] []) (aw : NoAttr K CW "rows") (ah : NoAttr K CW "many") (c_step : C8.Cal P w K mg base 5 "step" (spStep K) []) : C8.Met P w K mg base 6 CW "after" (spAfter K CW) [] := by
  refine C8.met0 cl me F bf sc_Walk_after (fun vs H Q E h => ?_) (fun cdv A outer s H vs Q E hr h => ?_)
  · obtain ⟨_, _, _, _, _, rfl, _⟩ := h; rfl
  · obtain ⟨_, pl, t, m, R, rfl, ⟨a, dx, Fl, ys, rfl, ha, hF, hR⟩, hm, hpl, ht, hS, k⟩ := h
    refine ⟨_, (pss_cons (ps_if (PW.pt (pw_or (pt_cmpR op_lt (pv 2) pe_int (nomark _)) (pw_or1 (pt_not (pt_chain op_le op_lt pe_int (pv 1) (pe_fld (pv 0) rfl)))))) pss_never pss_nil)
      (pss_cons (ps_set (i := 3) sc_Walk_after.nd rfl (Or.inl rfl) (pe_callTy call_tuple_of (by rfl) T.n_tuple (by decide +kernel) (pa_cons (pe_lc (own := [("one", 5)]) rfl sc_Walk_after.nd (pi_range1 (by rfl) T.n_range (pa_cons (pe_fld (pv 0) rfl) pa_nil)) (by first | exact blkOk_by (N := N_Walk_after) (sc := C8.fnScope s_Walk_after) (by decide +kernel) | exact blkOk_by (by rfl)) (fun _ _ _ _ _ => castPG (pg_name (i := 5) sc_Walk_after.nd rfl (Or.inl rfl) (by first | exact Or.inr rfl | exact Or.inl rfl)) (by first | (dsimp only [Cx.blk]; done) | rfl)) (fun _ _ _ _ _ => castPTs (pts_nil) (by first | (dsimp only [Cx.blk]; done) | rfl)) (fun _ _ _ _ _ => castPE (pe_tup (pa_cons (pe_callTy call_int1 (by rfl) T.n_int (by decide +kernel) (pa_cons (pe_cmpR op_eq (pv 5) (pv 1) (nomark _)) pa_nil)) (pa_cons pe_int pa_nil))) (by first | (dsimp only [Cx.blk]; done) | rfl))) pa_nil)))
      (pss_cons (ps_for PassesOwn.never rfl (pi_range1 (by rfl) T.n_range (pa_cons (pv 2) pa_nil)) (pg_name (i := 4) sc_Walk_after.nd rfl (Or.inl rfl) (by exact Or.inl rfl))
      (pss_one (ps_set (i := 3) sc_Walk_after.nd rfl (Or.inl rfl) (C8.pe_c c_step hr (by omega) (by rfl) (pa_cons (pv 3) (pa_cons (pe_fld (pv 0) rfl) pa_nil))))))
      (pss_one (ps_ret (pv 3)))))), ?_⟩
    refine ⟨_, rfl, _, _, rfl, rfl, _, rfl, ?_⟩
    rw [decide_eq_false (by omega)]
    refine iteF ⟨_, rfl, _, _, rfl, rfl, _, rfl, ?_⟩
    rw [decide_eq_true (by omega)]
    refine iteT ⟨_, rfl, a, CW, dx, _, .int (m : Nat), rfl, ha, cl, ah, rfl, _, _, rfl, rfl, _, rfl, ?_⟩
    rw [decide_eq_true (by omega)]
    refine ⟨_, rfl, a, CW, dx, _, .int (m : Nat), rfl, ha, cl, ah, rfl, ((m : Nat) : Int), rfl, by omega, by omega, fun D hD => ?_⟩
    refine lc_n (n := m) (fun j acc H' => Pq K H' acc j (unit pl) ∧ Ex H H') ⟨Pq.nil, Evl.Ex.new hD⟩ (fun j acc H' hj _ => by show j < (m : Int).toNat; omega) (fun acc H' _ => by show (m : Int).toNat ≤ m; omega) (fun j acc H4 u4 H5 hj hacc pv hy => ?_) (fun acc H4 hacc pv => ?_)
    · obtain ⟨rfl, rfl⟩ := hy
      refine ⟨rfl, ⟨_, rfl, _, rfl, rfl, .inr ⟨_, rfl, (by show 2 ≤ sizeLine; decide), fun q hq => ?_⟩⟩⟩
      have hD6 := Evl.Ex.new (o := .tup [.int (if decide (V.int (0 + (j : Nat)) = V.int (pl : Nat)) = true then 1 else 0), .int 1]) hq _ _ hacc
      refine App.of hD6 (by rw [pv.1.1]; omega) ⟨Pq.snoc ((pv.1.ex (Evl.Ex.new hq)).kt (Kt.lst hD6)) (PtAt.kt ⟨q, rfl, Evl.st_of ?_⟩ (Kt.lst hD6)), Evl.Ex.mut (Evl.Ex.trans pv.2 (Evl.Ex.new hq)) hD⟩
      rw [upd_same, decV]
      unfold unit
      by_cases e : j = pl
      · rw [decide_eq_true (by omega), if_pos e]
        rfl
      · rw [decide_eq_false (by omega), if_neg e]
        rfl
    · refine ⟨D, acc, rfl, .inl ⟨Evl.sq_of hacc, fun l hl => ?_⟩⟩
      have e5 := Evl.Ex.trans pv.2 (Evl.Ex.new (o := .tup acc) hl)
      have hl5 : SqT K (upd H4 l (.tup acc)) l acc := Evl.st_of upd_same
      have p5 := pv.1.ex (Evl.Ex.new (o := .tup acc) hl)
      refine ⟨_, rfl, ((t : Nat) : Int), rfl, by omega, by omega, ?_⟩
      refine for_n (n := t) (fun i σ' H' => ∃ (l : Addr) (zs : List V) (o4 o5 : Option V), σ' = [some (.ref a), some (.int (pl : Nat)), some (.int (t : Nat)), some (.ref l), o4, o5] ∧ Ex H H' ∧ SqT K H' l zs ∧ Pq K H' zs m (itr m R (unit pl) i)) ⟨l, acc, _, _, rfl, e5, hl5, p5⟩
        (fun i σ' H' hi _ => by show i < (t : Int).toNat; omega) (fun σ' H' _ => by show (t : Int).toNat ≤ t; omega) ?_ ?_
      · rintro i _ H6 u H7 hi ⟨l, zs, o4, o5, rfl, e6, hl6, p6⟩ ⟨rfl, rfl⟩
        exact ⟨_, rfl, _, rfl, a, CW, dx, _, .ref Fl, rfl, e6 _ _ ha, cl, aw, rfl, l, Fl, zs, ys, m, _, R, rfl, hl6, p6, Evl.ex_l e6 hF, hR.ex e6, by omega, hS i hi, fun l2 H8 zs2 e8 h8 p8 => ⟨l2, zs2, _, _, rfl, Evl.Ex.trans e6 e8, h8, p8⟩⟩
      · rintro _ H6 ⟨l, zs, o4, o5, rfl, e6, hl6, p6⟩
        exact ⟨_, rfl, k l H6 zs e6 hl6 p6⟩
end
end KK
end
/-! K21 -/
section
set_option Elab.async false
set_option linter.all false
set_option maxRecDepth 100000
namespace KK
open PySem PySem.Spec PyProof.Rows L2 KM LX LamX NdefX
section
variable {P : Program} {w : World} {K : PySem.W.Frag} {mg : Str → Option Value} {base : Heap} {T9 : LX.TL} {CH : Addr}
/-- a new object changes, the tables and the lists stay -/
theorem MoX.kt {T : LX.TL} {x C d : Addr} {fs : List (Str × V)} {H H' : Hp} (m : Mo (some x) T H H') (hx : H x = some (.ins C d fs)) : Kt H H' := by
  rintro b xs (h | ⟨ob, h⟩)
  · exact .inl (m.1 b _ (fun z => by cases z; rw [hx] at h; cases h) h (fun _ z => nomatch z))
  · exact .inr ⟨ob, m.1 b _ (fun z => by cases z; rw [hx] at h; cases h) h (fun _ z => nomatch z)⟩
theorem MoX.sl {T : LX.TL} {x C d : Addr} {fs : List (Str × V)} {H H' : Hp} {b : Addr} {l : List V} (m : Mo (some x) T H H') (hx : H x = some (.ins C d fs)) (h : SqL K H b l) : SqL K H' b l := by
  rcases h with (h | ⟨ob, h⟩) | h
  · exact .inl (.inl (m.1 b _ (fun z => by cases z; rw [hx] at h; cases h) h (fun _ z => nomatch z)))
  · exact .inl (.inr ⟨ob, m.1 b _ (fun z => by cases z; rw [hx] at h; cases h) h (fun _ z => nomatch z)⟩)
  · exact .inr h
theorem Mo.sl {T : LX.TL} {H H' : Hp} {b : Addr} {l : List V} (m : Mo none T H H') (h : SqL K H b l) : SqL K H' b l := by
  rcases h with (h | ⟨ob, h⟩) | h
  · exact .inl (.inl (m.1 b _ (fun z => nomatch z) h (fun _ z => nomatch z)))
  · exact .inl (.inr ⟨ob, m.1 b _ (fun z => nomatch z) h (fun _ z => nomatch z)⟩)
  · exact .inr h
abbrev s_Hidden_init : Stmt := inClass (top 39) 0
abbrev N_Hidden_init : List Str := ["self", "first", "rows", "signs", "letters", "one", "row"]
theorem sc_Hidden_init : FnScope N_Hidden_init ["self", "first", "rows", "signs", "letters"] (C8.fnScope s_Hidden_init) := C8.fnScope_by (by decide +kernel)
-- slots: self=0 first=1 rows=2 signs=3 letters=4c one=5 row=6
def HiddenAt (K : PySem.W.Frag) (CH : Addr) (H : Hp) (v : V) (m : Nat) (z : Str) (v0 : Nat → Rat) (R : Nat → Nat → Rat) : Prop := ∃ (a dx Fa Fl Sl : Addr) (xs ys ss : List V), v = .ref a ∧ H a = some (.ins CH dx [("first", .ref Fa), ("rows", .ref Fl), ("letters", .str z), ("signs", .ref Sl)]) ∧ SqT K H Fa xs ∧ Pq K H xs m v0 ∧ SqL K H Fl ys ∧ RowsOf K H ys m m R ∧ SqL K H Sl ss ∧ RowsOf K H ss m 1 (fun _ _ => 1)
def spHiddenInit (K : PySem.W.Frag) (T9 : LX.TL) (CH : Addr) : Sp := fun vs H Q _ => ∃ (x dx a b sg : Addr) (xs rs ss : List V) (z : Str) (m : Nat) (v0 : Nat → Rat) (R : Nat → Nat → Rat), vs = [.ref x, .ref a, .ref b, .ref sg, .str z] ∧ H x = some (.ins CH dx []) ∧ SqT K H a xs ∧ Pq K H xs m v0 ∧ SqL K H b rs ∧ RowsOf K H rs m m R ∧ RwOk m R ∧ SqL K H sg ss ∧ RowsOf K H ss m 1 (fun _ _ => 1) ∧ z.length = 1 ∧
  (∀ i, i < m → sm (v0 i) ∧ 0 ≤ v0 i ∧ v0 i ≤ 1) ∧ (∀ i, i ≤ m → sm (sumq i v0)) ∧ sumq m v0 = 1 ∧ Tbs T9 H ∧ ∀ H', Mo (some x) T9 H H' → HiddenAt K CH H' (.ref x) m z v0 R → Q .non H'
theorem m_Hidden {f c Pc : Addr} {fd : FuncData} (T : Tx K mg) (TB : GxR.TabB base mg c Pc) (hTm : (Pc, none) ∈ T9) (hTu : ∀ p ∈ T9, p.1 = Pc → p.2 = none) (M : Mk K CH f) (hmg : mg "Hidden" = some (.ref CH)) (F : FunC K "__init__" "Hidden.__init__" s_Hidden_init f fd c) (bf : Binds K fd ["self", "first", "rows", "signs", "letters"] []) (cl : Cls K CH)
    (n1 : NoAttr K CH "first") (n2 : NoAttr K CH "rows") (n3 : NoAttr K CH "letters") (n4 : NoAttr K CH "signs") (c_check_chance : C8.Cal P w K mg base 3 "check_chance" (spChance K) []) (c_total : C8.Cal P w K mg base 4 "total" (spTotal K) []) (c_check_rows : C8.Cal P w K mg base 6 "check_rows" (spRows K T9) []) : C8.Mak P w K mg base 7 "Hidden" CH (spHiddenInit K T9 CH) [] := by
  refine makC M hmg F bf sc_Hidden_init (fun vs H Q E h => ?_) (fun A outer s H vs Q E hr h => ?_)
  · obtain ⟨_, _, _, _, _, _, _, _, _, _, _, _, rfl, _⟩ := h; rfl
  · obtain ⟨x, dx, a, b, sg, xs, rs, ss, z, m, v0, R, rfl, hx, ha, hxs, hb, hR, hO, hs, hss, hz, hv, hvs, hv1, hT, k⟩ := h
    refine ⟨_, (pss_cons (ps_fld (pv 0) (pe_callTy call_tuple_of (by rfl) T.n_tuple (by decide +kernel) (pa_cons (pe_lc (own := [("one", 5)]) rfl sc_Hidden_init.nd (pi_tup (pv 1)) (by first | exact blkOk_by (N := N_Hidden_init) (sc := C8.fnScope s_Hidden_init) (by decide +kernel) | exact blkOk_by (by rfl)) (fun _ _ _ _ _ => castPG (pg_name (i := 5) sc_Hidden_init.nd rfl (Or.inl rfl) (by first | exact Or.inr rfl | exact Or.inl rfl)) (by first | (dsimp only [Cx.blk]; done) | rfl)) (fun _ _ _ _ _ => castPTs (pts_nil) (by first | (dsimp only [Cx.blk]; done) | rfl)) (fun _ _ _ _ _ => castPE (C8.pe_c c_check_chance hr (by omega) (by rfl) (pa_cons (pv 5) pa_nil)) (by first | (dsimp only [Cx.blk]; done) | rfl))) pa_nil)) rfl)
      (pss_cons (ps_fld (pv 0) (C8.pe_c c_check_rows hr (by omega) (by rfl) (pa_cons (pv 2) pa_nil)) rfl)
      (pss_cons (ps_fld (pv 0) (pv 4) rfl)
      (pss_cons (ps_fld (pv 0) (pe_lc (own := [("row", 6)]) rfl sc_Hidden_init.nd (pi_list (pv 3)) (by first | exact blkOk_by (N := N_Hidden_init) (sc := C8.fnScope s_Hidden_init) (by decide +kernel) | exact blkOk_by (by rfl)) (fun _ _ _ _ _ => castPG (pg_name (i := 6) sc_Hidden_init.nd rfl (Or.inl rfl) (by first | exact Or.inr rfl | exact Or.inl rfl)) (by first | (dsimp only [Cx.blk]; done) | rfl)) (fun _ _ _ _ _ => castPTs (pts_nil) (by first | (dsimp only [Cx.blk]; done) | rfl)) (fun _ _ _ _ _ => castPE (pe_callTy call_tuple_of (by rfl) T.n_tuple (by decide +kernel) (pa_cons (pe_lc (own := [("one", 5)]) rfl sc_Hidden_init.nd (pi_tup (pv 6)) (by first | exact blkOk_by (N := N_Hidden_init) (sc := C8.fnScope s_Hidden_init) (by decide +kernel) | exact blkOk_by (by rfl)) (fun _ _ _ _ _ => castPG (pg_name (i := 5) sc_Hidden_init.nd rfl (Or.inl rfl) (by first | exact Or.inr rfl | exact Or.inl rfl)) (by first | (dsimp only [Cx.blk]; done) | rfl)) (fun _ _ _ _ _ => castPTs (pts_nil) (by first | (dsimp only [Cx.blk]; done) | rfl)) (fun _ _ _ _ _ => castPE (C8.pe_c c_check_chance hr (by omega) (by rfl) (pa_cons (pv 5) pa_nil)) (by first | (dsimp only [Cx.blk]; done) | rfl))) pa_nil)) (by first | (dsimp only [Cx.blk]; done) | rfl))) rfl)
      (pss_cons (ps_if (PW.pt (pw_or (pt_cmpR op_ne (pe_callB call_len_seq (by rfl) T.n_len (by decide +kernel) (pa_cons (pe_fld (pv 0) rfl) pa_nil)) (pe_callB call_len_seq (by rfl) T.n_len (by decide +kernel) (pa_cons (pe_fld (pv 0) rfl) pa_nil)) (nomark _)) (pw_or (pt_cmpR (op_neD hr.units) (C8.pe_c c_total hr (by omega) (by rfl) (pa_cons (pe_fld (pv 0) rfl) pa_nil)) (pe_tup (pa_cons pe_int (pa_cons pe_int pa_nil))) (nomark _)) (pw_or1 (pt_cmpR op_ne (pe_callB call_len_seq (by rfl) T.n_len (by decide +kernel) (pa_cons (pe_fld (pv 0) rfl) pa_nil)) (pe_callB call_len_seq (by rfl) T.n_len (by decide +kernel) (pa_cons (pe_fld (pv 0) rfl) pa_nil)) (nomark _)))))) pss_never pss_nil)
      (pss_one (ps_if (pt_val (GX.pe_anyX (own := [("row", 6)]) hr (by rfl) T.n_any TB rfl rfl sc_Hidden_init.nd (GX.gsc_by (by decide +kernel)) (by first | exact blkOk_by (N := N_Hidden_init) (sc := C8.fnScope s_Hidden_init) (by decide +kernel) | exact blkOk_by (by rfl)) (pi_list (pe_fld (pv 0) rfl)) (fun _ _ cenv _ _ _ hs _ => by cases cenv; cases hs; exact castPG (pg_name (i := 6) sc_Hidden_init.nd rfl (Or.inl rfl) (by first | exact Or.inr rfl | exact Or.inl rfl)) (by first | (dsimp only [GX.gCx]; done) | rfl)) (fun _ _ cenv _ _ _ hs _ hr => by cases cenv; cases hs; exact castPTs pts_nil (by first | (dsimp only [GX.gCx]; done) | rfl)) (fun _ _ cenv _ _ _ hs _ hr => by cases cenv; cases hs; exact castPE (pe_or (pe_cmpR op_ne (pe_callB call_len_seq (by rfl) T.n_len (by decide +kernel) (pa_cons (pv 6) pa_nil)) (pe_callB call_len_str (by rfl) T.n_len (by decide +kernel) (pa_cons (pv 4) pa_nil)) (nomark _)) (pe_one (pe_cmpR (op_neD hr.units) (C8.pe_c c_total hr (by omega) (by rfl) (pa_cons (pv 6) pa_nil)) (pe_tup (pa_cons pe_int (pa_cons pe_int pa_nil))) (nomark _)))) (by first | (dsimp only [GX.gCx]; done) | rfl)))) pss_never pss_nil))))))), ?_⟩
    obtain rfl : xs.length = m := hxs.1
    refine ⟨_, rfl, a, rfl, ⟨xs, ha⟩, fun D hD => ?_⟩
    refine lc_n (n := xs.length) (fun j acc H' => Pq K H' acc j v0 ∧ Ex H H') ⟨Pq.nil, Evl.Ex.new hD⟩ (fun j acc H' hj p => ⟨xs, xs[j], Evl.ex_t p.2 ha, List.getElem?_eq_getElem hj⟩) (fun acc H' p => ⟨xs, Evl.ex_t p.2 ha, Nat.le_refl _⟩) (fun j acc H3 u3 H4 hj hacc p hy => ?_) (fun acc H3 hacc p => ?_)
    · obtain ⟨rfl, hu⟩ := hy
      have hu := (hxs.2 j u3 (hu _ (Evl.ex_t p.2 ha))).ex p.2
      refine ⟨rfl, ⟨_, rfl, u3, v0 j, rfl, hu, (hv j hj).1, (hv j hj).2.1, (hv j hj).2.2, fun v6 H6 e6 h6 => ?_⟩⟩
      have hD6 := e6 _ _ hacc
      have := p.1.1
      exact App.of hD6 (by have := hO.m2; omega) ⟨Pq.snoc ((p.1.ex e6).kt (Kt.lst hD6)) (h6.kt (Kt.lst hD6)), Evl.Ex.mut (Evl.Ex.trans p.2 e6) hD⟩
    · refine ⟨D, acc, rfl, .inl ⟨Evl.sq_of hacc, fun l hl => ?_⟩⟩
      have e1 : Ex H (upd H3 l (.tup acc)) := Evl.Ex.trans p.2 (Evl.Ex.new hl)
      have hl1 : upd H3 l (.tup acc) l = some (.tup acc) := upd_same
      have p1 := p.1.ex (Evl.Ex.new (o := .tup acc) hl)
      generalize (upd H3 l (.tup acc)) = G1 at e1 hl1 p1
      have hx1 := e1 _ _ hx
      refine ⟨_, rfl, x, CH, dx, [], rfl, hx1, cl, n1, by decide, ?_⟩
      have M1 : Mo (some x) T9 H (upd G1 x (.ins CH dx (putF "first" (.ref l) []))) := (Mo.of e1).trans (Mo.muts hx1 (.inl ⟨_, _, _, rfl⟩))
      have kt1 : Kt G1 (upd G1 x (.ins CH dx (putF "first" (.ref l) []))) := MoX.kt (T := T9) (Mo.muts hx1 (.inl ⟨_, _, _, rfl⟩)) hx1
      have hl2 := kt1.sq (K := K) (Evl.st_of hl1)
      have p2 := p1.kt kt1
      have hx2 : upd G1 x (.ins CH dx (putF "first" (.ref l) [])) x = some (.ins CH dx [("first", .ref l)]) := upd_same
      generalize (upd G1 x (.ins CH dx (putF "first" (.ref l) []))) = G2 at M1 hl2 p2 hx2
      refine ⟨_, rfl, b, rs, xs.length, R, rfl, MoX.sl M1 hx hb, hR.kt (MoX.kt M1 hx), hO, M1.2 hT, fun Fl H4 ys m4 hF nF hys => ?_⟩
      have hx4 : H4 x = some (.ins CH dx [("first", .ref l)]) := m4.1 x _ (fun z => nomatch z) hx2 (fun _ z => nomatch z)
      have nFx : Fl ≠ x := fun z => by rw [z, hx2] at nF; cases nF
      refine ⟨_, rfl, x, CH, dx, _, rfl, hx4, cl, n2, (by show 1 < 1000; decide), ?_⟩
      refine ⟨_, rfl, _, rfl, x, CH, dx, _, rfl, upd_same, cl, n3, (by show 2 < 1000; decide), ?_⟩
      rw [upd_upd]
      have M4 : Mo (some x) T9 H H4 := M1.trans (Mo.any m4)
      have mu : Mo (some x) T9 H4 (upd H4 x (.ins CH dx (putF "letters" (.str z) (putF "rows" (.ref Fl) [("first", .ref l)])))) := Mo.muts hx4 (.inl ⟨_, _, _, rfl⟩)
      have hl5 := (MoX.kt mu hx4).sq ((Mo.kt m4).sq hl2)
      have p5 := (p2.kt (Mo.kt m4)).kt (MoX.kt mu hx4)
      have hF5 : SqL K _ Fl ys := MoX.sl mu hx4 (Evl.sq_of hF)
      have hy5 := hys.kt (MoX.kt mu hx4)
      have M5 := M4.trans mu
      have hx5 : upd H4 x (.ins CH dx (putF "letters" (.str z) (putF "rows" (.ref Fl) [("first", .ref l)]))) x = some (.ins CH dx [("first", .ref l), ("rows", .ref Fl), ("letters", .str z)]) := upd_same
      generalize (upd H4 x (.ins CH dx (putF "letters" (.str z) (putF "rows" (.ref Fl) [("first", .ref l)])))) = G5 at M5 hl5 p5 hF5 hy5 hx5
      clear mu M4 hx4 hF nF hys m4 hx2 p2 hl2 M1
      have hs5 := MoX.sl M5 hx hs
      have hss5 := hss.kt (MoX.kt M5 hx)
      have hsl : ss.length = xs.length := hss.1
      refine ⟨_, rfl, sg, rfl, ⟨ss, hs5⟩, fun D2 hD2 => ?_⟩
      refine lc_n (n := xs.length) (fun i acc H' => RowsOf K H' acc i 1 (fun _ _ => 1) ∧ Ex G5 H') ⟨RowsOf.nil, Evl.Ex.new hD2⟩ (fun i acc H' hi p => ⟨ss, ss[i], Evl.ex_l p.2 hs5, List.getElem?_eq_getElem (by omega)⟩) (fun acc H' p => ⟨ss, Evl.ex_l p.2 hs5, by omega⟩) (fun i acc6 H6 u H7 hi hacc6 p6 hy => ?_) (fun acc6 H6 hacc6 p6 => ?_)
      · obtain ⟨rfl, hu⟩ := hy
        obtain ⟨t, zs, ht, hts, hzs⟩ := (hss5.ex p6.2).get hi
        have hu := hu _ (Evl.ex_l p6.2 hs5)
        rw [ht] at hu
        cases hu
        refine ⟨rfl, ⟨_, rfl, t, rfl, ⟨zs, hts⟩, fun C hC => ?_⟩⟩
        refine lc_n (n := 1) (fun j acc2 H' => Pq K H' acc2 j (fun _ => 1) ∧ Ex H7 H') ⟨Pq.nil, Evl.Ex.new hC⟩ (fun j acc2 H' hj p2 => ⟨zs, zs[j]'(by rw [hzs.1]; exact hj), Evl.ex_t p2.2 hts, List.getElem?_eq_getElem _⟩) (fun acc2 H' p2 => ⟨zs, Evl.ex_t p2.2 hts, by rw [hzs.1]; exact Nat.le_refl _⟩) (fun j acc2 H8 u8 H9 hj hacc2 p2 hy2 => ?_) (fun acc2 H8 hacc2 p2 => ?_)
        · obtain ⟨rfl, hu8⟩ := hy2
          have h8 := (hzs.2 j u8 (hu8 _ (Evl.ex_t p2.2 hts))).ex p2.2
          refine ⟨rfl, ⟨_, rfl, u8, 1, rfl, h8, sm_one, by decide, by decide, fun v6 H6 e6 h6 => ?_⟩⟩
          have hD6 := e6 _ _ hacc2
          exact App.of hD6 (by rw [p2.1.1]; omega) ⟨Pq.snoc ((p2.1.ex e6).kt (Kt.lst hD6)) (h6.kt (Kt.lst hD6)), Evl.Ex.mut (Evl.Ex.trans p2.2 e6) hC⟩
        · refine ⟨C, acc2, rfl, .inl ⟨Evl.sq_of hacc2, fun t2 ht2 => ?_⟩⟩
          have e3 := Evl.Ex.trans p2.2 (Evl.Ex.new (o := .tup acc2) ht2)
          have hD6 := e3 _ _ hacc6
          exact App.of hD6 (by rw [p6.1.1]; have := hO.m2; omega) ⟨((p6.1.ex e3).kt (Kt.lst hD6)).snoc ((Kt.lst hD6).sq (Evl.st_of upd_same)) ((p2.1.ex (Evl.Ex.new ht2)).kt (Kt.lst hD6)), Evl.Ex.mut (Evl.Ex.trans p6.2 e3) hD2⟩
      · have hx6 := p6.2 _ _ hx5
        refine ⟨_, rfl, x, CH, dx, _, rfl, hx6, cl, n4, (by show 3 < 1000; decide), ?_⟩
        have mu : Mo (some x) T9 H6 (upd H6 x (.ins CH dx (putF "signs" (.ref D2) [("first", .ref l), ("rows", .ref Fl), ("letters", .str z)]))) := Mo.muts hx6 (.inl ⟨_, _, _, rfl⟩)
        have k7 := MoX.kt mu hx6
        have hl7 := k7.sq (Evl.ex_t p6.2 hl5)
        have p7 := (p5.ex p6.2).kt k7
        have hF7 : SqL K _ Fl ys := MoX.sl mu hx6 (Evl.ex_l p6.2 hF5)
        have hy7 := (hy5.ex p6.2).kt k7
        have hD7 : SqL K _ D2 acc6 := MoX.sl mu hx6 (Evl.sq_of hacc6)
        have hs7 := p6.1.kt k7
        have M7 := (M5.trans (Mo.of p6.2)).trans mu
        have hx7 : upd H6 x (.ins CH dx (putF "signs" (.ref D2) [("first", .ref l), ("rows", .ref Fl), ("letters", .str z)])) x = some (.ins CH dx [("first", .ref l), ("rows", .ref Fl), ("letters", .str z), ("signs", .ref D2)]) := upd_same
        generalize (upd H6 x (.ins CH dx (putF "signs" (.ref D2) [("first", .ref l), ("rows", .ref Fl), ("letters", .str z)]))) = G7 at M7 hl7 p7 hF7 hy7 hD7 hs7 hx7
        refine ⟨_, rfl, x, CH, dx, _, .ref l, rfl, hx7, cl, n1, rfl, l, acc, rfl, .inr hl7, _, rfl, x, CH, dx, _, .ref Fl, rfl, hx7, cl, n2, rfl, Fl, ys, rfl, .inl hF7, rfl, _, rfl, ?_⟩
        rw [decV, decide_eq_true (by rw [p7.1, hy7.1])]
        refine iteF ⟨_, rfl, x, CH, dx, _, .ref l, rfl, hx7, cl, n1, rfl, l, acc, xs.length, v0, rfl, .inr hl7, p7, fun i hi => (hv i hi).1, hvs, fun v9 H9 e9 h9 => ⟨(by show 2 ≤ sizeLine; decide), fun q9 hq9 => ?_⟩⟩
        rw [hv1] at h9
        refine ⟨qD 1, qD 1, (h9.ex (Evl.Ex.new hq9)).dp, dp_pair (q := 1) (Evl.st_of upd_same), rfl, rfl, _, rfl, ?_⟩
        rw [qD_eqv, decide_eq_true rfl]
        have e10 : Ex G7 (upd H9 q9 (.tup [.int 1, .int 1])) := Evl.Ex.trans e9 (Evl.Ex.new hq9)
        generalize (upd H9 q9 (.tup [.int 1, .int 1])) = G10 at e10
        have hxA := e10 _ _ hx7
        refine iteF ⟨_, rfl, x, CH, dx, _, .ref D2, rfl, hxA, cl, n4, rfl, D2, acc6, rfl, .inl (Evl.ex_l e10 hD7), _, rfl, x, CH, dx, _, .ref Fl, rfl, hxA, cl, n2, rfl, Fl, ys, rfl, .inl (Evl.ex_l e10 hF7), rfl, _, rfl, ?_⟩
        rw [decV, decide_eq_true (by rw [hs7.1, hy7.1])]
        have MA := M7.trans (Mo.of e10)
        refine iteF ⟨_, rfl, x, CH, dx, _, .ref D2, rfl, hxA, cl, n4, rfl, D2, rfl, ⟨acc6, Evl.ex_l e10 hD7⟩, (MA.2 hT) _ hTm, fun H11 h11 => ?_⟩
        have mm : Mo none T9 G10 H11 := Mo.tabbed ((MA.2 hT) _ hTm) hTu h11
        have ktA : ∀ {H'}, Mo none T9 G10 H' → Kt G7 H' := fun m => (Kt.of e10).trans (Mo.kt m)
        have slA : ∀ {H'} {b' : Addr} {l' : List V}, Mo none T9 G10 H' → SqL K G7 b' l' → SqL K H' b' l' := fun m h => Mo.sl m (Evl.ex_l e10 h)
        refine gx_n (n := xs.length) (fun i ys H' => Mo none T9 G10 H') mm (fun i ys H' hi m => ⟨acc6, acc6[i]'(by rw [hs7.1]; exact hi), slA m hD7, List.getElem?_eq_getElem _⟩) (fun ys H' m => ⟨acc6, slA m hD7, by rw [hs7.1]; exact Nat.le_refl _⟩) (fun i gs H12 u H13 hi m hy => ?_) (fun gs H12 m => ?_)
        · obtain ⟨rfl, hu⟩ := hy
          obtain ⟨t, zs, ht, hts, hzs⟩ := (hs7.kt (ktA m)).get hi
          have hu := hu _ (slA m hD7)
          rw [ht] at hu
          cases hu
          have s1 : sumq 1 (fun _ => (1 : Rat)) = 1 := by show (0 : Rat) + 1 = 1; grind
          refine ⟨rfl, ⟨_, rfl, t, zs, rfl, .inr hts, _, rfl, z, rfl, (by rw [hz]; decide), rfl, _, rfl, ?_⟩⟩
          rw [decV, decide_eq_true (by rw [hzs.1, hz])]
          refine iteF ⟨_, rfl, t, zs, 1, fun _ => 1, rfl, .inr hts, hzs, fun _ _ => sm_one, fun j hj => ?_, fun v9 H9 e9 h9 => ?_⟩
          · rcases (show j = 0 ∨ j = 1 by omega) with rfl | rfl
            · exact sm_zero
            · rw [s1]; exact sm_one
          · rw [s1] at h9
            refine ⟨(by show 2 ≤ sizeLine; decide), fun q9 hq9 => ⟨qD 1, qD 1, (h9.ex (Evl.Ex.new hq9)).dp, dp_pair (q := 1) (Evl.st_of upd_same), rfl, rfl, ?_, m.trans (Mo.of (Evl.Ex.trans e9 (Evl.Ex.new hq9)))⟩⟩
            show V.bl _ = V.bl false
            rw [qD_eqv, decide_eq_true rfl]
            rfl
        · refine ⟨_, rfl, ?_⟩
          have hxE := m.1 x _ (fun z => nomatch z) hxA (fun _ z => nomatch z)
          refine iteF (k _ (MA.trans (Mo.any m)) ⟨x, dx, l, Fl, D2, acc, ys, acc6, rfl, hxE, (ktA m).sq hl7, p7.kt (ktA m), slA m hF7, hy7.kt (ktA m), slA m hD7, hs7.kt (ktA m)⟩)
end
end KK
end
/-! K22 -/
section
set_option Elab.async false
set_option linter.all false
set_option maxRecDepth 100000
namespace KK
open PySem PySem.Spec PyProof.Rows L2 KM LX LamX NdefX
section
variable {P : Program} {w : World} {K : PySem.W.Frag} {mg : Str → Option Value} {base : Heap} {T9 : LX.TL} {CH : Addr}
abbrev s_Hidden_size : Stmt := inClass (top 39) 1
abbrev N_Hidden_size : List Str := ["self"]
theorem sc_Hidden_size : FnScope N_Hidden_size ["self"] (C8.fnScope s_Hidden_size) := C8.fnScope_by (by decide +kernel)
-- slots: self=0
def spHSize (K : PySem.W.Frag) (CH : Addr) : Sp := fun vs H Q _ => ∃ (v : V) (m : Nat) (z : Str) (v0 : Nat → Rat) (R : Nat → Nat → Rat), vs = [v] ∧ HiddenAt K CH H v m z v0 R ∧ Q (.int (m : Nat)) H
theorem mt_Hidden_size' {f : Addr} {fd : FuncData} (T : Tx K mg) (cl : Cls K CH) (me : Meth K CH "size" f) (F : C8.Fun K "size" "Hidden.size" s_Hidden_size f fd) (bf : Binds K fd ["self"] []) (n2 : NoAttr K CH "rows") : C8.Met P w K mg base 1 CH "size" (spHSize K CH) [] := by
  refine C8.met0 cl me F bf sc_Hidden_size (fun vs H Q E h => ?_) (fun cdv A outer s H vs Q E hr h => ?_)
  · obtain ⟨_, _, _, _, _, rfl, _⟩ := h; rfl
  · obtain ⟨_, m, z, v0, R, rfl, ⟨a, dx, Fa, Fl, Sl, xs, ys, ss, rfl, ha, h1, h2, h3, h4, h5, h6⟩, k⟩ := h
    refine ⟨_, (pss_one (ps_ret (pe_callB call_len_seq (by rfl) T.n_len (by decide +kernel) (pa_cons (pe_fld (pv 0) rfl) pa_nil)))), ?_⟩
    refine ⟨_, rfl, a, CH, dx, _, .ref Fl, rfl, ha, cl, n2, rfl, Fl, ys, rfl, .inl h3, ?_⟩
    rw [h4.1]
    exact k
abbrev s_Hidden_sign : Stmt := inClass (top 39) 2
abbrev N_Hidden_sign : List Str := ["self", "place", "letter"]
theorem sc_Hidden_sign : FnScope N_Hidden_sign ["self", "place", "letter"] (C8.fnScope s_Hidden_sign) := C8.fnScope_by (by decide +kernel)
-- slots: self=0 place=1 letter=2
def spHSign (K : PySem.W.Frag) (CH : Addr) : Sp := fun vs H Q _ => ∃ (v : V) (m i : Nat) (z : Str) (v0 : Nat → Rat) (R : Nat → Nat → Rat), vs = [v, .int (i : Nat), .str z] ∧ HiddenAt K CH H v m z v0 R ∧ i < m ∧ Builtin.Str.occurrences z z 0 z.length 1 = [0] ∧ ∀ r H', Ex H H' → PtAt K H' r 1 → Q r H'
theorem mt_Hidden_sign' {f : Addr} {fd : FuncData} (T : Tx K mg) (cl : Cls K CH) (me : Meth K CH "sign" f) (F : C8.Fun K "sign" "Hidden.sign" s_Hidden_sign f fd) (bf : Binds K fd ["self", "place", "letter"] []) (n3 : NoAttr K CH "letters") (n4 : NoAttr K CH "signs") : C8.Met P w K mg base 1 CH "sign" (spHSign K CH) [] := by
  refine C8.met0 cl me F bf sc_Hidden_sign (fun vs H Q E h => ?_) (fun cdv A outer s H vs Q E hr h => ?_)
  · obtain ⟨_, _, _, _, _, _, rfl, _⟩ := h; rfl
  · obtain ⟨_, m, i, z, v0, R, rfl, ⟨a, dx, Fa, Fl, Sl, xs, ys, ss, rfl, ha, h1, h2, h3, h4, h5, h6⟩, hi, hz, k⟩ := h
    refine ⟨_, (pss_one (ps_ret (pe_ifExp (pt_cmpR op_in_str (pv 2) (pe_fld (pv 0) rfl) rfl) (pe_ix ix_tup (pe_ix ix_list (pe_fld (pv 0) rfl) (pv 1) (fun _ _ => rfl)) (pe_bm PySem.F.plainAttrs_str PySem.F.slot_str_index PySem.F.type_str_index mt_sindex (pe_fld (pv 0) rfl) (pa_cons (pv 2) pa_nil)) (fun _ _ => rfl)) (pe_tup (pa_cons pe_int (pa_cons pe_int pa_nil)))))), ?_⟩
    refine ⟨_, rfl, _, rfl, a, CH, dx, _, .str z, rfl, ha, cl, n3, rfl, ?_⟩
    refine ⟨z, z, rfl, rfl, _, rfl, ?_⟩
    rw [hz]
    obtain ⟨t, zs, ht, hts, hzs⟩ := h6.get hi
    obtain ⟨vr, hvr, hvq⟩ := hzs.get (show 0 < 1 by decide)
    refine iteT ⟨_, rfl, a, CH, dx, _, .ref Sl, rfl, ha, cl, n4, rfl, _, rfl, Sl, ss, (i : Nat), .ref t, rfl, rfl, h5, atI_nat ht, _, rfl, a, CH, dx, _, .str z, rfl, ha, cl, n3, rfl, rfl, _, rfl, z, z, 0, [], rfl, rfl, hz, t, zs, ((0 : Nat) : Int), vr, rfl, rfl, hts, atI_nat hvr, k _ _ (Evl.Ex.refl _) hvq⟩
end
end KK
end
/-! K23 -/
section
set_option Elab.async false
set_option linter.all false
set_option maxRecDepth 100000
namespace KK
open PySem PySem.Spec PyProof.Rows L2 KM LX LamX NdefX
section
variable {P : Program} {w : World} {K : PySem.W.Frag} {mg : Str → Option Value} {base : Heap} {T9 : LX.TL} {CH : Addr}
theorem with_ifS {tA : TT} {t u : TS} {D : Ends} {σ : L2.St} {H : Hp} (Φ : L2.St → Hp → Prop) (h : ∀ D' : Ends, (∀ σ' H', Φ σ' H' → D'.nx σ' H') → tIfS tA t u D' σ H) (k : ∀ σ' H', Φ σ' H' → D.nx σ' H') : tIfS tA t u D σ H := h D k
theorem HiddenAt.ex {H H' : Hp} {v : V} {m : Nat} {z : Str} {v0 : Nat → Rat} {R : Nat → Nat → Rat} (h : HiddenAt K CH H v m z v0 R) (e : Ex H H') : HiddenAt K CH H' v m z v0 R := by
  obtain ⟨a, dx, Fa, Fl, Sl, xs, ys, ss, rfl, ha, h1, h2, h3, h4, h5, h6⟩ := h
  exact ⟨a, dx, Fa, Fl, Sl, xs, ys, ss, rfl, e _ _ ha, Evl.ex_t e h1, h2.ex e, Evl.ex_l e h3, h4.ex e, Evl.ex_l e h5, h6.ex e⟩
abbrev s_Hidden_ahead : Stmt := inClass (top 39) 3
abbrev N_Hidden_ahead : List Str := ["self", "word", "found", "place_in", "letter", "here", "place", "came", "one"]
theorem sc_Hidden_ahead : FnScope N_Hidden_ahead ["self", "word"] (C8.fnScope s_Hidden_ahead) := C8.fnScope_by (by decide +kernel)
-- slots: self=0c word=1 found=2c place_in=3 letter=4 here=5 place=6c came=7 one=8
def spHAhead (K : PySem.W.Frag) (CH : Addr) : Sp := fun vs H Q _ => ∃ (v : V) (m n c : Nat) (wd z : Str) (v0 : Nat → Rat) (R : Nat → Nat → Rat), vs = [v, .str wd] ∧ HiddenAt K CH H v m z v0 R ∧ z = ⟨#[c]⟩ ∧ Builtin.Str.occurrences z z 0 z.length 1 = [0] ∧ wd.cps.size = n ∧ n ≤ 1000 ∧ m ≤ 100 ∧ wd.cps.all (· < 128) = true ∧ (∀ (i c' : Nat), wd.cps[i]? = some c' → c' = c) ∧ (∀ i, i < n → StSm m R (itr m R v0 i)) ∧
  ∀ t H' ys, Ex H H' → SqT K H' t ys → RowsOf K H' ys n m (itr m R v0) → Q (.ref t) H'
theorem mt_Hidden_ahead' {f : Addr} {fd : FuncData} (T : Tx K mg) (cl : Cls K CH) (me : Meth K CH "ahead" f) (F : C8.Fun K "ahead" "Hidden.ahead" s_Hidden_ahead f fd) (bf : Binds K fd ["self", "word"] []) (n1 : NoAttr K CH "first") (n2 : NoAttr K CH "rows") (c_times : C8.Cal P w K mg base 3 "times" (spTwo K (· * ·)) []) (c_total : C8.Cal P w K mg base 4 "total" (spTotal K) [])
    (mt_Hidden_size : C8.Met P w K mg base 1 CH "size" (spHSize K CH) []) (mt_Hidden_sign : C8.Met P w K mg base 1 CH "sign" (spHSign K CH) []) : C8.Met P w K mg base 5 CH "ahead" (spHAhead K CH) [] := by
  refine C8.met0 cl me F bf sc_Hidden_ahead (fun vs H Q E h => ?_) (fun cdv A outer s H vs Q E hr h => ?_)
  · obtain ⟨_, _, _, _, _, _, _, _, rfl, _⟩ := h; rfl
  · obtain ⟨v, m, n, c, wd, _, v0, R, rfl, hv, rfl, hz, hn, hn2, hm, hasc, hall, hS, k⟩ := h
    refine ⟨_, (pss_cons (ps_set (i := 2) sc_Hidden_ahead.nd rfl (Or.inr rfl) (pe_lst pa_nil))
      (pss_cons (ps_for PassesOwn.never rfl (RX.pi_enumS (by rfl) T.n_enumerate (pa_cons (pv 1) pa_nil)) (pg_tup (n := 2) rfl (pgs_cons (pg_name (i := 3) sc_Hidden_ahead.nd rfl (Or.inl rfl) (by exact Or.inl rfl)) (pgs_cons (pg_name (i := 4) sc_Hidden_ahead.nd rfl (Or.inl rfl) (by exact Or.inl rfl)) pgs_nil)))
      (pss_cons (ps_set (i := 5) sc_Hidden_ahead.nd rfl (Or.inl rfl) (pe_lst pa_nil))
        (pss_cons (ps_for PassesOwn.never rfl (pi_range1 (by rfl) T.n_range (pa_cons (C8.pe_mt0 mt_Hidden_size hr (by omega) (pv 0)) pa_nil)) (pg_name (i := 6) sc_Hidden_ahead.nd rfl (Or.inr rfl) (by exact Or.inl rfl))
        (pss_cons (ps_if (pt_cmpR op_eq (pv 3) pe_int (nomark _)) (pss_one (ps_set (i := 7) sc_Hidden_ahead.nd rfl (Or.inl rfl) (pe_ix ix_tup (pe_fld (pv 0) rfl) (pv 6) (fun _ _ => rfl)))) (pss_one (ps_set (i := 7) sc_Hidden_ahead.nd rfl (Or.inl rfl) (C8.pe_c c_total hr (by omega) (by rfl) (pa_cons (pe_lc (own := [("one", 8)]) rfl sc_Hidden_ahead.nd (pi_range1 (by rfl) T.n_range (pa_cons (C8.pe_mt0 mt_Hidden_size hr (by omega) (pv 0)) pa_nil)) (by first | exact blkOk_by (N := N_Hidden_ahead) (sc := C8.fnScope s_Hidden_ahead) (by decide +kernel) | exact blkOk_by (by rfl)) (fun _ _ _ _ _ => castPG (pg_name (i := 8) sc_Hidden_ahead.nd rfl (Or.inl rfl) (by first | exact Or.inr rfl | exact Or.inl rfl)) (by first | (dsimp only [Cx.blk]; done) | rfl)) (fun _ _ _ _ _ => castPTs (pts_nil) (by first | (dsimp only [Cx.blk]; done) | rfl)) (fun _ _ _ _ _ => castPE (C8.pe_c c_times hr (by omega) (by rfl) (pa_cons (pe_ix ix_tup (pe_ix ix_list (pv 2) (pe_un un_neg pe_int) (fun _ _ => rfl)) (pv 8) (fun _ _ => rfl)) (pa_cons (pe_ix ix_tup (pe_ix ix_list (pe_fld (pv 0) rfl) (pv 8) (fun _ _ => rfl)) (pv 6) (fun _ _ => rfl)) pa_nil))) (by first | (dsimp only [Cx.blk]; done) | rfl))) pa_nil)))))
          (pss_one (ps_expr (pe_bm PySem.F.plainAttrs_list PySem.F.slot_list_append PySem.F.type_list_append mt_append (pv 5) (pa_cons (C8.pe_c c_times hr (by omega) (by rfl) (pa_cons (pv 7) (pa_cons (C8.pe_mt mt_Hidden_sign hr (by omega) (pv 0) (pa_cons (pv 6) (pa_cons (pv 4) pa_nil))) pa_nil))) pa_nil))))))
        (pss_one (ps_expr (pe_bm PySem.F.plainAttrs_list PySem.F.slot_list_append PySem.F.type_list_append mt_append (pv 2) (pa_cons (pe_callTy call_tuple_of (by rfl) T.n_tuple (by decide +kernel) (pa_cons (pv 5) pa_nil)) pa_nil)))))))
      (pss_one (ps_ret (pe_callTy call_tuple_of (by rfl) T.n_tuple (by decide +kernel) (pa_cons (pv 2) pa_nil)))))), ?_⟩
    refine ⟨(by show 0 ≤ sizeLine; exact Nat.zero_le _), fun Fo hFo => ⟨_, rfl, wd, rfl, hasc, ?_⟩⟩
    refine for_n (n := n) (fun i σ' H' => ∃ (fs : List V) (o3 o4 o5 o6 o7 o8 : Option V), σ' = [some v, some (.str wd), some (.ref Fo), o3, o4, o5, o6, o7, o8] ∧ Ex H H' ∧ H' Fo = some (.lst fs) ∧ RowsOf K H' fs i m (itr m R v0)) ⟨[], _, _, _, _, _, _, rfl, Evl.Ex.new hFo, upd_same, RowsOf.nil⟩
      (fun i σ' H' hi _ => by show i < wd.cps.size; omega) (fun σ' H' _ => by show wd.cps.size ≤ n; omega) ?_ ?_
    · rintro i _ H2 u H3 hi ⟨fs, o3, o4, o5, o6, o7, o8, rfl, e, hF2, hfs⟩ ⟨T0, c', rfl, hT0, rfl, hc'⟩
      obtain rfl := hall i c' hc'
      have e1 : Ex H2 (upd H2 T0 (.tup [.int (i : Nat), .str ⟨#[c']⟩])) := Evl.Ex.new hT0
      refine ⟨T0, _, rfl, Evl.st_of upd_same, rfl, _, _, rfl, _, _, rfl, rfl, ?_⟩
      generalize (upd H2 T0 (.tup [.int (i : Nat), .str ⟨#[c']⟩])) = G at e1
      refine ⟨(by show 0 ≤ sizeLine; exact Nat.zero_le _), fun Hh hHh => ?_⟩
      have eG : Ex H (upd G Hh (.lst [])) := Evl.Ex.trans (Evl.Ex.trans e e1) (Evl.Ex.new hHh)
      have hF3 : upd G Hh (.lst []) Fo = some (.lst fs) := Evl.Ex.new hHh _ _ (e1 _ _ hF2)
      have hh3 : upd G Hh (.lst []) Hh = some (.lst []) := upd_same
      have nH : H2 Hh = none := none_ex e1 hHh
      have e2 : Ex H2 (upd G Hh (.lst [])) := Evl.Ex.trans e1 (Evl.Ex.new hHh)
      generalize (upd G Hh (.lst [])) = G2 at eG hF3 hh3 e2
      obtain ⟨a, dx, Fa, Fl, Sl, xs, ys, ss, rfl, ha, h1, h2, h3, h4, h5, h6⟩ := id hv
      refine ⟨_, rfl, a, dx, _, rfl, eG _ _ ha, rfl, .ref a, m, _, v0, R, rfl, hv.ex eG, ((m : Nat) : Int), rfl, by omega, by omega, ?_⟩
      refine for_n (n := m) (fun p σ' H' => ∃ (hs : List V) (o6 o7 o8 : Option V), σ' = [some (.ref a), some (.str wd), some (.ref Fo), some (.int (i : Nat)), some (.str ⟨#[c']⟩), some (.ref Hh), o6, o7, o8] ∧ Ex H2 H' ∧ H' Hh = some (.lst hs) ∧ Pq K H' hs p (itr m R v0 i)) ⟨[], _, _, _, rfl, e2, hh3, Pq.nil⟩
        (fun p σ' H' hp _ => by show p < (m : Int).toNat; omega) (fun σ' H' _ => by show (m : Int).toNat ≤ m; omega) ?_ ?_
      · rintro p _ H5 u5 H6 hp ⟨hs, o6, o7, o8, rfl, e5, hh5, hp5⟩ ⟨rfl, rfl⟩
        have eH6 := Evl.Ex.trans e e5
        dsimp only [gName, tSeq]
        refine with_ifS (fun σ' H' => ∃ (cv : V) (o8 : Option V), σ' = [some (.ref a), some (.str wd), some (.ref Fo), some (.int (i : Nat)), some (.str ⟨#[c']⟩), some (.ref Hh), some (.int (0 + (p : Nat))), some cv, o8] ∧ Ex H6 H' ∧ PtAt K H' cv (itr m R v0 i p)) (fun D' k' => ?_) ?_
        · refine ⟨_, rfl, rfl, _, rfl, ?_⟩
          rw [decV]
          rcases Nat.eq_zero_or_pos i with i0 | i0
          · subst i0
            obtain ⟨vx, hvx, hvq⟩ := h2.get hp
            exact iteT ⟨_, rfl, a, CH, dx, _, .ref Fa, rfl, eH6 _ _ ha, cl, n1, rfl, _, rfl, Fa, xs, ((p : Nat) : Int), vx, rfl, (by show V.int (0 + (p : Nat)) = _; rw [Int.zero_add]), Evl.ex_t eH6 h1, atI_nat hvx, k' _ _ ⟨vx, _, rfl, Evl.Ex.refl _, hvq.ex eH6⟩⟩
          · rw [decide_eq_false (by omega)]
            obtain ⟨t, zs, ht, hts, hzs⟩ := hfs.get (show i - 1 < i by omega)
            have hlast : atI fs (-1) = some (V.ref t) := by
              have hne : fs ≠ [] := fun z => by have := hfs.1; rw [z] at this; simp at this; omega
              have e9 := List.dropLast_concat_getLast hne
              have e8 : fs.getLast hne = .ref t := by
                rw [List.getLast_eq_getElem]
                have := ht
                rw [List.getElem?_eq_getElem (by rw [hfs.1]; omega)] at this
                have h7 := Option.some.inj this
                rw [← h7]
                congr 1
                rw [hfs.1]
              rw [← e9, e8]
              exact atI_last _ _
            have hSi := hS (i - 1) (by omega)
            have hit : itr m R v0 i p = sumq m fun j => itr m R v0 (i - 1) j * R j p := by
              obtain ⟨q, rfl⟩ : ∃ q, i = q + 1 := ⟨i - 1, by omega⟩
              rfl
            refine iteF ⟨_, rfl, a, dx, _, rfl, eH6 _ _ ha, rfl, .ref a, m, _, v0, R, rfl, hv.ex eH6, ((m : Nat) : Int), rfl, by omega, by omega, fun D hD => ?_⟩
            refine lc_n (n := m) (fun j acc H' => Pq K H' acc j (fun j => itr m R v0 (i - 1) j * R j p) ∧ Ex H6 H') ⟨Pq.nil, Evl.Ex.new hD⟩ (fun j acc H' hj _ => by show j < (m : Int).toNat; omega) (fun acc H' _ => by show (m : Int).toNat ≤ m; omega) (fun j acc H8 u8 H9 hj hacc pv hy => ?_) (fun acc H8 hacc pv => ?_)
            · obtain ⟨rfl, rfl⟩ := hy
              have e8 := Evl.Ex.trans e5 pv.2
              have eH := Evl.Ex.trans eH6 pv.2
              obtain ⟨vj, hvj, hvq⟩ := hzs.get hj
              obtain ⟨tr, ws, htr, htrs, hws⟩ := h4.get hj
              obtain ⟨vr, hvr, hvrq⟩ := hws.get hp
              refine ⟨rfl, ⟨_, rfl, _, rfl, Fo, fs, -1, .ref t, rfl, rfl, Evl.sq_of (e8 _ _ hF2), hlast, _, rfl, t, zs, ((j : Nat) : Int), vj, rfl, (by show V.int (0 + (j : Nat)) = _; rw [Int.zero_add]), Evl.ex_t e8 hts, atI_nat hvj, _, rfl, a, CH, dx, _, .ref Fl, rfl, eH _ _ ha, cl, n2, rfl, _, rfl, Fl, ys, ((j : Nat) : Int), .ref tr, rfl, (by show V.int (0 + (j : Nat)) = _; rw [Int.zero_add]), Evl.ex_l eH h3, atI_nat htr, _, rfl, tr, ws, ((p : Nat) : Int), vr, rfl, (by show V.int (0 + (p : Nat)) = _; rw [Int.zero_add]), Evl.ex_t eH htrs, atI_nat hvr, ?_⟩⟩
              refine ⟨vj, vr, itr m R v0 (i - 1) j, R j p, rfl, hvq.ex e8, hvrq.ex eH, hSi.hv j hj, hSi.hr j p hj hp, fun v6 H6' e6 h6' => ?_⟩
              have hD6 := e6 _ _ hacc
              exact App.of hD6 (by rw [pv.1.1]; omega) ⟨Pq.snoc ((pv.1.ex e6).kt (Kt.lst hD6)) (h6'.kt (Kt.lst hD6)), Evl.Ex.mut (Evl.Ex.trans pv.2 e6) hD⟩
            · refine ⟨D, acc, m, _, rfl, .inl (Evl.sq_of hacc), pv.1, fun j hj => hSi.hp j p hj hp, fun j hj => hSi.hs j p hj hp, fun v9 H9 e9 h9 => k' _ _ ⟨v9, _, rfl, Evl.Ex.trans pv.2 e9, ?_⟩⟩
              rw [hit]
              exact h9
        · rintro _ H7 ⟨cv, o8, rfl, e7, hcv⟩
          have hh7 := e7 _ _ hh5
          have e67 := Evl.Ex.trans eH6 e7
          refine ⟨_, rfl, .inl ⟨rfl, _, Evl.sq_of hh7⟩, _, rfl, _, rfl, a, dx, _, rfl, e67 _ _ ha, rfl, _, rfl, _, rfl, .ref a, m, p, _, v0, R, (by show [V.ref a, V.int (0 + (p : Nat)), V.str _] = _; rw [Int.zero_add]), hv.ex e67, hp, hz, fun r H8 e8 h8 => ?_⟩
          refine ⟨cv, r, itr m R v0 i p, 1, rfl, hcv.ex e8, h8, (hS i hi).hv p hp, sm_one, fun v9 H9 e9 h9 => ?_⟩
          have e79 := Evl.Ex.trans e8 e9
          have hh9 := e79 _ _ hh7
          have h9 : PtAt K H9 v9 (itr m R v0 i p * 1) := h9
          rw [Rat.mul_one] at h9
          exact ⟨Hh, hs, v9, rfl, rfl, hh9, Nat.lt_of_lt_of_le (show hs.length < 1000000 by rw [hp5.1]; omega) (by decide), hs ++ [v9], _, _, _, rfl, Evl.Ex.mut (Evl.Ex.trans e5 (Evl.Ex.trans e7 e79)) nH, upd_same, Pq.snoc ((hp5.ex (Evl.Ex.trans e7 e79)).kt (Kt.lst hh9)) (h9.kt (Kt.lst hh9))⟩
      · rintro _ H5 ⟨hs, o6, o7, o8, rfl, e5, hh5, hp5⟩
        have F5 := e5 _ _ hF2
        refine ⟨_, rfl, .inl ⟨rfl, _, Evl.sq_of F5⟩, _, rfl, Hh, hs, rfl, .inl ⟨Evl.sq_of hh5, fun t ht => ?_⟩⟩
        have e6 : Ex H5 (upd H5 t (.tup hs)) := Evl.Ex.new ht
        have F6 := e6 _ _ F5
        have e7 := Evl.Ex.trans e (Evl.Ex.trans e5 e6)
        exact ⟨Fo, fs, .ref t, rfl, rfl, F6, Nat.lt_of_lt_of_le (show fs.length < 1000000 by rw [hfs.1]; omega) (by decide), fs ++ [.ref t], _, _, _, _, _, _, rfl, Evl.Ex.mut e7 hFo, upd_same, ((hfs.ex (Evl.Ex.trans e5 e6)).kt (Kt.lst F6)).snoc ((Kt.lst F6).sq (Evl.st_of upd_same)) ((hp5.ex e6).kt (Kt.lst F6))⟩
    · rintro _ H2 ⟨fs, o3, o4, o5, o6, o7, o8, rfl, e, hF2, hfs⟩
      exact ⟨_, rfl, Fo, fs, rfl, .inl ⟨Evl.sq_of hF2, fun l hl => k l _ fs (Evl.Ex.trans e (Evl.Ex.new hl)) (Evl.st_of upd_same) (hfs.ex (Evl.Ex.new hl))⟩⟩
end
end KK
end
/-! K24 -/
section
set_option Elab.async false
set_option linter.all false
set_option maxRecDepth 100000
namespace KK
open PySem PySem.Spec PyProof.Rows L2 KM LX LamX NdefX
section
variable {P : Program} {w : World} {K : PySem.W.Frag} {mg : Str → Option Value} {base : Heap} {T9 : LX.TL} {CH : Addr}
abbrev s_Hidden_chance : Stmt := inClass (top 39) 5
abbrev N_Hidden_chance : List Str := ["self", "word"]
theorem sc_Hidden_chance : FnScope N_Hidden_chance ["self", "word"] (C8.fnScope s_Hidden_chance) := C8.fnScope_by (by decide +kernel)
-- slots: self=0 word=1
theorem RowsOf.last {H : Hp} {xs : List V} {n m : Nat} {R : Nat → Nat → Rat} (h : RowsOf K H xs (n + 1) m R) : ∃ t ys, atI xs (-1) = some (.ref t) ∧ SqT K H t ys ∧ Pq K H ys m (R n) := by
  obtain ⟨t, zs, ht, hts, hzs⟩ := h.get (show n < n + 1 by omega)
  refine ⟨t, zs, ?_, hts, hzs⟩
  have hne : xs ≠ [] := fun z => by have := h.1; rw [z] at this; simp at this
  have e8 : xs.getLast hne = .ref t := by
    rw [List.getLast_eq_getElem]
    have := ht
    rw [List.getElem?_eq_getElem (by rw [h.1]; omega)] at this
    have h7 := Option.some.inj this
    rw [← h7]
    congr 1
    rw [h.1]
    omega
  rw [← List.dropLast_concat_getLast hne, e8]
  exact atI_last _ _
def spHChance (K : PySem.W.Frag) (CH : Addr) : Sp := fun vs H Q _ => ∃ (v : V) (m n c : Nat) (wd z : Str) (v0 : Nat → Rat) (R : Nat → Nat → Rat), vs = [v, .str wd] ∧ HiddenAt K CH H v m z v0 R ∧ z = ⟨#[c]⟩ ∧ Builtin.Str.occurrences z z 0 z.length 1 = [0] ∧ wd.cps.size = n + 1 ∧ wd.length = n + 1 ∧ n + 1 ≤ 1000 ∧ m ≤ 100 ∧ wd.cps.all (· < 128) = true ∧ (∀ (i c' : Nat), wd.cps[i]? = some c' → c' = c) ∧ (∀ i, i < n + 1 → StSm m R (itr m R v0 i)) ∧ (∀ i, i ≤ m → sm (sumq i (itr m R v0 n))) ∧ RetP K H Q (sumq m (itr m R v0 n))
theorem mt_Hidden_chance' {f : Addr} {fd : FuncData} (T : Tx K mg) (cl : Cls K CH) (me : Meth K CH "chance" f) (F : C8.Fun K "chance" "Hidden.chance" s_Hidden_chance f fd) (bf : Binds K fd ["self", "word"] []) (c_total : C8.Cal P w K mg base 4 "total" (spTotal K) [])
    (mt_Hidden_ahead : C8.Met P w K mg base 5 CH "ahead" (spHAhead K CH) []) : C8.Met P w K mg base 6 CH "chance" (spHChance K CH) [] := by
  refine C8.met0 cl me F bf sc_Hidden_chance (fun vs H Q E h => ?_) (fun cdv A outer s H vs Q E hr h => ?_)
  · obtain ⟨_, _, _, _, _, _, _, _, rfl, _⟩ := h; rfl
  · obtain ⟨v, m, n, c, wd, z, v0, R, rfl, hv, hzc, hz, hn, hl, hn2, hm, hasc, hall, hS, hss, k⟩ := h
    refine ⟨_, (pss_one (ps_ret (pe_ifExp (pt_cmpR op_gt (pe_callB call_len_str (by rfl) T.n_len (by decide +kernel) (pa_cons (pv 1) pa_nil)) pe_int (nomark _)) (C8.pe_c c_total hr (by omega) (by rfl) (pa_cons (pe_ix ix_tup (C8.pe_mt mt_Hidden_ahead hr (by omega) (pv 0) (pa_cons (pv 1) pa_nil)) (pe_un un_neg pe_int) (fun _ _ => rfl)) pa_nil)) (pe_tup (pa_cons pe_int (pa_cons pe_int pa_nil)))))), ?_⟩
    obtain ⟨a, dx, Fa, Fl, Sl, xs, ys, ss, rfl, ha, _⟩ := id hv
    refine ⟨_, rfl, wd, rfl, Nat.le_trans (by omega : wd.length ≤ 1000) (by decide), _, _, rfl, rfl, _, rfl, ?_⟩
    rw [decide_eq_true (by omega)]
    refine iteT ⟨_, rfl, a, dx, _, rfl, ha, rfl, _, rfl, .ref a, m, n + 1, c, wd, z, v0, R, rfl, hv, hzc, hz, hn, hn2, hm, hasc, hall, hS, fun t H1 ys1 e1 ht hys => ?_⟩
    obtain ⟨t2, zs, hat, hts, hzs⟩ := hys.last
    exact ⟨_, rfl, t, ys1, -1, .ref t2, rfl, rfl, ht, hat, t2, zs, m, _, rfl, .inr hts, hzs, (hS n (by omega)).hv, hss, fun v9 H9 e9 h9 => k v9 H9 (Evl.Ex.trans e1 e9) h9⟩
end
end KK
end
/-! K25 -/
section
set_option Elab.async false
set_option linter.all false
set_option maxRecDepth 100000
namespace KK
open PySem PySem.Spec PyProof.Rows L2 KM LX LamX NdefX
section
variable {P : Program} {w : World} {K : PySem.W.Frag} {mg : Str → Option Value} {base : Heap} {T9 : LX.TL} {CS : Addr}
theorem upd_swap {H : Hp} {a b : Addr} {x y : HO} (h : a ≠ b) : upd (upd H a x) b y = upd (upd H b y) a x := by
  funext c
  by_cases ca : c = a
  · subst ca
    rw [upd_ne h, upd_same, upd_same]
  · by_cases cb : c = b
    · subst cb
      rw [upd_same, upd_ne ca, upd_same]
    · rw [upd_ne cb, upd_ne ca, upd_ne ca, upd_ne cb]
theorem upd_self {H : Hp} {a : Addr} {x : HO} (h : H a = some x) : upd H a x = H := by
  funext c
  by_cases ca : c = a
  · subst ca
    rw [upd_same, h]
  · rw [upd_ne ca]
/-- a list of dicts of ints, made after B -/
structure SubAt (B H : Hp) (D : Addr) (as : List Addr) (tb : Nat → IL) : Prop where
  ex : Ex B H
  tab : H D = some (.lst (as.map V.ref))
  tn : B D = none
  nd : as.Nodup
  dn : D ∉ as
  at_ : ∀ (c : Nat) (a : Addr), as[c]? = some a → B a = none ∧ H a = some (.dK (dk (tb c))) ∧ ((tb c).map (·.1)).Nodup ∧ ∀ p ∈ tb c, 0 ≤ p.2
theorem SubAt.new {B H : Hp} {D a : Addr} {as : List Addr} {tb : Nat → IL} {o : HO} (h : SubAt B H D as tb) (n : H a = none) : SubAt B (upd H a o) D as tb :=
  ⟨Evl.Ex.trans h.ex (Evl.Ex.new n), (upd_ne (ne_of_none h.tab n)).trans h.tab, h.tn, h.nd, h.dn, fun c b hb => by
    obtain ⟨h1, h2, h3⟩ := h.at_ c b hb
    exact ⟨h1, (upd_ne (ne_of_none h2 n)).trans h2, h3⟩⟩
theorem SubAt.put {B H : Hp} {D a : Addr} {as : List Addr} {tb : Nat → IL} {c : Nat} {rows : IL} (h : SubAt B H D as tb) (ha : as[c]? = some a) (nd : (rows.map (·.1)).Nodup) (nn : ∀ p ∈ rows, 0 ≤ p.2) : SubAt B (upd H a (.dK (dk rows))) D as (fun i => if i = c then rows else tb i) :=
  ⟨Evl.Ex.mut h.ex (h.at_ c a ha).1, (upd_ne fun z => h.dn (by rw [z]; exact List.mem_of_getElem? ha)).trans h.tab, h.tn, h.nd, h.dn, fun i b hb => by
    obtain ⟨h1, h2, h3, h4⟩ := h.at_ i b hb
    by_cases e : i = c
    · subst e
      rw [ha] at hb
      cases hb
      simp only [if_pos]
      exact ⟨h1, upd_same, nd, nn⟩
    · have ne : b ≠ a := fun z => e (by
        have hl : i < as.length := (List.getElem?_eq_some_iff.mp hb).1
        exact (List.getElem?_inj hl h.nd).mp (by rw [hb, ha, z]))
      simp only [if_neg e]
      exact ⟨h1, (upd_ne ne).trans h2, h3, h4⟩⟩
theorem SubAt.one {B H : Hp} {D r : Addr} {as : List Addr} {tb : Nat → IL} {rows : IL} (h : SubAt B H D as tb) (hr : H r = none) (hB : B r = none) (nd : (rows.map (·.1)).Nodup) (nn : ∀ p ∈ rows, 0 ≤ p.2) (hl : 0 < as.length) : SubAt B (upd (upd H r (.dK (dk rows))) D (.lst ((as.map V.ref).set 0 (.ref r)))) D (as.set 0 r) (fun i => if i = 0 then rows else tb i) := by
  obtain ⟨e, t, tn, nd0, dn, at_⟩ := h
  match as, hl with
  | a :: as, _ =>
    have rD : D ≠ r := ne_of_none t hr
    have rn : ∀ i b, (a :: as)[i]? = some b → b ≠ r := fun i b hb => ne_of_none (at_ i b hb).2.1 hr
    have nd1 := List.nodup_cons.mp nd0
    refine ⟨Evl.Ex.mut (Evl.Ex.trans e (Evl.Ex.new hr)) tn, ?_, tn, ?_, ?_, fun i b hb => ?_⟩
    · rw [upd_same]; rfl
    · show (r :: as).Nodup
      exact List.nodup_cons.mpr ⟨fun z => by
        obtain ⟨i, hi⟩ := List.getElem?_of_mem z
        exact rn (i + 1) r hi rfl, nd1.2⟩
    · show D ∉ r :: as
      exact fun z => (List.mem_cons.mp z).elim rD fun z => dn (List.mem_cons_of_mem _ z)
    · cases i with
      | zero =>
        have hb : r = b := Option.some.inj hb
        subst hb
        exact ⟨hB, by rw [upd_ne (Ne.symm rD), upd_same]; rfl, nd, nn⟩
      | succ i =>
        have hb : (a :: as)[i + 1]? = some b := hb
        obtain ⟨h1, h2, h3⟩ := at_ _ _ hb
        refine ⟨h1, ?_, ?_⟩
        · rw [upd_ne (fun z => dn (by rw [← z]; exact List.mem_of_getElem? hb)), upd_ne (rn _ _ hb)]
          exact h2
        · exact h3
abbrev s_sums_of : Stmt := top 55
abbrev N_sums_of : List Str := ["values", "few", "count", "table", "value", "whole", "weight"]
theorem sc_sums_of : FnScope N_sums_of ["values", "few"] (C8.fnScope s_sums_of) := C8.fnScope_by (by decide +kernel)
-- slots: values=0 few=1 count=2 table=3 value=4 whole=5 weight=6
def spSums (K : PySem.W.Frag) (CS : Addr) : Sp := fun vs H Q _ => ∃ (p : Addr) (xs : List Int) (few : Nat), vs = [.ref p, .int (few : Nat)] ∧ SqL K H p (xs.map V.int) ∧ few ≤ xs.length ∧ xs.length ≤ 14 ∧ RetS CS H Q (subs (fun i => xs.getD i 0) xs.length few) 16384
theorem k_sums_of {f : Addr} {fd : FuncData} (T : Tx K mg) (Df : C8.Def K mg "sums_of" s_sums_of f fd) (bf : Binds K fd ["values", "few"] []) (m_Spread : C8.Mak P w K mg base 2 "Spread" CS (spInit CS) []) : C8.Cal P w K mg base 4 "sums_of" (spSums K CS) [] := by
  refine C8.cal0 Df bf .nil sc_sums_of (fun vs H Q E h => ?_) (fun cdv A outer s H vs Q E hr h => ?_)
  · obtain ⟨_, _, _, rfl, _⟩ := h; rfl
  · obtain ⟨p, xs, few, rfl, hp, hf, hl, k⟩ := h
    refine ⟨_, (pss_cons (ps_if (pt_not (pt_chain op_le op_le pe_int (pv 1) (pe_callB call_len_seq (by rfl) T.n_len (by decide +kernel) (pa_cons (pv 0) pa_nil)))) pss_never pss_nil)
      (pss_cons (ps_setLc (i := 3) (own := [("count", 2)]) rfl sc_sums_of.nd rfl rfl (sw_true rfl rfl rfl (by decide +kernel)) (pi_range1 (by rfl) T.n_range (pa_cons (pe_op op_add (pv 1) pe_int) pa_nil)) (by first | exact blkOk_by (N := N_sums_of) (sc := C8.fnScope s_sums_of) (by decide +kernel) | exact blkOk_by (by rfl)) (fun _ _ _ _ _ => castPG (pg_name (i := 2) sc_sums_of.nd rfl (Or.inl rfl) (by first | exact Or.inr rfl | exact Or.inl rfl)) (by first | (dsimp only [Cx.blk]; done) | rfl)) (fun _ _ _ _ _ => castPTs (pts_nil) (by first | (dsimp only [Cx.blk]; done) | rfl)) (fun _ _ _ _ _ => castPE pe_dnewK (by first | (dsimp only [Cx.blk]; done) | rfl)))
      (pss_cons (ps_asg (pe_disp (pps_cons pe_int pe_int pps_nil) (by rfl) (by rfl) (fun z => by cases z) (by decide)) (pg_sub (pv 3) pe_int set_list))
      (pss_cons (ps_for PassesOwn.never rfl (pi_list (pv 0)) (pg_name (i := 4) sc_sums_of.nd rfl (Or.inl rfl) (by exact Or.inl rfl))
      (pss_one (ps_for PassesOwn.never rfl (pi_range3 (by rfl) T.n_range (pa_cons (pv 1) (pa_cons pe_int (pa_cons (pe_un un_neg pe_int) pa_nil)))) (pg_name (i := 2) sc_sums_of.nd rfl (Or.inl rfl) (by exact Or.inl rfl))
        (pss_one (ps_lock (ps_for PassesOwn.never rfl (pi_items (pe_ix ix_list (pv 3) (pe_op op_sub (pv 2) pe_int) (fun _ _ => rfl))) (pg_tup (n := 2) rfl (pgs_cons (pg_name (i := 5) sc_sums_of.nd rfl (Or.inl rfl) (by exact Or.inl rfl)) (pgs_cons (pg_name (i := 6) sc_sums_of.nd rfl (Or.inl rfl) (by exact Or.inl rfl)) pgs_nil)))
          (pss_one (ps_dput hr.u1 (pe_ix ix_list (pv 3) (pv 2) (fun _ _ => rfl)) (pe_op op_add (pv 5) (pv 4)) (pe_op op_add (pe_dget2 hr.u1 (pe_ix ix_list (pv 3) (pv 2) (fun _ _ => rfl)) (pe_op op_add (pv 5) (pv 4)) pe_int ⟨rfl, by rfl, rfl, rfl⟩) (pv 6)) rfl))))))))
      (pss_one (ps_ret (C8.pe_mk m_Spread hr (by omega) (by rfl) (pa_cons (pe_ix ix_list (pv 3) (pv 1) (fun _ _ => rfl)) pa_nil)))))))), ?_⟩
    refine ⟨_, rfl, _, _, rfl, rfl, _, rfl, ?_⟩
    rw [decide_eq_true (by omega)]
    refine iteT ⟨_, rfl, p, _, rfl, .inl hp, _, _, rfl, rfl, _, rfl, ?_⟩
    rw [List.length_map, decide_eq_true (by omega)]
    refine ⟨_, rfl, _, _, rfl, rfl, ((few : Nat) : Int) + 1, rfl, by omega, by omega, fun D hD => ?_⟩
    refine lc_n (n := few + 1) (fun i acc H' => ∃ as : List Addr, acc = as.map V.ref ∧ as.length = i ∧ D ∉ as ∧ as.Nodup ∧ Ex H H' ∧ ∀ (c : Nat) (a : Addr), as[c]? = some a → H a = none ∧ H' a = some (.dK (dk []))) ⟨[], rfl, rfl, by simp, List.nodup_nil, Evl.Ex.new hD, fun c a h => ?_⟩ (fun i acc H' hi _ => by show i < ((few : Int) + 1).toNat; omega) (fun acc H' _ => by show ((few : Int) + 1).toNat ≤ few + 1; omega) (fun i acc H1 u H2 hi hacc pv hy => ?_) (fun acc H1 hacc pv => ?_)
    · cases h
    · obtain ⟨rfl, rfl⟩ := hy
      obtain ⟨as, rfl, hal, hDn, nd, e, hat⟩ := pv
      refine ⟨rfl, ?_⟩
      dsimp only [tYes]
      rw [if_pos rfl]
      refine fun r hr0 => ?_
      have hac2 : upd H2 r (.dK []) D = some (.lst (as.map V.ref)) := (upd_ne (ne_of_none hacc hr0)).trans hacc
      refine App.of hac2 (by rw [List.length_map]; omega) ⟨as ++ [r], by simp, by simp [hal], fun z => (List.mem_append.mp z).elim hDn fun z => ne_of_none hacc hr0 (List.mem_singleton.mp z), ?_, Evl.Ex.mut (Evl.Ex.trans e (Evl.Ex.new hr0)) hD, fun c a hc => ?_⟩
      · rw [List.nodup_append]
        refine ⟨nd, by simp, fun a ha b hb z => ?_⟩
        rw [List.mem_singleton] at hb
        obtain ⟨c, hc⟩ := List.getElem?_of_mem ha
        exact ne_of_none (hat c a hc).2 hr0 (z.trans hb)
      · have key : a ≠ D → H a = none ∧ upd H2 r (.dK []) a = some (.dK (dk [])) → H a = none ∧ upd (upd H2 r (.dK [])) D (.lst (as.map V.ref ++ [.ref r])) a = some (.dK (dk [])) := fun n h => ⟨h.1, (upd_ne n).trans h.2⟩
        rw [List.getElem?_append] at hc
        split at hc
        · have h1 := hat c a hc
          exact key (fun z => hDn (by rw [← z]; exact List.mem_of_getElem? hc)) ⟨h1.1, (upd_ne (ne_of_none h1.2 hr0)).trans h1.2⟩
        · have hra : r = a := by
            have h3 := List.mem_of_getElem? hc
            exact (List.mem_singleton.mp h3).symm
          subst hra
          exact key (Ne.symm (ne_of_none hacc hr0)) ⟨none_ex e hr0, upd_same⟩
    · obtain ⟨as, rfl, hal, hDn, nd, e, hat⟩ := pv
      have S0 : SubAt H H1 D as (fun _ => []) := ⟨e, hacc, hD, nd, hDn, fun c a hc => ⟨(hat c a hc).1, (hat c a hc).2, List.nodup_nil, fun q hq => by cases hq⟩⟩
      refine fun r hr0 => ⟨upd_same, [(.inl 0, .int 1)], rfl, (by show 1 ≤ 15; decide), ?_⟩
      rw [upd_upd]
      have S1 := S0.one (rows := [(0, 1)]) hr0 (none_ex e hr0) (by simp) (by simp) (by omega)
      refine ⟨_, rfl, D, _, 0, 0, rfl, rfl, (upd_ne (ne_of_none hacc hr0)).trans hacc, ixN_nat (n := (as.map V.ref).length) (j := 0) (by rw [List.length_map]; omega), ?_⟩
      have S1 : SubAt H (upd (upd H1 r (.dK (mergeK [] [(.inl 0, .int 1)]))) D (.lst ((as.map V.ref).set 0 (.ref r)))) D (as.set 0 r) (fun i => if i = 0 then [(0, 1)] else []) := S1
      have hal1 : (as.set 0 r).length = few + 1 := by rw [List.length_set]; exact hal
      generalize (upd (upd H1 r (.dK (mergeK [] [(.inl 0, .int 1)]))) D (.lst ((as.map V.ref).set 0 (.ref r)))) = G0 at S1
      generalize as.set 0 r = as1 at S1 hal1
      clear S0 hat nd hDn hacc hal
      have hv : ∀ i (h : i < xs.length), xs.getD i 0 = xs[i] := fun i h => by rw [List.getD_eq_getElem?_getD, List.getElem?_eq_getElem h]; rfl
      refine ⟨_, rfl, p, rfl, ⟨_, Evl.ex_l S1.ex hp⟩, ?_⟩
      refine for_n (n := xs.length) (fun i σ' H' => ∃ (tb : Nat → IL) (o2 o4 o5 o6 : Option V), σ' = [some (.ref p), some (.int (few : Nat)), o2, some (.ref D), o4, o5, o6] ∧ SubAt H H' D as1 tb ∧ ∀ c, c ≤ few → (∀ φ, ms (tb c) φ = subs (fun i => xs.getD i 0) i c φ) ∧ (tb c).length ≤ 2 ^ i)
        ⟨_, _, _, _, _, rfl, S1, fun c hc => ⟨fun φ => ?_, ?_⟩⟩ (fun i σ' H' hi ⟨_, _, _, _, _, _, S, _⟩ => ⟨_, .int xs[i], Evl.ex_l S.ex hp, by rw [List.getElem?_map, List.getElem?_eq_getElem hi]; rfl⟩) (fun σ' H' ⟨_, _, _, _, _, _, S, _⟩ => ⟨_, Evl.ex_l S.ex hp, by simp⟩) ?_ ?_
      · rw [subs_z]
        by_cases z : c = 0
        · rw [if_pos z, if_pos z]; simp
        · rw [if_neg z, if_neg z]; simp
      · by_cases z : c = 0
        · rw [if_pos z]; exact Nat.le_refl _
        · rw [if_neg z]; exact Nat.zero_le _
      · rintro i _ H' u H2 hi ⟨tb, o2, o4, o5, o6, rfl, S, hS⟩ ⟨rfl, hu⟩
        have hu' := hu _ (Evl.ex_l S.ex hp)
        rw [List.getElem?_map, List.getElem?_eq_getElem hi] at hu'
        obtain rfl : V.int xs[i] = u := Option.some.inj hu'
        refine ⟨_, rfl, _, rfl, ((few : Nat) : Int), 0, -1, _, rfl, RgC.neg (by omega) (by omega) (by omega) (by omega), ?_⟩
        refine for_n (n := few) (fun j σ' H' => ∃ (tb : Nat → IL) (o2 o5 o6 : Option V), σ' = [some (.ref p), some (.int (few : Nat)), o2, some (.ref D), some (.int xs[i]), o5, o6] ∧ SubAt H H' D as1 tb ∧ ∀ c, c ≤ few → if few - j < c then ((∀ φ, ms (tb c) φ = subs (fun i => xs.getD i 0) (i + 1) c φ) ∧ (tb c).length ≤ 2 ^ (i + 1)) else ((∀ φ, ms (tb c) φ = subs (fun i => xs.getD i 0) i c φ) ∧ (tb c).length ≤ 2 ^ i))
          ⟨tb, _, _, _, rfl, S, fun c hc => by rw [if_neg (by omega)]; exact hS c hc⟩ (fun j σ' H' hj _ => by show j < (((few : Nat) : Int) - 0).toNat; omega) (fun σ' H' _ => by show (((few : Nat) : Int) - 0).toNat ≤ few; omega) ?_ ?_
        · rintro j _ H3 u3 H4 hj ⟨tb, o2, o5, o6, rfl, S, hS⟩ ⟨rfl, rfl⟩
          obtain ⟨cc, hcc⟩ : ∃ cc, few - j = cc + 1 := ⟨few - j - 1, by omega⟩
          have ecc : ((few : Nat) : Int) + (j : Nat) * -1 = ((cc + 1 : Nat) : Int) := by omega
          obtain ⟨d, hd⟩ : ∃ d, as1[cc]? = some d := ⟨_, List.getElem?_eq_getElem (by omega)⟩
          obtain ⟨a, ha⟩ : ∃ a, as1[cc + 1]? = some a := ⟨_, List.getElem?_eq_getElem (by omega)⟩
          have had : a ≠ d := fun z => by
            have := (List.getElem?_inj (by omega) S.nd).mp (ha.trans (z ▸ hd.symm))
            omega
          have hdD : d ≠ D := fun z => S.dn (by rw [← z]; exact List.mem_of_getElem? hd)
          have hold := hS cc (by omega)
          have holc := hS (cc + 1) (by omega)
          rw [if_neg (by omega)] at hold holc
          have hd4 := (S.at_ cc d hd).2.1
          refine ⟨d, .dK (dk (tb cc)), hd4, trivial, fun od => ?_⟩
          have gA : ∀ (c : Nat) (b : Addr), as1[c]? = some b → (as1.map V.ref)[c]? = some (.ref b) := fun c b h => by rw [List.getElem?_map, h]; rfl
          refine ⟨_, rfl, _, rfl, _, _, rfl, rfl, D, as1.map V.ref, ((cc : Nat) : Int), .ref d, rfl, (by show V.int (((few : Nat) : Int) + (j : Nat) * -1 - 1) = _; rw [ecc]; congr 1; omega), Evl.sq_of ((upd_ne (Ne.symm hdD)).trans S.tab), atI_nat (gA _ _ hd), d, od, dk (tb cc), rfl, upd_same, ?_⟩
          refine for_n (n := (tb cc).length) (fun t σ' H' => ∃ (rows : IL) (o5 o6 : Option V), σ' = [some (.ref p), some (.int (few : Nat)), some (.int (((few : Nat) : Int) + (j : Nat) * -1)), some (.ref D), some (.int xs[i]), o5, o6] ∧ H' d = some (.frz od (.dK (dk (tb cc)))) ∧ SubAt H (upd H' d (.dK (dk (tb cc)))) D as1 (fun c => if c = cc + 1 then rows else tb c) ∧ (∀ φ, ms rows φ = subs (fun i => xs.getD i 0) i (cc + 1) φ + ms ((tb cc).take t) fun x => φ (x + xs[i])) ∧ rows.length ≤ 2 ^ i + t)
            ⟨tb (cc + 1), _, _, rfl, upd_same, ?_, fun φ => by rw [holc.1 φ]; simp, by have := holc.2; omega⟩ (fun t σ' H' ht ⟨_, _, _, _, e, _⟩ => ⟨e, by rw [dk_len]; exact ht⟩) (fun σ' H' ⟨_, _, _, _, e, _⟩ => ⟨e, by rw [dk_len]; exact Nat.le_refl _⟩) ?_ ?_
          · rw [upd_upd, upd_self hd4]
            have : (fun c => if c = cc + 1 then tb (cc + 1) else tb c) = tb := by
              funext c
              by_cases z : c = cc + 1
              · rw [if_pos z, z]
              · rw [if_neg z]
            rw [this]
            exact S
          · rintro t _ H5 u5 H6 ht ⟨rows, o5, o6, rfl, hd5, S5, hms, hlen⟩ ⟨T0, kk, vv, hk, rfl, hT0, rfl⟩
            obtain ⟨x, b, hab, rfl, rfl⟩ := dk_get hk
            have hTd : d ≠ T0 := ne_of_none hd5 hT0
            have S6 : SubAt H (upd (upd H5 T0 (.tup [kV (Sum.inl x), .int b])) d (.dK (dk (tb cc)))) D as1 (fun c => if c = cc + 1 then rows else tb c) := by
              rw [upd_swap (Ne.symm hTd)]
              exact S5.new (by rw [upd_ne (Ne.symm hTd)]; exact hT0)
            have hd6 : upd H5 T0 (.tup [kV (Sum.inl x), .int b]) d = some (.frz od (.dK (dk (tb cc)))) := (upd_ne hTd).trans hd5
            have hb0 := (S.at_ cc d hd).2.2.2 (x, b) (List.mem_of_getElem? hab)
            refine ⟨T0, _, rfl, Evl.st_of upd_same, rfl, _, _, rfl, _, _, rfl, rfl, ?_⟩
            generalize (upd H5 T0 (.tup [kV (Sum.inl x), .int b])) = G6 at S6 hd6
            have h6 := S6.at_ (cc + 1) a ha
            simp only [if_pos] at h6
            obtain ⟨hBa, hGa, nd6, nn6⟩ := h6
            rw [upd_ne had] at hGa
            have hDG : G6 D = some (.lst (as1.map V.ref)) := (upd_ne (Ne.symm hdD)).symm.trans S6.tab
            have eix : V.int (((few : Nat) : Int) + (j : Nat) * -1) = V.int ((cc + 1 : Nat) : Int) := by rw [ecc]
            refine ⟨_, rfl, _, rfl, D, as1.map V.ref, ((cc + 1 : Nat) : Int), .ref a, rfl, eix, Evl.sq_of hDG, atI_nat (gA _ _ ha), a, rfl, .inl ⟨_, .inl hGa⟩, _, rfl, _, rfl, _, _, rfl, rfl, valV (dk rows) (.inl (x + xs[i])), .inl ⟨dk rows, .inl (x + xs[i]), .inl hGa, rfl, rfl⟩, _, rfl, getI rows (x + xs[i]), b, dk_val _ _, rfl, ?_⟩
            refine ⟨_, rfl, _, rfl, D, as1.map V.ref, ((cc + 1 : Nat) : Int), .ref a, rfl, eix, Evl.sq_of hDG, atI_nat (gA _ _ ha), _, rfl, _, rfl, _, _, rfl, rfl, a, _, rfl, .inl ⟨dk rows, .inl (x + xs[i]), hGa, rfl, Evl.sz_lt ?_, rfl⟩, ?_⟩
            · rw [dk_len]
              have h2 : 2 ^ i ≤ 2 ^ 14 := Nat.pow_le_pow_right (by decide) (by omega)
              have h3 : (2 : Nat) ^ 14 = 16384 := by decide
              have h4 := hold.2
              omega
            · rw [dk_put _ _ nd6]
              refine ⟨bump rows (x + xs[i]) b, _, _, rfl, (upd_ne (Ne.symm had)).trans hd6, ?_, fun φ => ?_, by have := length_bump rows (x + xs[i]) b; omega⟩
              · rw [upd_swap had]
                have S7 := S6.put (rows := bump rows (x + xs[i]) b) ha (nodup_bump _ _ nd6) (vals_bump nn6 hb0)
                have : (fun c => if c = cc + 1 then bump rows (x + xs[i]) b else (fun c => if c = cc + 1 then rows else tb c) c) = fun c => if c = cc + 1 then bump rows (x + xs[i]) b else tb c := by
                  funext c
                  by_cases z : c = cc + 1
                  · rw [if_pos z, if_pos z]
                  · rw [if_neg z, if_neg z]; exact if_neg z
                rw [this] at S7
                exact S7
              · rw [ms_bump, hms, ms_take hab]
                exact Int.add_assoc _ _ _
          · rintro _ H5 ⟨rows, o5, o6, rfl, hd5, S5, hms, hlen⟩
            rw [List.take_length] at hms
            refine ⟨hd5, _, _, _, _, rfl, S5, fun c hc => ?_⟩
            by_cases z : c = cc + 1
            · subst z
              rw [if_pos (by omega)]
              simp only [if_pos]
              refine ⟨fun φ => ?_, ?_⟩
              · rw [hms, subs_ss, hold.1, hv i hi]
              · have := hold.2
                rw [Nat.pow_succ]
                omega
            · simp only [if_neg z]
              have := hS c hc
              by_cases z2 : few - j < c
              · rw [if_pos z2] at this
                rw [if_pos (by omega)]
                exact this
              · rw [if_neg z2] at this
                rw [if_neg (by omega)]
                exact this
        · rintro _ H3 ⟨tb, o2, o5, o6, rfl, S, hS⟩
          refine ⟨tb, _, _, _, _, rfl, S, fun c hc => ?_⟩
          have := hS c hc
          by_cases z : c = 0
          · subst z
            rw [if_neg (by omega)] at this
            refine ⟨fun φ => by rw [this.1, subs_s0], ?_⟩
            have := this.2
            rw [Nat.pow_succ]
            omega
          · rw [if_pos (by omega)] at this
            exact this
      · rintro _ H' ⟨tb, o2, o4, o5, o6, rfl, S, hS⟩
        obtain ⟨af, haf⟩ : ∃ a, as1[few]? = some a := ⟨_, List.getElem?_eq_getElem (by omega)⟩
        obtain ⟨hB, hA, nd, nn⟩ := S.at_ few af haf
        obtain ⟨hms, hlen⟩ := hS few (Nat.le_refl _)
        have hl2 : (tb few).length ≤ 16384 := Nat.le_trans hlen (by have := Nat.pow_le_pow_right (show 0 < 2 by decide) hl; exact this)
        have hone : (ms (tb few) fun _ => 1) = (bin xs.length few : Nat) := by rw [hms, subs_const, Int.mul_one]
        have hbp := bin_pos (n := xs.length) (k := few) hf
        refine ⟨_, rfl, _, rfl, D, as1.map V.ref, ((few : Nat) : Int), .ref af, rfl, rfl, Evl.sq_of S.tab, atI_nat (by rw [List.getElem?_map, haf]; rfl), ?_⟩
        refine mk_sp (rows := tb few) (.inl hA) nd nn (by rw [hone]; omega) ?_ (by omega) fun v H2 ws e2 h1 h2 h3 => k v H2 ws (Evl.Ex.trans S.ex e2) h1 (h2.congr hms) (by omega)
        rw [hone]
        exact (Lt2.nn (a := 64) (by omega) (bin_lt (by omega))).up (by decide)
end
end KK
end
/-! K26 -/
section
set_option Elab.async false
set_option linter.all false
set_option maxRecDepth 100000
namespace KK
open PySem PySem.Spec PyProof.Rows L2 KM LX LamX NdefX
section
variable {P : Program} {w : World} {K : PySem.W.Frag} {mg : Str → Option Value} {base : Heap} {T9 : LX.TL} {CS : Addr}
/-! ### cells lent, and given back -/
theorem lent_ex {cl : List (Str × Addr)} {H H3 : Hp} (L : Lent cl H H3) : Ex H H3 := fun b o h => (L.same b fun z => by rw [L.was b z] at h; cases h).trans h
theorem codeO_objO {c : Addr} {q : Str} {o : Obj} {v : Option Value} (hd : o.data = .cell v) : CodeO c q ≠ ObjO c o := by
  intro z
  unfold CodeO ObjO at z
  injection z with z
  have hg : ({ objs := Array.replicate (c + 1) o } : Heap).get? c = some o := by
    unfold Heap.get?
    have e : (Array.replicate (c + 1) o)[c]? = some o := by rw [Array.getElem?_replicate, if_pos (by omega)]
    show (match (Array.replicate (c + 1) o)[c]? with | some ⟨_, _, .freed, _⟩ => none | o => o) = some o
    rw [e]
    obtain ⟨o1, o2, o3, o4⟩ := o
    have hd : o3 = .cell v := hd
    subst hd
    rfl
  have h2 := congrFun z ({ objs := Array.replicate (c + 1) o } : Heap)
  have h3 : ∃ (oc : Obj) (vs : Array Value) (t : Tok), ({ objs := Array.replicate (c + 1) o } : Heap).get? c = some oc ∧ oc.data = .fields vs ∧ vs[1]? = some (.str q t) := by
    rw [h2]
    exact hg
  obtain ⟨oc, vs, t, e1, e2, _⟩ := h3
  rw [hg] at e1
  cases e1
  rw [hd] at e2
  cases e2
/-- after the call: what is there without the cells -/
theorem off_mo {cl : List (Str × Addr)} {fr : List Str} {ws : List (Option V)} {H H2 H3 H4 : Hp} (m : Mo none T9 H H2) (hT : Tbs T9 H2) (L : Lent cl H2 H3) (C : CellsIn cl fr ws H3) (m4 : Mo none T9 H3 H4) :
    (∀ b, isC cl b → H4 b = H3 b) ∧ Mo none T9 H (off cl H4) ∧ ∀ {v : V} {q : Rat}, PtAt K H4 v q → PtAt K (off cl H4) v q := by
  have hc : ∀ b, isC cl b → ∃ o v, H3 b = some (ObjO b o) ∧ o.data = .cell v := fun b ⟨y, hy⟩ => C.all y b hy
  have hk : ∀ b, isC cl b → H4 b = H3 b := fun b z => by
    obtain ⟨o, v, e1, e2⟩ := hc b z
    rw [e1]
    exact m4.1 b _ (fun z => nomatch z) e1 fun ps z => by unfold ObjO at z; cases z
  have hn : ∀ b u, H4 b = some u → (∀ o v, o.data = .cell v → u ≠ ObjO b o) → off cl H4 b = some u := fun b u e n => by
    rw [off_n]
    · exact e
    · intro z
      obtain ⟨o, v, e1, e2⟩ := hc b z
      rw [hk b z, e1] at e
      exact n o v e2 (Option.some.inj e).symm
  refine ⟨hk, ⟨fun b o nb hb nt => ?_, fun _ p hp => ?_⟩, fun {v q} h => ?_⟩
  · have h2 := m.1 b o nb hb nt
    have nc : ¬ isC cl b := fun z => by rw [L.was b z] at h2; cases h2
    rw [off_n nc]
    exact m4.1 b o nb ((L.same b nc).trans h2) nt
  · have t3 : Tbs T9 H3 := fun p hp => (hT p hp).ext (lent_ex L)
    have t4 := m4.2 t3 p hp
    obtain ⟨R, z⟩ := p
    cases z with
    | none =>
      obtain ⟨qs, a1, a2⟩ := (show GxR.TabG H4 R from t4)
      exact (show GxR.TabG _ R from ⟨qs, hn _ _ a1 fun o v _ z => (by unfold ObjO at z; cases z), a2⟩)
    | some q =>
      obtain ⟨qs, a1, a2, a3⟩ := (show TabS H4 R q from t4)
      refine (show TabS _ R q from ⟨qs, hn _ _ a1 fun o v _ z => (by unfold ObjO at z; cases z), a2, fun p' cv hcv => ?_⟩)
      obtain ⟨c0, e1, e2⟩ := a3 p' cv hcv
      exact ⟨c0, e1, hn _ _ e2 fun o v hd z => codeO_objO hd z⟩
  · obtain ⟨a, rfl, h⟩ := h
    refine ⟨a, rfl, ?_⟩
    rcases h with h | h
    · rcases h with h | ⟨od, h⟩
      · exact .inl (.inl (hn _ _ h fun o v _ z => by unfold ObjO at z; cases z))
      · exact .inl (.inr ⟨od, hn _ _ h fun o v _ z => by unfold ObjO at z; cases z⟩)
    · exact .inr h
theorem pe_mtLam {X : Cx} {T : TL} {c P : Addr} {params : Arguments} {body o : Expr} {scope : Scope} {lpos pos apos : Pos} {q m : Str} {C : Addr} {sp : Sp} {fr : List Str} {js : List Nat} {j k : Nat} {ta : TE} {pl : Sem Bool}
    (cm : C8.Met X.prog X.w X.K X.mg X.base k C m sp []) (hfn : ∀ x, X.fn x = true) (hr : Room j X.A) (hk : k ≤ j) (he : PE X o ta) (TB : TabB X.base X.mg c P) (hcode : X.env.code = .ref c) (hq : X.env.qual ++ "<lambda>" = q) (hm : (P, some q) ∈ T) (hu : ∀ p ∈ T, p.1 = P → p.2 = some q)
    (hdef : defaultsOf params X.env = ([], [])) (hfree : ∀ y ∈ scope.names, y.2 = .free → X.env.scope.names.lookup y.1 = some .cell ∨ X.env.scope.names.lookup y.1 = some .free) (hfr : ∀ y ∈ fr, (y, NameKind.free) ∈ scope.names) (hjs : js.map (fun j => X.N[j]?) = fr.map some)
    (hst : starEach [.Lambda params body scope lpos] X.env = (false, eval (.Lambda params body scope lpos) X.env) :: starEach [] X.env := by rfl) (hpl : (backTo pos (starEach [.Lambda params body scope lpos] X.env)).any (·.1) = false := by rfl)
    (ht : eval (.Call (.Attribute o m apos) [.Lambda params body scope lpos] [] pos) X.env = (do
      let ov ← eval o X.env
      standAt apos.atName
      let (f, first) ← holding [ov] (getMethod ov m pl)
      callWith pos f first (backTo pos (starEach [.Lambda params body scope lpos] X.env)) (backToKw pos (keywordEach [] X.env))) := by rfl) :
    PE X (.Call (.Attribute o m apos) [.Lambda params body scope lpos] [] pos) (tMethL C m (cloFrom X.env.cells scope.names []) fr js sp ta (tCons (tLam T q (LF.made X q params body scope)) tNil)) :=
  pe_mtL cm hfn (fun ok => Caps.made ok hfree hfr hjs) hr hk he (pa_cons (pe_lam TB hcode hq hm hu hdef hfree) pa_nil) hst hpl ht
/-! ### two_lots -/
abbrev s_two_lots : Stmt := top 56
abbrev N_two_lots : List Str := ["one", "other", "spread", "far", "values", "whole", "value"]
theorem sc_two_lots : FnScope N_two_lots ["one", "other"] (C8.fnScope s_two_lots) := C8.fnScope_by (by decide +kernel)
-- slots: one=0 other=1 spread=2 far=3c values=4c whole=5c value=6
def abz (x : Int) : Int := if x < 0 then -x else x
def farB (xs ys : List Int) (x : Int) : Bool := decide (abz (xs.sum * ((xs ++ ys).length : Nat) - (xs ++ ys).sum * (xs.length : Nat)) ≤ abz (x * ((xs ++ ys).length : Nat) - (xs ++ ys).sum * (xs.length : Nat)))
def qTwo : Str := "two_lots.<locals>.<lambda>"
def spTwoLots (K : PySem.W.Frag) (T9 : LX.TL) : Sp := fun vs H Q _ => ∃ (a b : Addr) (xs ys : List Int), vs = [.ref a, .ref b] ∧ SqL K H a (xs.map V.int) ∧ SqL K H b (ys.map V.int) ∧ 1 ≤ xs.length ∧ xs.length ≤ 7 ∧ 1 ≤ ys.length ∧ ys.length ≤ 7 ∧ Tbs T9 H ∧
  ∀ v H', Mo none T9 H H' → PtAt K H' v (Rat.divInt (subs (fun i => (xs ++ ys).getD i 0) (xs ++ ys).length xs.length fun x => if farB xs ys x then 1 else 0) (bin (xs ++ ys).length xs.length : Nat)) → Q v H'
theorem k_two_lots {f c Pc : Addr} {fd : FuncData} (T : Tx K mg) (Df : FunC K "two_lots" "two_lots" s_two_lots f fd c) (hm : mg "two_lots" = some (.ref f)) (kp : PySem.W.keepIn K (.ref f) = true) (bf : Binds K fd ["one", "other"] []) (TL : LamX.TabB base mg c Pc) (hTm : (Pc, some qTwo) ∈ T9) (hTu : ∀ p ∈ T9, p.1 = Pc → p.2 = some qTwo)
    (c_sums_of : C8.Cal P w K mg base 4 "sums_of" (spSums K CS) []) (m_chance_of : C8.Met P w K mg base 3 CS "chance_of" (spChanceOf P w K mg base T9 CS) []) : C8.Cal P w K mg base 5 "two_lots" (spTwoLots K T9) [] := by
  refine calC Df hm kp bf sc_two_lots (fun vs H Q E h => ?_) (fun A outer s H vs Q E hr h => ?_)
  · obtain ⟨_, _, _, _, rfl, _⟩ := h; rfl
  · obtain ⟨a, b, xs, ys, rfl, ha, hb, h1, h7, h1', h7', hT, k⟩ := h
    refine ⟨_, (pss_cons (ps_set (i := 4) sc_two_lots.nd rfl (Or.inr rfl) (pe_op op_cat (pe_callTy call_list_of (by rfl) T.n_list (by decide +kernel) (pa_cons (pv 0) pa_nil)) (pe_callTy call_list_of (by rfl) T.n_list (by decide +kernel) (pa_cons (pv 1) pa_nil))))
      (pss_cons (ps_if (PW.pt (pw_or (pt_cmpR op_eq (pe_callB call_len_seq (by rfl) T.n_len (by decide +kernel) (pa_cons (pv 0) pa_nil)) pe_int (nomark _)) (pw_or1 (pt_cmpR op_eq (pe_callB call_len_seq (by rfl) T.n_len (by decide +kernel) (pa_cons (pv 1) pa_nil)) pe_int (nomark _))))) pss_never pss_nil)
      (pss_cons (ps_asg (pe_tup (pa_cons (C8.pe_c c_sums_of hr (by omega) (by rfl) (pa_cons (pv 4) (pa_cons (pe_callB call_len_seq (by rfl) T.n_len (by decide +kernel) (pa_cons (pv 0) pa_nil)) pa_nil))) (pa_cons (pe_op op_mul (pe_callB (cr_sum rfl) (by rfl) T.n_sum (by decide +kernel) (pa_cons (pv 4) pa_nil)) (pe_callB call_len_seq (by rfl) T.n_len (by decide +kernel) (pa_cons (pv 0) pa_nil))) pa_nil))) (pg_tup (n := 2) rfl (pgs_cons (pg_name (i := 2) sc_two_lots.nd rfl (Or.inl rfl) (by exact Or.inl rfl)) (pgs_cons (pg_name (i := 5) sc_two_lots.nd rfl (Or.inr rfl) (by exact Or.inl rfl)) pgs_nil))))
      (pss_cons (ps_set (i := 3) sc_two_lots.nd rfl (Or.inr rfl) (pe_callB call_abs (by rfl) T.n_abs (by decide +kernel) (pa_cons (pe_op op_sub (pe_op op_mul (pe_callB (cr_sum rfl) (by rfl) T.n_sum (by decide +kernel) (pa_cons (pv 0) pa_nil)) (pe_callB call_len_seq (by rfl) T.n_len (by decide +kernel) (pa_cons (pv 4) pa_nil))) (pv 5)) pa_nil)))
      (pss_one (ps_ret (pe_mtLam (T := T9) (fr := ["far", "values", "whole"]) (js := [3, 4, 5]) m_chance_of (fun _ => rfl) hr (by omega) (pv 2) TL rfl (by rfl) hTm hTu rfl (NdefX.ndef_free (sc := C8.fnScope s_two_lots) (fr := ["far", "values", "whole"]) (by decide +kernel)) (by decide +kernel) (by rfl)))))))), ?_⟩
    have eL : ((xs ++ ys).map V.int).length = xs.length + ys.length := by rw [List.length_map, List.length_append]
    refine ⟨_, rfl, a, _, rfl, .inl ha, fun l1 hl1 => ⟨_, rfl, b, _, rfl, .inl (Evl.ex_l (Evl.Ex.new hl1) hb), fun l2 hl2 => ⟨l1, l2, _, _, rfl, rfl, (upd_ne (ne_of_none upd_same hl2)).trans upd_same, upd_same, by rw [List.length_map, List.length_map]; exact Nat.le_trans (show xs.length + ys.length ≤ 14 by omega) (by decide), fun l3 hl3 => ?_⟩⟩⟩
    have e1 : Ex H (upd (upd (upd H l1 (.lst (xs.map V.int))) l2 (.lst (ys.map V.int))) l3 (.lst (xs.map V.int ++ ys.map V.int))) := Evl.Ex.trans (Evl.Ex.trans (Evl.Ex.new hl1) (Evl.Ex.new hl2)) (Evl.Ex.new hl3)
    have h3 : (upd (upd (upd H l1 (.lst (xs.map V.int))) l2 (.lst (ys.map V.int))) l3 (.lst (xs.map V.int ++ ys.map V.int))) l3 = some (.lst ((xs ++ ys).map V.int)) := by rw [upd_same, List.map_append]
    generalize (upd (upd (upd H l1 (.lst (xs.map V.int))) l2 (.lst (ys.map V.int))) l3 (.lst (xs.map V.int ++ ys.map V.int))) = H1 at e1 h3
    clear hl1 hl2 hl3
    have a1 := Evl.ex_l e1 ha
    have b1 := Evl.ex_l e1 hb
    refine ⟨_, rfl, a, _, rfl, .inl a1, rfl, _, rfl, ?_⟩
    rw [decV, decide_eq_false (by rw [List.length_map]; omega)]
    refine iteF ⟨_, rfl, b, _, rfl, .inl b1, rfl, _, rfl, ?_⟩
    rw [decV, decide_eq_false (by rw [List.length_map]; omega)]
    refine iteF ⟨_, rfl, _, rfl, a, _, rfl, .inl a1, l3, xs ++ ys, xs.length, (by rw [List.length_map]; rfl), Evl.sq_of h3, by rw [List.length_append]; omega, by rw [List.length_append]; omega, fun v H2 ws e2 hS hSp hl => ?_⟩
    have a2 := Evl.ex_l e2 a1
    have s2 : SqL K H2 l3 ((xs ++ ys).map V.int) := Evl.ex_l e2 (Evl.sq_of h3)
    have cm : ∀ (i : Int) (n : Nat), n ≤ 14 → CMul i (n : Nat) := fun i n h => .inr ⟨by omega, by omega⟩
    refine ⟨_, rfl, l3, xs ++ ys, rfl, s2, _, rfl, a, _, rfl, .inl a2, _, _, rfl, rfl, cm _ _ (by rw [List.length_map]; omega), (by show 2 ≤ sizeLine; decide), fun q hq => ⟨q, _, rfl, Evl.st_of upd_same, rfl, _, _, rfl, _, _, rfl, rfl, ?_⟩⟩
    have e3 := Evl.Ex.new (o := .tup [v, .int ((xs ++ ys).sum * ((xs.map V.int).length : Nat))]) hq
    generalize (upd H2 q (.tup [v, .int ((xs ++ ys).sum * ((xs.map V.int).length : Nat))])) = H3 at e3
    have a3 := Evl.ex_l e3 a2
    have s3 := Evl.ex_l e3 s2
    have S3 := hS.ex e3
    refine ⟨_, rfl, a, xs, rfl, a3, _, rfl, l3, _, rfl, .inl s3, _, _, rfl, rfl, cm _ _ (by rw [eL]; omega), _, rfl, _, _, rfl, rfl, _, rfl, ?_⟩
    obtain ⟨ai, dx, wd, od, rfl, hai, hwd⟩ := S3
    have m3 : Mo none T9 H H3 := Mo.of (Evl.Ex.trans (Evl.Ex.trans e1 e2) e3)
    refine ⟨_, rfl, ai, dx, _, rfl, hai, rfl, m3.2 hT, fun f1 c1 H4 m4 hT4 hn hf1 hc1 H5 L C => ?_⟩
    have ex5 := lent_ex L
    have hN : (ms ws fun _ => 1) ≤ (bin (xs ++ ys).length xs.length : Nat) := by
      have := hSp.le.2
      rw [subs_const, Int.mul_one] at this
      exact this
    have hL3 : H4 l3 = some (.lst ((xs ++ ys).map V.int)) := m4.1 _ _ (fun z => nomatch z) (e3 _ _ (e2 _ _ h3)) (fun _ z => nomatch z)
    have hb64 := bin_lt (n := (xs ++ ys).length) (k := xs.length) (by rw [List.length_append]; omega)
    have hbp := bin_pos (n := (xs ++ ys).length) (k := xs.length) (by rw [List.length_append]; omega)
    refine ⟨.ref ai, .ref f1, ws, farB xs ys, rfl, ((hS.ex e3).m m4).ex ex5, hSp.1, (Lt2.nn (a := 64) (Int.le_of_lt hSp.le.1) (Int.lt_of_le_of_lt hN hb64)).up (by decide), fun p hp => (hT4 p hp).ext ex5, ?_, fun v' H6 m6 h6 => ?_⟩
    · refine cb_of (ps := ["value"]) (fr := ["far", "values", "whole"]) (sp := fun ws vs H Q => ∃ x : Int, ws = [some (.int (abz (xs.sum * ((xs ++ ys).length : Nat) - (xs ++ ys).sum * (xs.length : Nat)))), some (.ref l3), some (.int ((xs ++ ys).sum * (xs.length : Nat)))] ∧ vs = [.int x] ∧ SqL K H l3 ((xs ++ ys).map V.int) ∧ Q (.bl (farB xs ys x)) H) ?_ (ex5 _ _ hf1) (ex5 _ _ hc1) C (fun H' vs r Q m ⟨x, e1, e2⟩ q => ⟨x, ?_, e1, ?_, by rw [← e2]; exact q⟩)
      · refine lok_of (N := ["value", "far", "values", "whole"]) (nscope_by (by dsimp only [LF.made]; decide +kernel)) ?_ (fun ws vs H Q h => ?_) (fun A outer s H vs ws Q hr hf hc hw h => ?_)
        · intro pm ctv us hu
          match us, hu with
          | [u], _ => rfl
        · obtain ⟨_, _, rfl, _⟩ := h; rfl
        · obtain ⟨x, rfl, rfl, hl3, q⟩ := h
          refine ⟨_, pe_cmpR op_ge (pe_callB call_abs (by rfl) T.n_abs (by decide +kernel) (pa_cons (pe_op op_sub (pe_op op_mul (pv 0) (pe_callB call_len_seq (by rfl) T.n_len (by decide +kernel) (pa_cons (pv 2) pa_nil))) (pv 3)) pa_nil)) (pv 1) (nomark _), ?_⟩
          refine ⟨_, rfl, _, rfl, l3, _, rfl, .inl hl3, _, _, rfl, rfl, cm _ _ (by rw [eL]; omega), _, rfl, _, _, rfl, rfl, _, rfl, _, rfl, _, _, rfl, rfl, ?_⟩
          rw [List.length_map]
          exact q
      · simp only [List.length_map]
        rfl
      · have nc : ¬ isC _ l3 := fun z => by
          have := L.was l3 z
          rw [hL3] at this
          cases this
        refine Evl.sq_of ?_
        rw [off_n nc]
        exact m.1 _ _ (fun z => nomatch z) (ex5 _ _ hL3) (fun _ z => nomatch z)
    · have O := off_mo (K := K) (m3.trans m4) hT4 L C m6
      refine ⟨O.1, k _ _ O.2.1 (O.2.2 ?_)⟩
      obtain ⟨g, hg, hgm⟩ := hSp.2
      have h1 := hgm fun _ => 1
      rw [subs_const, Int.mul_one] at h1
      rw [← h1, ← hgm, Rat.divInt_mul_left (by omega)]
      exact h6
end
end KK
end
/-! K27 -/
section
set_option Elab.async false
set_option linter.all false
set_option maxRecDepth 100000
namespace KK
open PySem PySem.Spec PyProof.Rows L2 KM LX LamX NdefX
/-! ### dicts whose keys are pairs of ints -/
abbrev PL := List ((Int × Int) × Int)
def pk (p : Int × Int) : List Key := [Sum.inl p.1, Sum.inl p.2]
theorem pk_inj {p q : Int × Int} (h : pk p = pk q) : p = q := by
  unfold pk at h
  injection h with h1 h2
  injection h2 with h2 _
  exact Prod.ext (Sum.inl.inj h1) (Sum.inl.inj h2)
def dk2 (ws : PL) : List (List Key × V) := ws.map fun p => (pk p.1, V.int p.2)
theorem dk2_len (ws : PL) : (dk2 ws).length = ws.length := by simp [dk2]
theorem dk2_get {ws : PL} {i : Nat} {k : List Key} {v : V} (h : (dk2 ws)[i]? = some (k, v)) : ∃ a b, ws[i]? = some (a, b) ∧ k = pk a ∧ v = .int b := by
  unfold dk2 at h
  rw [List.getElem?_map] at h
  obtain ⟨⟨a, b⟩, h1, h2⟩ := Option.map_eq_some_iff.mp h
  cases h2
  exact ⟨a, b, h1, rfl, rfl⟩
theorem dk2_val (ws : PL) (k : Int × Int) : (valV (dk2 ws) (pk k)).getD (.int 0) = .int (getI ws k) := by
  induction ws with
  | nil => rfl
  | cons p r ih =>
    rw [getI_cons]
    show (valV ((pk p.1, V.int p.2) :: dk2 r) (pk k)).getD _ = _
    by_cases e : p.1 = k
    · rw [valV_pos (by rw [e]), if_pos e]
      rfl
    · rw [valV_neg (fun z => e (pk_inj z)), if_neg e]
      exact ih
theorem dk2_some {ws : PL} {k : Int × Int} (h : k ∈ ws.map (·.1)) : valV (dk2 ws) (pk k) = some (.int (getI ws k)) := by
  induction ws with
  | nil => cases h
  | cons p r ih =>
    rw [getI_cons]
    show valV ((pk p.1, V.int p.2) :: dk2 r) (pk k) = _
    by_cases e : p.1 = k
    · rw [valV_pos (by rw [e]), if_pos e]
    · rw [valV_neg (fun z => e (pk_inj z)), if_neg e]
      refine ih ?_
      rcases List.mem_cons.mp h with z | z
      · exact absurd z.symm e
      · exact z
theorem dk2_put {ws : PL} (k : Int × Int) (v : Int) (nd : (ws.map (·.1)).Nodup) : putK (dk2 ws) (pk k) (.int v) = dk2 (putI ws k v) := by
  induction ws with
  | nil => rfl
  | cons p r ih =>
    obtain ⟨j, x⟩ := p
    rw [List.map_cons, List.nodup_cons] at nd
    show putK ((pk j, V.int x) :: dk2 r) (pk k) (.int v) = _
    rw [putK_cons _ _ _ _ _ (fun z => ?_), ih nd.2]
    · show _ = dk2 (if j = k then (j, v) :: r else (j, x) :: putI r k v)
      by_cases e : j = k
      · rw [if_pos e, if_pos (by rw [e])]; rfl
      · rw [if_neg e, if_neg (fun z => e (pk_inj z))]; rfl
    · unfold dk2 at z
      rw [List.map_map] at z
      obtain ⟨q, h1, h2⟩ := List.mem_map.mp z
      exact nd.1 (List.mem_map.mpr ⟨q, h1, pk_inj h2⟩)
theorem stOk_put {many X : Nat} {ws : PL} {c x : Nat} {w : Int} (h : StOk many X ws) (hc : c ≤ many) (hx : x ≤ X) (hw : 0 ≤ w) : StOk many X (bump ws ((c : Int), (x : Int)) w) := by
  refine ⟨nodup_bump _ _ h.nd, vals_bump h.nn hw, fun p hp => ?_⟩
  have hk : p.1 ∈ (bump ws ((c : Int), (x : Int)) w).map (·.1) := List.mem_map_of_mem hp
  rcases (keys_bump _ _ _ _).mp hk with z | z
  · exact ⟨c, x, z, hc, hx⟩
  · obtain ⟨q, hq, e⟩ := List.mem_map.mp z
    rw [← e]
    exact h.key q hq
theorem stOk_up {many X Y : Nat} {ws : PL} (h : StOk many X ws) (hxy : X ≤ Y) : StOk many Y ws := ⟨h.nd, h.nn, fun p hp => by
  obtain ⟨c, x, e, h1, h2⟩ := h.key p hp
  exact ⟨c, x, e, h1, Nat.le_trans h2 hxy⟩⟩
theorem stOk_nil {many X : Nat} : StOk many X [] := ⟨List.nodup_nil, fun p hp => absurd hp List.not_mem_nil, fun p hp => absurd hp List.not_mem_nil⟩
theorem ms2_bump (ws : PL) (c x : Nat) (w : Int) (ψ : Nat → Int → Int) : ms2 (bump ws ((c : Int), (x : Int)) w) ψ = ms2 ws ψ + w * ψ c x := by
  unfold ms2
  rw [ms_bump]
  rfl
/-- the step over the counts told -/
def Cst (cs : List Nat) (many keep side : Nat) (ψ : Nat → Int → Int) : Nat → Int → Int := fun c x => ((cs.map fun m => (bin (many - c) m : Int) * ψ (c + m) (x + (side : Int) * ((min m (keep - c) : Nat) : Int)))).sum
def Lst (last : Bool) (many keep side : Nat) (ψ : Nat → Int → Int) : Nat → Int → Int := fun c x => Cst (if last then [many - c] else List.range (many - c + 1)) many keep side ψ c x
theorem Lst_f {many keep side : Nat} (ψ : Nat → Int → Int) : Lst false many keep side ψ = Kst many keep side ψ := by
  funext c x
  unfold Lst Cst Kst
  rw [if_neg (by decide)]
  have : ∀ (f : Nat → Int) (n : Nat), ((List.range n).map f).sum = sumr n f := fun f n => by
    induction n with
    | zero => rfl
    | succ n ih => rw [List.range_succ, List.map_append, List.sum_append, ih]; simp [sumr]
  exact this _ _
theorem Lst_t {many keep side : Nat} {φ : Int → Int} {c : Nat} (hc : c ≤ many) (x : Int) : Lst true many keep side (fin many φ) c x = Kst many keep side (fin many φ) c x := by
  rw [Kst_fin hc]
  unfold Lst Cst
  rw [if_pos rfl]
  show ((bin (many - c) (many - c) : Nat) : Int) * (if c + (many - c) = many then _ else 0) + 0 = _
  rw [if_pos (by omega), bin_self]
  omega
section
variable {P : Program} {w : World} {K : PySem.W.Frag} {mg : Str → Option Value} {base : Heap} {T9 : LX.TL} {CS : Addr}
theorem ms_le_one2 {ws : PL} (pos : ∀ p ∈ ws, 0 ≤ p.2) : ∀ p ∈ ws, p.2 ≤ ms2 ws fun _ _ => 1 := by
  show ∀ p ∈ ws, p.2 ≤ ms ws fun _ => 1
  induction ws with
  | nil => intro p hp; cases hp
  | cons a l ih =>
    intro p hp
    rw [ms_cons]
    have h1 := pos a (by simp)
    have h2 := ms_nonneg (l := l) (φ := fun _ => 1) (fun p hp => pos p (by simp [hp])) fun _ => by decide
    rcases List.mem_cons.mp hp with rfl | hp
    · omega
    · have := ih (fun p hp => pos p (by simp [hp])) p hp
      omega
theorem ms2_take {ws : PL} {i : Nat} {c x : Nat} {b : Int} (h : ws[i]? = some (((c : Int), (x : Int)), b)) (ψ : Nat → Int → Int) : ms2 (ws.take (i + 1)) ψ = ms2 (ws.take i) ψ + b * ψ c x := by
  unfold ms2
  rw [ms_take h]
  rfl
/-- all but r stays -/
def ExB (r : Addr) (H H' : Hp) : Prop := ∀ b o, b ≠ r → H b = some o → H' b = some o
theorem ExB.go {r : Addr} {H H1 H2 : Hp} (h : ExB r H H1) (e : Ex H1 H2) : ExB r H H2 := fun b o n z => e b o (h b o n z)
theorem ExB.mut {r : Addr} {H H1 : Hp} {o : HO} (h : ExB r H H1) : ExB r H (upd H1 r o) := fun b u n z => (upd_ne n).trans (h b u n z)
theorem ExB.trans {r : Addr} {H H1 H2 : Hp} (h : ExB r H H1) (e : ExB r H1 H2) : ExB r H H2 := fun b o n z => e b o n (h b o n z)
theorem ExB.refl {r : Addr} {H : Hp} : ExB r H H := fun _ _ _ z => z
abbrev s_laid : Stmt := top 31
abbrev N_laid : List Str := ["states", "many", "keep", "side", "last", "found", "count", "whole", "weight", "counts", "more", "here"]
theorem sc_laid : FnScope N_laid ["states", "many", "keep", "side", "last"] (C8.fnScope s_laid) := C8.fnScope_by (by decide +kernel)
-- slots: states=0 many=1 keep=2 side=3 last=4 found=5 count=6 whole=7 weight=8 counts=9 more=10 here=11
def spLaid : Sp := fun vs H Q _ => ∃ (a : Addr) (many keep side X : Nat) (last : Bool) (ws : PL), vs = [.ref a, .int (many : Nat), .int (keep : Nat), .int (side : Nat), .bl last] ∧ H a = some (.dT (dk2 ws)) ∧ StOk many X ws ∧ many ≤ 8 ∧ keep ≤ 8 ∧ side ≤ 12 ∧ X ≤ 2000 ∧ Lt2 (ms2 ws fun _ _ => 1) 200 ∧
  ∀ r H' ws', (∀ b o, b ≠ a → H b = some o → H' b = some o) → H r = none → H' r = some (.dT (dk2 ws')) → StOk many (X + 96) ws' → (∀ ψ, ms2 ws' ψ = ms2 ws (Lst last many keep side ψ)) → Q (.ref r) H'
theorem k_laid {f : Addr} {fd : FuncData} (T : Tx K mg) (Df : C8.Def K mg "laid" s_laid f fd) (bf : Binds K fd ["states", "many", "keep", "side", "last"] []) (c_ways : C8.Cal P w K mg base 1 "ways" (spN2 (fun n k => n ≤ 60 ∧ k ≤ 100) fun n k => bin n k) []) : C8.Cal P w K mg base 2 "laid" spLaid [] := by
  refine C8.cal0 Df bf .nil sc_laid (fun vs H Q E h => ?_) (fun cdv A outer s H vs Q E hr h => ?_)
  · obtain ⟨_, _, _, _, _, _, _, rfl, _⟩ := h; rfl
  · obtain ⟨a, many, keep, side, X, last, ws, rfl, ha, hok, hm, hk, hs, hX, hw, k⟩ := h
    refine ⟨_, (pss_cons (ps_set (i := 5) sc_laid.nd rfl (Or.inl rfl) pe_dnewT)
      (pss_cons (ps_for PassesOwn.never rfl (RX.pi_itemsT (RX.pe_frz (pv 0))) (pg_tup (n := 2) rfl (pgs_cons (pg_tup (n := 2) rfl (pgs_cons (pg_name (i := 6) sc_laid.nd rfl (Or.inl rfl) (by exact Or.inl rfl)) (pgs_cons (pg_name (i := 7) sc_laid.nd rfl (Or.inl rfl) (by exact Or.inl rfl)) pgs_nil))) (pgs_cons (pg_name (i := 8) sc_laid.nd rfl (Or.inl rfl) (by exact Or.inl rfl)) pgs_nil)))
      (pss_cons (ps_set (i := 9) sc_laid.nd rfl (Or.inl rfl) (pe_ifExp (pt_val (pv 4)) (pe_lst (pa_cons (pe_op op_sub (pv 1) (pv 6)) pa_nil)) (pe_listRg rfl (by rfl) T.n_list (prg_1 (by rfl) T.n_range (pe_op op_add (pe_op op_sub (pv 1) (pv 6)) pe_int)))))
        (pss_one (ps_for PassesOwn.never rfl (pi_list (pv 9)) (pg_name (i := 10) sc_laid.nd rfl (Or.inl rfl) (by exact Or.inl rfl))
        (pss_cons (ps_set (i := 11) sc_laid.nd rfl (Or.inl rfl) (pe_tup (pa_cons (pe_op op_add (pv 6) (pv 10)) (pa_cons (pe_op op_add (pv 7) (pe_op op_mul (pv 3) (pe_callB (call_max2 rfl) (by rfl) T.n_max (by decide +kernel) (pa_cons pe_int (pa_cons (pe_callB (call_min2 rfl) (by rfl) T.n_min (by decide +kernel) (pa_cons (pe_op op_sub (pv 2) (pv 6)) (pa_cons (pv 10) pa_nil))) pa_nil))))) pa_nil))))
          (pss_one (ps_dput hr.u1 (pv 5) (pv 11) (pe_op op_add (pe_dget2 hr.u1 (pv 5) (pv 11) pe_int ⟨rfl, by rfl, rfl, rfl⟩) (pe_op op_mul (pv 8) (C8.pe_c c_ways hr (by omega) (by rfl) (pa_cons (pe_op op_sub (pv 1) (pv 6)) (pa_cons (pv 10) pa_nil))))) rfl)))))))
      (pss_one (ps_ret (pv 5))))), ?_⟩
    refine fun r hr0 => ⟨_, rfl, a, .dT (dk2 ws), rfl, (upd_ne (ne_of_none ha hr0)).trans ha, trivial, fun od => ⟨a, od, dk2 ws, rfl, upd_same, ?_⟩⟩
    have har : a ≠ r := ne_of_none ha hr0
    have e0 : ∀ b o, b ≠ a → H b = some o → upd (upd H r (.dT [])) a (.frz od (.dT (dk2 ws))) b = some o := fun b o n h => (upd_ne n).trans ((upd_ne (ne_of_none h hr0)).trans h)
    have g0 : upd (upd H r (.dT [])) a (.frz od (.dT (dk2 ws))) a = some (.frz od (.dT (dk2 ws))) := upd_same
    have r0 : upd (upd H r (.dT [])) a (.frz od (.dT (dk2 ws))) r = some (.dT (dk2 [])) := (upd_ne (Ne.symm har)).trans upd_same
    generalize (upd (upd H r (.dT [])) a (.frz od (.dT (dk2 ws)))) = G0 at e0 g0 r0
    refine for_n (n := ws.length) (fun i σ' H' => ∃ (o6 o7 o8 o9 o10 o11 : Option V) (rows : PL), σ' = [some (.ref a), some (.int (many : Nat)), some (.int (keep : Nat)), some (.int (side : Nat)), some (.bl last), some (.ref r), o6, o7, o8, o9, o10, o11] ∧ ExB r G0 H' ∧ H' r = some (.dT (dk2 rows)) ∧ StOk many (X + 96) rows ∧ ∀ ψ, ms2 rows ψ = ms2 (ws.take i) (Lst last many keep side ψ))
      ⟨_, _, _, _, _, _, [], rfl, ExB.refl, r0, stOk_nil, fun ψ => rfl⟩ (fun i σ' H' hi ⟨_, _, _, _, _, _, _, _, e, _⟩ => ⟨e _ _ har g0, by rw [dk2_len]; exact hi⟩) (fun σ' H' ⟨_, _, _, _, _, _, _, _, e, _⟩ => ⟨e _ _ har g0, by rw [dk2_len]; exact Nat.le_refl _⟩) ?_ ?_
    · rintro i _ H' u H2 hi ⟨o6, o7, o8, o9, o10, o11, rows, rfl, e, hr', so, hms⟩ ⟨T0, kk, vv, q, hk, rfl, hT0, rfl, hq⟩
      obtain ⟨⟨p1, p2⟩, b, hab, rfl, rfl⟩ := dk2_get hk
      have hmem := List.mem_of_getElem? hab
      obtain ⟨c, x, ecx, hc, hx⟩ := hok.key _ hmem
      have hb0 : 0 ≤ b := hok.nn _ hmem
      have hbw : b ≤ ms2 ws fun _ _ => 1 := ms_le_one2 hok.nn _ hmem
      have ecx : (p1, p2) = (((c : Nat) : Int), ((x : Nat) : Int)) := ecx
      cases ecx
      have hx : x ≤ X := hx
      have e1 : Ex H' (upd H' T0 (.tup [.ref q, .int b])) := Evl.Ex.new hT0
      have htk := fun ψ => ms2_take hab ψ
      refine ⟨T0, _, rfl, Evl.st_of upd_same, rfl, _, _, rfl, q, _, rfl, Evl.st_of (e1 _ _ hq), rfl, _, _, rfl, _, _, rfl, rfl, _, _, rfl, rfl, ?_⟩
      have eG := e.go e1
      have hr1 := e1 _ _ hr'
      generalize (upd H' T0 (.tup [.ref q, .int b])) = G1 at e1 eG hr1
      dsimp only [gName, tSeq, tAsg]
      refine with_if (fun v H' => Ex G1 H' ∧ ∃ F, v = .ref F ∧ H' F = some (.lst ((if last then [many - c] else List.range (many - c + 1)).map fun m : Nat => V.int (m : Nat)))) (fun Q' k' => ?_) ?_
      · refine ⟨_, rfl, last, rfl, ?_⟩
        cases last with
        | true =>
          refine iteT ⟨_, rfl, _, rfl, _, _, rfl, rfl, (by show 1 ≤ sizeLine; decide), fun F hF => k' _ _ ⟨Evl.Ex.new hF, F, rfl, ?_⟩⟩
          rw [upd_same, if_pos rfl]
          show some (HO.lst [V.int (((many : Nat) : Int) - ((c : Nat) : Int))]) = some (HO.lst [V.int ((many - c : Nat) : Int)])
          rw [show ((many : Nat) : Int) - ((c : Nat) : Int) = ((many - c : Nat) : Int) by omega]
        | false =>
          refine iteF ⟨_, rfl, _, rfl, _, _, rfl, rfl, _, _, rfl, rfl, _, rfl, RgOk.of_le (by omega) (by omega) (by omega) (by omega), fun F hF => k' _ _ ⟨Evl.Ex.new hF, F, rfl, ?_⟩⟩
          rw [upd_same, if_neg (by decide)]
          have e1 : rgV 0 (((many : Nat) : Int) - ((c : Nat) : Int) + 1) = (List.range (many - c + 1)).map fun m : Nat => V.int (m : Nat) := by
            unfold rgV
            have : (((many : Nat) : Int) - ((c : Nat) : Int) + 1 - 0).toNat = many - c + 1 := by omega
            rw [this]
            refine List.map_congr_left fun i _ => ?_
            rw [Int.zero_add]
          rw [← e1]
      · rintro v2 G2 ⟨e2, F, rfl, hF⟩
        have eG2 := eG.go e2
        have hr2 := e2 _ _ hr1
        have hcs : ∀ m ∈ (if last then [many - c] else List.range (many - c + 1)), m ≤ many - c := fun m hm => by
          split at hm
          · exact Nat.le_of_eq (List.mem_singleton.mp hm)
          · have := List.mem_range.mp hm; omega
        have hLst : ∀ ψ, Lst last many keep side ψ c x = Cst (if last then [many - c] else List.range (many - c + 1)) many keep side ψ c x := fun ψ => rfl
        generalize (if last then [many - c] else List.range (many - c + 1)) = cs at hF hcs hLst
        have hFr : F ≠ r := fun z => by rw [z, hr2] at hF; cases hF
        refine ⟨_, rfl, F, rfl, ⟨_, Evl.sq_of hF⟩, ?_⟩
        refine for_n (n := cs.length) (fun j σ' H' => ∃ (o10 o11 : Option V) (rows2 : PL), σ' = [some (.ref a), some (.int (many : Nat)), some (.int (keep : Nat)), some (.int (side : Nat)), some (.bl last), some (.ref r), some (.int (c : Nat)), some (.int (x : Nat)), some (.int b), some (.ref F), o10, o11] ∧ ExB r G2 H' ∧ H' r = some (.dT (dk2 rows2)) ∧ StOk many (X + 96) rows2 ∧ ∀ ψ, ms2 rows2 ψ = ms2 rows ψ + b * Cst (cs.take j) many keep side ψ c x)
          ⟨_, _, rows, rfl, ExB.refl, hr2, so, fun ψ => by show _ = _ + b * 0; omega⟩ (fun j σ' H' hj ⟨_, _, _, _, e, _⟩ => ⟨_, .int (cs[j] : Nat), Evl.sq_of (e _ _ hFr hF), by rw [List.getElem?_map, List.getElem?_eq_getElem hj]; rfl⟩) (fun σ' H' ⟨_, _, _, _, e, _⟩ => ⟨_, Evl.sq_of (e _ _ hFr hF), by simp⟩) ?_ ?_
        · rintro j _ H3 u H4 hj ⟨o10, o11, rows2, rfl, e3, hr3, so3, hms3⟩ ⟨rfl, hu⟩
          have hu' := hu _ (Evl.sq_of (e3 _ _ hFr hF))
          rw [List.getElem?_map, List.getElem?_eq_getElem hj] at hu'
          obtain rfl : V.int ((cs[j] : Nat) : Int) = u := Option.some.inj hu'
          have hm' := hcs _ (List.getElem_mem hj)
          have htc : ∀ ψ, Cst (cs.take (j + 1)) many keep side ψ c x = Cst (cs.take j) many keep side ψ c x + (bin (many - c) cs[j] : Int) * ψ (c + cs[j]) (x + (side : Int) * ((min cs[j] (keep - c) : Nat) : Int)) := fun ψ => by
            unfold Cst
            rw [List.take_add_one, List.getElem?_eq_getElem hj, List.map_append, List.sum_append]
            simp
          generalize cs[j] = m at hm' htc
          have hmx : (if (if ((m : Nat) : Int) < ((keep : Nat) : Int) - ((c : Nat) : Int) then ((m : Nat) : Int) else ((keep : Nat) : Int) - ((c : Nat) : Int)) > 0 then (if ((m : Nat) : Int) < ((keep : Nat) : Int) - ((c : Nat) : Int) then ((m : Nat) : Int) else ((keep : Nat) : Int) - ((c : Nat) : Int)) else 0) = ((min m (keep - c) : Nat) : Int) := by
            split <;> split <;> omega
          have hmn : min m (keep - c) ≤ 8 := by omega
          refine ⟨_, rfl, _, rfl, _, _, rfl, rfl, _, rfl, _, rfl, _, rfl, _, rfl, _, _, rfl, rfl, _, rfl, _, _, rfl, _, _, rfl, _, _, rfl, rfl, cm_l (by omega) (by omega), _, _, rfl, rfl, (by show 2 ≤ sizeLine; decide), fun q2 hq2 => ?_⟩
          rw [hmx]
          have hsm : side * min m (keep - c) ≤ 12 * 8 := Nat.mul_le_mul hs hmn
          have ecm : ((c : Nat) : Int) + ((m : Nat) : Int) = ((c + m : Nat) : Int) := by omega
          have exm : ((x : Nat) : Int) + ((side : Nat) : Int) * ((min m (keep - c) : Nat) : Int) = ((x + side * min m (keep - c) : Nat) : Int) := by push_cast; rfl
          simp only [ecm, exm]
          rw [exm] at htc
          have hq3 : upd H4 q2 (.tup [.int ((c + m : Nat) : Int), .int ((x + side * min m (keep - c) : Nat) : Int)]) q2 = some (.tup ((pk (((c + m : Nat) : Int), ((x + side * min m (keep - c) : Nat) : Int))).map kV)) := upd_same
          have e34 : Ex H4 (upd H4 q2 (.tup [.int ((c + m : Nat) : Int), .int ((x + side * min m (keep - c) : Nat) : Int)])) := Evl.Ex.new hq2
          generalize (upd H4 q2 (.tup [.int ((c + m : Nat) : Int), .int ((x + side * min m (keep - c) : Nat) : Int)])) = G5 at hq3 e34
          have hr4 := e34 _ _ hr3
          have hbin : Lt2 ((bin (many - c) m : Nat) : Int) 64 := Lt2.nn (Int.natCast_nonneg _) (bin_lt (by omega))
          have hbl : Lt2 b 200 := hw.le hb0 hbw
          have hlen := so3.len
          have hlen2 : (many + 1) * (X + 96 + 1) ≤ 9 * 2097 := Nat.mul_le_mul (by omega) (by omega)
          refine ⟨_, rfl, r, rfl, .inr ⟨_, .inl hr4⟩, _, rfl, valV (dk2 rows2) (pk (((c + m : Nat) : Int), ((x + side * min m (keep - c) : Nat) : Int))), .inr ⟨dk2 rows2, pk (((c + m : Nat) : Int), ((x + side * min m (keep - c) : Nat) : Int)), q2, .inl hr4, rfl, hq3, rfl⟩, ?_⟩
          refine ⟨_, rfl, _, rfl, _, rfl, _, _, rfl, rfl, _, rfl, many - c, m, (by show [V.int (((many : Nat) : Int) - ((c : Nat) : Int)), V.int ((m : Nat) : Int)] = _; rw [show ((many : Nat) : Int) - ((c : Nat) : Int) = ((many - c : Nat) : Int) by omega]), ⟨by omega, by omega⟩, _, _, rfl, rfl, (.inr ⟨(by show -(2 ^ 64 : Int) < ((bin (many - c) m : Nat) : Int); exact Int.lt_of_lt_of_le (by decide) (Int.natCast_nonneg _)), bin_lt (by omega)⟩), getI rows2 (((c + m : Nat) : Int), ((x + side * min m (keep - c) : Nat) : Int)), _, dk2_val _ _, rfl, ?_⟩
          refine ⟨_, rfl, _, rfl, r, _, rfl, .inr ⟨dk2 rows2, pk (((c + m : Nat) : Int), ((x + side * min m (keep - c) : Nat) : Int)), q2, hr4, rfl, hq3, Evl.sz_lt (by rw [dk2_len]; omega), rfl⟩, ?_⟩
          rw [dk2_put _ _ so3.nd]
          refine ⟨_, _, bump rows2 (((c + m : Nat) : Int), ((x + side * min m (keep - c) : Nat) : Int)) (b * ((bin (many - c) m : Nat) : Int)), rfl, (e3.go e34).mut, upd_same, stOk_put so3 (by omega) (by omega) (Int.mul_nonneg hb0 (Int.natCast_nonneg _)), fun ψ => ?_⟩
          rw [ms2_bump, hms3, htc, Int.mul_add, Int.mul_assoc]
          exact Int.add_assoc _ _ _
        · rintro _ H3 ⟨o10, o11, rows2, rfl, e3, hr3, so3, hms3⟩
          rw [List.take_length] at hms3
          exact ⟨_, _, _, _, _, _, rows2, rfl, eG2.trans e3, hr3, so3, fun ψ => by rw [hms3, hms, htk, hLst]⟩
    · rintro _ H' ⟨o6, o7, o8, o9, o10, o11, rows, rfl, e, hr', so, hms⟩
      rw [List.take_length] at hms
      refine ⟨_, rfl, k r H' rows (fun b o n h => e b o (ne_of_none h hr0) (e0 b o n h)) hr0 hr' so hms⟩
end
end KK
end
/-! K28 -/
section
set_option Elab.async false
set_option linter.all false
set_option maxRecDepth 100000
namespace KK
open PySem PySem.Spec PyProof.Rows L2 KM LX LamX NdefX
theorem fin_one {many : Nat} : ∀ c, c ≤ many → ∀ x : Int, 0 ≤ fin many (fun _ => 1) c x ∧ fin many (fun _ => 1) c x ≤ 1 := fun c _ x => by
  show 0 ≤ (if c = many then (1 : Int) else 0) ∧ (if c = many then (1 : Int) else 0) ≤ 1
  split <;> omega
theorem p256 {j : Nat} (h : j ≤ 12) : (256 : Int) ^ j ≤ 2 ^ 96 := by
  have h1 : (256 : Nat) ^ j ≤ 256 ^ 12 := Nat.pow_le_pow_right (by decide) h
  have h2 : (256 : Nat) ^ 12 = 2 ^ 96 := by decide
  have h3 : (((256 : Nat) ^ j : Nat) : Int) ≤ ((2 ^ 96 : Nat) : Int) := by omega
  have h4 : (((256 : Nat) ^ j : Nat) : Int) = (256 : Int) ^ j := Int.natCast_pow 256 j
  rw [h4] at h3
  exact h3
theorem Kd_lt {many keep sides j : Nat} {f : Nat → Int → Int} (hm : many ≤ 8) (hj : j ≤ 12) (h : ∀ c, c ≤ many → ∀ x, 0 ≤ f c x ∧ f c x ≤ 1) : Lt2 (Kd many keep sides j f) 200 := by
  have h1 := Kd_bd (keep := keep) (sides := sides) hm j (by decide) h
  have h2 := p256 hj
  refine Lt2.nn h1.1 (Int.lt_of_le_of_lt (b := 2 ^ 96) (by omega) (by decide))
theorem Kd_pos {many keep sides : Nat} (hs : 1 ≤ sides) : 1 ≤ Kd many keep sides sides (fin many fun _ => 1) := by
  obtain ⟨s, rfl⟩ : ∃ s, sides = s + 1 := ⟨sides - 1, by omega⟩
  exact Kd_ge s fun c hc x => by rw [Kst_fin hc]; exact Int.le_refl _
section
variable {P : Program} {w : World} {K : PySem.W.Frag} {mg : Str → Option Value} {base : Heap} {T9 : LX.TL} {CS : Addr}
theorem rg_rev {s i : Nat} (h : i < s) : ((rgV 1 ((s : Int) + 1)).reverse)[i]? = some (.int ((s - i : Nat) : Int)) := by
  have hl : (rgV 1 ((s : Int) + 1)).length = s := by unfold rgV; simp
  rw [List.getElem?_reverse (by omega), hl]
  unfold rgV
  rw [List.getElem?_map, List.getElem?_range (by omega)]
  show some (V.int (1 + ((s - 1 - i : Nat) : Int))) = _
  rw [show (1 : Int) + ((s - 1 - i : Nat) : Int) = ((s - i : Nat) : Int) by omega]
abbrev s_kept : Stmt := top 30
abbrev N_kept : List Str := ["many", "sides", "keep", "best", "order", "states", "place", "side", "rows", "count", "whole", "weight"]
theorem sc_kept : FnScope N_kept ["many", "sides", "keep", "best"] (C8.fnScope s_kept) := C8.fnScope_by (by decide +kernel)
-- slots: many=0 sides=1 keep=2 best=3 order=4 states=5 place=6 side=7 rows=8 count=9 whole=10 weight=11
def spKept (CS : Addr) : Sp := fun vs H Q _ => ∃ many sides keep : Nat, vs = [.int (many : Nat), .int (sides : Nat), .int (keep : Nat), .bl true] ∧ keep ≤ many ∧ many ≤ 8 ∧ 1 ≤ sides ∧ sides ≤ 12 ∧ RetS CS H Q (fun φ => Kd many keep sides sides (fin many φ)) 20000
theorem k_kept {f : Addr} {fd : FuncData} {ds : List Value} (T : Tx K mg) (Df : C8.Def K mg "kept" s_kept f fd) (bf : Binds K fd ["many", "sides", "keep", "best"] ds) (dv : Vals [V.bl true] ds) (c_laid : C8.Cal P w K mg base 2 "laid" spLaid []) (m_Spread : C8.Mak P w K mg base 2 "Spread" CS (spInit CS) []) : C8.Cal P w K mg base 4 "kept" (spKept CS) [V.bl true] := by
  refine C8.cal0 Df bf dv sc_kept (fun vs H Q E h => ?_) (fun cdv A outer s H vs Q E hr h => ?_)
  · obtain ⟨_, _, _, rfl, _⟩ := h; rfl
  · obtain ⟨many, sides, keep, rfl, hk, hm, hs1, hs, k⟩ := h
    refine ⟨_, (pss_cons (ps_if (PW.pt (pw_or (pt_not (pt_chain op_le op_le pe_int (pv 2) (pv 0))) (pw_or1 (pt_cmpR op_lt (pv 1) pe_int (nomark _))))) pss_never pss_nil)
      (pss_cons (ps_set (i := 4) sc_kept.nd rfl (Or.inl rfl) (pe_listRg rfl (by rfl) T.n_list (prg_2 (by rfl) T.n_range pe_int (pe_op op_add (pv 1) pe_int))))
      (pss_cons (ps_if (pt_val (pv 3)) (pss_one (ps_set (i := 4) sc_kept.nd rfl (Or.inl rfl) (pe_revL (pv 4)))) pss_nil)
      (pss_cons (ps_set (i := 5) sc_kept.nd rfl (Or.inl rfl) (RX.pe_dispT hr.u8 (pa_cons pe_int (pa_cons pe_int pa_nil)) pe_int))
      (pss_cons (ps_for PassesOwn.never rfl (pi_enum (by rfl) T.n_enumerate (pa_cons (pv 4) pa_nil)) (pg_tup (n := 2) rfl (pgs_cons (pg_name (i := 6) sc_kept.nd rfl (Or.inl rfl) (by exact Or.inl rfl)) (pgs_cons (pg_name (i := 7) sc_kept.nd rfl (Or.inl rfl) (by exact Or.inl rfl)) pgs_nil)))
      (pss_one (ps_set (i := 5) sc_kept.nd rfl (Or.inl rfl) (C8.pe_c c_laid hr (by omega) (by rfl) (pa_cons (pv 5) (pa_cons (pv 0) (pa_cons (pv 2) (pa_cons (pv 7) (pa_cons (pe_cmpR op_eq (pv 6) (pe_op op_sub (pe_callB call_len_seq (by rfl) T.n_len (by decide +kernel) (pa_cons (pv 4) pa_nil)) pe_int) (nomark _)) pa_nil)))))))))
      (pss_cons (ps_set (i := 8) sc_kept.nd rfl (Or.inl rfl) pe_dnewK)
      (pss_cons (ps_for PassesOwn.never rfl (RX.pi_itemsT (RX.pe_frz (pv 5))) (pg_tup (n := 2) rfl (pgs_cons (pg_tup (n := 2) rfl (pgs_cons (pg_name (i := 9) sc_kept.nd rfl (Or.inl rfl) (by exact Or.inl rfl)) (pgs_cons (pg_name (i := 10) sc_kept.nd rfl (Or.inl rfl) (by exact Or.inl rfl)) pgs_nil))) (pgs_cons (pg_name (i := 11) sc_kept.nd rfl (Or.inl rfl) (by exact Or.inl rfl)) pgs_nil)))
      (pss_one (ps_if (pt_cmpR op_eq (pv 9) (pv 0) (nomark _)) (pss_one (ps_dput hr.u1 (pv 8) (pv 10) (pe_op op_add (pe_dget2 hr.u1 (pv 8) (pv 10) pe_int ⟨rfl, by rfl, rfl, rfl⟩) (pv 11)) rfl)) pss_nil)))
      (pss_one (ps_ret (C8.pe_mk m_Spread hr (by omega) (by rfl) (pa_cons (pv 8) pa_nil))))))))))), ?_⟩
    refine ⟨_, rfl, _, _, rfl, rfl, _, rfl, ?_⟩
    rw [decide_eq_true (by omega)]
    refine iteT ⟨_, rfl, _, _, rfl, rfl, _, rfl, ?_⟩
    rw [decide_eq_true (by omega)]
    refine iteF ⟨_, rfl, _, _, rfl, rfl, _, rfl, ?_⟩
    rw [decide_eq_false (by omega)]
    refine iteF ⟨_, rfl, _, _, rfl, rfl, _, _, rfl, rfl, RgOk.of_le (by omega) (by omega) (by omega) (by omega), fun L0 hL0 => ?_⟩
    refine ⟨_, rfl, true, rfl, iteT ⟨_, rfl, L0, _, rfl, Evl.sq_of upd_same, fun L hL => ?_⟩⟩
    refine fun S hS => ⟨(by show 2 ≤ sizeLine; decide), fun b hb => ⟨b, _, rfl, upd_same, pk (0, 0), rfl, ?_, ?_, ?_⟩⟩
    · exact (upd_ne (ne_of_none upd_same hb)).trans upd_same
    · exact upd_same
    have hS0 : H S = none := none_ex (Evl.Ex.trans (Evl.Ex.new hL0) (Evl.Ex.new hL)) hS
    have e1 := Evl.Ex.mut (o := .dT [(pk (0, 0), .int 1)]) (Evl.Ex.trans (Evl.Ex.trans (Evl.Ex.trans (Evl.Ex.new (o := .lst (rgV 1 ((sides : Nat) + 1))) hL0) (Evl.Ex.new (o := .lst (rgV 1 ((sides : Nat) + 1)).reverse) hL)) (Evl.Ex.new (o := .dT []) hS)) (Evl.Ex.new (o := .tup [.int 0, .int 0]) hb)) hS0
    have hL1 : (upd (upd (upd (upd (upd H L0 (.lst (rgV 1 ((sides : Nat) + 1)))) L (.lst (rgV 1 ((sides : Nat) + 1)).reverse)) S (.dT [])) b (.tup [.int 0, .int 0])) S (.dT [(pk (0, 0), .int 1)])) L = some (.lst (rgV 1 ((sides : Nat) + 1)).reverse) := by
      have a1 : (upd (upd H L0 (.lst (rgV 1 ((sides : Nat) + 1)))) L (.lst (rgV 1 ((sides : Nat) + 1)).reverse)) L = some (.lst (rgV 1 ((sides : Nat) + 1)).reverse) := upd_same
      have a2 := ne_of_none a1 hS
      rw [upd_ne a2]
      exact Evl.Ex.new hb _ _ (Evl.Ex.new hS _ _ a1)
    have hS1 : (upd (upd (upd (upd (upd H L0 (.lst (rgV 1 ((sides : Nat) + 1)))) L (.lst (rgV 1 ((sides : Nat) + 1)).reverse)) S (.dT [])) b (.tup [.int 0, .int 0])) S (.dT [(pk (0, 0), .int 1)])) S = some (.dT (dk2 [((0, 0), 1)])) := upd_same
    dsimp only [gName]
    generalize (upd (upd (upd (upd (upd H L0 (.lst (rgV 1 ((sides : Nat) + 1)))) L (.lst (rgV 1 ((sides : Nat) + 1)).reverse)) S (.dT [])) b (.tup [.int 0, .int 0])) S (.dT [(pk (0, 0), .int 1)])) = G1 at e1 hL1 hS1 ⊢
    clear hL0 hL hS hb
    refine ⟨_, rfl, L, _, rfl, Evl.sq_of hL1, ?_⟩
    have lenL : ((rgV 1 ((sides : Nat) + 1)).reverse).length = sides := by unfold rgV; simp
    refine for_n (n := sides) (fun i σ' H' => ∃ (o6 o7 : Option V) (S : Addr) (ws : PL), σ' = [some (.int (many : Nat)), some (.int (sides : Nat)), some (.int (keep : Nat)), some (.bl true), some (.ref L), some (.ref S), o6, o7, none, none, none, none] ∧ Ex H H' ∧ H' L = some (.lst (rgV 1 ((sides : Nat) + 1)).reverse) ∧ H S = none ∧ H' S = some (.dT (dk2 ws)) ∧ StOk many (96 * i) ws ∧ (i < sides → ∀ ψ, ms2 ws ψ = Kd many keep sides i ψ) ∧ (i = sides → ∀ φ, ms2 ws (fin many φ) = Kd many keep sides sides (fin many φ)))
      ⟨_, _, S, _, rfl, e1, hL1, hS0, hS1, ?_, fun _ ψ => ?_, fun z => absurd z (by omega)⟩ (fun i σ' H' hi ⟨_, _, _, _, _, _, hL2, _⟩ => ⟨_, .int ((sides - i : Nat) : Int), Evl.sq_of hL2, rg_rev hi⟩) (fun σ' H' ⟨_, _, _, _, _, _, hL2, _⟩ => ⟨_, Evl.sq_of hL2, by rw [lenL]; exact Nat.le_refl _⟩) ?_ ?_
    · exact ⟨by simp, fun p hp => by rw [List.mem_singleton.mp hp]; decide, fun p hp => ⟨0, 0, by rw [List.mem_singleton.mp hp]; rfl, Nat.zero_le _, Nat.zero_le _⟩⟩
    · show 1 * ψ 0 0 + 0 = ψ 0 0
      omega
    · rintro i _ H2 u H3 hi ⟨o6, o7, S2, ws, rfl, e2, hL2, hB2, hS2, so, hf, _⟩ ⟨T0, x, rfl, hT0, rfl, hx⟩
      have hx := hx _ (Evl.sq_of hL2)
      rw [rg_rev hi] at hx
      cases hx
      have e3 : Ex H2 (upd H2 T0 (.tup [.int (i : Nat), .int ((sides - i : Nat) : Int)])) := Evl.Ex.new hT0
      refine ⟨T0, _, rfl, Evl.st_of upd_same, rfl, _, _, rfl, _, _, rfl, rfl, ?_⟩
      have e03 := Evl.Ex.trans e2 e3
      have hL3 := e3 _ _ hL2
      have hS3 := e3 _ _ hS2
      generalize (upd H2 T0 (.tup [.int (i : Nat), .int ((sides - i : Nat) : Int)])) = G3 at e03 hL3 hS3
      have hf := hf hi
      have hbd : Lt2 (ms2 ws fun _ _ => 1) 200 := by
        rw [hf]
        exact Kd_lt hm (by omega) fun c hc x => ⟨by show (0 : Int) ≤ 1; decide, Int.le_refl _⟩
      refine ⟨_, rfl, _, rfl, _, rfl, _, rfl, _, rfl, _, rfl, L, _, rfl, .inl (Evl.sq_of hL3), _, _, rfl, rfl, rfl, ?_⟩
      refine ⟨S2, many, keep, sides - i, 96 * i, decide (i + 1 = sides), ws, ?_, hS3, so, hm, by omega, by omega, by omega, hbd, fun r H' ws' h1 h2 h3 h4 h5 => ?_⟩
      · rw [decV, lenL, show decide (((i : Nat) : Int) = ((sides : Nat) : Int) - 1) = decide (i + 1 = sides) from decide_eq_decide.mpr (by omega)]
        rfl
      · have hLS : L ≠ S2 := fun z => by rw [z, hS3] at hL3; cases hL3
        refine ⟨_, _, r, ws', rfl, fun b o h => h1 b o (ne_of_none h hB2) (e03 b o h), h1 _ _ hLS hL3, none_ex e03 h2, h3, h4, fun hlt ψ => ?_, fun heq φ => ?_⟩
        · rw [h5, decide_eq_false (by omega), Lst_f, hf]
          rfl
        · rw [h5, decide_eq_true heq, ms2_congr so fun c hc x => Lst_t hc x, hf]
          subst heq
          rfl
    · rintro _ H2 ⟨o6, o7, S2, ws, rfl, e2, hL2, hB2, hS2, so, _, hf⟩
      have hf := hf rfl
      refine fun r hr0 => ⟨_, rfl, S2, .dT (dk2 ws), rfl, (upd_ne (ne_of_none hS2 hr0)).trans hS2, trivial, fun od => ⟨S2, od, dk2 ws, rfl, upd_same, ?_⟩⟩
      have hSr : S2 ≠ r := ne_of_none hS2 hr0
      have hr1 := none_ex e2 hr0
      have e3 : Ex H (upd (upd H2 r (.dK [])) S2 (.frz od (.dT (dk2 ws)))) := Evl.Ex.mut (Evl.Ex.trans e2 (Evl.Ex.new hr0)) hB2
      have r3 : upd (upd H2 r (.dK [])) S2 (.frz od (.dT (dk2 ws))) r = some (.dK (dk [])) := (upd_ne (Ne.symm hSr)).trans upd_same
      have s3 : upd (upd H2 r (.dK [])) S2 (.frz od (.dT (dk2 ws))) S2 = some (.frz od (.dT (dk2 ws))) := upd_same
      generalize (upd (upd H2 r (.dK [])) S2 (.frz od (.dT (dk2 ws)))) = G3 at e3 r3 s3
      have hlen := so.len
      have hlen2 : (many + 1) * (96 * sides + 1) ≤ 9 * 1153 := Nat.mul_le_mul (by omega) (by omega)
      refine for_n (n := ws.length) (fun i σ' H' => ∃ (o9 o10 o11 : Option V) (rows : IL), σ' = [some (.int (many : Nat)), some (.int (sides : Nat)), some (.int (keep : Nat)), some (.bl true), some (.ref L), some (.ref S2), o6, o7, some (.ref r), o9, o10, o11] ∧ Ex H H' ∧ H' S2 = some (.frz od (.dT (dk2 ws))) ∧ H' r = some (.dK (dk rows)) ∧ (rows.map (·.1)).Nodup ∧ (∀ q ∈ rows, 0 ≤ q.2) ∧ (∀ φ, ms rows φ = ms2 (ws.take i) (fin many φ)) ∧ rows.length ≤ i)
        ⟨_, _, _, [], rfl, e3, s3, r3, List.nodup_nil, fun q hq => absurd hq List.not_mem_nil, fun φ => rfl, Nat.le_refl _⟩ (fun i σ' H' hi ⟨_, _, _, _, _, _, s, _⟩ => ⟨s, by rw [dk2_len]; exact hi⟩) (fun σ' H' ⟨_, _, _, _, _, _, s, _⟩ => ⟨s, by rw [dk2_len]; exact Nat.le_refl _⟩) ?_ ?_
      · rintro i _ H4 u H5 hi ⟨o9, o10, o11, rows, rfl, e4, s4, r4, nd, nn, hms, hlr⟩ ⟨T0, kk, vv, q, hk, rfl, hT0, rfl, hq⟩
        obtain ⟨⟨p1, p2⟩, b, hab, rfl, rfl⟩ := dk2_get hk
        have hmem := List.mem_of_getElem? hab
        obtain ⟨c, x, ecx, hc, hx⟩ := so.key _ hmem
        have hb0 : 0 ≤ b := so.nn _ hmem
        have ecx : (p1, p2) = (((c : Nat) : Int), ((x : Nat) : Int)) := ecx
        cases ecx
        have e5 : Ex H4 (upd H4 T0 (.tup [.ref q, .int b])) := Evl.Ex.new hT0
        refine ⟨T0, _, rfl, Evl.st_of upd_same, rfl, _, _, rfl, q, _, rfl, Evl.st_of (e5 _ _ hq), rfl, _, _, rfl, _, _, rfl, rfl, _, _, rfl, rfl, ?_⟩
        have htk := fun ψ => ms2_take hab ψ
        have e05 := Evl.Ex.trans e4 e5
        have s5 := e5 _ _ s4
        have r5 := e5 _ _ r4
        generalize (upd H4 T0 (.tup [.ref q, .int b])) = G5 at e05 s5 r5
        refine ⟨_, rfl, _, rfl, rfl, _, rfl, ?_⟩
        rw [show decide (kV (Sum.inl (((c : Nat) : Int), ((x : Nat) : Int)).fst) = V.int ((many : Nat) : Int)) = decide (((c : Nat) : Int) = ((many : Nat) : Int)) from decV]
        by_cases hcm : c = many
        · rw [decide_eq_true (by omega)]
          refine iteT ⟨_, rfl, r, rfl, .inl ⟨_, .inl r5⟩, _, rfl, valV (dk rows) (.inl (x : Nat)), .inl ⟨dk rows, .inl (x : Nat), .inl r5, rfl, rfl⟩, _, rfl, getI rows (x : Nat), b, dk_val _ _, rfl, ?_⟩
          refine ⟨_, rfl, _, rfl, r, _, rfl, .inl ⟨dk rows, .inl (x : Nat), r5, rfl, Evl.sz_lt (by rw [dk_len]; omega), rfl⟩, ?_⟩
          rw [dk_put _ _ nd]
          refine ⟨_, _, _, bump rows (x : Nat) b, rfl, Evl.Ex.mut e05 hr1, (upd_ne hSr).trans s5, upd_same, nodup_bump _ _ nd, vals_bump nn hb0, fun φ => ?_, by have := length_bump rows ((x : Nat) : Int) b; omega⟩
          rw [ms_bump, hms, htk]
          show _ = _ + b * (if c = many then φ ((x : Nat) : Int) else 0)
          rw [if_pos hcm]
        · rw [decide_eq_false (by omega)]
          refine iteF ⟨_, _, _, rows, rfl, e05, s5, r5, nd, nn, fun φ => ?_, by omega⟩
          rw [hms, htk]
          show _ = _ + b * (if c = many then φ ((x : Nat) : Int) else 0)
          rw [if_neg hcm, Int.mul_zero, Int.add_zero]
      · rintro _ H4 ⟨o9, o10, o11, rows, rfl, e4, s4, r4, nd, nn, hms, hlr⟩
        rw [List.take_length] at hms
        have hone : (ms rows fun _ => 1) = Kd many keep sides sides (fin many fun _ => 1) := by rw [hms, hf]
        have hp := Kd_pos (many := many) (keep := keep) hs1
        refine ⟨_, rfl, mk_sp (.inl r4) nd nn (by rw [hone]; omega) ?_ (by omega) fun v H6 ws6 e6 h1 h2 h3 => k v H6 ws6 (Evl.Ex.trans e4 e6) h1 (h2.congr fun φ => by rw [hms, hf]) (by omega)⟩
        rw [hone]
        exact (Kd_lt hm hs fin_one).up (by decide)
end
end KK
end
/-! K29 -/
section
set_option Elab.async false
set_option linter.all false
set_option maxRecDepth 100000
namespace KK
open PySem PySem.Spec PyProof.Rows L2 KM LX LamX NdefX
section
variable {P : Program} {w : World} {K : PySem.W.Frag} {mg : Str → Option Value} {base : Heap} {T9 : LX.TL} {CS : Addr}
/-! ### the law's own: ways -/
abbrev s__law_ways : Stmt := top 67
abbrev N__law_ways : List Str := ["many", "few", "found", "k"]
theorem sc__law_ways : FnScope N__law_ways ["many", "few"] (C8.fnScope s__law_ways) := C8.fnScope_by (by decide +kernel)
-- slots: many=0 few=1 found=2 k=3
theorem k__law_ways {f : Addr} {fd : FuncData} (T : Tx K mg) (Df : C8.Def K mg "_law_ways" s__law_ways f fd) (bf : Binds K fd ["many", "few"] []) : C8.Cal P w K mg base 1 "_law_ways" (spN2 (fun n k => n ≤ 60 ∧ k ≤ 100) fun n k => bin n k) [] := by
  refine C8.cal0 Df bf .nil sc__law_ways (fun vs H Q E h => ?_) (fun cdv A outer s H vs Q E hr h => ?_)
  · obtain ⟨_, _, rfl, _⟩ := h; rfl
  · obtain ⟨n, k, rfl, ⟨hn, hk⟩, q⟩ := h
    refine ⟨_, (pss_cons (ps_set (i := 2) sc__law_ways.nd rfl (Or.inl rfl) pe_int)
      (pss_cons (ps_for PassesOwn.never rfl (pi_range1 (by rfl) T.n_range (pa_cons (pv 1) pa_nil)) (pg_name (i := 3) sc__law_ways.nd rfl (Or.inl rfl) (by exact Or.inl rfl))
      (pss_one (ps_set (i := 2) sc__law_ways.nd rfl (Or.inl rfl) (pe_op op_fdivW (pe_op op_mul (pv 2) (pe_op op_sub (pv 0) (pv 3))) (pe_op op_add (pv 3) pe_int)))))
      (pss_one (ps_ret (pe_ifExp (pt_cmpR op_le (pv 1) (pv 0) (nomark _)) (pv 2) pe_int))))), ?_⟩
    refine ⟨_, rfl, k, rfl, by omega, by omega, ?_⟩
    refine for_n (n := k) (fun i σ' H' => ∃ o : Option V, σ' = [some (.int (n : Nat)), some (.int (k : Nat)), some (.int (bin n i : Nat)), o] ∧ H' = H) ⟨_, by rw [bin_zero]; rfl, rfl⟩ (fun i σ' H' hi _ => by show i < (k : Int).toNat; omega) (fun σ' H' _ => by show (k : Int).toNat ≤ k; omega) ?_ ?_
    · rintro i _ _ u H2 hi ⟨o, rfl, rfl⟩ ⟨rfl, rfl⟩
      refine ⟨_, rfl, _, rfl, _, rfl, _, _, rfl, rfl, _, _, rfl, rfl, cm_l (by omega) (bin_lt hn), _, rfl, _, _, rfl, rfl, _, _, rfl, rfl, ?_, ?_⟩
      · rw [Int.zero_add]
        exact dw_n (by omega)
      · refine ⟨some (.int (i : Nat)), ?_, rfl⟩
        simp only [Int.zero_add, bin_step]
        rfl
    · rintro _ _ ⟨o, rfl, rfl⟩
      refine ⟨_, rfl, _, rfl, _, _, rfl, rfl, _, rfl, ?_⟩
      by_cases hkn : k ≤ n
      · rw [decide_eq_true (by omega)]
        exact iteT ⟨_, rfl, q⟩
      · rw [decide_eq_false (by omega)]
        refine iteF ?_
        have q : Q (.int ((bin n k : Nat) : Int)) _ := q
        rw [bin_gt (by omega)] at q
        exact q
theorem ifS_of {tA : TT} {t u : TS} {D : Ends} {σ : L2.St} {H : Hp} (b : Bool) (h : ∀ Q' : Bool → Hp → Prop, Q' b H → tA σ H Q') (k : if b = true then t D σ H else u D σ H) : tIfS tA t u D σ H := h _ k
/-! ### the dice of the law -/
def DiceOk (H : Hp) (d : Addr) : Prop := ∃ a b c : Int, H d = some (.lst [.int a, .int b, .int c])
theorem DiceOk.ex {H H' : Hp} {d : Addr} (h : DiceOk H d) (e : Ex H H') : DiceOk H' d := by
  obtain ⟨a, b, c, h⟩ := h
  exact ⟨a, b, c, e _ _ h⟩
abbrev s__law_roll : Stmt := top 65
abbrev N__law_roll : List Str := ["dice", "many", "found"]
theorem sc__law_roll : FnScope N__law_roll ["dice", "many"] (C8.fnScope s__law_roll) := C8.fnScope_by (by decide +kernel)
-- slots: dice=0 many=1 found=2
def spRoll : Sp := fun vs H Q _ => ∃ (d : Addr) (m : Int), vs = [.ref d, .int m] ∧ DiceOk H d ∧ 1 ≤ m ∧ m ≤ 1000000 ∧ ∀ x ys H', 0 ≤ x → x < m → H' = upd H d (.lst ys) → DiceOk H' d → Q (.int x) H'
theorem k__law_roll {f : Addr} {fd : FuncData} (T : Tx K mg) (Df : C8.Def K mg "_law_roll" s__law_roll f fd) (bf : Binds K fd ["dice", "many"] []) : C8.Cal P w K mg base 1 "_law_roll" spRoll [] := by
  refine C8.cal0 Df bf .nil sc__law_roll (fun vs H Q E h => ?_) (fun cdv A outer s H vs Q E hr h => ?_)
  · obtain ⟨_, _, rfl, _⟩ := h; rfl
  · obtain ⟨d, m, rfl, ⟨a, b, c, hd⟩, h1, hm, k⟩ := h
    refine ⟨_, (pss_cons (ps_if (PW.pt (pw_or (pt_cmpR op_eq (pe_ix ix_list (pv 0) pe_int (fun _ _ => rfl)) pe_int (nomark _)) (pw_or1 (PW.pt (pw_and (pt_cmpR op_eq (pe_ix ix_list (pv 0) pe_int (fun _ _ => rfl)) pe_int (nomark _)) (pw_and1 (pt_cmpR op_gt (pe_ix ix_list (pv 0) pe_int (fun _ _ => rfl)) pe_int (nomark _)))))))) (pss_cons (ps_set (i := 2) sc__law_roll.nd rfl (Or.inl rfl) (pe_op op_mod (pe_callTy call_int1 (by rfl) T.n_int (by decide +kernel) (pa_cons (pe_ix ix_list (pv 0) pe_int (fun _ _ => rfl)) pa_nil)) (pv 1)))
        (pss_cons (ps_asg (pe_op op_fdivW (pe_ix ix_list (pv 0) pe_int (fun _ _ => rfl)) (pv 1)) (pg_sub (pv 0) pe_int set_list))
        (pss_one (ps_ret (pv 2))))) pss_nil)
      (pss_cons (ps_asg pe_int (pg_sub (pv 0) pe_int set_list))
      (pss_cons (ps_asg (pe_op op_mod (pe_callTy call_int1 (by rfl) T.n_int (by decide +kernel) (pa_cons (pe_op op_add (pe_op op_add (pe_op op_mul (pe_ix ix_list (pv 0) pe_int (fun _ _ => rfl)) pe_int) (pe_op op_mul (pe_ix ix_list (pv 0) pe_int (fun _ _ => rfl)) pe_int)) pe_int) pa_nil)) pe_int) (pg_sub (pv 0) pe_int set_list))
      (pss_cons (ps_asg (pe_op op_add (pe_ix ix_list (pv 0) pe_int (fun _ _ => rfl)) pe_int) (pg_sub (pv 0) pe_int set_list))
      (pss_one (ps_ret (pe_op op_mod (pe_callTy call_int1 (by rfl) T.n_int (by decide +kernel) (pa_cons (pe_op op_add (pe_op op_fdivW (pe_ix ix_list (pv 0) pe_int (fun _ _ => rfl)) pe_int) (pe_ix ix_list (pv 0) pe_int (fun _ _ => rfl))) pa_nil)) (pv 1)))))))), ?_⟩
    have dm : ∀ i : Int, CDivW i m := fun i => dw (b := 20) (by omega) (Lt2.nn (by omega) (by show m < 1048576; omega))
    have mod0 : ∀ i : Int, 0 ≤ i % m ∧ i % m < m := fun i => ⟨Int.emod_nonneg _ (by omega), Int.emod_lt_of_pos _ (by omega)⟩
    refine ifS_of (decide (c = 2) || (decide (c = 1) && decide (a > 0))) (fun Q' k' => ?_) ?_
    · refine ⟨_, rfl, d, _, ((2 : Nat) : Int), _, rfl, rfl, Evl.sq_of hd, atI_nat (j := 2) rfl, rfl, _, rfl, ?_⟩
      rw [decV]
      by_cases c2 : c = 2
      · rw [decide_eq_true c2] at k' ⊢
        exact iteT k'
      · rw [decide_eq_false c2] at k' ⊢
        refine iteF ⟨_, rfl, d, _, ((2 : Nat) : Int), _, rfl, rfl, Evl.sq_of hd, atI_nat (j := 2) rfl, rfl, _, rfl, ?_⟩
        rw [decV]
        by_cases c1 : c = 1
        · rw [decide_eq_true c1] at k' ⊢
          exact iteT ⟨_, rfl, d, _, ((0 : Nat) : Int), _, rfl, rfl, Evl.sq_of hd, atI_nat (j := 0) rfl, _, _, rfl, rfl, _, rfl, k'⟩
        · rw [decide_eq_false c1] at k' ⊢
          exact iteF k'
    · cases (decide (c = 2) || (decide (c = 1) && decide (a > 0))) with
      | true =>
        refine iteT ⟨_, rfl, d, _, ((0 : Nat) : Int), _, rfl, rfl, Evl.sq_of hd, atI_nat (j := 0) rfl, .inl ⟨_, rfl, _, rfl, _, _, rfl, rfl, (by show (0 : Int) < m; omega), ?_⟩⟩
        refine ⟨_, rfl, d, _, ((0 : Nat) : Int), _, rfl, rfl, Evl.sq_of hd, atI_nat (j := 0) rfl, _, rfl, _, _, rfl, rfl, dm _, _, rfl, d, _, 0, 0, rfl, rfl, hd, rfl, _, rfl, ?_⟩
        exact k _ _ _ (mod0 a).1 (mod0 a).2 rfl ⟨_, _, _, upd_same⟩
      | false =>
        refine iteF ⟨_, rfl, d, _, 2, 2, rfl, rfl, hd, rfl, ?_⟩
        refine ⟨_, rfl, d, _, ((0 : Nat) : Int), .int a, rfl, rfl, Evl.sq_of upd_same, atI_nat (j := 0) rfl, _, _, rfl, rfl, cm_r (by decide) (by decide), _, rfl, d, _, ((1 : Nat) : Int), .int b, rfl, rfl, Evl.sq_of upd_same, atI_nat (j := 1) rfl, _, _, rfl, rfl, cm_r (by decide) (by decide), _, _, rfl, rfl, _, _, rfl, rfl, .inl ⟨_, rfl, _, _, rfl, rfl, (by show (0 : Int) < 2147483647; decide), _, rfl, d, _, 0, 0, rfl, rfl, upd_same, rfl, ?_⟩⟩
        rw [upd_upd]
        refine ⟨_, rfl, d, _, ((1 : Nat) : Int), .int b, rfl, rfl, Evl.sq_of upd_same, atI_nat (j := 1) rfl, _, _, rfl, rfl, _, rfl, d, _, 1, 1, rfl, rfl, upd_same, rfl, ?_⟩
        rw [upd_upd]
        refine ⟨_, rfl, d, _, ((0 : Nat) : Int), _, rfl, rfl, Evl.sq_of upd_same, atI_nat (j := 0) rfl, _, _, rfl, rfl, dw (b := 3) (by decide) (Lt2.nn (by decide) (by decide)), _, rfl, d, _, ((0 : Nat) : Int), _, rfl, rfl, Evl.sq_of upd_same, atI_nat (j := 0) rfl, _, _, rfl, rfl, .inl ⟨_, rfl, _, rfl, _, _, rfl, rfl, (by show (0 : Int) < m; omega), ?_⟩⟩
        exact k _ _ _ (mod0 _).1 (mod0 _).2 rfl ⟨_, _, _, upd_same⟩
abbrev s__law_dice : Stmt := top 64
abbrev N__law_dice : List Str := ["cell"]
theorem sc__law_dice : FnScope N__law_dice ["cell"] (C8.fnScope s__law_dice) := C8.fnScope_by (by decide +kernel)
-- slots: cell=0
def spDice : Sp := fun vs H Q _ => ∃ c : Int, vs = [.int c] ∧ ∀ d ys H', H d = none → H' = upd H d (.lst ys) → DiceOk H' d → Q (.ref d) H'
theorem k__law_dice {f : Addr} {fd : FuncData} (T : Tx K mg) (Df : C8.Def K mg "_law_dice" s__law_dice f fd) (bf : Binds K fd ["cell"] []) : C8.Cal P w K mg base 1 "_law_dice" spDice [] := by
  refine C8.cal0 Df bf .nil sc__law_dice (fun vs H Q E h => ?_) (fun cdv A outer s H vs Q E hr h => ?_)
  · obtain ⟨_, rfl, _⟩ := h; rfl
  · obtain ⟨c, rfl, k⟩ := h
    refine ⟨_, (pss_cons (ps_if (pt_chain op_lt op_lt (pe_op op_sub pe_int pe_int) (pv 0) pe_int) (pss_one (ps_ret (pe_lst (pa_cons (pe_callB call_abs (by rfl) T.n_abs (by decide +kernel) (pa_cons (pv 0) pa_nil)) (pa_cons pe_int (pa_cons pe_int pa_nil)))))) pss_nil)
      (pss_one (ps_ret (pe_lst (pa_cons (pv 0) (pa_cons (pe_op op_add pe_int (pe_op op_mod (pe_callTy call_int1 (by rfl) T.n_int (by decide +kernel) (pa_cons (pv 0) pa_nil)) pe_int)) (pa_cons (pe_callTy call_int1 (by rfl) T.n_int (by decide +kernel) (pa_cons (pe_cmpR op_ge (pv 0) (pe_op op_pow pe_int pe_int) (nomark _)) pa_nil)) pa_nil))))))), ?_⟩
    refine ifS_of (decide (-10 < c) && decide (c < 10)) (fun Q' k' => ?_) ?_
    · refine ⟨_, _, rfl, rfl, _, rfl, _, _, rfl, rfl, _, rfl, ?_⟩
      by_cases h1 : -10 < c
      · rw [decide_eq_true h1] at k'
        rw [decide_eq_true (by omega)]
        exact iteT ⟨_, _, rfl, rfl, _, rfl, k'⟩
      · rw [decide_eq_false h1] at k'
        rw [decide_eq_false (by omega)]
        exact iteF ⟨_, rfl, k'⟩
    · cases (decide (-10 < c) && decide (c < 10)) with
      | true => exact iteT ⟨_, rfl, _, rfl, (by show 3 ≤ sizeLine; decide), fun d hd => k d _ _ hd rfl ⟨_, _, _, upd_same⟩⟩
      | false => exact iteF ⟨_, rfl, _, rfl, .inl ⟨_, rfl, _, _, rfl, rfl, (by show (0 : Int) < 1009; decide), _, _, rfl, rfl, _, rfl, _, _, rfl, rfl, (by unfold CPow; decide), _, _, rfl, rfl, .inr ⟨_, rfl, (by show 3 ≤ sizeLine; decide), fun d hd => k d _ _ hd rfl ⟨_, _, _, upd_same⟩⟩⟩⟩
abbrev s__law_rounds : Stmt := top 66
abbrev N__law_rounds : List Str := ["script", "most", "cells", "cell"]
theorem sc__law_rounds : FnScope N__law_rounds ["script", "most"] (C8.fnScope s__law_rounds) := C8.fnScope_by (by decide +kernel)
-- slots: script=0 most=1 cells=2 cell=3
def spRounds (K : PySem.W.Frag) : Sp := fun vs H Q _ => ∃ (p : Addr) (xs : List Int), vs = [.ref p, .int 1] ∧ SqL K H p (xs.map V.int) ∧ ∀ d L H', Ex H H' → H d = none → H' L = some (.lst [.ref d]) → DiceOk H' d → Q (.ref L) H'
theorem k__law_rounds {f : Addr} {fd : FuncData} (T : Tx K mg) (Df : C8.Def K mg "_law_rounds" s__law_rounds f fd) (bf : Binds K fd ["script", "most"] []) (c__law_dice : C8.Cal P w K mg base 1 "_law_dice" spDice []) : C8.Cal P w K mg base 2 "_law_rounds" (spRounds K) [] := by
  refine C8.cal0 Df bf .nil sc__law_rounds (fun vs H Q E h => ?_) (fun cdv A outer s H vs Q E hr h => ?_)
  · obtain ⟨_, _, rfl, _⟩ := h; rfl
  · obtain ⟨p, xs, rfl, hp, k⟩ := h
    refine ⟨_, (pss_cons (ps_set (i := 2) sc__law_rounds.nd rfl (Or.inl rfl) (pe_slice sl_list (pv 0) po_none (po_some (pv 1))))
      (pss_cons (ps_if (pt_cmpR (op_eqD hr.units) (pv 2) (pe_lst pa_nil) (nomark _)) (pss_one (ps_set (i := 2) sc__law_rounds.nd rfl (Or.inl rfl) (pe_lst (pa_cons pe_int pa_nil)))) pss_nil)
      (pss_one (ps_ret (pe_lc (own := [("cell", 3)]) rfl sc__law_rounds.nd (pi_list (pv 2)) (by first | exact blkOk_by (N := N__law_rounds) (sc := C8.fnScope s__law_rounds) (by decide +kernel) | exact blkOk_by (by rfl)) (fun _ _ _ _ _ => castPG (pg_name (i := 3) sc__law_rounds.nd rfl (Or.inl rfl) (by first | exact Or.inr rfl | exact Or.inl rfl)) (by first | (dsimp only [Cx.blk]; done) | rfl)) (fun _ _ _ _ _ => castPTs (pts_nil) (by first | (dsimp only [Cx.blk]; done) | rfl)) (fun _ _ _ _ _ => castPE (C8.pe_c c__law_dice hr (by omega) (by rfl) (pa_cons (pv 3) pa_nil)) (by first | (dsimp only [Cx.blk]; done) | rfl))))))), ?_⟩
    have hcut : ∃ x : Int, cutV (xs.map V.int) none (some 1) = (if xs = [] then [] else [V.int x]) := by
      match xs with
      | [] => exact ⟨0, by rfl⟩
      | x :: xs => 
        refine ⟨x, ?_⟩
        rw [if_neg (by simp)]
        unfold cutV HT.sIx
        simp
    obtain ⟨x, hcut⟩ := hcut
    refine ⟨_, rfl, _, rfl, _, rfl, p, _, rfl, hp, fun q hq => ?_⟩
    rw [hcut]
    dsimp only [gName, tSeq]
    have e1 : Ex H (upd H q (.lst (if xs = [] then [] else [V.int x]))) := Evl.Ex.new hq
    refine with_ifS (fun σ' H' => ∃ (C : Addr) (x : Int), σ' = [some (.ref p), some (.int 1), some (.ref C), none] ∧ Ex H H' ∧ H' C = some (.lst [.int x])) (fun D' k' => ?_) ?_
    · by_cases z : xs = []
      · simp only [if_pos z] at e1 ⊢
        refine ⟨_, rfl, (by show 0 ≤ sizeLine; exact Nat.zero_le _), fun r hr0 => ⟨.list [], .list [], .lst (Evl.sq_of (Evl.Ex.new hr0 _ _ upd_same)) .nil, .lst (Evl.sq_of upd_same) .nil, rfl, rfl, _, rfl, ?_⟩⟩
        refine iteT ⟨(by show 1 ≤ sizeLine; decide), fun C hC => k' _ _ ⟨C, 0, rfl, Evl.Ex.trans (Evl.Ex.trans e1 (Evl.Ex.new hr0)) (Evl.Ex.new hC), upd_same⟩⟩
      · simp only [if_neg z] at e1 ⊢
        refine ⟨_, rfl, (by show 0 ≤ sizeLine; exact Nat.zero_le _), fun r hr0 => ⟨.list [.int x], .list [], .lst (Evl.sq_of (Evl.Ex.new hr0 _ _ upd_same)) (.cons (.int _) .nil), .lst (Evl.sq_of upd_same) .nil, rfl, rfl, _, rfl, ?_⟩⟩
        rw [eqv_nil (by simp)]
        refine iteF (k' _ _ ⟨q, x, rfl, Evl.Ex.trans e1 (Evl.Ex.new hr0), Evl.Ex.new hr0 _ _ upd_same⟩)
    · rintro _ H2 ⟨C, x, rfl, e2, hC⟩
      refine ⟨_, rfl, C, rfl, ⟨_, Evl.sq_of hC⟩, fun L hL => ?_⟩
      have hCL : C ≠ L := ne_of_none hC hL
      refine lc_n (n := 1) (fun i acc H' => Ex H H' ∧ H' C = some (.lst [.int x]) ∧ ((i = 0 ∧ acc = []) ∨ ∃ d, i = 1 ∧ acc = [.ref d] ∧ H d = none ∧ DiceOk H' d)) ⟨Evl.Ex.trans e2 (Evl.Ex.new hL), (upd_ne hCL).trans hC, .inl ⟨rfl, rfl⟩⟩ (fun i acc H' hi pv => ⟨_, .int x, Evl.sq_of pv.2.1, by rw [show i = 0 by omega]; rfl⟩) (fun acc H' pv => ⟨_, Evl.sq_of pv.2.1, Nat.le_refl _⟩) (fun i acc H1 u H3 hi hacc pv hy => ?_) (fun acc H1 hacc pv => ?_)
      · obtain ⟨rfl, hu⟩ := hy
        obtain ⟨e, hC1, hcase⟩ := pv
        rcases hcase with ⟨rfl, rfl⟩ | ⟨d, h1, _⟩
        · have hu := hu _ (Evl.sq_of hC1)
          cases hu
          refine ⟨rfl, ⟨_, rfl, x, rfl, fun d ys H' hd eH hok => ?_⟩⟩
          subst eH
          have hLd : L ≠ d := ne_of_none hacc hd
          have hd0 := none_ex e hd
          have hL2 : upd H3 d (.lst ys) L = some (.lst []) := (upd_ne hLd).trans hacc
          have hB : H L = none := none_ex e2 hL
          have hCd : C ≠ d := ne_of_none hC1 hd
          refine App.of hL2 (by decide) ⟨Evl.Ex.mut (Evl.Ex.trans e (Evl.Ex.new hd)) hB, (upd_ne hCL).trans ((upd_ne hCd).trans hC1), .inr ⟨d, rfl, rfl, hd0, ?_⟩⟩
          obtain ⟨a, b, c, h⟩ := hok
          exact ⟨a, b, c, (upd_ne (Ne.symm hLd)).trans h⟩
        · omega
      · rcases pv.2.2 with ⟨z, _⟩ | ⟨d, _, rfl, hd, hok⟩
        · cases z
        · exact k d L H1 pv.1 hd hacc hok
end
end KK
end
/-! K30 -/
section
set_option Elab.async false
set_option linter.all false
set_option maxRecDepth 100000
namespace KK
open PySem PySem.Spec PyProof.Rows L2 KM LX LamX NdefX
section
variable {P : Program} {w : World} {K : PySem.W.Frag} {mg : Str → Option Value} {base : Heap} {T9 : LX.TL} {CS : Addr}
abbrev s__law_rolls : Stmt := top 68
abbrev N__law_rolls : List Str := ["many", "sides", "found", "turn", "later", "amount", "side"]
theorem sc__law_rolls : FnScope N__law_rolls ["many", "sides"] (C8.fnScope s__law_rolls) := C8.fnScope_by (by decide +kernel)
-- slots: many=0 sides=1 found=2 turn=3 later=4 amount=5 side=6
def spLRolls : Sp := fun vs H Q _ => ∃ n s : Nat, vs = [.int (n : Nat), .int (s : Nat)] ∧ n ≤ 20 ∧ s ≤ 30 ∧ ∀ r H' rows, Ex H H' → H r = none → H' r = some (.dK (dk rows)) → (rows.map (·.1)).Nodup → (∀ p ∈ rows, 0 ≤ p.2) → (∀ φ, ms rows φ = Ep s n φ 0) → rows.length ≤ 1000 → Q (.ref r) H'
theorem box_len {rows : IL} {B : Nat} (nd : (rows.map (·.1)).Nodup) (h : ∀ p ∈ rows, 0 ≤ p.1 ∧ p.1 ≤ (B : Int)) : rows.length ≤ B + 1 := by
  have := nodup_box (n := B + 1) nd fun x hx => by
    obtain ⟨p, hp, rfl⟩ := List.mem_map.mp hx
    have := h p hp
    omega
  rw [List.length_map] at this
  exact this
theorem keys_box {rows : IL} {B : Nat} {k w : Int} (h : ∀ p ∈ rows, 0 ≤ p.1 ∧ p.1 ≤ (B : Int)) (h0 : 0 ≤ k) (h1 : k ≤ (B : Int)) : ∀ p ∈ bump rows k w, 0 ≤ p.1 ∧ p.1 ≤ (B : Int) := fun p hp => by
  have hk : p.1 ∈ (bump rows k w).map (·.1) := List.mem_map_of_mem hp
  rcases (keys_bump _ _ _ _).mp hk with z | z
  · rw [z]; exact ⟨h0, h1⟩
  · obtain ⟨q, hq, e⟩ := List.mem_map.mp z
    rw [← e]
    exact h q hq
theorem k__law_rolls {f : Addr} {fd : FuncData} (T : Tx K mg) (Df : C8.Def K mg "_law_rolls" s__law_rolls f fd) (bf : Binds K fd ["many", "sides"] []) : C8.Cal P w K mg base 1 "_law_rolls" spLRolls [] := by
  refine C8.cal0 Df bf .nil sc__law_rolls (fun vs H Q E h => ?_) (fun cdv A outer s H vs Q E hr h => ?_)
  · obtain ⟨_, _, rfl, _⟩ := h; rfl
  · obtain ⟨n, sd, rfl, hn, hs, k⟩ := h
    refine ⟨_, (pss_cons (ps_set (i := 2) sc__law_rolls.nd rfl (Or.inl rfl) (pe_disp (pps_cons pe_int pe_int pps_nil) (by rfl) (by rfl) (fun z => by cases z) (by decide)))
      (pss_cons (ps_for PassesOwn.never rfl (pi_range1 (by rfl) T.n_range (pa_cons (pv 0) pa_nil)) (pg_name (i := 3) sc__law_rolls.nd rfl (Or.inl rfl) (by exact Or.inl rfl))
      (pss_cons (ps_set (i := 4) sc__law_rolls.nd rfl (Or.inl rfl) pe_dnewK)
        (pss_cons (ps_for PassesOwn.never rfl (pi_keys (RX.pe_frz (pv 2))) (pg_name (i := 5) sc__law_rolls.nd rfl (Or.inl rfl) (by exact Or.inl rfl))
        (pss_one (ps_for PassesOwn.never rfl (pi_range2 (by rfl) T.n_range (pa_cons pe_int (pa_cons (pe_op op_add (pv 1) pe_int) pa_nil))) (pg_name (i := 6) sc__law_rolls.nd rfl (Or.inl rfl) (by exact Or.inl rfl))
          (pss_one (ps_dput hr.u1 (pv 4) (pe_op op_add (pv 5) (pv 6)) (pe_op op_add (pe_dget2 hr.u1 (pv 4) (pe_op op_add (pv 5) (pv 6)) pe_int ⟨rfl, by rfl, rfl, rfl⟩) (pe_dget hr.u1 (pv 2) (pv 5) (fun _ _ => rfl))) rfl)))))
        (pss_one (ps_set (i := 2) sc__law_rolls.nd rfl (Or.inl rfl) (pv 4))))))
      (pss_one (ps_ret (pv 2))))), ?_⟩
    refine fun F0 hF0 => ⟨upd_same, [(.inl 0, .int 1)], rfl, (by show 1 ≤ 15; decide), ?_⟩
    rw [upd_upd]
    refine ⟨_, rfl, ((n : Nat) : Int), rfl, by omega, by omega, ?_⟩
    refine for_n (n := n) (fun t σ' H' => ∃ (o3 o4 o5 o6 : Option V) (F : Addr) (rows : IL), σ' = [some (.int (n : Nat)), some (.int (sd : Nat)), some (.ref F), o3, o4, o5, o6] ∧ Ex H H' ∧ H F = none ∧ H' F = some (.dK (dk rows)) ∧ (rows.map (·.1)).Nodup ∧ (∀ p ∈ rows, 0 ≤ p.2) ∧ (∀ φ, ms rows φ = Ep sd t φ 0) ∧ ∀ p ∈ rows, 0 ≤ p.1 ∧ p.1 ≤ ((t * sd : Nat) : Int))
      ⟨_, _, _, _, F0, [(0, 1)], rfl, Evl.Ex.new hF0, hF0, upd_same, by simp, by simp, fun φ => by simp [ms, Ep], by simp⟩ (fun i σ' H' hi _ => by show i < ((n : Nat) : Int).toNat; omega) (fun σ' H' _ => by show ((n : Nat) : Int).toNat ≤ n; omega) ?_ ?_
    · rintro t _ H1 u H2 ht ⟨o3, o4, o5, o6, F, rows, rfl, e, hB, hF, nd, nn, hms, hbx⟩ ⟨rfl, rfl⟩
      refine fun L hL => ⟨_, rfl, F, .dK (dk rows), rfl, (upd_ne (ne_of_none hF hL)).trans hF, trivial, fun od => ⟨F, od, rfl, .inl ⟨dk rows, upd_same, ?_⟩⟩⟩
      have hFL : F ≠ L := ne_of_none hF hL
      have hBL : H L = none := none_ex e hL
      have e1 : Ex H (upd (upd H2 L (.dK [])) F (.frz od (.dK (dk rows)))) := Evl.Ex.mut (Evl.Ex.trans e (Evl.Ex.new hL)) hB
      have f1 : upd (upd H2 L (.dK [])) F (.frz od (.dK (dk rows))) F = some (.frz od (.dK (dk rows))) := upd_same
      have l1 : upd (upd H2 L (.dK [])) F (.frz od (.dK (dk rows))) L = some (.dK (dk [])) := (upd_ne (Ne.symm hFL)).trans upd_same
      generalize (upd (upd H2 L (.dK [])) F (.frz od (.dK (dk rows)))) = G1 at e1 f1 l1
      have hbd : t * sd + sd ≤ 600 := by
        have := Nat.mul_le_mul (show t + 1 ≤ 20 by omega) hs
        rw [Nat.add_mul] at this
        omega
      refine for_n (n := rows.length) (fun i σ' H' => ∃ (o5 o6 : Option V) (rows2 : IL), σ' = [some (.int (n : Nat)), some (.int (sd : Nat)), some (.ref F), some (.int (0 + (t : Nat))), some (.ref L), o5, o6] ∧ Ex H H' ∧ H' F = some (.frz od (.dK (dk rows))) ∧ H' L = some (.dK (dk rows2)) ∧ (rows2.map (·.1)).Nodup ∧ (∀ p ∈ rows2, 0 ≤ p.2) ∧ (∀ φ, ms rows2 φ = ms (rows.take i) (KM.E sd φ)) ∧ ∀ p ∈ rows2, 0 ≤ p.1 ∧ p.1 ≤ ((t * sd + sd : Nat) : Int))
        ⟨_, _, [], rfl, e1, f1, l1, List.nodup_nil, fun p hp => absurd hp List.not_mem_nil, fun φ => rfl, fun p hp => absurd hp List.not_mem_nil⟩ (fun i σ' H' hi ⟨_, _, _, _, _, f, _⟩ => ⟨f, by rw [dk_len]; exact hi⟩) (fun σ' H' ⟨_, _, _, _, _, f, _⟩ => ⟨f, by rw [dk_len]; exact Nat.le_refl _⟩) ?_ ?_
      · rintro i _ H3 u3 H4 hi ⟨o5, o6, rows2, rfl, e3, f3, l3, nd3, nn3, hms3, hbx3⟩ ⟨rfl, kk, vv, hk, rfl⟩
        obtain ⟨x, b, hab, rfl, rfl⟩ := dk_get hk
        have hmem := List.mem_of_getElem? hab
        have hx := hbx _ hmem
        have hx : 0 ≤ x ∧ x ≤ ((t * sd : Nat) : Int) := hx
        have hb0 : 0 ≤ b := nn _ hmem
        have hgx : getI rows x = b := getI_mem nd hmem
        have hkx : x ∈ rows.map (·.1) := List.mem_map_of_mem hmem
        have htk := fun φ => ms_take hab φ
        refine ⟨_, rfl, _, _, rfl, rfl, 1, ((sd : Nat) : Int) + 1, rfl, ⟨by omega, by omega, by omega, by omega⟩, ?_⟩
        refine for_n (n := sd) (fun j σ' H' => ∃ (o6 : Option V) (rows3 : IL), σ' = [some (.int (n : Nat)), some (.int (sd : Nat)), some (.ref F), some (.int (0 + (t : Nat))), some (.ref L), some (.int x), o6] ∧ Ex H H' ∧ H' F = some (.frz od (.dK (dk rows))) ∧ H' L = some (.dK (dk rows3)) ∧ (rows3.map (·.1)).Nodup ∧ (∀ p ∈ rows3, 0 ≤ p.2) ∧ (∀ φ, ms rows3 φ = ms (rows.take i) (KM.E sd φ) + b * sumr j fun i => φ (x + (1 + (i : Int)))) ∧ ∀ p ∈ rows3, 0 ≤ p.1 ∧ p.1 ≤ ((t * sd + sd : Nat) : Int))
          ⟨_, rows2, rfl, e3, f3, l3, nd3, nn3, fun φ => by rw [hms3]; simp [sumr], hbx3⟩ (fun j σ' H' hj _ => by show j < (((sd : Nat) : Int) + 1 - 1).toNat; omega) (fun σ' H' _ => by show (((sd : Nat) : Int) + 1 - 1).toNat ≤ sd; omega) ?_ ?_
        · rintro j _ H5 u5 H6 hj ⟨o6, rows3, rfl, e5, f5, l5, nd5, nn5, hms5, hbx5⟩ ⟨rfl, rfl⟩
          have hlen := box_len nd5 hbx5
          refine ⟨_, rfl, L, rfl, .inl ⟨_, .inl l5⟩, _, rfl, _, rfl, _, _, rfl, rfl, valV (dk rows3) (.inl (x + (1 + (j : Nat)))), .inl ⟨dk rows3, .inl (x + (1 + (j : Nat))), .inl l5, rfl, rfl⟩, ?_⟩
          refine ⟨_, rfl, _, rfl, F, _, rfl, .inl ⟨dk rows, .inl x, .inr ⟨od, f5⟩, rfl, (dk_some hkx).symm⟩, getI rows3 (x + (1 + (j : Nat))), getI rows x, dk_val _ _, rfl, _, rfl, _, rfl, _, rfl, _, _, rfl, rfl, L, _, rfl, .inl ⟨dk rows3, .inl (x + (1 + (j : Nat))), l5, rfl, Evl.sz_lt (by rw [dk_len]; omega), rfl⟩, ?_⟩
          rw [dk_put _ _ nd5, hgx]
          refine ⟨_, bump rows3 (x + (1 + (j : Nat))) b, rfl, Evl.Ex.mut e5 hBL, (upd_ne hFL).trans f5, upd_same, nodup_bump _ _ nd5, vals_bump nn5 hb0, fun φ => ?_, keys_box hbx5 (by omega) (by omega)⟩
          rw [ms_bump, hms5]
          show _ = _ + b * (sumr j _ + _)
          rw [Int.mul_add]
          exact Int.add_assoc _ _ _
        · rintro _ H5 ⟨o6, rows3, rfl, e5, f5, l5, nd5, nn5, hms5, hbx5⟩
          refine ⟨_, _, rows3, rfl, e5, f5, l5, nd5, nn5, fun φ => ?_, hbx5⟩
          rw [hms5, htk]
          rfl
      · rintro _ H3 ⟨o5, o6, rows2, rfl, e3, f3, l3, nd3, nn3, hms3, hbx3⟩
        rw [List.take_length] at hms3
        refine ⟨_, rfl, _, _, _, _, L, rows2, rfl, e3, hBL, l3, nd3, nn3, fun φ => ?_, fun p hp => ?_⟩
        · rw [hms3, hms]
          rfl
        · rw [Nat.add_mul, Nat.one_mul]
          exact hbx3 p hp
    · rintro _ H1 ⟨o3, o4, o5, o6, F, rows, rfl, e, hB, hF, nd, nn, hms, hbx⟩
      have hlen := box_len nd hbx
      have := Nat.mul_le_mul hn hs
      exact ⟨_, rfl, k F H1 rows e hB hF nd nn hms (by omega)⟩
end
end KK
end
/-! K31 -/
section
set_option Elab.async false
set_option linter.all false
set_option maxRecDepth 100000
namespace KK
open PySem PySem.Spec PyProof.Rows L2 KM LX LamX NdefX
section
variable {P : Program} {w : World} {K : PySem.W.Frag} {mg : Str → Option Value} {base : Heap} {T9 : LX.TL} {CS : Addr}
theorem ExB.kt {r : Addr} {H H' : Hp} {kvs : List (Key × V)} (h : ExB r H H') (hr : H r = some (.dK kvs)) : Kt H H' := fun b xs hb => by
  have ne : b ≠ r := fun z => by
    subst z
    rcases hb with hb | ⟨o, hb⟩ <;> (rw [hr] at hb; cases hb)
  rcases hb with hb | ⟨o, hb⟩
  · exact .inl (h _ _ ne hb)
  · exact .inr ⟨o, h _ _ ne hb⟩
theorem ExB.spAt {r : Addr} {H H' : Hp} {kvs : List (Key × V)} {v : V} {ws : IL} (h : ExB r H H') (hr : H r = some (.dK kvs)) (s : SpAt CS H v ws) : SpAt CS H' v ws := by
  obtain ⟨a, dx, wd, od, h1, h2, h3⟩ := s
  exact ⟨a, dx, wd, od, h1, h _ _ (fun z => by rw [z, hr] at h2; cases h2) h2, h _ _ (fun z => by rw [z, hr] at h3; cases h3) h3⟩
theorem pdP_kt {H H' : Hp} (e : Kt H H') {v : V} {p : Int × Int} (h : Dp K H v (pdP p)) : Dp K H' v (pdP p) := by
  cases h with
  | tup hs ha =>
    cases ha with
    | cons h1 h2 =>
      cases h1
      cases h2 with
      | cons h3 h4 =>
        cases h3
        cases h4
        exact .tup (e.sq hs) (.cons (.int _) (.cons (.int _) .nil))
theorem pdPs_kt {H H' : Hp} (e : Kt H H') : ∀ {ws : IL} {vs : List V}, DpAll K H vs (ws.map pdP) → DpAll K H' vs (ws.map pdP)
  | [], _, h => by cases h; exact .nil
  | p :: ws, _, h => by
    cases h with
    | cons h1 h2 => exact .cons (pdP_kt e h1) (pdPs_kt e h2)
theorem shD_kt {H H' : Hp} (e : Kt H H') {v : V} {ws : IL} (h : Dp K H v (shD ws)) : Dp K H' v (shD ws) := by
  cases h with
  | tup hs ha =>
    cases ha with
    | cons h1 h2 =>
      cases h2 with
      | cons h3 h4 =>
        cases h3
        cases h4
        cases h1 with
        | tup hs1 ha1 => exact .tup (e.sq hs) (.cons (.tup (e.sq hs1) (pdPs_kt e ha1)) (.cons (.int _) .nil))
theorem shD_flat (ws : IL) : Flat 3 (shD ws) := Flat.tuple fun d hd => by
  rcases List.mem_cons.mp hd with rfl | hd
  · refine Flat.tuple fun d hd => ?_
    obtain ⟨p, _, rfl⟩ := List.mem_map.mp hd
    refine Flat.tuple fun d hd => ?_
    rcases List.mem_cons.mp hd with rfl | hd
    · exact Flat.int _
    · rw [List.mem_singleton] at hd; subst hd; exact Flat.int _
  · rw [List.mem_singleton] at hd; subst hd; exact Flat.int _
abbrev s__law_same : Stmt := top 70
abbrev N__law_same : List Str := ["spread", "ways_v", "value"]
theorem sc__law_same : FnScope N__law_same ["spread", "ways_v"] (C8.fnScope s__law_same) := C8.fnScope_by (by decide +kernel)
-- slots: spread=0 ways_v=1c value=2
def spSame (CS : Addr) : Sp := fun vs H Q _ => ∃ (v : V) (wd : Addr) (ws rows : IL) (F : Fn) (c d : Int), vs = [v, .ref wd] ∧ SpAt CS H v ws ∧ Spr ws F ∧ H wd = some (.dK (dk rows)) ∧ (rows.map (·.1)).Nodup ∧ (∀ p ∈ rows, 0 ≤ p.2) ∧ 0 < (ms rows fun _ => 1) ∧ Lt2 (ms rows fun _ => 1) 8000 ∧ rows.length ≤ 100000 ∧ 0 < c ∧ 0 < d ∧ (∀ φ, c * F φ = d * ms rows φ) ∧ ∀ H', ExB wd H H' → Q (.bl true) H'
theorem k__law_same {f : Addr} {fd : FuncData} (T : Tx K mg) (Df : C8.Def K mg "_law_same" s__law_same f fd) (bf : Binds K fd ["spread", "ways_v"] []) (mt_Spread_shown : C8.Met P w K mg base 1 CS "shown" (spShown K CS) []) (m_Spread : C8.Mak P w K mg base 2 "Spread" CS (spInit CS) []) : C8.Cal P w K mg base 4 "_law_same" (spSame CS) [] := by
  refine C8.cal0 Df bf .nil sc__law_same (fun vs H Q E h => ?_) (fun cdv A outer s H vs Q E hr h => ?_)
  · obtain ⟨_, _, _, _, _, _, _, rfl, _⟩ := h; rfl
  · obtain ⟨v, wd, ws, rows, F, cc, dd, rfl, hS, hSp, hw, nd, nn, hpos, hlt, hlen, hc, hd0, heq, k⟩ := h
    refine ⟨_, (pss_one (ps_ret (pe_cmpR (op_eqD hr.units) (C8.pe_mt0 mt_Spread_shown hr (by omega) (pv 0)) (C8.pe_mt0 mt_Spread_shown hr (by omega) (C8.pe_mk m_Spread hr (by omega) (by rfl) (pa_cons (pe_callTy (call_dictP rfl) (by rfl) T.n_dict (by decide +kernel) (pa_cons (pe_lc (own := [("value", 2)]) rfl sc__law_same.nd (pi_keys (RX.pe_frz (pv 1))) (by first | exact blkOk_by (N := N__law_same) (sc := C8.fnScope s__law_same) (by decide +kernel) | exact blkOk_by (by rfl)) (fun _ _ _ _ _ => castPG (pg_name (i := 2) sc__law_same.nd rfl (Or.inl rfl) (by first | exact Or.inr rfl | exact Or.inl rfl)) (by first | (dsimp only [Cx.blk]; done) | rfl)) (fun _ _ _ _ _ => castPTs (pts_one (pt_cmpR op_gt (pe_dget hr.u1 (pv 1) (pv 2) (fun _ _ => rfl)) pe_int (nomark _))) (by first | (dsimp only [Cx.blk]; done) | rfl)) (fun _ _ _ _ _ => castPE (pe_tup (pa_cons (pv 2) (pa_cons (pe_dget hr.u1 (pv 1) (pv 2) (fun _ _ => rfl)) pa_nil))) (by first | (dsimp only [Cx.blk]; done) | rfl))) pa_nil)) pa_nil))) (nomark _)))), ?_⟩
    have hS0 := hS
    obtain ⟨a, dx, wdd, od0, rfl, ha, hwd⟩ := hS
    refine ⟨_, rfl, a, dx, _, rfl, ha, rfl, .ref a, ws, rfl, hS0, fun r1 H1 e1 d1 => ?_⟩
    have hw1 := e1 _ _ hw
    refine ⟨_, rfl, wd, .dK (dk rows), rfl, hw1, trivial, fun od => ⟨wd, od, rfl, .inl ⟨dk rows, upd_same, fun D hD => ?_⟩⟩⟩
    have b1 : ExB wd H1 (upd H1 wd (.frz od (.dK (dk rows)))) := ExB.refl.mut
    have w1 : upd H1 wd (.frz od (.dK (dk rows))) wd = some (.frz od (.dK (dk rows))) := upd_same
    generalize (upd H1 wd (.frz od (.dK (dk rows)))) = G1 at b1 w1 hD ⊢
    refine lc_n (n := rows.length) (fun i acc H' => Prs K H' acc (dk ((rows.take i).filter fun p => decide (p.2 ≠ 0))) ∧ Ex G1 H') ⟨.nil, Evl.Ex.new hD⟩ (fun i acc H' hi p => ⟨p.2 _ _ w1, by rw [dk_len]; exact hi⟩) (fun acc H' p => ⟨p.2 _ _ w1, by rw [dk_len]; exact Nat.le_refl _⟩) (fun i acc H2 u H3 hi hacc p hy => ?_) (fun acc H2 hacc p => ?_)
    · obtain ⟨rfl, kk, vv, hk, rfl⟩ := hy
      obtain ⟨x, b, hab, rfl, rfl⟩ := dk_get hk
      have hmem := List.mem_of_getElem? hab
      have hb0 : 0 ≤ b := nn _ hmem
      have hgx : getI rows x = b := getI_mem nd hmem
      have hkx : x ∈ rows.map (·.1) := List.mem_map_of_mem hmem
      have tk := List.take_add_one (l := rows) (i := i)
      rw [hab] at tk
      have w3 := p.2 _ _ w1
      have hget : DGet H3 wd (kV (Sum.inl x)) (some (.int (getI rows x))) := .inl ⟨dk rows, .inl x, .inr ⟨od, w3⟩, rfl, (dk_some hkx).symm⟩
      refine ⟨rfl, _, rfl, _, rfl, wd, _, rfl, hget, _, _, rfl, rfl, _, rfl, ?_⟩
      rw [hgx]
      by_cases z : b = 0
      · refine iteN (by rw [decide_eq_false (by omega)]) ⟨acc, hacc, ?_, p.2⟩
        have ef : (rows.take (i + 1)).filter (fun p => decide (p.2 ≠ 0)) = (rows.take i).filter (fun p => decide (p.2 ≠ 0)) := by
          rw [tk]
          simp [z]
        rw [ef]
        exact p.1
      · refine iteY (by rw [decide_eq_true (by omega)]) ⟨_, rfl, _, rfl, _, rfl, wd, _, rfl, hget, (by show 2 ≤ sizeLine; decide), fun q hq => ?_⟩
        rw [hgx]
        refine prs_step hacc p.1 hq p.2 hD ?_ ?_
        · rw [dk_len]
          have h1 := List.length_filter_le (fun p : Int × Int => decide (p.2 ≠ 0)) (rows.take i)
          have h2 := List.length_take_le i rows
          omega
        · rw [tk]
          simp [z, dk]
    · rw [List.take_length] at p
      have hms : ∀ φ, ms (rows.filter fun p => decide (p.2 ≠ 0)) φ = ms rows φ := ms_filter rows
      have ndf : ((rows.filter fun p => decide (p.2 ≠ 0)).map (·.1)).Nodup := nd.sublist (List.Sublist.map _ List.filter_sublist)
      have hll : (rows.filter fun p => decide (p.2 ≠ 0)).length ≤ rows.length := List.length_filter_le _ _
      refine dict_sp (CS := CS) (Q := fun x H1 => ∃ a_4 dx fs, x = V.ref a_4 ∧ H1 a_4 = some (HO.ins CS dx fs) ∧ List.lookup ("shown" : Str) fs = none ∧ spShown K CS [x] H1 (fun y H2 => rEqD K r1 y H2 Q) C8.E0) hacc p.1 ndf (fun q hq => nn q (List.mem_filter.mp hq).1) (by rw [hms]; exact hpos) (by rw [hms]; exact hlt) (by omega) fun v2 H3 ws2 e3 hS2 hSp2 _ => ?_
      have hS20 := hS2
      obtain ⟨a2, dx2, wd2, od2, rfl, ha2, hwd2⟩ := hS2
      refine ⟨a2, dx2, _, rfl, ha2, rfl, .ref a2, ws2, rfl, hS20, fun r2 H4 e4 d2 => ?_⟩
      have bb : ExB wd H1 H4 := b1.go (Evl.Ex.trans (Evl.Ex.trans p.2 e3) e4)
      have hws : ws2 = ws := Spr.unique hSp2 hSp hd0 hc fun φ => by rw [hms]; exact (heq φ).symm
      subst hws
      refine ⟨shD ws2, shD ws2, shD_kt (bb.kt hw1) d1, d2, (shD_flat _).shaped (by decide), (shD_flat _).shaped (by decide), ?_⟩
      rw [(shD_flat ws2).refl]
      exact k H4 fun b o n z => bb b o n (e1 _ _ z)
end
end KK
end
/-! K32 -/
section
set_option Elab.async false
set_option linter.all false
set_option maxRecDepth 100000
namespace KK
open PySem PySem.Spec PyProof.Rows L2 KM LX LamX NdefX
def sel (many : Nat) (ws : PL) : IL := (ws.filter fun p => decide (p.1.1 = (many : Int))).map fun p => (p.1.2, p.2)
theorem sel_snoc {many : Nat} {ws : PL} {i : Nat} {p : (Int × Int) × Int} (h : ws[i]? = some p) : sel many (ws.take (i + 1)) = if p.1.1 = (many : Int) then sel many (ws.take i) ++ [(p.1.2, p.2)] else sel many (ws.take i) := by
  unfold sel
  rw [List.take_add_one, h, List.filter_append, List.map_append]
  by_cases e : p.1.1 = (many : Int)
  · rw [if_pos e]; simp [e]
  · rw [if_neg e]; simp [e]
theorem sel_ms {many X : Nat} : ∀ {ws : PL}, (∀ p ∈ ws, ∃ c x : Nat, p.1 = ((c : Int), (x : Int)) ∧ c ≤ many ∧ x ≤ X) → ∀ φ, ms (sel many ws) φ = ms2 ws (fin many φ)
  | [], _, φ => rfl
  | p :: ws, h, φ => by
    obtain ⟨c, x, e, _⟩ := h p List.mem_cons_self
    have ih := sel_ms (ws := ws) (fun q hq => h q (List.mem_cons_of_mem _ hq)) φ
    obtain ⟨⟨p1, p2⟩, b⟩ := p
    have e : (p1, p2) = (((c : Nat) : Int), ((x : Nat) : Int)) := e
    cases e
    show ms (sel many _) φ = ms _ _
    rw [ms_cons]
    show _ = b * (if c = many then φ x else 0) + ms2 ws (fin many φ)
    rw [← ih]
    unfold sel
    rw [List.filter_cons]
    by_cases z : c = many
    · rw [if_pos z, decide_eq_true (by show ((c : Nat) : Int) = many; omega), if_pos rfl, List.map_cons, ms_cons]
    · rw [if_neg z, decide_eq_false (by show ¬ ((c : Nat) : Int) = many; omega), if_neg (by decide), Int.mul_zero, Int.zero_add]
theorem sel_mem {many : Nat} {ws : PL} {q : Int × Int} (h : q ∈ sel many ws) : (((many : Int), q.1), q.2) ∈ ws := by
  obtain ⟨p, hp, rfl⟩ := List.mem_map.mp h
  obtain ⟨h1, h2⟩ := List.mem_filter.mp hp
  have := of_decide_eq_true h2
  rw [← this]
  exact h1
theorem sel_nd {many : Nat} : ∀ {ws : PL}, (ws.map (·.1)).Nodup → ((sel many ws).map (·.1)).Nodup
  | [], _ => List.nodup_nil
  | p :: ws, nd => by
    rw [List.map_cons, List.nodup_cons] at nd
    have ih := sel_nd (many := many) nd.2
    unfold sel at ih ⊢
    rw [List.filter_cons]
    split
    · rename_i h
      rw [List.map_cons, List.map_cons, List.nodup_cons]
      refine ⟨fun z => nd.1 ?_, ih⟩
      obtain ⟨q, hq, e⟩ := List.mem_map.mp z
      have hm := sel_mem (many := many) (ws := ws) (q := q) hq
      refine List.mem_map.mpr ⟨_, hm, ?_⟩
      have h := of_decide_eq_true h
      show ((many : Int), q.1) = p.1
      rw [e, ← h]
    · exact ih
section
variable {P : Program} {w : World} {K : PySem.W.Frag} {mg : Str → Option Value} {base : Heap} {T9 : LX.TL} {CS : Addr}
abbrev s__law_kept : Stmt := top 69
abbrev N__law_kept : List Str := ["many", "sides", "keep", "found", "side", "later", "used", "amount", "more", "key"]
theorem sc__law_kept : FnScope N__law_kept ["many", "sides", "keep"] (C8.fnScope s__law_kept) := C8.fnScope_by (by decide +kernel)
-- slots: many=0c sides=1 keep=2 found=3c side=4 later=5 used=6 amount=7 more=8 key=9
def spLKept : Sp := fun vs H Q _ => ∃ many sides keep : Nat, vs = [.int (many : Nat), .int (sides : Nat), .int (keep : Nat)] ∧ keep ≤ many ∧ many ≤ 8 ∧ sides ≤ 12 ∧ ∀ r H' rows, Ex H H' → H r = none → H' r = some (.dK (dk rows)) → (rows.map (·.1)).Nodup → (∀ p ∈ rows, 0 ≤ p.2) → (∀ φ, ms rows φ = Kd many keep sides sides (fin many φ)) → rows.length ≤ 20000 → Q (.ref r) H'
theorem k__law_kept {f : Addr} {fd : FuncData} (T : Tx K mg) (Df : C8.Def K mg "_law_kept" s__law_kept f fd) (bf : Binds K fd ["many", "sides", "keep"] []) (c__law_ways : C8.Cal P w K mg base 1 "_law_ways" (spN2 (fun n k => n ≤ 60 ∧ k ≤ 100) fun n k => bin n k) []) : C8.Cal P w K mg base 2 "_law_kept" spLKept [] := by
  refine C8.cal0 Df bf .nil sc__law_kept (fun vs H Q E h => ?_) (fun cdv A outer s H vs Q E hr h => ?_)
  · obtain ⟨_, _, _, rfl, _⟩ := h; rfl
  · obtain ⟨many, sides, keep, rfl, hk, hm, hs, k⟩ := h
    refine ⟨_, (pss_cons (ps_set (i := 3) sc__law_kept.nd rfl (Or.inr rfl) (RX.pe_dispT hr.u8 (pa_cons pe_int (pa_cons pe_int pa_nil)) pe_int))
      (pss_cons (ps_for PassesOwn.never rfl (pi_range3 (by rfl) T.n_range (pa_cons (pv 1) (pa_cons pe_int (pa_cons (pe_op op_sub pe_int pe_int) pa_nil)))) (pg_name (i := 4) sc__law_kept.nd rfl (Or.inl rfl) (by exact Or.inl rfl))
      (pss_cons (ps_set (i := 5) sc__law_kept.nd rfl (Or.inl rfl) pe_dnewT)
        (pss_cons (ps_for PassesOwn.never rfl (pi_keys (RX.pe_frz (pv 3))) (pg_tup (n := 2) rfl (pgs_cons (pg_name (i := 6) sc__law_kept.nd rfl (Or.inl rfl) (by exact Or.inl rfl)) (pgs_cons (pg_name (i := 7) sc__law_kept.nd rfl (Or.inl rfl) (by exact Or.inl rfl)) pgs_nil)))
        (pss_one (ps_for PassesOwn.never rfl (pi_range1 (by rfl) T.n_range (pa_cons (pe_op op_add (pe_op op_sub (pv 0) (pv 6)) pe_int) pa_nil)) (pg_name (i := 8) sc__law_kept.nd rfl (Or.inl rfl) (by exact Or.inl rfl))
          (pss_cons (ps_set (i := 9) sc__law_kept.nd rfl (Or.inl rfl) (pe_tup (pa_cons (pe_op op_add (pv 6) (pv 8)) (pa_cons (pe_op op_add (pv 7) (pe_op op_mul (pv 4) (pe_callB (call_min2 rfl) (by rfl) T.n_min (by decide +kernel) (pa_cons (pv 8) (pa_cons (pe_callB (call_max2 rfl) (by rfl) T.n_max (by decide +kernel) (pa_cons pe_int (pa_cons (pe_op op_sub (pv 2) (pv 6)) pa_nil))) pa_nil))))) pa_nil))))
            (pss_one (ps_dput hr.u1 (pv 5) (pv 9) (pe_op op_add (pe_dget2 hr.u1 (pv 5) (pv 9) pe_int ⟨rfl, by rfl, rfl, rfl⟩) (pe_op op_mul (pe_dget hr.u1 (pv 3) (pe_tup (pa_cons (pv 6) (pa_cons (pv 7) pa_nil))) (fun _ _ => rfl)) (C8.pe_c c__law_ways hr (by omega) (by rfl) (pa_cons (pe_op op_sub (pv 0) (pv 6)) (pa_cons (pv 8) pa_nil))))) rfl))))))
        (pss_one (ps_set (i := 3) sc__law_kept.nd rfl (Or.inr rfl) (pv 5))))))
      (pss_one (ps_ret (pe_callTy (call_dictP rfl) (by rfl) T.n_dict (by decide +kernel) (pa_cons (pe_lc (own := [("used", 6), ("amount", 7)]) rfl sc__law_kept.nd (pi_keys (RX.pe_frz (pv 3))) (by first | exact blkOk_by (N := N__law_kept) (sc := C8.fnScope s__law_kept) (by decide +kernel) | exact blkOk_by (by rfl)) (fun _ _ _ _ _ => castPG (pg_tup (n := 2) rfl (pgs_cons (pg_name (i := 6) sc__law_kept.nd rfl (Or.inl rfl) (by first | exact Or.inr rfl | exact Or.inl rfl)) (pgs_cons (pg_name (i := 7) sc__law_kept.nd rfl (Or.inl rfl) (by first | exact Or.inr rfl | exact Or.inl rfl)) pgs_nil))) (by first | (dsimp only [Cx.blk]; done) | rfl)) (fun _ _ _ _ _ => castPTs (pts_one (pt_cmpR op_eq (pv 6) (pv 0) (nomark _))) (by first | (dsimp only [Cx.blk]; done) | rfl)) (fun _ _ _ _ _ => castPE (pe_tup (pa_cons (pv 7) (pa_cons (pe_dget hr.u1 (pv 3) (pe_tup (pa_cons (pv 6) (pa_cons (pv 7) pa_nil))) (fun _ _ => rfl)) pa_nil))) (by first | (dsimp only [Cx.blk]; done) | rfl))) pa_nil)))))), ?_⟩
    refine fun F0 hF0 => ⟨(by show 2 ≤ sizeLine; decide), fun b hb => ⟨b, _, rfl, upd_same, pk (0, 0), rfl, ?_, ?_, ?_⟩⟩
    · exact (upd_ne (ne_of_none upd_same hb)).trans upd_same
    · exact upd_same
    have e1 := Evl.Ex.mut (o := .dT [(pk (0, 0), .int 1)]) (Evl.Ex.trans (Evl.Ex.new (o := .dT []) hF0) (Evl.Ex.new (o := .tup [.int 0, .int 0]) hb)) hF0
    have hF1 : (upd (upd (upd H F0 (.dT [])) b (.tup [.int 0, .int 0])) F0 (.dT [(pk (0, 0), .int 1)])) F0 = some (.dT (dk2 [((0, 0), 1)])) := upd_same
    dsimp only [gName]
    generalize (upd (upd (upd H F0 (.dT [])) b (.tup [.int 0, .int 0])) F0 (.dT [(pk (0, 0), .int 1)])) = G1 at e1 hF1 ⊢
    refine ⟨_, rfl, _, _, rfl, rfl, ((sides : Nat) : Int), 0, -1, _, rfl, RgC.neg (by omega) (by omega) (by omega) (by omega), ?_⟩
    refine for_n (n := sides) (fun t σ' H' => ∃ (o4 o5 o6 o7 o8 o9 : Option V) (F : Addr) (ws : PL), σ' = [some (.int (many : Nat)), some (.int (sides : Nat)), some (.int (keep : Nat)), some (.ref F), o4, o5, o6, o7, o8, o9] ∧ Ex H H' ∧ H F = none ∧ H' F = some (.dT (dk2 ws)) ∧ StOk many (96 * t) ws ∧ ∀ ψ, ms2 ws ψ = Kd many keep sides t ψ)
      ⟨_, _, _, _, _, _, F0, _, rfl, e1, hF0, hF1, ?_, fun ψ => ?_⟩ (fun i σ' H' hi _ => by show i < (((sides : Nat) : Int) - 0).toNat; omega) (fun σ' H' _ => by show (((sides : Nat) : Int) - 0).toNat ≤ sides; omega) ?_ ?_
    · exact ⟨by simp, fun p hp => by rw [List.mem_singleton.mp hp]; decide, fun p hp => ⟨0, 0, by rw [List.mem_singleton.mp hp]; rfl, Nat.zero_le _, Nat.zero_le _⟩⟩
    · show 1 * ψ 0 0 + 0 = ψ 0 0
      omega
    · rintro t _ H1 u H2 ht ⟨o4, o5, o6, o7, o8, o9, F, ws, rfl, e, hB, hF, so, hf⟩ ⟨rfl, rfl⟩
      have esd : ((sides : Nat) : Int) + (t : Nat) * -1 = ((sides - t : Nat) : Int) := by omega
      rw [esd]
      refine fun L hL => ⟨_, rfl, F, .dT (dk2 ws), rfl, (upd_ne (ne_of_none hF hL)).trans hF, trivial, fun od => ⟨F, od, rfl, .inr ⟨dk2 ws, upd_same, ?_⟩⟩⟩
      have hFL : F ≠ L := ne_of_none hF hL
      have hBL : H L = none := none_ex e hL
      have e1 : Ex H (upd (upd H2 L (.dT [])) F (.frz od (.dT (dk2 ws)))) := Evl.Ex.mut (Evl.Ex.trans e (Evl.Ex.new hL)) hB
      have f1 : upd (upd H2 L (.dT [])) F (.frz od (.dT (dk2 ws))) F = some (.frz od (.dT (dk2 ws))) := upd_same
      have l1 : upd (upd H2 L (.dT [])) F (.frz od (.dT (dk2 ws))) L = some (.dT (dk2 [])) := (upd_ne (Ne.symm hFL)).trans upd_same
      generalize (upd (upd H2 L (.dT [])) F (.frz od (.dT (dk2 ws)))) = G1 at e1 f1 l1
      have hKd : ∀ ψ, Kd many keep sides (t + 1) ψ = Kd many keep sides t (Kst many keep (sides - t) ψ) := fun ψ => rfl
      have hsd : sides - t ≤ 12 := by omega
      generalize sides - t = side at hKd hsd
      refine for_n (n := ws.length) (fun i σ' H' => ∃ (o6 o7 o8 o9 : Option V) (rows : PL), σ' = [some (.int (many : Nat)), some (.int (sides : Nat)), some (.int (keep : Nat)), some (.ref F), some (.int (side : Nat)), some (.ref L), o6, o7, o8, o9] ∧ Ex H H' ∧ H' F = some (.frz od (.dT (dk2 ws))) ∧ H' L = some (.dT (dk2 rows)) ∧ StOk many (96 * t + 96) rows ∧ ∀ ψ, ms2 rows ψ = ms2 (ws.take i) (Kst many keep side ψ))
        ⟨_, _, _, _, [], rfl, e1, f1, l1, stOk_nil, fun ψ => rfl⟩ (fun i σ' H' hi ⟨_, _, _, _, _, _, _, f, _⟩ => ⟨f, by rw [dk2_len]; exact hi⟩) (fun σ' H' ⟨_, _, _, _, _, _, _, f, _⟩ => ⟨f, by rw [dk2_len]; exact Nat.le_refl _⟩) ?_ ?_
      · rintro i _ H3 u3 H4 hi ⟨o6, o7, o8, o9, rows, rfl, e3, f3, l3, so3, hms3⟩ ⟨rfl, kk, vv, q, hkk, rfl, hq⟩
        obtain ⟨⟨p1, p2⟩, b, hab, rfl, rfl⟩ := dk2_get hkk
        have hmem := List.mem_of_getElem? hab
        obtain ⟨c, x, ecx, hc, hx⟩ := so.key _ hmem
        have hb0 : 0 ≤ b := so.nn _ hmem
        have ecx : (p1, p2) = (((c : Nat) : Int), ((x : Nat) : Int)) := ecx
        cases ecx
        have hgx : getI ws (((c : Nat) : Int), ((x : Nat) : Int)) = b := getI_mem so.nd hmem
        have hkx : (((c : Nat) : Int), ((x : Nat) : Int)) ∈ ws.map (·.1) := List.mem_map_of_mem hmem
        have htk := fun ψ => ms2_take hab ψ
        refine ⟨q, _, rfl, Evl.st_of hq, rfl, _, _, rfl, _, _, rfl, rfl, ?_⟩
        refine ⟨_, rfl, _, rfl, _, _, rfl, rfl, _, _, rfl, rfl, ((many : Nat) : Int) - ((c : Nat) : Int) + 1, rfl, by omega, by omega, ?_⟩
        refine for_n (n := many - c + 1) (fun m σ' H' => ∃ (o8 o9 : Option V) (rows2 : PL), σ' = [some (.int (many : Nat)), some (.int (sides : Nat)), some (.int (keep : Nat)), some (.ref F), some (.int (side : Nat)), some (.ref L), some (.int (c : Nat)), some (.int (x : Nat)), o8, o9] ∧ Ex H H' ∧ H' F = some (.frz od (.dT (dk2 ws))) ∧ H' L = some (.dT (dk2 rows2)) ∧ StOk many (96 * t + 96) rows2 ∧ ∀ ψ, ms2 rows2 ψ = ms2 (ws.take i) (Kst many keep side ψ) + b * sumr m fun m => (bin (many - c) m : Int) * ψ (c + m) ((x : Nat) + (side : Int) * ((min m (keep - c) : Nat) : Int)))
          ⟨_, _, rows, rfl, e3, f3, l3, so3, fun ψ => by rw [hms3]; simp [sumr]⟩ (fun m σ' H' hm _ => by show m < (((many : Nat) : Int) - ((c : Nat) : Int) + 1).toNat; omega) (fun σ' H' _ => by show (((many : Nat) : Int) - ((c : Nat) : Int) + 1).toNat ≤ many - c + 1; omega) ?_ ?_
        · rintro m _ H5 u5 H6 hm' ⟨o8, o9, rows2, rfl, e5, f5, l5, so5, hms5⟩ ⟨rfl, rfl⟩
          have ez : (0 : Int) + ((m : Nat) : Int) = ((m : Nat) : Int) := Int.zero_add _
          simp only [ez]
          have hmx : (if (if ((keep : Nat) : Int) - ((c : Nat) : Int) > 0 then ((keep : Nat) : Int) - ((c : Nat) : Int) else 0) < ((m : Nat) : Int) then (if ((keep : Nat) : Int) - ((c : Nat) : Int) > 0 then ((keep : Nat) : Int) - ((c : Nat) : Int) else 0) else ((m : Nat) : Int)) = ((min m (keep - c) : Nat) : Int) := by
            split <;> split <;> omega
          have hmn : min m (keep - c) ≤ 8 := by omega
          have hsm : side * min m (keep - c) ≤ 12 * 8 := Nat.mul_le_mul hsd hmn
          refine ⟨_, rfl, _, rfl, _, _, rfl, rfl, _, rfl, _, rfl, _, rfl, _, rfl, _, rfl, _, _, rfl, rfl, _, _, rfl, _, _, rfl, _, _, rfl, rfl, cm_l (by omega) (by omega), _, _, rfl, rfl, (by show 2 ≤ sizeLine; decide), fun q2 hq2 => ?_⟩
          rw [hmx]
          have ecm : ((c : Nat) : Int) + ((m : Nat) : Int) = ((c + m : Nat) : Int) := by omega
          have exm : ((x : Nat) : Int) + ((side : Nat) : Int) * ((min m (keep - c) : Nat) : Int) = ((x + side * min m (keep - c) : Nat) : Int) := by push_cast; rfl
          simp only [ecm, exm]
          have hq3 : upd H6 q2 (.tup [.int ((c + m : Nat) : Int), .int ((x + side * min m (keep - c) : Nat) : Int)]) q2 = some (.tup ((pk (((c + m : Nat) : Int), ((x + side * min m (keep - c) : Nat) : Int))).map kV)) := upd_same
          have e6 : Ex H6 (upd H6 q2 (.tup [.int ((c + m : Nat) : Int), .int ((x + side * min m (keep - c) : Nat) : Int)])) := Evl.Ex.new hq2
          generalize (upd H6 q2 (.tup [.int ((c + m : Nat) : Int), .int ((x + side * min m (keep - c) : Nat) : Int)])) = G6 at hq3 e6
          have l6 := e6 _ _ l5
          have f6 := e6 _ _ f5
          have e06 := Evl.Ex.trans e5 e6
          have hlen := so5.len
          have hlen2 : (many + 1) * (96 * t + 96 + 1) ≤ 9 * 1249 := Nat.mul_le_mul (by omega) (by omega)
          refine ⟨_, rfl, L, rfl, .inr ⟨_, .inl l6⟩, _, rfl, valV (dk2 rows2) (pk (((c + m : Nat) : Int), ((x + side * min m (keep - c) : Nat) : Int))), .inr ⟨dk2 rows2, pk (((c + m : Nat) : Int), ((x + side * min m (keep - c) : Nat) : Int)), q2, .inl l6, rfl, hq3, rfl⟩, ?_⟩
          refine ⟨_, rfl, _, rfl, _, rfl, (by show 2 ≤ sizeLine; decide), fun q4 hq4 => ?_⟩
          have e7 : Ex G6 (upd G6 q4 (.tup [.int (c : Nat), .int (x : Nat)])) := Evl.Ex.new hq4
          have hq5 : upd G6 q4 (.tup [.int (c : Nat), .int (x : Nat)]) q4 = some (.tup ((pk (((c : Nat) : Int), ((x : Nat) : Int))).map kV)) := upd_same
          have hq7 := e7 _ _ hq3
          have f7 := e7 _ _ f6
          have l7 := e7 _ _ l6
          have e07 := Evl.Ex.trans e06 e7
          generalize (upd G6 q4 (.tup [.int (c : Nat), .int (x : Nat)])) = G7 at hq5 hq7 f7 l7 e07
          refine ⟨F, _, rfl, .inr ⟨dk2 ws, pk (((c : Nat) : Int), ((x : Nat) : Int)), q4, .inr ⟨od, f7⟩, rfl, hq5, (dk2_some hkx).symm⟩, ?_⟩
          rw [hgx]
          refine ⟨_, rfl, _, rfl, _, _, rfl, rfl, _, rfl, many - c, m, (by show [V.int (((many : Nat) : Int) - ((c : Nat) : Int)), V.int ((m : Nat) : Int)] = _; rw [show ((many : Nat) : Int) - ((c : Nat) : Int) = ((many - c : Nat) : Int) by omega]), ⟨by omega, by omega⟩, _, _, rfl, rfl, (.inr ⟨(by show -(2 ^ 64 : Int) < ((bin (many - c) m : Nat) : Int); exact Int.lt_of_lt_of_le (by decide) (Int.natCast_nonneg _)), bin_lt (by omega)⟩), getI rows2 (((c + m : Nat) : Int), ((x + side * min m (keep - c) : Nat) : Int)), _, dk2_val _ _, rfl, ?_⟩
          refine ⟨_, rfl, _, rfl, L, _, rfl, .inr ⟨dk2 rows2, pk (((c + m : Nat) : Int), ((x + side * min m (keep - c) : Nat) : Int)), q2, l7, rfl, hq7, Evl.sz_lt (by rw [dk2_len]; omega), rfl⟩, ?_⟩
          rw [dk2_put _ _ so5.nd]
          refine ⟨_, _, bump rows2 (((c + m : Nat) : Int), ((x + side * min m (keep - c) : Nat) : Int)) (b * ((bin (many - c) m : Nat) : Int)), rfl, Evl.Ex.mut e07 hBL, (upd_ne hFL).trans f7, upd_same, stOk_put so5 (by omega) (by omega) (Int.mul_nonneg hb0 (Int.natCast_nonneg _)), fun ψ => ?_⟩
          rw [ms2_bump, hms5]
          show _ = _ + b * (sumr m _ + _)
          rw [← exm, Int.mul_add, Int.mul_assoc]
          exact Int.add_assoc _ _ _
        · rintro _ H5 ⟨o8, o9, rows2, rfl, e5, f5, l5, so5, hms5⟩
          exact ⟨_, _, _, _, rows2, rfl, e5, f5, l5, so5, fun ψ => by rw [hms5, htk]; rfl⟩
      · rintro _ H3 ⟨o6, o7, o8, o9, rows, rfl, e3, f3, l3, so3, hms3⟩
        rw [List.take_length] at hms3
        refine ⟨_, rfl, _, _, _, _, _, _, L, rows, rfl, e3, hBL, l3, ?_, fun ψ => by rw [hms3, hf, hKd]⟩
        exact stOk_up so3 (by omega)
    · rintro _ H1 ⟨o4, o5, o6, o7, o8, o9, F, ws, rfl, e, hB, hF, so, hf⟩
      refine ⟨_, rfl, F, .dT (dk2 ws), rfl, hF, trivial, fun od => ⟨F, od, rfl, .inr ⟨dk2 ws, upd_same, fun D hD => ?_⟩⟩⟩
      have e1 : Ex H (upd H1 F (.frz od (.dT (dk2 ws)))) := Evl.Ex.mut e hB
      have f1 : upd H1 F (.frz od (.dT (dk2 ws))) F = some (.frz od (.dT (dk2 ws))) := upd_same
      generalize (upd H1 F (.frz od (.dT (dk2 ws)))) = G1 at e1 f1 hD ⊢
      have hlen := so.len
      have hlen2 : (many + 1) * (96 * sides + 1) ≤ 9 * 1153 := Nat.mul_le_mul (by omega) (by omega)
      have hsl : ∀ i, (sel many (ws.take i)).length ≤ ws.length := fun i => by
        unfold sel
        rw [List.length_map]
        exact Nat.le_trans (List.length_filter_le _ _) (by rw [List.length_take]; omega)
      refine lc_n (n := ws.length) (fun i acc H' => Prs K H' acc (dk (sel many (ws.take i))) ∧ Ex G1 H') ⟨.nil, Evl.Ex.new hD⟩ (fun i acc H' hi p => ⟨p.2 _ _ f1, by rw [dk2_len]; exact hi⟩) (fun acc H' p => ⟨p.2 _ _ f1, by rw [dk2_len]; exact Nat.le_refl _⟩) (fun i acc H2 u H3 hi hacc p hy => ?_) (fun acc H2 hacc p => ?_)
      · obtain ⟨rfl, kk, vv, q, hkk, rfl, hq⟩ := hy
        obtain ⟨⟨p1, p2⟩, b, hab, rfl, rfl⟩ := dk2_get hkk
        have hmem := List.mem_of_getElem? hab
        have hgx : getI ws (p1, p2) = b := getI_mem so.nd hmem
        have hkx : (p1, p2) ∈ ws.map (·.1) := List.mem_map_of_mem hmem
        have hss := sel_snoc (many := many) hab
        refine ⟨q, _, rfl, Evl.st_of hq, rfl, _, _, rfl, _, _, rfl, rfl, rfl, _, rfl, _, rfl, rfl, _, rfl, ?_⟩
        rw [show decide (kV (Sum.inl (p1, p2).fst) = V.int ((many : Nat) : Int)) = decide (p1 = ((many : Nat) : Int)) from decV]
        by_cases z : p1 = ((many : Nat) : Int)
        · rw [if_pos z] at hss
          refine iteY (by rw [decide_eq_true z]) ⟨_, rfl, _, rfl, _, rfl, _, rfl, (by show 2 ≤ sizeLine; decide), fun q4 hq4 => ?_⟩
          have hq5 : upd H3 q4 (.tup [.int p1, .int p2]) q4 = some (.tup ((pk (p1, p2)).map kV)) := upd_same
          have e4 : Ex H3 (upd H3 q4 (.tup [.int p1, .int p2])) := Evl.Ex.new hq4
          refine ⟨F, _, rfl, .inr ⟨dk2 ws, pk (p1, p2), q4, .inr ⟨od, e4 _ _ (p.2 _ _ f1)⟩, rfl, hq5, (dk2_some hkx).symm⟩, (by show 2 ≤ sizeLine; decide), fun q6 hq6 => ?_⟩
          rw [hgx]
          refine prs_step (k := .inl p2) (v := .int b) (e4 _ _ hacc) (p.1.ex e4) hq6 (p.2.trans e4) hD ?_ ?_
          · rw [dk_len]
            have := hsl i
            omega
          · rw [hss]
            simp [dk]
        · rw [if_neg z] at hss
          refine iteN (by rw [decide_eq_false z]) ⟨acc, hacc, ?_, p.2⟩
          rw [hss]
          exact p.1
      · rw [List.take_length] at p
        obtain ⟨ps, rfl, hps⟩ := p.1
        have nd := sel_nd (many := many) so.nd
        refine ⟨D, ps, _, rfl, Evl.sq_of hacc, hps, fun r hr0 => ?_⟩
        rw [mergeK_nd (dk_nd nd)]
        have hl := hsl ws.length
        rw [List.take_length] at hl
        exact k r _ _ (Evl.Ex.trans (Evl.Ex.trans e1 p.2) (Evl.Ex.new hr0)) (none_ex (Evl.Ex.trans e1 p.2) hr0) upd_same nd (fun q hq => so.nn _ (sel_mem hq)) (fun φ => by rw [sel_ms so.key, hf]) (by omega)
end
end KK
end
/-! K33 -/
section
set_option Elab.async false
set_option linter.all false
set_option maxRecDepth 100000
set_option maxHeartbeats 4000000
namespace KK
open PySem PySem.Spec PyProof.Rows L2 KM LX LamX NdefX
section
variable {P : Program} {w : World} {K : PySem.W.Frag} {mg : Str → Option Value} {base : Heap} {T9 : LX.TL} {CS : Addr}
theorem ExB.tbs {r : Addr} {T : LX.TL} {H H' : Hp} {kvs : List (Key × V)} (h : ExB r H H') (hr : H r = some (.dK kvs)) (t : Tbs T H) : Tbs T H' := by
  intro p hp
  have tp := t p hp
  obtain ⟨P, z⟩ := p
  have ne : ∀ b u, H b = some u → (∀ l, u ≠ .dK l) → H' b = some u := fun b u hb n => by
    refine h _ _ (fun e => ?_) hb
    subst e
    rw [hr] at hb
    exact n _ (Option.some.inj hb).symm
  cases z with
  | none =>
    obtain ⟨ps, h1, h2⟩ := (show GxR.TabG H P from tp)
    exact (show GxR.TabG _ P from ⟨ps, ne _ _ h1 (fun _ z => nomatch z), h2⟩)
  | some q =>
    obtain ⟨ps, h1, h2, h3⟩ := (show TabS H P q from tp)
    refine (show TabS _ P q from ⟨ps, ne _ _ h1 (fun _ z => nomatch z), h2, fun pos cv hc => ?_⟩)
    obtain ⟨c, e1, e2⟩ := h3 pos cv hc
    exact ⟨c, e1, ne _ _ e2 (fun _ z => nomatch z)⟩
/-- at a nothing stands but perhaps a table -/
def Nn (H : Hp) (a : Addr) : Prop := ∀ o, H a = some o → ∃ ps, o = .tbl ps
theorem Nn.of {H : Hp} {a : Addr} (h : H a = none) : Nn H a := fun o e => by rw [h] at e; cases e
theorem ExB.mo {r : Addr} {T : LX.TL} {d : Option Addr} {H H1 H' : Hp} {kvs : List (Key × V)} (m : Mo d T H H1) (h : ExB r H1 H') (hr : H1 r = some (.dK kvs)) (hB : Nn H r) : Mo d T H H' :=
  ⟨fun b o n hb nt => h _ _ (fun e => by
    rw [e] at hb
    obtain ⟨ps, z⟩ := hB o hb
    exact nt ps z) (m.1 b o n hb nt), fun t => h.tbs hr (m.2 t)⟩
theorem ExB.dice {r d : Addr} {H H' : Hp} {kvs : List (Key × V)} (h : ExB r H H') (hr : H r = some (.dK kvs)) (hd : DiceOk H d) : DiceOk H' d := by
  obtain ⟨a, b, c, hd⟩ := hd
  exact ⟨a, b, c, h _ _ (fun e => by rw [e, hr] at hd; cases hd) hd⟩
theorem Mo.dice {T : LX.TL} {H H' : Hp} {d : Addr} (m : Mo none T H H') (hd : DiceOk H d) : DiceOk H' d := by
  obtain ⟨a, b, c, hd⟩ := hd
  exact ⟨a, b, c, m.1 _ _ (fun z => nomatch z) hd (fun _ z => nomatch z)⟩
theorem roll_mo {T : LX.TL} {H H' : Hp} {d : Addr} {ys : List V} (hd : DiceOk H d) (e : H' = upd H d (.lst ys)) : Mo (some d) T H H' := by
  obtain ⟨a, b, c, hd⟩ := hd
  subst e
  exact Mo.muts hd (.inr ⟨_, rfl⟩)
theorem Mo.fresh {T : LX.TL} {d : Option Addr} {G H : Hp} {D : Addr} {l : List V} {o : HO} (m : Mo d T G H) (hG : Nn G D) (hD : H D = some (.lst l)) : Mo d T G (upd H D o) :=
  ⟨fun b u n hb nt => (upd_ne fun e => by
    rw [e] at hb
    obtain ⟨ps, z⟩ := hG u hb
    exact nt ps z).trans (m.1 b u n hb nt), fun t => Tbs.muts hD (.inr ⟨_, rfl⟩) (m.2 t)⟩
theorem none_mo {T : LX.TL} {d : Addr} {G H : Hp} {a : Addr} (m : Mo (some d) T G H) (h : H a = none) (hd : DiceOk H d) : Nn G a := fun o g => by
  obtain ⟨x, y, z, hd⟩ := hd
  by_cases t : ∃ ps, o = .tbl ps
  · exact t
  · have := m.1 a o (fun z => by rw [← Option.some.inj z, h] at hd; cases hd) g (fun ps z => t ⟨ps, z⟩)
    rw [h] at this
    cases this
theorem pick : ∀ {xs : List Int} {k : Nat}, k < xs.length → (∀ x ∈ xs, 1 ≤ x ∧ x ≤ 30) → ∃ g b : Nat, xs[k]? = some ((g : Nat) : Int) ∧ xs.sum = ((g + b : Nat) : Int) ∧ 1 ≤ g ∧ g ≤ 30 ∧ b + 30 ≤ 30 * xs.length
  | [], k, h, _ => absurd h (by simp)
  | x :: xs, 0, _, h => by
    have hx := h x List.mem_cons_self
    have hs : ∀ {l : List Int}, (∀ x ∈ l, 1 ≤ x ∧ x ≤ 30) → 0 ≤ l.sum ∧ l.sum ≤ 30 * l.length := fun {l} h => by
      induction l with
      | nil => simp
      | cons a l ih =>
        have h1 := h a List.mem_cons_self
        have h2 := ih fun y hy => h y (List.mem_cons_of_mem _ hy)
        rw [List.sum_cons, List.length_cons]
        omega
    have h2 := hs fun y hy => h y (List.mem_cons_of_mem _ hy)
    refine ⟨x.toNat, xs.sum.toNat, ?_, ?_, by omega, by omega, ?_⟩
    · show some x = _
      rw [show ((x.toNat : Nat) : Int) = x by omega]
    · rw [List.sum_cons]; omega
    · rw [List.length_cons]; omega
  | x :: xs, k + 1, hk, h => by
    have hx := h x List.mem_cons_self
    obtain ⟨g, b, h1, h2, h3, h4, h5⟩ := pick (xs := xs) (k := k) (by simpa using hk) fun y hy => h y (List.mem_cons_of_mem _ hy)
    refine ⟨g, b + x.toNat, h1, ?_, h3, h4, ?_⟩
    · rw [List.sum_cons, h2]; omega
    · rw [List.length_cons]; omega
theorem re_st {t : TS} {D : Ends} {σ : L2.St} {H : Hp} (σ' : L2.St) (e : σ = σ') (h : t D σ' H) : t D σ H := e ▸ h
abbrev s__law_thrown : Stmt := top 71
abbrev N__law_thrown : List Str := ["dice", "many", "sides", "keep", "counts", "kind", "draws", "good", "bad", "ways_v", "k"]
theorem sc__law_thrown : FnScope N__law_thrown ["dice"] (C8.fnScope s__law_thrown) := C8.fnScope_by (by decide +kernel)
-- slots: dice=0c many=1 sides=2 keep=3 counts=4 kind=5 draws=6c good=7c bad=8c ways_v=9 k=10
/-- what each part of the law promises -/
def spPart1 (T9 : LX.TL) : Sp := fun vs H Q _ => ∃ d : Addr, vs = [.ref d] ∧ DiceOk H d ∧ Tbs T9 H ∧ ∀ H', Mo (some d) T9 H H' → DiceOk H' d → Q (.bl true) H'
theorem k__law_thrown {f : Addr} {fd : FuncData} (T : Tx K mg) (Df : C8.Def K mg "_law_thrown" s__law_thrown f fd) (bf : Binds K fd ["dice"] []) (c__law_roll : C8.Cal P w K mg base 1 "_law_roll" spRoll []) (c__law_same : C8.Cal P w K mg base 4 "_law_same" (spSame CS) []) (c_rolls : C8.Cal P w K mg base 12 "rolls" (spRolls T9 CS) []) (c__law_rolls : C8.Cal P w K mg base 1 "_law_rolls" spLRolls [])
    (c_kept : C8.Cal P w K mg base 4 "kept" (spKept CS) [V.bl true]) (c__law_kept : C8.Cal P w K mg base 2 "_law_kept" spLKept []) (c__law_ways : C8.Cal P w K mg base 1 "_law_ways" (spN2 (fun n k => n ≤ 60 ∧ k ≤ 100) fun n k => bin n k) []) (c_kept_out : C8.Cal P w K mg base 4 "kept_out" (spKeptOut K CS) []) : C8.Cal P w K mg base 13 "_law_thrown" (spPart1 T9) [] := by
  refine C8.cal0 Df bf .nil sc__law_thrown (fun vs H Q E h => ?_) (fun cdv A outer s H vs Q E hr h => ?_)
  · obtain ⟨_, rfl, _⟩ := h; rfl
  · obtain ⟨d, rfl, hd, hT, k⟩ := h
    refine ⟨_, (pss_cons (ps_par (i := 1) (j := 2) (by rfl) sc__law_thrown.nd rfl rfl (by decide) rfl rfl (pa_cons (pe_op op_add pe_int (C8.pe_c c__law_roll hr (by omega) (by rfl) (pa_cons (pv 0) (pa_cons pe_int pa_nil)))) (pa_cons (pe_op op_add pe_int (C8.pe_c c__law_roll hr (by omega) (by rfl) (pa_cons (pv 0) (pa_cons pe_int pa_nil)))) pa_nil)) (by rfl))
      (pss_cons (ps_if (pt_not (pt_val (C8.pe_c c__law_same hr (by omega) (by rfl) (pa_cons (C8.pe_c c_rolls hr (by omega) (by rfl) (pa_cons (pv 1) (pa_cons (pv 2) pa_nil))) (pa_cons (C8.pe_c c__law_rolls hr (by omega) (by rfl) (pa_cons (pv 1) (pa_cons (pv 2) pa_nil))) pa_nil))))) (pss_one (ps_ret pe_bl)) pss_nil)
      (pss_cons (ps_par (i := 1) (j := 2) (by rfl) sc__law_thrown.nd rfl rfl (by decide) rfl rfl (pa_cons (pe_op op_add pe_int (C8.pe_c c__law_roll hr (by omega) (by rfl) (pa_cons (pv 0) (pa_cons pe_int pa_nil)))) (pa_cons (pe_op op_add pe_int (C8.pe_c c__law_roll hr (by omega) (by rfl) (pa_cons (pv 0) (pa_cons pe_int pa_nil)))) pa_nil)) (by rfl))
      (pss_cons (ps_set (i := 3) sc__law_thrown.nd rfl (Or.inl rfl) (C8.pe_c c__law_roll hr (by omega) (by rfl) (pa_cons (pv 0) (pa_cons (pe_op op_add (pv 1) pe_int) pa_nil))))
      (pss_cons (ps_if (pt_not (pt_val (C8.pe_c c__law_same hr (by omega) (by rfl) (pa_cons (C8.pe_c c_kept hr (by omega) (by rfl) (pa_cons (pv 1) (pa_cons (pv 2) (pa_cons (pv 3) pa_nil)))) (pa_cons (C8.pe_c c__law_kept hr (by omega) (by rfl) (pa_cons (pv 1) (pa_cons (pv 2) (pa_cons (pv 3) pa_nil)))) pa_nil))))) (pss_one (ps_ret pe_bl)) pss_nil)
      (pss_cons (ps_setLc (i := 4) (own := [("k", 10)]) rfl sc__law_thrown.nd rfl rfl (sw_true rfl rfl rfl (by decide +kernel)) (pi_range1 (by rfl) T.n_range (pa_cons (pe_op op_add pe_int (C8.pe_c c__law_roll hr (by omega) (by rfl) (pa_cons (pv 0) (pa_cons pe_int pa_nil)))) pa_nil)) (by first | exact blkOk_by (N := N__law_thrown) (sc := C8.fnScope s__law_thrown) (by decide +kernel) | exact blkOk_by (by rfl)) (fun _ _ _ _ _ => castPG (pg_name (i := 10) sc__law_thrown.nd rfl (Or.inl rfl) (by first | exact Or.inr rfl | exact Or.inl rfl)) (by first | (dsimp only [Cx.blk]; done) | rfl)) (fun _ _ _ _ _ => castPTs (pts_nil) (by first | (dsimp only [Cx.blk]; done) | rfl)) (fun _ _ _ _ _ => castPE (pe_op op_add pe_int (C8.pe_c c__law_roll hr (by omega) (by rfl) (pa_cons (pv 0) (pa_cons pe_int pa_nil)))) (by first | (dsimp only [Cx.blk]; done) | rfl)))
      (pss_cons (ps_asg (pe_tup (pa_cons (C8.pe_c c__law_roll hr (by omega) (by rfl) (pa_cons (pv 0) (pa_cons (pe_callB call_len_seq (by rfl) T.n_len (by decide +kernel) (pa_cons (pv 4) pa_nil)) pa_nil))) (pa_cons (C8.pe_c c__law_roll hr (by omega) (by rfl) (pa_cons (pv 0) (pa_cons (pe_op op_add (pe_callB (cr_sum rfl) (by rfl) T.n_sum (by decide +kernel) (pa_cons (pv 4) pa_nil)) pe_int) pa_nil))) pa_nil))) (pg_tup (n := 2) rfl (pgs_cons (pg_name (i := 5) sc__law_thrown.nd rfl (Or.inl rfl) (by exact Or.inl rfl)) (pgs_cons (pg_name (i := 6) sc__law_thrown.nd rfl (Or.inr rfl) (by exact Or.inl rfl)) pgs_nil))))
      (pss_cons (ps_asg (pe_tup (pa_cons (pe_ix ix_list (pv 4) (pv 5) (fun _ _ => rfl)) (pa_cons (pe_op op_sub (pe_callB (cr_sum rfl) (by rfl) T.n_sum (by decide +kernel) (pa_cons (pv 4) pa_nil)) (pe_ix ix_list (pv 4) (pv 5) (fun _ _ => rfl))) pa_nil))) (pg_tup (n := 2) rfl (pgs_cons (pg_name (i := 7) sc__law_thrown.nd rfl (Or.inr rfl) (by exact Or.inl rfl)) (pgs_cons (pg_name (i := 8) sc__law_thrown.nd rfl (Or.inr rfl) (by exact Or.inl rfl)) pgs_nil))))
      (pss_cons (ps_set (i := 9) sc__law_thrown.nd rfl (Or.inl rfl) (pe_callTy (call_dictP rfl) (by rfl) T.n_dict (by decide +kernel) (pa_cons (pe_lc (own := [("k", 10)]) rfl sc__law_thrown.nd (pi_range1 (by rfl) T.n_range (pa_cons (pe_op op_add (pv 6) pe_int) pa_nil)) (by first | exact blkOk_by (N := N__law_thrown) (sc := C8.fnScope s__law_thrown) (by decide +kernel) | exact blkOk_by (by rfl)) (fun _ _ _ _ _ => castPG (pg_name (i := 10) sc__law_thrown.nd rfl (Or.inl rfl) (by first | exact Or.inr rfl | exact Or.inl rfl)) (by first | (dsimp only [Cx.blk]; done) | rfl)) (fun _ _ _ _ _ => castPTs (pts_nil) (by first | (dsimp only [Cx.blk]; done) | rfl)) (fun _ _ _ _ _ => castPE (pe_tup (pa_cons (pv 10) (pa_cons (pe_op op_mul (C8.pe_c c__law_ways hr (by omega) (by rfl) (pa_cons (pv 7) (pa_cons (pv 10) pa_nil))) (C8.pe_c c__law_ways hr (by omega) (by rfl) (pa_cons (pv 8) (pa_cons (pe_op op_sub (pv 6) (pv 10)) pa_nil)))) pa_nil))) (by first | (dsimp only [Cx.blk]; done) | rfl))) pa_nil)))
      (pss_one (ps_ret (C8.pe_c c__law_same hr (by omega) (by rfl) (pa_cons (C8.pe_c c_kept_out hr (by omega) (by rfl) (pa_cons (pv 4) (pa_cons (pv 5) (pa_cons (pv 6) pa_nil)))) (pa_cons (pv 9) pa_nil)))))))))))))), ?_⟩
    refine ⟨_, rfl, d, 20, rfl, hd, by decide, by decide, fun x ys H1 x0 x1 eH1 hd1 => ⟨_, _, rfl, rfl, _, rfl, d, 30, rfl, hd1, by decide, by decide, fun y ys2 H2 y0 y1 eH2 hd2 => ⟨_, _, rfl, rfl, ?_⟩⟩⟩
    have m2 : Mo (some d) T9 H H2 := (roll_mo hd eH1).trans (roll_mo hd1 eH2)
    clear eH1 eH2 hd1
    obtain ⟨n, hn⟩ : ∃ n : Nat, 1 + x = n := ⟨(1 + x).toNat, by omega⟩
    obtain ⟨sd, hsd⟩ : ∃ n : Nat, 1 + y = n := ⟨(1 + y).toNat, by omega⟩
    simp only [hn, hsd]
    refine ⟨_, _, rfl, _, rfl, _, rfl, n, sd, rfl, by omega, by omega, by omega, m2.2 hT, fun v H3 ws m3 hS hSp hl => ?_⟩
    refine ⟨_, rfl, _, rfl, n, sd, rfl, by omega, by omega, fun r H4 rows e4 hB hr4 nd nn hms hlen => ?_⟩
    have hp : 0 < ms rows fun _ => 1 := by
      rw [hms]
      have := hSp.le
      exact Int.lt_of_lt_of_le this.1 this.2
    refine ⟨v, r, ws, rows, _, 1, 1, rfl, hS.ex e4, hSp, hr4, nd, nn, hp, ?_, by omega, by decide, by decide, fun φ => by rw [hms], fun H5 b5 => ⟨true, rfl, ?_⟩⟩
    · rw [hms, Ep_const]
      have := dice_lt (s := sd) (n := n) (by omega) (by omega) (by omega)
      rw [hms, Ep_const] at hp
      exact (Lt2.nn (a := 100) (by omega) (by omega)).up (by decide)
    have hd3 : DiceOk H3 d := Mo.dice m3 hd2
    have m3' : Mo (some d) T9 H H3 := m2.trans m3.any
    have m5 : Mo (some d) T9 H H5 := ExB.mo (m3'.trans (Mo.of e4)) b5 hr4 (none_mo m3' hB hd3)
    have hd5 := b5.dice hr4 (hd3.ex e4)
    clear hd3 m3' b5 hr4 hB e4 m3 m2 hd2 hS hms nd nn hlen hp hSp hl hn hsd x0 x1 y0 y1
    clear ws
    refine iteF ⟨_, rfl, d, 8, rfl, hd5, by decide, by decide, fun x ys H6 x0 x1 eH6 hd6 => ⟨_, _, rfl, rfl, _, rfl, d, 12, rfl, hd6, by decide, by decide, fun y ys2 H7 y0 y1 eH7 hd7 => ⟨_, _, rfl, rfl, ?_⟩⟩⟩
    have m7 : Mo (some d) T9 H H7 := (m5.trans (roll_mo hd5 eH6)).trans (roll_mo hd6 eH7)
    clear eH6 eH7 hd6 m5 hd5
    obtain ⟨n2, hn⟩ : ∃ n : Nat, 1 + x = n := ⟨(1 + x).toNat, by omega⟩
    obtain ⟨s2, hsd⟩ : ∃ n : Nat, 1 + y = n := ⟨(1 + y).toNat, by omega⟩
    simp only [hn, hsd]
    refine ⟨_, _, rfl, _, rfl, _, rfl, _, _, rfl, rfl, d, ((n2 : Nat) : Int) + 1, rfl, hd7, by omega, by omega, fun z ys3 H8 z0 z1 eH8 hd8 => ?_⟩
    obtain ⟨kp, rfl⟩ : ∃ n : Nat, z = n := ⟨z.toNat, by omega⟩
    have m8 := m7.trans (roll_mo hd7 eH8)
    clear eH8 hd7 m7
    refine ⟨_, rfl, _, rfl, _, rfl, n2, s2, kp, rfl, by omega, by omega, by omega, by omega, fun v2 H9 ws2 e9 hS hSp hl => ?_⟩
    refine ⟨_, rfl, _, rfl, _, rfl, n2, s2, kp, rfl, by omega, by omega, by omega, fun r2 HA rows2 eA hB hrA nd nn hms hlen => ?_⟩
    have hp : 0 < ms rows2 fun _ => 1 := by
      rw [hms]
      have := hSp.le
      exact Int.lt_of_lt_of_le this.1 this.2
    refine ⟨v2, r2, ws2, rows2, _, 1, 1, rfl, hS.ex eA, hSp, hrA, nd, nn, hp, ?_, by omega, by decide, by decide, fun φ => by rw [hms], fun HB bB => ⟨true, rfl, ?_⟩⟩
    · rw [hms]
      exact (Kd_lt (by omega) (by omega) fin_one).up (by decide)
    have hd9 := hd8.ex e9
    have m9 : Mo (some d) T9 H H9 := m8.trans (Mo.of e9)
    have mB : Mo (some d) T9 H HB := ExB.mo (m9.trans (Mo.of eA)) bB hrA (none_mo m9 hB hd9)
    have hdB := bB.dice hrA (hd9.ex eA)
    clear hd9 m9 bB hrA hB eA e9 m8 hd8 hS hms nd nn hlen hp hSp hl hn hsd x0 x1 y0 y1 z0 z1
    clear ws2
    refine iteF ⟨_, rfl, d, 3, rfl, hdB, by decide, by decide, fun x ys HC x0 x1 eHC hdC => ⟨_, _, rfl, rfl, 1 + x, rfl, by omega, by omega, fun D hD => ?_⟩⟩
    obtain ⟨n3, hn⟩ : ∃ n : Nat, 1 + x = n := ⟨(1 + x).toNat, by omega⟩
    have mC := mB.trans (roll_mo hdB eHC)
    clear eHC hdB mB
    have hDd : D ≠ d := fun z => by
      obtain ⟨_, _, _, h⟩ := hdC
      rw [← z, hD] at h
      cases h
    refine lc_n (n := n3) (fun i acc H' => ∃ xs : List Int, acc = xs.map V.int ∧ xs.length = i ∧ (∀ x ∈ xs, 1 ≤ x ∧ x ≤ 30) ∧ Mo (some d) T9 HC H' ∧ DiceOk H' d) ⟨[], rfl, rfl, fun x hx => absurd hx List.not_mem_nil, Mo.of (Evl.Ex.new hD), hdC.ex (Evl.Ex.new hD)⟩ (fun i acc H' hi _ => by show i < (1 + x).toNat; omega) (fun acc H' _ => by show (1 + x).toNat ≤ n3; omega) (fun i acc H1 u H2 hi hacc pv hy => ?_) (fun acc H1 hacc pv => ?_)
    · obtain ⟨rfl, rfl⟩ := hy
      obtain ⟨xs, rfl, hl, hb, m, hd1⟩ := pv
      refine ⟨rfl, ⟨_, rfl, d, 30, rfl, hd1, by decide, by decide, fun y ys H3 y0 y1 e3 hd3 => ⟨_, _, rfl, rfl, ?_⟩⟩⟩
      have m3 := m.trans (roll_mo hd1 e3)
      have hacc3 : H3 D = some (.lst (xs.map V.int)) := by rw [e3, upd_ne hDd]; exact hacc
      refine App.of hacc3 (by rw [List.length_map]; omega) ⟨xs ++ [1 + y], by simp, by simp [hl], fun z hz => ?_, Mo.fresh m3 (Nn.of hD) hacc3, ?_⟩
      · rcases List.mem_append.mp hz with hz | hz
        · exact hb z hz
        · rw [List.mem_singleton] at hz; omega
      · obtain ⟨a, b, c, h⟩ := hd3
        exact ⟨a, b, c, (upd_ne (Ne.symm hDd)).trans h⟩
    · obtain ⟨xs, rfl, hl, hb, m, hd1⟩ := pv
      have mD := mC.trans m
      clear m mC hdC
      have sq : ∀ {H' : Hp}, H' D = some (.lst (xs.map V.int)) → SqL K H' D (xs.map V.int) := fun h => Evl.sq_of h
      refine ⟨_, rfl, _, rfl, D, _, rfl, .inl (sq hacc), d, _, rfl, hd1, by rw [List.length_map]; omega, by rw [List.length_map]; omega, fun kd ys H2 k0 k1 e2 hd2 => ?_⟩
      have hacc2 : H2 D = some (.lst (xs.map V.int)) := by rw [e2, upd_ne hDd]; exact hacc
      have mE := mD.trans (roll_mo hd1 e2)
      rw [List.length_map, hl] at k1
      obtain ⟨kd, rfl⟩ : ∃ n : Nat, kd = n := ⟨kd.toNat, by omega⟩
      obtain ⟨g, b, hg, hsum, hg1, hg30, hbl⟩ := pick (k := kd) (by omega) hb
      refine ⟨_, rfl, _, rfl, D, xs, rfl, sq hacc2, _, _, rfl, rfl, d, xs.sum + 1, rfl, hd2, by omega, by omega, fun dr ys2 H3 d0 d1 e3 hd3 => ⟨(by show 2 ≤ sizeLine; decide), fun q hq => ⟨q, _, rfl, Evl.st_of upd_same, rfl, _, _, rfl, _, _, rfl, rfl, ?_⟩⟩⟩
      obtain ⟨dr, rfl⟩ : ∃ n : Nat, dr = n := ⟨dr.toNat, by omega⟩
      have hacc3 : H3 D = some (.lst (xs.map V.int)) := by rw [e3, upd_ne hDd]; exact hacc2
      have mF := mE.trans (roll_mo hd2 e3)
      clear hd1 hacc mD e2 mE hacc2 hd2 e3
      have e4 : Ex H3 (upd H3 q (.tup [.int (kd : Nat), .int (dr : Nat)])) := Evl.Ex.new hq
      have mG : Mo (some d) T9 H (upd H3 q (.tup [.int (kd : Nat), .int (dr : Nat)])) := mF.trans (Mo.of e4)
      have hdG := hd3.ex e4
      have hacc4 := e4 _ _ hacc3
      generalize (upd H3 q (.tup [.int (kd : Nat), .int (dr : Nat)])) = H4 at mG hdG hacc4
      have hat : (xs.map V.int)[kd]? = some (.int ((g : Nat) : Int)) := by rw [List.getElem?_map, hg]; rfl
      refine ⟨_, rfl, _, rfl, D, _, ((kd : Nat) : Int), _, rfl, rfl, sq hacc4, atI_nat hat, _, rfl, D, xs, rfl, sq hacc4, _, rfl, _, rfl, D, _, ((kd : Nat) : Int), _, rfl, rfl, sq hacc4, atI_nat hat, _, _, rfl, rfl, (by show 2 ≤ sizeLine; decide), fun q2 hq2 => ⟨q2, _, rfl, Evl.st_of upd_same, rfl, _, _, rfl, _, _, rfl, rfl, ?_⟩⟩
      have hdif : xs.sum - ((g : Nat) : Int) = ((b : Nat) : Int) := by omega
      simp only [hdif]
      have e5 : Ex H4 (upd H4 q2 (.tup [.int (g : Nat), .int (b : Nat)])) := Evl.Ex.new hq2
      have hacc5 := e5 _ _ hacc4
      have mH := mG.trans (Mo.of e5)
      have hdH := hdG.ex e5
      generalize (upd H4 q2 (.tup [.int (g : Nat), .int (b : Nat)])) = H5 at mH hdH hacc5
      clear e4 e5 mG hdG hacc4 hq hq2 hacc3 mF hd3
      refine re_st [some (.ref d), some (.int (n2 : Nat)), some (.int (s2 : Nat)), some (.int (kp : Nat)), some (.ref D), some (.int (kd : Nat)), some (.int (dr : Nat)), some (.int (g : Nat)), some (.int (b : Nat)), none, none] rfl ?_
      refine ⟨_, rfl, _, _, rfl, rfl, ((dr : Nat) : Int) + 1, rfl, by omega, by omega, fun D2 hD2 => ?_⟩
      have nn : ∀ k, k < dr + 1 → 0 ≤ (bin g k : Int) * bin b (dr - k) ∧ (bin g k : Int) * bin b (dr - k) < 2 ^ 200 := fun k hk => by
        have := mul_lt (Int.natCast_nonneg _) (bin_lt (n := g) (k := k) (by omega)) (Int.natCast_nonneg _) (bin_lt (n := b) (k := dr - k) (by omega))
        refine ⟨this.1, Int.lt_trans this.2 (by decide)⟩
      refine lc_n (n := dr + 1) (fun i acc H' => Prs K H' acc (dk (rg i fun k => (bin g k : Int) * bin b (dr - k))) ∧ Ex H5 H') ⟨.nil, Evl.Ex.new hD2⟩ (fun i acc H' hi _ => by show i < ((dr : Int) + 1).toNat; omega) (fun acc H' _ => by show ((dr : Int) + 1).toNat ≤ dr + 1; omega) (fun i acc H1 u H2 hi hacc p hy => ?_) (fun acc H1 hacc p => ?_)
      · obtain ⟨rfl, rfl⟩ := hy
        refine ⟨rfl, ⟨_, rfl, _, rfl, _, rfl, g, i, (by show [V.int (g : Nat), V.int (0 + (i : Nat))] = _; rw [Int.zero_add]), ⟨by omega, by omega⟩, _, rfl, _, rfl, _, rfl, _, _, rfl, rfl, b, dr - i, (by show [V.int (b : Nat), V.int (((dr : Nat) : Int) - (0 + (i : Nat)))] = _; rw [Int.zero_add, show ((dr : Nat) : Int) - (i : Nat) = ((dr - i : Nat) : Int) by omega]), ⟨by omega, by omega⟩, ?_⟩⟩
        refine ⟨_, _, rfl, rfl, cm_l (Int.natCast_nonneg _) (bin_lt (by omega)), (by show 2 ≤ sizeLine; decide), fun q hq => ?_⟩
        simp only [Int.zero_add]
        exact prs_step (k := .inl (i : Int)) (v := .int ((bin g i : Int) * bin b (dr - i))) hacc p.1 hq p.2 hD2 (by rw [dk_len, rg_len]; omega) (dk_rg _ _)
      · obtain ⟨ps, rfl, hps⟩ := p.1
        refine ⟨D2, ps, _, rfl, Evl.sq_of hacc, hps, fun r hr0 => ?_⟩
        rw [mergeK_nd (dk_nd (rg_nd _ _))]
        have e6 : Ex H5 (upd H1 r (.dK (dk (rg (dr + 1) fun k => (bin g k : Int) * bin b (dr - k))))) := Evl.Ex.trans p.2 (Evl.Ex.new hr0)
        have hr6 : upd H1 r (.dK (dk (rg (dr + 1) fun k => (bin g k : Int) * bin b (dr - k)))) r = some (.dK (dk (rg (dr + 1) fun k => (bin g k : Int) * bin b (dr - k)))) := upd_same
        have hrB : Nn H r := none_mo mH (none_ex p.2 hr0) hdH
        generalize (upd H1 r (.dK (dk (rg (dr + 1) fun k => (bin g k : Int) * bin b (dr - k))))) = H6 at e6 hr6
        refine ⟨_, rfl, _, rfl, _, rfl, D, xs, kd, dr, g, b, rfl, sq (e6 _ _ hacc5), (fun z => by rw [z] at hl; simp at hl; omega), fun x hx => (hb x hx).1, hg, hsum, by omega, by omega, by omega, by omega, fun v H7 ws e7 hS hSp hl7 => ?_⟩
        have hp := hSp.le
        refine ⟨_, rfl, v, r, ws, _, _, 1, 1, rfl, hS, hSp, e7 _ _ hr6, rg_nd _ _, rg_nn fun k hk => (nn k hk).1, Int.lt_of_lt_of_le hp.1 hp.2, (rg_bound (by omega) nn).2, by rw [rg_len]; omega, by decide, by decide, fun φ => rfl, fun H8 b8 => ?_⟩
        exact k H8 (ExB.mo (mH.trans (Mo.of (Evl.Ex.trans e6 e7))) b8 (e7 _ _ hr6) hrB) (b8.dice (e7 _ _ hr6) (hdH.ex (Evl.Ex.trans e6 e7)))
end
end KK
end
/-! K34 -/
section
set_option Elab.async false
set_option linter.all false
set_option maxRecDepth 100000
set_option maxHeartbeats 4000000
namespace KK
open PySem PySem.Spec PyProof.Rows L2 KM LX LamX NdefX
def dl (i : Nat) : List V := (List.range (i + 2)).map fun k => V.int (der k)
theorem dl_get {i k : Nat} (h : k < i + 2) : (dl i)[k]? = some (.int (der k)) := by
  unfold dl
  rw [List.getElem?_map, List.getElem?_range h]
  rfl
theorem dl_succ (i : Nat) : dl (i + 1) = dl i ++ [.int (der (i + 2))] := by
  unfold dl
  rw [List.range_succ (n := i + 2), List.map_append]
  rfl
theorem dl_len (i : Nat) : (dl i).length = i + 2 := by simp [dl]
section
variable {P : Program} {w : World} {K : PySem.W.Frag} {mg : Str → Option Value} {base : Heap} {T9 : LX.TL} {CS : Addr}
abbrev s__law_orders : Stmt := top 72
abbrev N__law_orders : List Str := ["dice", "size", "tries", "rings", "strays", "amount", "many", "found", "way", "ring", "k"]
theorem sc__law_orders : FnScope N__law_orders ["dice"] (C8.fnScope s__law_orders) := C8.fnScope_by (by decide +kernel)
-- slots: dice=0 size=1c tries=2 rings=3 strays=4c amount=5 many=6 found=7 way=8 ring=9 k=10
theorem k__law_orders {f : Addr} {fd : FuncData} (T : Tx K mg) (Df : C8.Def K mg "_law_orders" s__law_orders f fd) (bf : Binds K fd ["dice"] []) (c__law_roll : C8.Cal P w K mg base 1 "_law_roll" spRoll []) (c__law_same : C8.Cal P w K mg base 4 "_law_same" (spSame CS) []) (c_all_found : C8.Cal P w K mg base 3 "all_found" (spAllFound K) []) (c_part : C8.Cal P w K mg base 2 "part" (spPart K) [])
    (c_at_home : C8.Cal P w K mg base 4 "at_home" (spAtHome CS) []) (c__law_ways : C8.Cal P w K mg base 1 "_law_ways" (spN2 (fun n k => n ≤ 60 ∧ k ≤ 100) fun n k => bin n k) []) : C8.Cal P w K mg base 5 "_law_orders" (spPart1 T9) [] := by
  refine C8.cal0 Df bf .nil sc__law_orders (fun vs H Q E h => ?_) (fun cdv A outer s H vs Q E hr h => ?_)
  · obtain ⟨_, rfl, _⟩ := h; rfl
  · obtain ⟨d, rfl, hd, hT, k⟩ := h
    refine ⟨_, (pss_cons (ps_set (i := 1) sc__law_orders.nd rfl (Or.inr rfl) (pe_op op_add pe_int (C8.pe_c c__law_roll hr (by omega) (by rfl) (pa_cons (pv 0) (pa_cons pe_int pa_nil)))))
      (pss_cons (ps_asg (pe_tup (pa_cons (C8.pe_c c__law_roll hr (by omega) (by rfl) (pa_cons (pv 0) (pa_cons (pe_op op_add (pv 1) pe_int) pa_nil))) (pa_cons (pe_lst (pa_cons pe_int pa_nil)) (pa_cons (pe_lst (pa_cons pe_int (pa_cons pe_int pa_nil))) (pa_cons pe_int pa_nil))))) (pg_tup (n := 4) rfl (pgs_cons (pg_name (i := 2) sc__law_orders.nd rfl (Or.inl rfl) (by exact Or.inl rfl)) (pgs_cons (pg_name (i := 3) sc__law_orders.nd rfl (Or.inl rfl) (by exact Or.inl rfl)) (pgs_cons (pg_name (i := 4) sc__law_orders.nd rfl (Or.inr rfl) (by exact Or.inl rfl)) (pgs_cons (pg_name (i := 5) sc__law_orders.nd rfl (Or.inl rfl) (by exact Or.inl rfl)) pgs_nil))))))
      (pss_cons (ps_for PassesOwn.never rfl (pi_range2 (by rfl) T.n_range (pa_cons pe_int (pa_cons (pe_op op_add (pv 1) pe_int) pa_nil))) (pg_name (i := 6) sc__law_orders.nd rfl (Or.inl rfl) (by exact Or.inl rfl))
      (pss_cons (ps_asg (pe_tup (pa_cons pe_int (pa_cons pe_int pa_nil))) (pg_tup (n := 2) rfl (pgs_cons (pg_name (i := 7) sc__law_orders.nd rfl (Or.inl rfl) (by exact Or.inl rfl)) (pgs_cons (pg_name (i := 8) sc__law_orders.nd rfl (Or.inl rfl) (by exact Or.inl rfl)) pgs_nil))))
        (pss_cons (ps_for PassesOwn.never rfl (pi_range2 (by rfl) T.n_range (pa_cons pe_int (pa_cons (pe_op op_add (pe_callB (call_min2 rfl) (by rfl) T.n_min (by decide +kernel) (pa_cons (pv 6) (pa_cons (pv 2) pa_nil))) pe_int) pa_nil))) (pg_name (i := 9) sc__law_orders.nd rfl (Or.inl rfl) (by exact Or.inl rfl))
        (pss_one (ps_par (i := 7) (j := 8) (by rfl) sc__law_orders.nd rfl rfl (by decide) rfl rfl (pa_cons (pe_op op_add (pv 7) (pe_op op_mul (pv 8) (pe_ix ix_list (pv 3) (pe_op op_sub (pv 6) (pv 9)) (fun _ _ => rfl)))) (pa_cons (pe_op op_mul (pv 8) (pe_op op_sub (pv 6) (pv 9))) pa_nil)) (by rfl))))
        (pss_cons (ps_expr (pe_bm PySem.F.plainAttrs_list PySem.F.slot_list_append PySem.F.type_list_append mt_append (pv 3) (pa_cons (pv 7) pa_nil)))
        (pss_cons (ps_set (i := 5) sc__law_orders.nd rfl (Or.inl rfl) (pe_op op_mul (pv 5) (pv 6)))
        (pss_one (ps_expr (pe_bm PySem.F.plainAttrs_list PySem.F.slot_list_append PySem.F.type_list_append mt_append (pv 4) (pa_cons (pe_op op_mul (pv 6) (pe_op op_add (pe_ix ix_list (pv 4) (pe_op op_sub (pv 6) pe_int) (fun _ _ => rfl)) (pe_ix ix_list (pv 4) (pv 6) (fun _ _ => rfl)))) pa_nil)))))))))
      (pss_cons (ps_if (pt_cmpR (op_neD hr.units) (C8.pe_c c_all_found hr (by omega) (by rfl) (pa_cons (pv 1) (pa_cons (pv 2) pa_nil))) (C8.pe_c c_part hr (by omega) (by rfl) (pa_cons (pe_ix ix_list (pv 3) (pv 1) (fun _ _ => rfl)) (pa_cons (pv 5) pa_nil))) (nomark _)) (pss_one (ps_ret pe_bl)) pss_nil)
      (pss_one (ps_ret (C8.pe_c c__law_same hr (by omega) (by rfl) (pa_cons (C8.pe_c c_at_home hr (by omega) (by rfl) (pa_cons (pv 1) pa_nil)) (pa_cons (pe_callTy (call_dictP rfl) (by rfl) T.n_dict (by decide +kernel) (pa_cons (pe_lc (own := [("k", 10)]) rfl sc__law_orders.nd (pi_range1 (by rfl) T.n_range (pa_cons (pe_op op_add (pv 1) pe_int) pa_nil)) (by first | exact blkOk_by (N := N__law_orders) (sc := C8.fnScope s__law_orders) (by decide +kernel) | exact blkOk_by (by rfl)) (fun _ _ _ _ _ => castPG (pg_name (i := 10) sc__law_orders.nd rfl (Or.inl rfl) (by first | exact Or.inr rfl | exact Or.inl rfl)) (by first | (dsimp only [Cx.blk]; done) | rfl)) (fun _ _ _ _ _ => castPTs (pts_nil) (by first | (dsimp only [Cx.blk]; done) | rfl)) (fun _ _ _ _ _ => castPE (pe_tup (pa_cons (pv 10) (pa_cons (pe_op op_mul (C8.pe_c c__law_ways hr (by omega) (by rfl) (pa_cons (pv 1) (pa_cons (pv 10) pa_nil))) (pe_ix ix_list (pv 4) (pe_op op_sub (pv 1) (pv 10)) (fun _ _ => rfl))) pa_nil))) (by first | (dsimp only [Cx.blk]; done) | rfl))) pa_nil)) pa_nil))))))))), ?_⟩
    refine ⟨_, rfl, d, 14, rfl, hd, by decide, by decide, fun x ys H1 x0 x1 eH1 hd1 => ⟨_, _, rfl, rfl, ?_⟩⟩
    obtain ⟨n, hn⟩ : ∃ n : Nat, 1 + x = n := ⟨(1 + x).toNat, by omega⟩
    simp only [hn]
    refine ⟨_, rfl, _, rfl, _, _, rfl, rfl, d, ((n : Nat) : Int) + 1, rfl, hd1, by omega, by omega, fun y ys2 H2 y0 y1 eH2 hd2 => ?_⟩
    obtain ⟨t, rfl⟩ : ∃ n : Nat, y = n := ⟨y.toNat, by omega⟩
    have m2 : Mo (some d) T9 H H2 := (roll_mo hd eH1).trans (roll_mo hd1 eH2)
    clear eH1 eH2 hd1
    refine ⟨(by show 1 ≤ sizeLine; decide), fun R hR => ⟨(by show 2 ≤ sizeLine; decide), fun S hS => ⟨(by show 4 ≤ sizeLine; decide), fun q hq => ⟨q, _, rfl, Evl.st_of upd_same, rfl, _, _, rfl, _, _, rfl, _, _, rfl, _, _, rfl, rfl, ?_⟩⟩⟩⟩
    have e1 : Ex H2 (upd (upd (upd H2 R (.lst [.int 1])) S (.lst [.int 1, .int 0])) q (.tup [.int (t : Nat), .ref R, .ref S, .int 1])) := Evl.Ex.trans (Evl.Ex.trans (Evl.Ex.new hR) (Evl.Ex.new hS)) (Evl.Ex.new hq)
    have hRS : R ≠ S := ne_of_none upd_same hS
    have hS1 : (upd (upd (upd H2 R (.lst [.int 1])) S (.lst [.int 1, .int 0])) q (.tup [.int (t : Nat), .ref R, .ref S, .int 1])) S = some (.lst (dl 0)) := Evl.Ex.new hq _ _ upd_same
    have hR1 : (upd (upd (upd H2 R (.lst [.int 1])) S (.lst [.int 1, .int 0])) q (.tup [.int (t : Nat), .ref R, .ref S, .int 1])) R = some (.lst ((rl t 0).map V.int)) := Evl.Ex.new hq _ _ (Evl.Ex.new hS _ _ upd_same)
    have hS0 := none_ex (Evl.Ex.new hR) hS
    refine re_st [some (.ref d), some (.int (n : Nat)), some (.int (t : Nat)), some (.ref R), some (.ref S), some (.int 1), none, none, none, none, none] rfl ?_
    generalize (upd (upd (upd H2 R (.lst [.int 1])) S (.lst [.int 1, .int 0])) q (.tup [.int (t : Nat), .ref R, .ref S, .int 1])) = G1 at e1 hS1 hR1
    clear hq hS
    refine ⟨_, rfl, _, _, rfl, rfl, 1, ((n : Nat) : Int) + 1, rfl, ⟨by omega, by omega, by omega, by omega⟩, ?_⟩
    refine for_n (n := n) (fun i σ' H' => ∃ o6 o7 o8 o9 : Option V, σ' = [some (.ref d), some (.int (n : Nat)), some (.int (t : Nat)), some (.ref R), some (.ref S), some (.int (fac i : Nat)), o6, o7, o8, o9, none] ∧ Ex H2 H' ∧ H' R = some (.lst ((rl t i).map V.int)) ∧ H' S = some (.lst (dl i)))
      ⟨_, _, _, _, rfl, e1, hR1, hS1⟩ (fun i σ' H' hi _ => by show i < (((n : Nat) : Int) + 1 - 1).toNat; omega) (fun σ' H' _ => by show (((n : Nat) : Int) + 1 - 1).toNat ≤ n; omega) ?_ ?_
    · rintro i _ H3 u H4 hi ⟨o6, o7, o8, o9, rfl, e, hR', hS'⟩ ⟨rfl, rfl⟩
      refine ⟨(by show 2 ≤ sizeLine; decide), fun q hq => ⟨q, _, rfl, Evl.st_of upd_same, rfl, _, _, rfl, _, _, rfl, rfl, ?_⟩⟩
      have e4 : Ex H4 (upd H4 q (.tup [.int 0, .int 1])) := Evl.Ex.new hq
      have e24 := Evl.Ex.trans e e4
      have hR4 := e4 _ _ hR'
      have hS4 := e4 _ _ hS'
      generalize (upd H4 q (.tup [.int 0, .int 1])) = G2 at e24 hR4 hS4
      refine ⟨_, rfl, _, rfl, 1 + (i : Nat), (t : Nat), rfl, _, _, rfl, rfl, 1, (if ((t : Nat) : Int) < 1 + (i : Nat) then ((t : Nat) : Int) else 1 + (i : Nat)) + 1, rfl, ⟨by omega, by omega, by split <;> omega, by split <;> omega⟩, ?_⟩
      have hmin : (if ((t : Nat) : Int) < 1 + (i : Nat) then ((t : Nat) : Int) else 1 + (i : Nat)) = ((min (i + 1) t : Nat) : Int) := by split <;> omega
      rw [hmin]
      refine for_n (n := min (i + 1) t) (fun j σ' H' => ∃ o9 : Option V, σ' = [some (.ref d), some (.int (n : Nat)), some (.int (t : Nat)), some (.ref R), some (.ref S), some (.int (fac i : Nat)), some (.int (1 + (i : Nat))), some (.int (sumr j fun r => ff i r * (rl t i).getD (i - r) 0)), some (.int (ff i j)), o9, none] ∧ H' = G2)
        ⟨_, rfl, rfl⟩ (fun j σ' H3 hj _ => by show j < (((min (i + 1) t : Nat) : Int) + 1 - 1).toNat; omega) (fun σ' H3 _ => by show (((min (i + 1) t : Nat) : Int) + 1 - 1).toNat ≤ min (i + 1) t; omega) ?_ ?_
      · rintro j _ _ u H5 hj ⟨o9, rfl, rfl⟩ ⟨rfl, rfl⟩
        have ji : j ≤ i := by omega
        have hf := ff_lt i (by omega) j (by omega)
        have hcm : ∀ z : Int, CMul (ff i j) z := fun z => cm_l hf.1 (Int.lt_trans hf.2 (by decide))
        refine ⟨_, rfl, _, rfl, _, rfl, _, rfl, _, rfl, _, _, rfl, rfl, R, _, ((i - j : Nat) : Int), .int ((rl t i).getD (i - j) 0), rfl, ?_, Evl.sq_of hR4, atI_nat (rl_get (by omega)), _, _, rfl, rfl, hcm _, _, _, rfl, rfl, _, rfl, _, rfl, _, rfl, _, _, rfl, rfl, _, _, rfl, rfl, hcm _, _, _, rfl, some (.int (1 + (j : Nat))), ?_, rfl⟩
        · show V.int (1 + (i : Nat) - (1 + (j : Nat))) = _
          rw [show (1 : Int) + (i : Nat) - (1 + (j : Nat)) = ((i - j : Nat) : Int) by omega]
        · show [_, _, _, _, _, _, _, some (V.int (sumr j _ + ff i j * _)), some (V.int (ff i j * (1 + (i : Nat) - (1 + (j : Nat))))), _, _] = _
          rw [show (1 : Int) + (i : Nat) - (1 + (j : Nat)) = ((i : Nat) : Int) - ((j : Nat) : Int) by omega]
          rfl
      · rintro _ G2 ⟨o9, rfl, rfl⟩
        have e5 : Ex H2 (upd G2 R (.lst ((rl t (i + 1)).map V.int))) := Evl.Ex.mut e24 hR
        have hR5 : upd G2 R (.lst ((rl t (i + 1)).map V.int)) R = some (.lst ((rl t (i + 1)).map V.int)) := upd_same
        have hS5 : upd G2 R (.lst ((rl t (i + 1)).map V.int)) S = some (.lst (dl i)) := (upd_ne (Ne.symm hRS)).trans hS4
        refine ⟨_, rfl, .inl ⟨rfl, _, Evl.sq_of hR4⟩, _, rfl, R, (rl t i).map V.int, _, rfl, rfl, hR4, by rw [List.length_map, rl_len]; exact Nat.lt_of_lt_of_le (show i + 1 < 1000000 by omega) (by decide), ?_⟩
        have er : (rl t i).map V.int ++ [.int (sumr (min (i + 1) t) fun r => ff i r * (rl t i).getD (i - r) 0)] = (rl t (i + 1)).map V.int := by
          show _ = (rl t i ++ [_]).map V.int
          rw [List.map_append]
          rfl
        rw [er]
        generalize (upd G2 R (.lst ((rl t (i + 1)).map V.int))) = G3 at e5 hR5 hS5
        have hd0 := der_lt i (by omega)
        have hd1' := der_lt (i + 1) (by omega)
        refine ⟨_, rfl, _, rfl, _, _, rfl, rfl, cm_r (by omega) (by omega), ?_⟩
        refine ⟨_, rfl, .inl ⟨rfl, _, Evl.sq_of hS5⟩, _, rfl, _, rfl, _, rfl, _, _, rfl, rfl, S, _, ((i : Nat) : Int), .int (der i), rfl, (by show V.int (1 + (i : Nat) - 1) = _; rw [show (1 : Int) + (i : Nat) - 1 = (i : Nat) by omega]), Evl.sq_of hS5, atI_nat (dl_get (by omega)), _, rfl, _, rfl, S, _, ((i + 1 : Nat) : Int), .int (der (i + 1)), rfl, (by show V.int (1 + (i : Nat)) = _; rw [show (1 : Int) + (i : Nat) = ((i + 1 : Nat) : Int) by omega]), Evl.sq_of hS5, atI_nat (dl_get (by omega)), _, _, rfl, rfl, _, _, rfl, rfl, cm_l (by omega) (by omega), S, dl i, _, rfl, rfl, hS5, by rw [dl_len]; exact Nat.lt_of_lt_of_le (show i + 2 < 1000000 by omega) (by decide), ?_⟩
        refine ⟨some (.int (1 + (i : Nat))), some (.int (sumr (min (i + 1) t) fun r => ff i r * (rl t i).getD (i - r) 0)), some (.int (ff i (min (i + 1) t))), o9, ?_, Evl.Ex.mut e5 hS0, (upd_ne hRS).trans hR5, ?_⟩
        · show [_, _, _, _, _, some (V.int (((fac i : Nat) : Int) * (1 + (i : Nat)))), _, _, _, _, _] = [_, _, _, _, _, some (V.int ((fac i * (i + 1) : Nat) : Int)), _, _, _, _, _]
          rw [show ((fac i * (i + 1) : Nat) : Int) = ((fac i : Nat) : Int) * (1 + (i : Nat)) by push_cast; rw [Int.add_comm]]
        · rw [upd_same, dl_succ]
          show some (HO.lst (dl i ++ [V.int ((1 + (i : Nat)) * (der i + der (i + 1)))])) = some (HO.lst (dl i ++ [V.int ((((i : Nat) : Int) + 1) * (der i + der (i + 1)))]))
          rw [Int.add_comm 1 ((i : Nat) : Int)]
    · rintro _ H3 ⟨o6, o7, o8, o9, rfl, e, hR', hS'⟩
      have ws := rl_lt t (by omega) n (by omega) n (by omega)
      have fp := fac_pos n (by omega)
      have m3 := m2.trans (Mo.of e)
      have hd3 := hd2.ex e
      refine ⟨_, rfl, _, rfl, n, t, rfl, by omega, by omega, by omega, fun v1 H4 e4 h4 => ?_⟩
      refine ⟨_, rfl, _, rfl, R, _, ((n : Nat) : Int), .int ((rl t n).getD n 0), rfl, rfl, Evl.sq_of (e4 _ _ hR'), atI_nat (rl_get (by omega)), _, rfl, _, _, rfl, by show ((fac n : Nat) : Int) ≠ 0; omega, (Lt2.nn ws.1 ws.2).up (by decide), (Lt2.nn (by omega) (fac_lt _ (by omega))).up (by decide), fun v2 H5 e5 h5 => ?_⟩
      refine ⟨_, _, (h4.ex e5).dp, h5.dp, (Flat.qD _).shaped (by decide), (Flat.qD _).shaped (by decide), _, rfl, ?_⟩
      rw [qD_eqv, decide_eq_true rfl]
      have e35 := Evl.Ex.trans e4 e5
      have mH := m3.trans (Mo.of e35)
      have hdH := hd3.ex e35
      have hS5 := e35 _ _ hS'
      clear h4 h5 e4 e35 e5 m3 hd3
      refine iteF ⟨_, rfl, n, rfl, by omega, by omega, fun v H6 wsp e6 hSp hSpr hl6 => ?_⟩
      have mI := mH.trans (Mo.of e6)
      have hdI := hdH.ex e6
      have hS6 := e6 _ _ hS5
      refine ⟨_, rfl, _, _, rfl, rfl, ((n : Nat) : Int) + 1, rfl, by omega, by omega, fun D2 hD2 => ?_⟩
      have nn : ∀ k, k < n + 1 → 0 ≤ (bin n k : Int) * der (n - k) ∧ (bin n k : Int) * der (n - k) < 2 ^ 200 := fun k hk => by
        have hdr := der_lt (n - k) (by omega)
        have := mul_lt (Int.natCast_nonneg _) (bin_lt (n := n) (k := k) (by omega)) hdr.1 hdr.2
        refine ⟨this.1, Int.lt_trans this.2 (by decide)⟩
      refine lc_n (n := n + 1) (fun i acc H' => Prs K H' acc (dk (rg i fun k => (bin n k : Int) * der (n - k))) ∧ Ex H6 H') ⟨.nil, Evl.Ex.new hD2⟩ (fun i acc H' hi _ => by show i < ((n : Int) + 1).toNat; omega) (fun acc H' _ => by show ((n : Int) + 1).toNat ≤ n + 1; omega) (fun i acc H1 u H7 hi hacc p hy => ?_) (fun acc H1 hacc p => ?_)
      · obtain ⟨rfl, rfl⟩ := hy
        refine ⟨rfl, ⟨_, rfl, _, rfl, _, rfl, n, i, (by show [V.int (n : Nat), V.int (0 + (i : Nat))] = _; rw [Int.zero_add]), ⟨by omega, by omega⟩, _, rfl, _, rfl, _, rfl, _, _, rfl, rfl, S, _, ((n - i : Nat) : Int), .int (der (n - i)), rfl, (by show V.int (((n : Nat) : Int) - (0 + (i : Nat))) = _; rw [Int.zero_add, show ((n : Nat) : Int) - (i : Nat) = ((n - i : Nat) : Int) by omega]), Evl.sq_of (p.2 _ _ hS6), atI_nat (dl_get (by omega)), ?_⟩⟩
        refine ⟨_, _, rfl, rfl, cm_l (Int.natCast_nonneg _) (bin_lt (by omega)), (by show 2 ≤ sizeLine; decide), fun q hq => ?_⟩
        simp only [Int.zero_add]
        exact prs_step (k := .inl (i : Int)) (v := .int ((bin n i : Int) * der (n - i))) hacc p.1 hq p.2 hD2 (by rw [dk_len, rg_len]; omega) (dk_rg _ _)
      · obtain ⟨ps, rfl, hps⟩ := p.1
        refine ⟨D2, ps, _, rfl, Evl.sq_of hacc, hps, fun r hr0 => ?_⟩
        rw [mergeK_nd (dk_nd (rg_nd _ _))]
        have e7 : Ex H6 (upd H1 r (.dK (dk (rg (n + 1) fun k => (bin n k : Int) * der (n - k))))) := Evl.Ex.trans p.2 (Evl.Ex.new hr0)
        have hr6 : upd H1 r (.dK (dk (rg (n + 1) fun k => (bin n k : Int) * der (n - k)))) r = some (.dK (dk (rg (n + 1) fun k => (bin n k : Int) * der (n - k)))) := upd_same
        have hrB : Nn H r := none_mo mI (none_ex p.2 hr0) hdI
        generalize (upd H1 r (.dK (dk (rg (n + 1) fun k => (bin n k : Int) * der (n - k))))) = H8 at e7 hr6
        have hp := hSpr.le
        refine ⟨v, r, wsp, _, _, 1, 1, rfl, hSp.ex e7, hSpr, hr6, rg_nd _ _, rg_nn fun k hk => (nn k hk).1, Int.lt_of_lt_of_le hp.1 hp.2, (rg_bound (by omega) nn).2, by rw [rg_len]; omega, by decide, by decide, fun φ => rfl, fun H9 b9 => ?_⟩
        exact k H9 (ExB.mo (mI.trans (Mo.of e7)) b9 hr6 hrB) (b9.dice hr6 (hdI.ex e7))
end
end KK
end
/-! K35 -/
section
set_option Elab.async false
set_option linter.all false
set_option maxRecDepth 100000
set_option maxHeartbeats 4000000
namespace KK
open PySem PySem.Spec PyProof.Rows L2 KM LX LamX NdefX
def tb (p : Rat) (a b : Nat) : Rat := if a = 0 then 1 else if b = 0 then 0 else rc p a b
theorem tb_eq {p : Rat} : ∀ {a b : Nat}, a ≠ 0 ∨ b ≠ 0 → tb p a b = rc p a b
  | 0, 0, h => by omega
  | 0, b + 1, _ => by unfold tb rc; rfl
  | a + 1, 0, _ => by unfold tb rc; rfl
  | a + 1, b + 1, _ => by
    unfold tb
    rw [if_neg (by omega), if_neg (by omega)]
/-- a dict of parts by pairs -/
def TbAt (K : PySem.W.Frag) (H : Hp) (Tb : Addr) (p : Rat) (len : Nat) (seen : Nat → Nat → Prop) : Prop := ∃ kvs : List (List Key × V), H Tb = some (.dT kvs) ∧ kvs.length ≤ len ∧ ∀ a b, seen a b → ∃ v, valV kvs (pk ((a : Int), (b : Int))) = some v ∧ PtAt K H v (tb p a b)
theorem kt_mutT {H : Hp} {x : Addr} {kvs : List (List Key × V)} {o : HO} (h : H x = some (.dT kvs)) : Kt H (upd H x o) := fun b xs hb => by
  have ne : b ≠ x := fun z => by
    subst z
    rcases hb with hb | ⟨o, hb⟩ <;> (rw [h] at hb; cases hb)
  rcases hb with hb | ⟨o, hb⟩
  · exact .inl ((upd_ne ne).trans hb)
  · exact .inr ⟨o, (upd_ne ne).trans hb⟩
section
variable {P : Program} {w : World} {K : PySem.W.Frag} {mg : Str → Option Value} {base : Heap} {T9 : LX.TL} {CS : Addr}
theorem TbAt.ex {H H' : Hp} {Tb : Addr} {p : Rat} {len : Nat} {seen : Nat → Nat → Prop} (h : TbAt K H Tb p len seen) (e : Ex H H') : TbAt K H' Tb p len seen := by
  obtain ⟨kvs, h1, h2, h3⟩ := h
  exact ⟨kvs, e _ _ h1, h2, fun a b s => by
    obtain ⟨v, h4, h5⟩ := h3 a b s
    exact ⟨v, h4, h5.ex e⟩⟩
theorem TbAt.weak {H : Hp} {Tb : Addr} {p : Rat} {len len' : Nat} {seen seen' : Nat → Nat → Prop} (h : TbAt K H Tb p len seen) (hl : len ≤ len') (hs : ∀ a b, seen' a b → seen a b) : TbAt K H Tb p len' seen' := by
  obtain ⟨kvs, h1, h2, h3⟩ := h
  exact ⟨kvs, h1, Nat.le_trans h2 hl, fun a b s => h3 a b (hs a b s)⟩
/-- table[a, b] = v, the key's tuple made before -/
theorem TbAt.put {H : Hp} {Tb : Addr} {p : Rat} {len : Nat} {seen : Nat → Nat → Prop} {a b : Nat} {v : V} {q : Addr} (h : TbAt K H Tb p len seen) (hv : PtAt K H v (tb p a b)) (hq : H q = some (.tup ((pk ((a : Int), (b : Int))).map kV))) (hl : len < 100000) :
    ∃ H', DPut H Tb (.ref q) v H' ∧ TbAt K H' Tb p (len + 1) (fun a' b' => seen a' b' ∨ (a' = a ∧ b' = b)) ∧ (∀ B : Hp, Ex B H → B Tb = none → Ex B H') := by
  obtain ⟨kvs, h1, h2, h3⟩ := h
  refine ⟨upd H Tb (.dT (putK kvs (pk ((a : Int), (b : Int))) v)), .inr ⟨kvs, _, q, h1, rfl, hq, Evl.sz_lt (by omega), rfl⟩, ⟨_, upd_same, ?_, fun a' b' hs => ?_⟩, fun B e hB => Evl.Ex.mut e hB⟩
  · have := length_putK kvs (pk ((a : Int), (b : Int))) v
    omega
  · have kt := kt_mutT (o := .dT (putK kvs (pk ((a : Int), (b : Int))) v)) h1
    rw [valV_put]
    by_cases z : a' = a ∧ b' = b
    · obtain ⟨rfl, rfl⟩ := z
      rw [if_pos rfl]
      exact ⟨v, rfl, hv.kt kt⟩
    · rw [if_neg (fun e => z (by
        have := pk_inj e
        rw [Prod.mk.injEq] at this
        omega))]
      obtain ⟨u, h4, h5⟩ := h3 a' b' (hs.resolve_right z)
      exact ⟨u, h4, h5.kt kt⟩
/-- table[a, b], the key's tuple made before -/
theorem TbAt.get {H : Hp} {Tb : Addr} {p : Rat} {len : Nat} {seen : Nat → Nat → Prop} {a b : Nat} {q : Addr} (h : TbAt K H Tb p len seen) (hs : seen a b) (hq : H q = some (.tup ((pk ((a : Int), (b : Int))).map kV))) : ∃ v, DGet H Tb (.ref q) (some v) ∧ PtAt K H v (tb p a b) := by
  obtain ⟨kvs, h1, h2, h3⟩ := h
  obtain ⟨v, h4, h5⟩ := h3 a b hs
  exact ⟨v, .inr ⟨kvs, _, q, .inl h1, rfl, hq, h4.symm⟩, h5⟩
theorem roll_kt {H H' : Hp} {d : Addr} {ys : List V} (hd : DiceOk H d) (e : H' = upd H d (.lst ys)) : Kt H H' := by
  obtain ⟨a, b, c, hd⟩ := hd
  subst e
  exact Kt.lst hd
theorem b200 {B : Nat} (h : B ≤ 12) : ∀ t, t ≤ 26 → Ln (B ^ t) 200 := fun t ht => by
  have h1 : B ^ t ≤ 12 ^ t := Nat.pow_le_pow_left h t
  have h2 : 12 ^ t ≤ 12 ^ 26 := Nat.pow_le_pow_right (by decide) ht
  have h3 : (12 : Nat) ^ 26 < 2 ^ 100 := by decide
  exact Ln.up (a := 100) (Ln.mk (by omega)) (by decide)
def fl (l m : Nat) : List V := (List.range (l + 1)).map fun k => V.int (fil l m k)
theorem fl_len (l m : Nat) : (fl l m).length = l + 1 := by simp [fl]
theorem fl_get {l m k : Nat} (h : k ≤ l) : (fl l m)[k]? = some (.int (fil l m k)) := by
  unfold fl
  rw [List.getElem?_map, List.getElem?_range (by omega)]
  rfl
theorem fl_zero (l : Nat) : [V.int 1] ++ (List.replicate ((l : Nat) : Int).toNat [V.int 0]).flatten = fl l 0 := by
  have e : ∀ n : Nat, (List.replicate n [V.int 0]).flatten = (List.range n).map fun _ => V.int 0 := fun n => by
    induction n with
    | zero => rfl
    | succ n ih => rw [List.replicate_succ', List.flatten_append, ih, List.range_succ, List.map_append]; rfl
  rw [Int.toNat_natCast, e]
  unfold fl
  rw [List.range_succ_eq_map, List.map_cons, List.map_map]
  rfl
theorem fl_next (l m : Nat) : [V.int 0] ++ ((List.range l).map fun k => V.int (fil l (m + 1) (k + 1))) = fl l (m + 1) := by
  unfold fl
  rw [List.range_succ_eq_map, List.map_cons, List.map_map]
  rfl
theorem dk_rv (l n : Nat) (f : Nat → Int) : dk (rv l (n + 1) f) = dk (rv l n f) ++ [(.inl ((l : Int) - (n : Int)), .int (f n))] := by rw [rv_succ]; unfold dk; rw [List.map_append]; rfl
abbrev s__law_raced : Stmt := top 73
abbrev N__law_raced : List Str := ["dice", "low", "win", "mine", "theirs", "lose", "table", "a", "b", "lots", "many", "filled", "turn", "k"]
theorem sc__law_raced : FnScope N__law_raced ["dice"] (C8.fnScope s__law_raced) := C8.fnScope_by (by decide +kernel)
-- slots: dice=0 low=1 win=2 mine=3 theirs=4 lose=5 table=6 a=7 b=8 lots=9c many=10 filled=11c turn=12 k=13
theorem k__law_raced {f : Addr} {fd : FuncData} (T : Tx K mg) (Df : C8.Def K mg "_law_raced" s__law_raced f fd) (bf : Binds K fd ["dice"] []) (c__law_roll : C8.Cal P w K mg base 1 "_law_roll" spRoll []) (c__law_same : C8.Cal P w K mg base 4 "_law_same" (spSame CS) []) (c_part : C8.Cal P w K mg base 2 "part" (spPart K) []) (c_plus : C8.Cal P w K mg base 3 "plus" (spTwo K (· + ·)) []) (c_times : C8.Cal P w K mg base 3 "times" (spTwo K (· * ·)) [])
    (c_race : C8.Cal P w K mg base 5 "race" (spRace K) []) (c_bare_lots : C8.Cal P w K mg base 9 "bare_lots" (spBareLots CS) []) : C8.Cal P w K mg base 10 "_law_raced" (spPart1 T9) [] := by
  refine C8.cal0 Df bf .nil sc__law_raced (fun vs H Q E h => ?_) (fun cdv A outer s H vs Q E hr h => ?_)
  · obtain ⟨_, rfl, _⟩ := h; rfl
  · obtain ⟨d, rfl, hd, hT, k⟩ := h
    refine ⟨_, (pss_cons (ps_set (i := 1) sc__law_raced.nd rfl (Or.inl rfl) (pe_op op_add pe_int (C8.pe_c c__law_roll hr (by omega) (by rfl) (pa_cons (pv 0) (pa_cons pe_int pa_nil)))))
      (pss_cons (ps_par3 (i := 2) (j := 3) (l := 4) (by rfl) sc__law_raced.nd rfl rfl rfl (by decide) (by decide) (by decide) rfl rfl rfl (pa_cons (C8.pe_c c_part hr (by omega) (by rfl) (pa_cons (C8.pe_c c__law_roll hr (by omega) (by rfl) (pa_cons (pv 0) (pa_cons (pe_op op_add (pv 1) pe_int) pa_nil))) (pa_cons (pv 1) pa_nil))) (pa_cons (C8.pe_c c__law_roll hr (by omega) (by rfl) (pa_cons (pv 0) (pa_cons pe_int pa_nil))) (pa_cons (pe_op op_add pe_int (C8.pe_c c__law_roll hr (by omega) (by rfl) (pa_cons (pv 0) (pa_cons pe_int pa_nil)))) pa_nil))) (by rfl))
      (pss_cons (ps_par (i := 5) (j := 6) (by rfl) sc__law_raced.nd rfl rfl (by decide) rfl rfl (pa_cons (pe_tup (pa_cons (pe_op op_sub (pe_ix ix_tup (pv 2) pe_int (fun _ _ => rfl)) (pe_ix ix_tup (pv 2) pe_int (fun _ _ => rfl))) (pa_cons (pe_ix ix_tup (pv 2) pe_int (fun _ _ => rfl)) pa_nil))) (pa_cons pe_dnewT pa_nil)) (by rfl))
      (pss_cons (ps_for PassesOwn.never rfl (pi_range1 (by rfl) T.n_range (pa_cons (pe_op op_add (pv 3) pe_int) pa_nil)) (pg_name (i := 7) sc__law_raced.nd rfl (Or.inl rfl) (by exact Or.inl rfl))
      (pss_one (ps_for PassesOwn.never rfl (pi_range1 (by rfl) T.n_range (pa_cons (pe_op op_add (pv 4) pe_int) pa_nil)) (pg_name (i := 8) sc__law_raced.nd rfl (Or.inl rfl) (by exact Or.inl rfl))
        (pss_one (ps_if (PW.pt (pw_or (pt_cmpR op_eq (pv 7) pe_int (nomark _)) (pw_or1 (pt_cmpR op_eq (pv 8) pe_int (nomark _))))) (pss_one (ps_dput hr.u1 (pv 6) (pe_tup (pa_cons (pv 7) (pa_cons (pv 8) pa_nil))) (pe_ifExp (pt_cmpR op_eq (pv 7) pe_int (nomark _)) (pe_tup (pa_cons pe_int (pa_cons pe_int pa_nil))) (pe_tup (pa_cons pe_int (pa_cons pe_int pa_nil)))) rfl)) (pss_one (ps_dput hr.u1 (pv 6) (pe_tup (pa_cons (pv 7) (pa_cons (pv 8) pa_nil))) (C8.pe_c c_plus hr (by omega) (by rfl) (pa_cons (C8.pe_c c_times hr (by omega) (by rfl) (pa_cons (pv 2) (pa_cons (pe_dget hr.u1 (pv 6) (pe_tup (pa_cons (pe_op op_sub (pv 7) pe_int) (pa_cons (pv 8) pa_nil))) (fun _ _ => rfl)) pa_nil))) (pa_cons (C8.pe_c c_times hr (by omega) (by rfl) (pa_cons (pv 5) (pa_cons (pe_dget hr.u1 (pv 6) (pe_tup (pa_cons (pv 7) (pa_cons (pe_op op_sub (pv 8) pe_int) pa_nil))) (fun _ _ => rfl)) pa_nil))) pa_nil))) rfl)))))))
      (pss_cons (ps_if (pt_cmpR (op_neD hr.units) (C8.pe_c c_race hr (by omega) (by rfl) (pa_cons (pv 2) (pa_cons (pv 3) (pa_cons (pv 4) pa_nil)))) (pe_dget hr.u1 (pv 6) (pe_tup (pa_cons (pv 3) (pa_cons (pv 4) pa_nil))) (fun _ _ => rfl)) (nomark _)) (pss_one (ps_ret pe_bl)) pss_nil)
      (pss_cons (ps_asg (pe_tup (pa_cons (pe_op op_add pe_int (C8.pe_c c__law_roll hr (by omega) (by rfl) (pa_cons (pv 0) (pa_cons pe_int pa_nil)))) (pa_cons (C8.pe_c c__law_roll hr (by omega) (by rfl) (pa_cons (pv 0) (pa_cons pe_int pa_nil))) pa_nil))) (pg_tup (n := 2) rfl (pgs_cons (pg_name (i := 9) sc__law_raced.nd rfl (Or.inr rfl) (by exact Or.inl rfl)) (pgs_cons (pg_name (i := 10) sc__law_raced.nd rfl (Or.inl rfl) (by exact Or.inl rfl)) pgs_nil))))
      (pss_cons (ps_set (i := 11) sc__law_raced.nd rfl (Or.inr rfl) (pe_op op_cat (pe_lst (pa_cons pe_int pa_nil)) (pe_op op_rep (pe_lst (pa_cons pe_int pa_nil)) (pv 9))))
      (pss_cons (ps_for PassesOwn.never rfl (pi_range1 (by rfl) T.n_range (pa_cons (pv 10) pa_nil)) (pg_name (i := 12) sc__law_raced.nd rfl (Or.inl rfl) (by exact Or.inl rfl))
      (pss_one (ps_set (i := 11) sc__law_raced.nd rfl (Or.inr rfl) (pe_op op_cat (pe_lst (pa_cons pe_int pa_nil)) (pe_lc (own := [("k", 13)]) rfl sc__law_raced.nd (pi_range2 (by rfl) T.n_range (pa_cons pe_int (pa_cons (pe_op op_add (pv 9) pe_int) pa_nil))) (by first | exact blkOk_by (N := N__law_raced) (sc := C8.fnScope s__law_raced) (by decide +kernel) | exact blkOk_by (by rfl)) (fun _ _ _ _ _ => castPG (pg_name (i := 13) sc__law_raced.nd rfl (Or.inl rfl) (by first | exact Or.inr rfl | exact Or.inl rfl)) (by first | (dsimp only [Cx.blk]; done) | rfl)) (fun _ _ _ _ _ => castPTs (pts_nil) (by first | (dsimp only [Cx.blk]; done) | rfl)) (fun _ _ _ _ _ => castPE (pe_op op_add (pe_op op_mul (pe_ix ix_list (pv 11) (pv 13) (fun _ _ => rfl)) (pv 13)) (pe_op op_mul (pe_ix ix_list (pv 11) (pe_op op_sub (pv 13) pe_int) (fun _ _ => rfl)) (pe_op op_add (pe_op op_sub (pv 9) (pv 13)) pe_int))) (by first | (dsimp only [Cx.blk]; done) | rfl)))))))
      (pss_one (ps_ret (C8.pe_c c__law_same hr (by omega) (by rfl) (pa_cons (C8.pe_c c_bare_lots hr (by omega) (by rfl) (pa_cons (pv 9) (pa_cons (pv 10) pa_nil))) (pa_cons (pe_callTy (call_dictP rfl) (by rfl) T.n_dict (by decide +kernel) (pa_cons (pe_lc (own := [("k", 13)]) rfl sc__law_raced.nd (pi_range1 (by rfl) T.n_range (pa_cons (pe_op op_add (pv 9) pe_int) pa_nil)) (by first | exact blkOk_by (N := N__law_raced) (sc := C8.fnScope s__law_raced) (by decide +kernel) | exact blkOk_by (by rfl)) (fun _ _ _ _ _ => castPG (pg_name (i := 13) sc__law_raced.nd rfl (Or.inl rfl) (by first | exact Or.inr rfl | exact Or.inl rfl)) (by first | (dsimp only [Cx.blk]; done) | rfl)) (fun _ _ _ _ _ => castPTs (pts_nil) (by first | (dsimp only [Cx.blk]; done) | rfl)) (fun _ _ _ _ _ => castPE (pe_tup (pa_cons (pe_op op_sub (pv 9) (pv 13)) (pa_cons (pe_ix ix_list (pv 11) (pv 13) (fun _ _ => rfl)) pa_nil))) (by first | (dsimp only [Cx.blk]; done) | rfl))) pa_nil)) pa_nil))))))))))))), ?_⟩
    refine ⟨_, rfl, d, 12, rfl, hd, by decide, by decide, fun x ys H1 x0 x1 eH1 hd1 => ⟨_, _, rfl, rfl, ?_⟩⟩
    obtain ⟨low, hlow⟩ : ∃ n : Nat, 1 + x = n := ⟨(1 + x).toNat, by omega⟩
    simp only [hlow]
    refine ⟨_, rfl, _, rfl, _, _, rfl, rfl, d, ((low : Nat) : Int) + 1, rfl, hd1, by omega, by omega, fun y ys2 H2 y0 y1 eH2 hd2 => ?_⟩
    refine ⟨_, rfl, y, _, rfl, by omega, (Lt2.nn (a := 10) y0 (by show y < 1024; omega)).up (by decide), (Lt2.nn (a := 10) (by omega) (by show _ < (1024 : Int); omega)).up (by decide), fun wv H3 e3 hw => ?_⟩
    have m3 : Mo (some d) T9 H H3 := ((roll_mo hd eH1).trans (roll_mo hd1 eH2)).trans (Mo.of e3)
    have hd3 := hd2.ex e3
    clear eH1 eH2 hd1 hd2 e3
    refine ⟨_, rfl, d, 13, rfl, hd3, by decide, by decide, fun z ys4 H4 z0 z1 eH4 hd4 => ?_⟩
    have hw4 := hw.kt (roll_kt hd3 eH4)
    have m4 := m3.trans (roll_mo hd3 eH4)
    clear hw eH4 m3 hd3
    refine ⟨_, rfl, d, 12, rfl, hd4, by decide, by decide, fun u ys5 H5 u0 u1 eH5 hd5 => ⟨_, _, rfl, rfl, ?_⟩⟩
    have hw5 := hw4.kt (roll_kt hd4 eH5)
    have m5 := m4.trans (roll_mo hd4 eH5)
    clear hw4 eH5 m4 hd4
    obtain ⟨mi, rfl⟩ : ∃ n : Nat, z = n := ⟨z.toNat, by omega⟩
    obtain ⟨th, hth⟩ : ∃ n : Nat, 1 + u = n := ⟨(1 + u).toNat, by omega⟩
    simp only [hth]
    have hl0 : 0 < low := by omega
    have hp := dq_le (a := y) (M := low) (B := 1) hl0 y0 (by omega)
    have hdv : Dv low (Rat.divInt y low) := Dv.div hl0
    generalize Rat.divInt y (low : Nat) = p at hw5 hp hdv
    have hp1 : p ≤ 1 := hp.2
    have hp0 := hp.1
    obtain ⟨wa, rfl, haw⟩ := hw5
    refine ⟨_, _, _, rfl, ?_⟩
    have hsm : ∀ (t : Nat) (x : Rat), t ≤ 26 → Dv (low ^ t) x → 0 ≤ x → x ≤ 1 → sm x := fun t x ht hd h0 h1 => sm_unit (Nat.pow_pos hl0) hd h0 h1 ((b200 (by omega) t ht).up (by decide))
    have sp : sm p := hsm 1 p (by decide) (by rw [Nat.pow_one]; exact hdv) hp0 hp1
    have sp1 : sm (1 - p) := hsm 1 _ (by decide) (by rw [Nat.pow_one]; exact Dv.sub Dv.one hdv) (by grind) (by grind)
    refine ⟨_, rfl, wa, _, _, _, rfl, rfl, haw, atI_nat (j := 1) rfl, _, rfl, wa, _, _, _, rfl, rfl, haw, atI_nat (j := 0) rfl, _, _, rfl, rfl, _, rfl, wa, _, _, _, rfl, rfl, haw, atI_nat (j := 1) rfl, (by show 2 ≤ sizeLine; decide), fun lo hlo => fun Tb hTb => ⟨_, _, rfl, ?_⟩⟩
    refine re_st [some (.ref d), some (.int (low : Nat)), some (.ref wa), some (.int (mi : Nat)), some (.int (th : Nat)), some (.ref lo), some (.ref Tb), none, none, none, none, none, none, none] rfl ?_
    have e6 : Ex H5 (upd (upd H5 lo (.tup [.int ((p.den : Int) - p.num), .int (p.den : Nat)])) Tb (.dT [])) := Evl.Ex.trans (Evl.Ex.new hlo) (Evl.Ex.new hTb)
    have hTb5 : H5 Tb = none := none_ex (Evl.Ex.new hlo) hTb
    have hl6 : PtAt K (upd (upd H5 lo (.tup [.int ((p.den : Int) - p.num), .int (p.den : Nat)])) Tb (.dT [])) (.ref lo) (1 - p) := by
      refine PtAt.ex (H := upd H5 lo (.tup [.int ((p.den : Int) - p.num), .int (p.den : Nat)])) ⟨lo, rfl, Evl.st_of ?_⟩ (Evl.Ex.new hTb)
      rw [upd_same, one_sub.1, one_sub.2]
    have ht6 : TbAt K (upd (upd H5 lo (.tup [.int ((p.den : Int) - p.num), .int (p.den : Nat)])) Tb (.dT [])) Tb p (0 * (th + 1)) (fun a b => a < 0 ∧ b ≤ th) := ⟨[], upd_same, Nat.zero_le _, fun a b h => absurd h.1 (Nat.not_lt_zero _)⟩
    generalize (upd (upd H5 lo (.tup [.int ((p.den : Int) - p.num), .int (p.den : Nat)])) Tb (.dT [])) = G6 at e6 hl6 ht6
    have hw5 : PtAt K H5 (.ref wa) p := ⟨wa, rfl, haw⟩
    have hw6 := hw5.ex e6
    clear hlo hTb haw
    have mul13 : ∀ a : Nat, a ≤ mi → a * (th + 1) ≤ 156 := fun a ha => Nat.mul_le_mul (show a ≤ 12 by omega) (show th + 1 ≤ 13 by omega)
    refine ⟨_, rfl, _, _, rfl, rfl, ((mi : Nat) : Int) + 1, rfl, by omega, by omega, ?_⟩
    refine for_n (n := mi + 1) (fun a σ' H' => ∃ o7 o8 : Option V, σ' = [some (.ref d), some (.int (low : Nat)), some (.ref wa), some (.int (mi : Nat)), some (.int (th : Nat)), some (.ref lo), some (.ref Tb), o7, o8, none, none, none, none, none] ∧ Ex H5 H' ∧ PtAt K H' (.ref wa) p ∧ PtAt K H' (.ref lo) (1 - p) ∧ TbAt K H' Tb p (a * (th + 1)) (fun a' b' => a' < a ∧ b' ≤ th))
      ⟨_, _, rfl, e6, hw6, hl6, ht6⟩ (fun i σ' H' hi _ => by show i < (((mi : Nat) : Int) + 1).toNat; omega) (fun σ' H' _ => by show (((mi : Nat) : Int) + 1).toNat ≤ mi + 1; omega) ?_ ?_
    · rintro a _ H7 u7 H8 ha ⟨o7, o8, rfl, e7, hw7, hl7, ht7⟩ ⟨rfl, rfl⟩
      refine ⟨_, rfl, _, _, rfl, rfl, ((th : Nat) : Int) + 1, rfl, by omega, by omega, ?_⟩
      refine for_n (n := th + 1) (fun b σ' H' => ∃ o8 : Option V, σ' = [some (.ref d), some (.int (low : Nat)), some (.ref wa), some (.int (mi : Nat)), some (.int (th : Nat)), some (.ref lo), some (.ref Tb), some (.int (0 + (a : Nat))), o8, none, none, none, none, none] ∧ Ex H5 H' ∧ PtAt K H' (.ref wa) p ∧ PtAt K H' (.ref lo) (1 - p) ∧ TbAt K H' Tb p (a * (th + 1) + b) (fun a' b' => (a' < a ∧ b' ≤ th) ∨ (a' = a ∧ b' < b)))
        ⟨_, rfl, e7, hw7, hl7, ht7.weak (Nat.le_refl _) fun a' b' h => by omega⟩ (fun i σ' H' hi _ => by show i < (((th : Nat) : Int) + 1).toNat; omega) (fun σ' H' _ => by show (((th : Nat) : Int) + 1).toNat ≤ th + 1; omega) ?_ ?_
      · rintro b _ H9 u9 HA hb ⟨o8, rfl, e9, hw9, hl9, ht9⟩ ⟨rfl, rfl⟩
        have ea : (0 : Int) + ((a : Nat) : Int) = ((a : Nat) : Int) := Int.zero_add _
        have eb : (0 : Int) + ((b : Nat) : Int) = ((b : Nat) : Int) := Int.zero_add _
        have hmul := mul13 a (by omega)
        -- the store, once the value is known
        have hput : ∀ v HB, Ex HA HB → PtAt K HB v (tb p a b) → ∀ q, HB q = none → ∃ H', DPut (upd HB q (.tup [.int (0 + (a : Nat)), .int (0 + (b : Nat))])) Tb (.ref q) v H' ∧ Ex H5 H' ∧ PtAt K H' (.ref wa) p ∧ PtAt K H' (.ref lo) (1 - p) ∧ TbAt K H' Tb p (a * (th + 1) + (b + 1)) (fun a' b' => (a' < a ∧ b' ≤ th) ∨ (a' = a ∧ b' < b + 1)) := fun v HB eB hv q hq => by
          have eq := Evl.Ex.new (o := .tup [.int (0 + (a : Nat)), .int (0 + (b : Nat))]) hq
          have eAB := Evl.Ex.trans eB eq
          have hq1 : upd HB q (.tup [.int (0 + (a : Nat)), .int (0 + (b : Nat))]) q = some (.tup ((pk (((a : Nat) : Int), ((b : Nat) : Int))).map kV)) := by
            rw [upd_same, ea, eb]; rfl
          have ht := ht9.ex eAB
          obtain ⟨H', h1, h2, h3⟩ := ht.put (hv.ex eq) hq1 (by omega)
          obtain ⟨kvs, hk, _⟩ := ht
          have kt : Kt (upd HB q (.tup [.int (0 + (a : Nat)), .int (0 + (b : Nat))])) H' := by
            rcases h1 with ⟨kvs2, k2, z, _⟩ | ⟨kvs2, k2, b2, z, _, _, _, rfl⟩
            · rw [hk] at z; cases z
            · exact kt_mutT z
          exact ⟨H', h1, h3 H5 (Evl.Ex.trans e9 eAB) hTb5, (hw9.ex eAB).kt kt, (hl9.ex eAB).kt kt, h2.weak (by omega) fun a' b' h => by omega⟩
        refine ifS_of (decide (a = 0) || decide (b = 0)) (fun Q' k' => ?_) ?_
        · refine ⟨_, rfl, rfl, _, rfl, ?_⟩
          rw [decV]
          by_cases a0 : a = 0
          · rw [decide_eq_true a0] at k'
            rw [decide_eq_true (by omega)]
            exact iteT k'
          · rw [decide_eq_false a0] at k'
            rw [decide_eq_false (by omega)]
            refine iteF ⟨_, rfl, rfl, _, rfl, ?_⟩
            rw [decV, show decide ((0 : Int) + ((b : Nat) : Int) = 0) = decide (b = 0) from decide_eq_decide.mpr (by omega)]
            exact k'
        · by_cases ab : a = 0 ∨ b = 0
          · have hor : (decide (a = 0) || decide (b = 0)) = true := by
              rcases ab with z | z
              · rw [decide_eq_true z]; rfl
              · rw [decide_eq_true z, Bool.or_true]
            rw [hor]
            refine iteT ?_
            dsimp only [sDPut]
            refine with_if (fun v HB => Ex HA HB ∧ PtAt K HB v (tb p a b)) (fun Q' k' => ?_) ?_
            · refine ⟨_, rfl, rfl, _, rfl, ?_⟩
              rw [decV]
              by_cases a0 : a = 0
              · rw [decide_eq_true (by omega)]
                refine iteT ⟨(by show 2 ≤ sizeLine; decide), fun q hq => k' _ _ ⟨Evl.Ex.new hq, ?_⟩⟩
                rw [show tb p a b = 1 from if_pos a0]
                exact ⟨q, rfl, Evl.st_of upd_same⟩
              · rw [decide_eq_false (by omega)]
                refine iteF ⟨(by show 2 ≤ sizeLine; decide), fun q hq => k' _ _ ⟨Evl.Ex.new hq, ?_⟩⟩
                rw [show tb p a b = 0 by unfold tb; rw [if_neg a0, if_pos (by omega)]]
                exact ⟨q, rfl, Evl.st_of upd_same⟩
            · rintro v HB ⟨eB, hv⟩
              refine ⟨_, rfl, _, rfl, _, rfl, (by show 2 ≤ sizeLine; decide), fun q hq => ?_⟩
              obtain ⟨H', h1, h2⟩ := hput v HB eB hv q hq
              exact ⟨Tb, H', rfl, h1, _, rfl, h2⟩
          · have hor : (decide (a = 0) || decide (b = 0)) = false := by
              rw [decide_eq_false (fun z => ab (.inl z)), decide_eq_false (fun z => ab (.inr z))]; rfl
            rw [hor]
            refine iteF ?_
            have smt : ∀ a b : Nat, a + b ≤ 26 → sm (rc p a b) := fun a b h => hsm (a + b) _ h (rc_dv hdv a b) (rc_unit hp0 hp1 a b).1 (rc_unit hp0 hp1 a b).2
            refine ⟨_, rfl, _, rfl, _, rfl, _, _, rfl, rfl, _, rfl, (by show 2 ≤ sizeLine; decide), fun q hq => ?_⟩
            have eq1 : Ex HA (upd HA q (.tup [.int (0 + (a : Nat) - 1), .int (0 + (b : Nat))])) := Evl.Ex.new hq
            obtain ⟨v1, g1, h1⟩ := (ht9.ex eq1).get (a := a - 1) (b := b) (q := q) (by omega) (by
              rw [upd_same, ea, eb, show ((a : Nat) : Int) - 1 = ((a - 1 : Nat) : Int) by omega]; rfl)
            rw [tb_eq (.inr (by omega))] at h1
            refine ⟨Tb, v1, rfl, g1, .ref wa, v1, p, _, rfl, hw9.ex eq1, h1, sp, smt _ _ (by omega), fun v2 HB eB h2 => ?_⟩
            have e1B := Evl.Ex.trans eq1 eB
            refine ⟨_, rfl, _, rfl, _, rfl, _, rfl, _, _, rfl, rfl, (by show 2 ≤ sizeLine; decide), fun q2 hq2 => ?_⟩
            have eq2 : Ex HB (upd HB q2 (.tup [.int (0 + (a : Nat)), .int (0 + (b : Nat) - 1)])) := Evl.Ex.new hq2
            obtain ⟨v3, g3, h3⟩ := (ht9.ex (Evl.Ex.trans e1B eq2)).get (a := a) (b := b - 1) (q := q2) (by omega) (by
              rw [upd_same, ea, eb, show ((b : Nat) : Int) - 1 = ((b - 1 : Nat) : Int) by omega]; rfl)
            rw [tb_eq (.inl (by omega))] at h3
            refine ⟨Tb, v3, rfl, g3, .ref lo, v3, 1 - p, _, rfl, hl9.ex (Evl.Ex.trans e1B eq2), h3, sp1, smt _ _ (by omega), fun v4 HC eC h4 => ?_⟩
            have hrc : p * rc p (a - 1) b + (1 - p) * rc p a (b - 1) = rc p a b := by
              obtain ⟨a', rfl⟩ : ∃ a', a = a' + 1 := ⟨a - 1, by omega⟩
              obtain ⟨b', rfl⟩ : ∃ b', b = b' + 1 := ⟨b - 1, by omega⟩
              have e : rc p (a' + 1) (b' + 1) = p * rc p a' (b' + 1) + (1 - p) * rc p (a' + 1) b' := by
                conv => lhs; unfold rc
              rw [e, Nat.add_sub_cancel, Nat.add_sub_cancel]
            have e1C := Evl.Ex.trans eq2 eC
            have hs2 : sm (p * rc p (a - 1) b) := hsm (a + b) _ (by omega) (by
              have := Dv.mul hdv (rc_dv hdv (a - 1) b)
              rw [show low * low ^ (a - 1 + b) = low ^ (a + b) by rw [← Nat.pow_succ']; congr 1; omega] at this
              exact this) (Rat.mul_nonneg hp0 (rc_unit hp0 hp1 _ _).1) (by
                have r1 := rc_unit hp0 hp1 (a - 1) b
                have := Rat.mul_nonneg hp0 (show 0 ≤ 1 - rc p (a - 1) b by grind)
                grind)
            have hs4 : sm ((1 - p) * rc p a (b - 1)) := hsm (a + b) _ (by omega) (by
              have := Dv.mul (Dv.sub Dv.one hdv) (rc_dv hdv a (b - 1))
              rw [show low * low ^ (a + (b - 1)) = low ^ (a + b) by rw [← Nat.pow_succ']; congr 1; omega] at this
              exact this) (Rat.mul_nonneg (by grind) (rc_unit hp0 hp1 _ _).1) (by
                have r1 := rc_unit hp0 hp1 a (b - 1)
                have := Rat.mul_nonneg (show 0 ≤ 1 - p by grind) (show 0 ≤ 1 - rc p a (b - 1) by grind)
                grind)
            refine ⟨v2, v4, _, _, rfl, h2.ex e1C, h4, hs2, hs4, fun v5 HD eD h5 => ?_⟩
            have h5 : PtAt K HD v5 (p * rc p (a - 1) b + (1 - p) * rc p a (b - 1)) := h5
            rw [hrc, ← tb_eq (.inl (by omega))] at h5
            refine ⟨_, rfl, _, rfl, _, rfl, (by show 2 ≤ sizeLine; decide), fun q hq => ?_⟩
            obtain ⟨H', h1, h2⟩ := hput v5 HD (Evl.Ex.trans (Evl.Ex.trans e1B e1C) eD) h5 q hq
            exact ⟨Tb, H', rfl, h1, _, rfl, h2⟩
      · rintro _ H9 ⟨o8, rfl, e9, hw9, hl9, ht9⟩
        exact ⟨_, _, rfl, e9, hw9, hl9, ht9.weak (by rw [Nat.add_mul]; omega) fun a' b' h => by omega⟩
    · rintro _ H7 ⟨o7, o8, rfl, e7, hw7, hl7, ht7⟩
      have hth : 1 ≤ th := by omega
      refine ⟨_, rfl, _, rfl, _, rfl, .ref wa, p, mi, th, low, rfl, hw7, hp0, hp1, hl0, hdv, b200 (by omega), by omega, hth, by omega, fun v1 H8 e8 h8 => ?_⟩
      refine ⟨_, rfl, _, rfl, _, rfl, (by show 2 ≤ sizeLine; decide), fun q hq => ?_⟩
      have eq1 : Ex H8 (upd H8 q (.tup [.int (mi : Nat), .int (th : Nat)])) := Evl.Ex.new hq
      obtain ⟨v2, g2, h2⟩ := (ht7.ex (Evl.Ex.trans e8 eq1)).get (a := mi) (b := th) (q := q) (by omega) upd_same
      rw [tb_eq (.inr (by omega))] at h2
      refine ⟨Tb, v2, rfl, g2, _, _, (h8.ex eq1).dp, h2.dp, (Flat.qD _).shaped (by decide), (Flat.qD _).shaped (by decide), _, rfl, ?_⟩
      rw [qD_eqv, decide_eq_true rfl]
      have e58 := Evl.Ex.trans e7 (Evl.Ex.trans e8 eq1)
      have m8 := m5.trans (Mo.of e58)
      have hd8 := hd5.ex e58
      generalize (upd H8 q (.tup [.int (mi : Nat), .int (th : Nat)])) = G8 at m8 hd8
      clear h2 h8 ht7 g2 hl7 hw7 mul13 e58 eq1 hq e8 e7 hd5 m5 hsm
      refine iteF ⟨_, rfl, d, 12, rfl, hd8, by decide, by decide, fun x ys HA x0 x1 eHA hdA => ⟨_, _, rfl, rfl, _, rfl, d, 20, rfl, hdA, by decide, by decide, fun y ys2 HB y0 y1 eHB hdB => ⟨(by show 2 ≤ sizeLine; decide), fun q hq => ⟨q, _, rfl, Evl.st_of upd_same, rfl, _, _, rfl, _, _, rfl, rfl, ?_⟩⟩⟩⟩
      have mB := (m8.trans (roll_mo hd8 eHA)).trans (roll_mo hdA eHB)
      obtain ⟨l, hlt⟩ : ∃ n : Nat, 1 + x = n := ⟨(1 + x).toNat, by omega⟩
      obtain ⟨mn, rfl⟩ : ∃ n : Nat, y = n := ⟨y.toNat, by omega⟩
      simp only [hlt]
      have eC : Ex HB (upd HB q (.tup [.int (l : Nat), .int (mn : Nat)])) := Evl.Ex.new hq
      have mC := mB.trans (Mo.of eC)
      have hdC := hdB.ex eC
      generalize (upd HB q (.tup [.int (l : Nat), .int (mn : Nat)])) = G9 at mC hdC
      clear eC hq mB hdB eHA eHB hdA m8 hd8
      refine re_st [some (.ref d), some (.int (low : Nat)), some (.ref wa), some (.int (mi : Nat)), some (.int (th : Nat)), some (.ref lo), some (.ref Tb), o7, o8, some (.int (l : Nat)), some (.int (mn : Nat)), none, none, none] rfl ?_
      refine ⟨(by show 1 ≤ sizeLine; decide), fun A1 hA1 => ⟨(by show 1 ≤ sizeLine; decide), fun B1 hB1 => ⟨_, rfl, B1, ((l : Nat) : Int), _, rfl, rfl, upd_same, by omega, by omega, (by show 1 * ((l : Nat) : Int).toNat ≤ sizeLine; exact Nat.le_trans (show _ ≤ 12 by omega) (by decide)), fun C1 hC1 => ⟨A1, C1, _, _, rfl, rfl, Evl.Ex.new hC1 _ _ (Evl.Ex.new hB1 _ _ upd_same), upd_same, ?_, fun F0 hF0 => ?_⟩⟩⟩⟩
      · have := congrArg List.length (fl_zero l)
        rw [List.length_append, fl_len] at this
        exact Nat.le_trans (Nat.le_of_eq this) (Nat.le_trans (show l + 1 ≤ 13 by omega) (by decide))
      rw [fl_zero]
      have eD := Evl.Ex.trans (Evl.Ex.trans (Evl.Ex.trans (Evl.Ex.new (o := .lst [.int 1]) hA1) (Evl.Ex.new (o := .lst [.int 0]) hB1)) (Evl.Ex.new (o := .lst (List.replicate ((l : Nat) : Int).toNat [V.int 0]).flatten) hC1)) (Evl.Ex.new (o := .lst (fl l 0)) hF0)
      have hFD : upd (upd (upd (upd G9 A1 (.lst [.int 1])) B1 (.lst [.int 0])) C1 (.lst (List.replicate ((l : Nat) : Int).toNat [V.int 0]).flatten)) F0 (.lst (fl l 0)) F0 = some (.lst (fl l 0)) := upd_same
      dsimp only [gName]
      generalize upd (upd (upd (upd G9 A1 (.lst [.int 1])) B1 (.lst [.int 0])) C1 (.lst (List.replicate ((l : Nat) : Int).toNat [V.int 0]).flatten)) F0 (.lst (fl l 0)) = GD at eD hFD ⊢
      clear hA1 hB1 hC1 hF0
      refine ⟨_, rfl, ((mn : Nat) : Int), rfl, by omega, by omega, ?_⟩
      refine for_n (n := mn) (fun m σ' H' => ∃ (o12 : Option V) (F : Addr), σ' = [some (.ref d), some (.int (low : Nat)), some (.ref wa), some (.int (mi : Nat)), some (.int (th : Nat)), some (.ref lo), some (.ref Tb), o7, o8, some (.int (l : Nat)), some (.int (mn : Nat)), some (.ref F), o12, none] ∧ Ex G9 H' ∧ H' F = some (.lst (fl l m)))
        ⟨_, F0, rfl, eD, hFD⟩ (fun i σ' H' hi _ => by show i < ((mn : Nat) : Int).toNat; omega) (fun σ' H' _ => by show ((mn : Nat) : Int).toNat ≤ mn; omega) ?_ ?_
      · rintro m _ HE uE HF hm ⟨o12, F, rfl, eE, hF⟩ ⟨rfl, rfl⟩
        refine ⟨(by show 1 ≤ sizeLine; decide), fun A1 hA1 => ⟨_, rfl, _, _, rfl, rfl, 1, ((l : Nat) : Int) + 1, rfl, ⟨by omega, by omega, by omega, by omega⟩, fun D hD => ?_⟩⟩
        have eA : Ex HF (upd HF A1 (.lst [.int 0])) := Evl.Ex.new hA1
        have hFA := eA _ _ hF
        have hAA : upd HF A1 (.lst [.int 0]) A1 = some (.lst [.int 0]) := upd_same
        have eGA := Evl.Ex.trans eE eA
        generalize (upd HF A1 (.lst [.int 0])) = GA at hFA hAA eGA hD ⊢
        refine lc_n (n := l) (fun i acc H' => acc = ((List.range i).map fun k => V.int (fil l (m + 1) (k + 1))) ∧ Ex GA H') ⟨rfl, Evl.Ex.new hD⟩ (fun i acc H' hi _ => by show i < (((l : Nat) : Int) + 1 - 1).toNat; omega) (fun acc H' _ => by show (((l : Nat) : Int) + 1 - 1).toNat ≤ l; omega) (fun j acc H1 u H2 hj hacc p hy => ?_) (fun acc H1 hacc p => ?_)
        · obtain ⟨rfl, rfl⟩ := hy
          obtain ⟨rfl, eG⟩ := p
          have hF2 := eG _ _ hFA
          refine ⟨rfl, ⟨_, rfl, _, rfl, F, _, ((j + 1 : Nat) : Int), .int (fil l m (j + 1)), rfl, (by show V.int (1 + (j : Nat)) = _; rw [show (1 : Int) + (j : Nat) = ((j + 1 : Nat) : Int) by omega]), Evl.sq_of hF2, atI_nat (fl_get (by omega)), _, rfl, _, _, rfl, rfl, cm_r (by omega) (by omega), _, rfl, _, rfl, _, _, rfl, rfl, F, _, ((j : Nat) : Int), .int (fil l m j), rfl, (by show V.int (1 + (j : Nat) - 1) = _; rw [show (1 : Int) + (j : Nat) - 1 = ((j : Nat) : Int) by omega]), Evl.sq_of hF2, atI_nat (fl_get (by omega)), _, rfl, _, rfl, _, _, rfl, rfl, _, _, rfl, rfl, _, _, rfl, rfl, cm_r (by omega) (by omega), _, _, rfl, rfl, ?_⟩⟩
          refine App.of hacc (by rw [List.length_map, List.length_range]; omega) ⟨?_, Evl.Ex.mut eG hD⟩
          rw [List.range_succ, List.map_append]
          congr 1
          show [V.int (fil l m (j + 1) * (1 + (j : Nat)) + fil l m j * (((l : Nat) : Int) - (1 + (j : Nat)) + 1))] = [V.int (fil l m (j + 1) * ((j : Int) + 1) + fil l m j * ((l : Int) - j))]
          rw [show ((l : Nat) : Int) - (1 + (j : Nat)) + 1 = (l : Int) - j by omega, Int.add_comm 1 ((j : Nat) : Int)]
        · obtain ⟨rfl, eG⟩ := p
          refine ⟨A1, D, _, _, rfl, rfl, eG _ _ hAA, hacc, ?_, fun F2 hF2 => ?_⟩
          · show 1 + ((List.range l).map fun k => V.int (fil l (m + 1) (k + 1))).length ≤ sizeLine
            rw [List.length_map, List.length_range]
            exact Nat.le_trans (show 1 + l ≤ 13 by omega) (by decide)
          · rw [fl_next]
            exact ⟨_, F2, rfl, Evl.Ex.trans (Evl.Ex.trans eGA eG) (Evl.Ex.new hF2), upd_same⟩
      · rintro _ HE ⟨o12, F, rfl, eE, hF⟩
        have hba := bare_pos (l := l) (m := mn) (by omega) (by omega)
        refine ⟨_, rfl, _, rfl, l, mn, rfl, by omega, by omega, by omega, hba, fun v H6 wsp e6 hSp hSpr hl6 => ?_⟩
        have mI := mC.trans (Mo.of (Evl.Ex.trans eE e6))
        have hdI := hdC.ex (Evl.Ex.trans eE e6)
        have hF6 := e6 _ _ hF
        refine ⟨_, rfl, _, _, rfl, rfl, ((l : Nat) : Int) + 1, rfl, by omega, by omega, fun D2 hD2 => ?_⟩
        have nn : ∀ k, k < l + 1 → 0 ≤ fil l mn k := fun k hk => by
          rw [fil_eq l (by omega) mn (by omega) k (by omega)]
          exact Int.mul_nonneg (Int.natCast_nonneg _) (ont_lt mn (by omega) k (by omega)).1
        refine lc_n (n := l + 1) (fun i acc H' => Prs K H' acc (dk (rv l i (fil l mn))) ∧ Ex H6 H') ⟨.nil, Evl.Ex.new hD2⟩ (fun i acc H' hi _ => by show i < ((l : Int) + 1).toNat; omega) (fun acc H' _ => by show ((l : Int) + 1).toNat ≤ l + 1; omega) (fun i acc H1 u H7 hi hacc p hy => ?_) (fun acc H1 hacc p => ?_)
        · obtain ⟨rfl, rfl⟩ := hy
          refine ⟨rfl, ⟨_, rfl, _, rfl, _, _, rfl, rfl, _, rfl, _, rfl, F, _, ((i : Nat) : Int), .int (fil l mn i), rfl, (by show V.int (0 + (i : Nat)) = _; rw [Int.zero_add]), Evl.sq_of (p.2 _ _ hF6), atI_nat (fl_get (by omega)), (by show 2 ≤ sizeLine; decide), fun q hq => ?_⟩⟩
          simp only [Int.zero_add]
          exact prs_step (k := .inl ((l : Int) - (i : Int))) (v := .int (fil l mn i)) hacc p.1 hq p.2 hD2 (by rw [dk_len, rv_len]; omega) (dk_rv _ _ _)
        · obtain ⟨ps, rfl, hps⟩ := p.1
          refine ⟨D2, ps, _, rfl, Evl.sq_of hacc, hps, fun r hr0 => ?_⟩
          rw [mergeK_nd (dk_nd (rv_nd _ _ _))]
          have e7 : Ex H6 (upd H1 r (.dK (dk (rv l (l + 1) (fil l mn))))) := Evl.Ex.trans p.2 (Evl.Ex.new hr0)
          have hr6 : upd H1 r (.dK (dk (rv l (l + 1) (fil l mn)))) r = some (.dK (dk (rv l (l + 1) (fil l mn)))) := upd_same
          have hrB : Nn H r := none_mo mI (none_ex p.2 hr0) hdI
          generalize (upd H1 r (.dK (dk (rv l (l + 1) (fil l mn))))) = H8 at e7 hr6
          have hp := hSpr.le
          have hfb := fun φ => fil_bare (l := l) (m := mn) (by omega) (by omega) φ
          refine ⟨v, r, wsp, _, _, 1, 1, rfl, hSp.ex e7, hSpr, hr6, rv_nd _ _ _, rv_nn nn, by rw [hfb]; exact Int.lt_of_lt_of_le hp.1 hp.2, ?_, by rw [rv_len]; omega, by decide, by decide, fun φ => by rw [hfb], fun H9 b9 => ?_⟩
          · rw [hfb]
            exact (rg_bound (by omega) fun k hk => by
              have h1 := ont_lt mn (by omega) (l - k) (by omega)
              have := mul_lt (Int.natCast_nonneg _) (bin_lt (n := l) (k := k) (by omega)) h1.1 h1.2
              exact ⟨this.1, Int.lt_trans this.2 (by decide)⟩).2
          · exact k H9 (ExB.mo (mI.trans (Mo.of e7)) b9 hr6 hrB) (b9.dice hr6 (hdI.ex e7))
end
end KK
end
/-! K36 -/
section
set_option Elab.async false
set_option linter.all false
set_option maxRecDepth 100000
set_option maxHeartbeats 4000000
namespace KK
open PySem PySem.Spec PyProof.Rows L2 KM LX LamX NdefX
theorem dvd2520 : ∀ l : Nat, l < 10 → 0 < l → l ∣ 2520 := by decide
theorem b2520 : ∀ m, m ≤ 13 → Ln (2520 ^ m) 200 := fun m hm => by
  have h2 : 2520 ^ m ≤ 2520 ^ 13 := Nat.pow_le_pow_right (by decide) hm
  have h3 : (2520 : Nat) ^ 13 < 2 ^ 150 := by decide
  exact Ln.up (a := 150) (Ln.mk (by omega)) (by decide)
section
variable {P : Program} {w : World} {K : PySem.W.Frag} {mg : Str → Option Value} {base : Heap} {T9 : LX.TL} {CS : Addr}
theorem sumq_mono {f g : Nat → Rat} : ∀ {n : Nat}, (∀ i, i < n → f i ≤ g i) → sumq n f ≤ sumq n g
  | 0, _ => Rat.le_refl
  | n + 1, h => by
    have a := sumq_mono (n := n) fun i hi => h i (by omega)
    have b := h n (by omega)
    rw [sumq_s, sumq_s]
    grind
theorem ovl_bd {n : Nat} {q : Nat → Rat} (hn : n ≤ 12) (h0 : ∀ i, 0 ≤ q i) (h1 : sumq (n + 1) q = 1) (s : Nat) : 0 ≤ sumq (n + 1) (fun k => q k * ((bin k s : Nat) : Rat)) ∧ sumq (n + 1) (fun k => q k * ((bin k s : Nat) : Rat)) ≤ 4096 := by
  have hb : ∀ k, k < n + 1 → (0 : Rat) ≤ ((bin k s : Nat) : Rat) ∧ ((bin k s : Nat) : Rat) ≤ 4096 := fun k hk => by
    have a := bin_le_pow k s
    have b : (2 : Nat) ^ k ≤ 2 ^ 12 := Nat.pow_le_pow_right (by decide) (by omega)
    have c : bin k s ≤ 4096 := Nat.le_trans a b
    refine ⟨?_, ?_⟩
    · have : ((0 : Nat) : Rat) ≤ ((bin k s : Nat) : Rat) := Rat.natCast_le_natCast.mpr (Nat.zero_le _)
      exact this
    · have : ((bin k s : Nat) : Rat) ≤ ((4096 : Nat) : Rat) := Rat.natCast_le_natCast.mpr c
      exact this
  refine ⟨sumq_nonneg fun i hi => Rat.mul_nonneg (h0 i) (hb i hi).1, ?_⟩
  have h2 := sumq_mono (n := n + 1) (f := fun k => q k * ((bin k s : Nat) : Rat)) (g := fun k => 4096 * q k) fun i hi => by
    have a := hb i hi
    have b := h0 i
    have := Rat.mul_nonneg b (show 0 ≤ 4096 - ((bin i s : Nat) : Rat) by grind)
    grind
  rw [sumq_mul, h1] at h2
  grind
theorem hash_nat (a : Nat) (h : a < 701) : hashInt (a : Int) = (a : Int) := by
  have e : rawHash (a : Int) = (a : Int) := by
    have e1 : ((((a : Int).natAbs : Nat) : Int)) % ((2 ^ 61 - 1 : Nat) : Int) = (a : Int) := by
      rw [Int.natAbs_natCast]
      have h2 : (2 ^ 61 - 1 : Nat) = 2305843009213693951 := by decide
      rw [h2]
      exact Int.emod_eq_of_lt (by omega) (by omega)
    have n1 : ¬ ((a : Int) < 0) := by omega
    have n2 : ¬ (((a : Int) == -1) = true) := fun z => by
      have := eq_of_beq z
      omega
    unfold rawHash
    simp only [e1, if_neg n1, if_neg n2]
  have n2 : ¬ (((a : Int) == -1) = true) := fun z => by
    have := eq_of_beq z
    omega
  unfold hashInt
  rw [e, if_neg n2]
theorem pk_hash {P : Program} {w : World} {c x : Nat} (hc : c < 15) (hx : x < 701) : tupleKeyHash (mixKind P w) (pk ((c : Int), (x : Int))) = hP c x := by
  have e : (pk ((c : Int), (x : Int))).map (mixKind P w).hash = [hashInt (c : Int), hashInt (x : Int)] := rfl
  unfold tupleKeyHash
  rw [e, hash_nat c (by omega), hash_nat x hx]
  unfold hP
  exact Eq.refl _
theorem nodup_on {α β : Type} {f : α → β} : ∀ {l : List α}, l.Nodup → (∀ a ∈ l, ∀ b ∈ l, f a = f b → a = b) → (l.map f).Nodup
  | [], _, _ => List.nodup_nil
  | a :: l, nd, h => by
    rw [List.nodup_cons] at nd
    rw [List.map_cons, List.nodup_cons]
    refine ⟨fun z => ?_, nodup_on nd.2 fun x hx y hy => h x (List.mem_cons_of_mem _ hx) y (List.mem_cons_of_mem _ hy)⟩
    obtain ⟨b, h1, h2⟩ := List.mem_map.mp z
    rw [h b (List.mem_cons_of_mem _ h1) a List.mem_cons_self h2] at h1
    exact nd.1 h1
theorem dk2_hash {P : Program} {w : World} {ws : PL} {m X : Nat} (h : StOk m X ws) (hm : m < 15) (hX : X < 701) : ((dk2 ws).map fun p => tupleKeyHash (mixKind P w) p.1).Nodup := by
  have e : ((dk2 ws).map fun p => tupleKeyHash (mixKind P w) p.1) = (ws.map (·.1)).map fun k => tupleKeyHash (mixKind P w) (pk k) := by
    unfold dk2
    rw [List.map_map, List.map_map]
    rfl
  rw [e]
  refine nodup_on h.nd fun a ha b hb hab => ?_
  obtain ⟨p, hp, rfl⟩ := List.mem_map.mp ha
  obtain ⟨q, hq, rfl⟩ := List.mem_map.mp hb
  obtain ⟨c, x, e1, h1, h2⟩ := h.key p hp
  obtain ⟨c', x', e1', h1', h2'⟩ := h.key q hq
  rw [e1, e1'] at hab ⊢
  have hab2 : hP c x = hP c' x' := (pk_hash (P := P) (w := w) (by omega) (by omega)).symm.trans (hab.trans (pk_hash (by omega) (by omega)))
  obtain ⟨z1, z2⟩ := hP_inj (by omega) (by omega) (by omega) (by omega) hab2
  rw [z1, z2]
theorem Mo.frzT {T : LX.TL} {d : Option Addr} {G H : Hp} {F : Addr} {kvs : List (List Key × V)} {o : HO} (m : Mo d T G H) (hG : G F = none) (hF : H F = some (.dT kvs)) : Mo d T G (upd H F o) := by
  refine ⟨fun b u n hb nt => (upd_ne fun e => by rw [e, hG] at hb; cases hb).trans (m.1 b u n hb nt), fun t p hp => ?_⟩
  have tp := m.2 t p hp
  obtain ⟨P, z⟩ := p
  have ne : ∀ b u, H b = some u → (∀ l, u ≠ .dT l) → upd H F o b = some u := fun b u hb n => by
    refine (upd_ne fun e => ?_).trans hb
    subst e
    rw [hF] at hb
    exact n _ (Option.some.inj hb).symm
  cases z with
  | none =>
    obtain ⟨ps, h1, h2⟩ := (show GxR.TabG H P from tp)
    exact (show GxR.TabG _ P from ⟨ps, ne _ _ h1 (fun _ z => nomatch z), h2⟩)
  | some q =>
    obtain ⟨ps, h1, h2, h3⟩ := (show TabS H P q from tp)
    refine (show TabS _ P q from ⟨ps, ne _ _ h1 (fun _ z => nomatch z), h2, fun pos cv hc => ?_⟩)
    obtain ⟨c, e1, e2⟩ := h3 pos cv hc
    exact ⟨c, e1, ne _ _ e2 (fun _ z => nomatch z)⟩
theorem ms2_mono {f g : Nat → Int → Int} : ∀ {ws : PL}, (∀ p ∈ ws, 0 ≤ p.2) → (∀ c x, f c x ≤ g c x) → ms2 ws f ≤ ms2 ws g
  | [], _, _ => Int.le_refl _
  | p :: ws, nn, h => by
    have a := ms2_mono (ws := ws) (fun q hq => nn q (List.mem_cons_of_mem _ hq)) h
    have b := Int.mul_le_mul_of_nonneg_left (h p.1.1.toNat p.1.2) (nn p List.mem_cons_self)
    unfold ms2 at a ⊢
    rw [ms_cons, ms_cons]
    exact Int.add_le_add b a
def lamT : Stmt → Arguments × Expr × Scope
  | .Assign _ (.Lambda a b sc _) _ => (a, b, sc)
  | .Assign _ e _ => (default, e, default)
  | _ => (default, .Tuple [] 0 ⟨0, 0, 0, 0⟩, default)
def qFar : Str := "_law_summed.<locals>.<lambda>"
abbrev s__law_summed : Stmt := top 74
abbrev N__law_summed : List Str := ["dice", "chances", "k", "low", "row", "top", "one", "held", "spread", "lots", "value", "later", "many", "amount", "key", "far", "ways_v", "other"]
theorem sc__law_summed : FnScope N__law_summed ["dice"] (C8.fnScope s__law_summed) := C8.fnScope_by (by decide +kernel)
-- slots: dice=0c chances=1 k=2 low=3c row=4c top=5c one=6c held=7c spread=8c lots=9c value=10 later=11 many=12 amount=13 key=14 far=15c ways_v=16 other=17c
abbrev farT : Arguments × Expr × Scope := lamT ((C8.fnBody s__law_summed).getD 10 (.Pass ⟨0, 0, 0, 0⟩))
abbrev farA : Arguments := farT.1
abbrev farB0 : Expr := farT.2.1
abbrev farS : Scope := farT.2.2
def farV (xs ys : List Int) (x : Int) : Int := abz (x * ((xs ++ ys).length : Nat) - (xs ++ ys).sum * (xs.length : Nat))
def farSp (K : PySem.W.Frag) : List (Option V) → List V → Hp → VK → Prop := fun ws vs H Q => ∃ (a b : Addr) (xs ys : List Int) (x : Int), ws = [some (.ref a), some (.ref b)] ∧ vs = [.int x] ∧ H a = some (.lst (xs.map V.int)) ∧ H b = some (.lst (ys.map V.int)) ∧ xs.length ≤ 7 ∧ ys.length ≤ 7 ∧ ∀ H', Ex H H' → Q (.int (farV xs ys x)) H'
theorem k__law_summed {f c Pc : Addr} {fd : FuncData} (T : Tx K mg) (Df : FunC K "_law_summed" "_law_summed" s__law_summed f fd c) (hmg : mg "_law_summed" = some (.ref f)) (kp : PySem.W.keepIn K (.ref f) = true) (bf : Binds K fd ["dice"] []) (TL : LamX.TabB base mg c Pc) (hTm : (Pc, some qFar) ∈ T9) (hTu : ∀ p ∈ T9, p.1 = Pc → p.2 = some qFar)
    (c__law_roll : C8.Cal P w K mg base 1 "_law_roll" spRoll []) (c_part : C8.Cal P w K mg base 2 "part" (spPart K) []) (c_plus : C8.Cal P w K mg base 3 "plus" (spTwo K (· + ·)) []) (c_times : C8.Cal P w K mg base 3 "times" (spTwo K (· * ·)) [])
    (c_how_many : C8.Cal P w K mg base 5 "how_many" (spHowMany K CS) []) (mt_Spread_chance : C8.Met P w K mg base 3 CS "chance" (spChanceM K CS) []) (c_from_overlaps : C8.Cal P w K mg base 4 "from_overlaps" (spFromOverlaps K) []) (c_overlaps_of : C8.Cal P w K mg base 4 "overlaps_of" (spOverlapsOf K CS) [])
    (c_two_lots : C8.Cal P w K mg base 5 "two_lots" (spTwoLots K T9) []) (c__law_ways : C8.Cal P w K mg base 1 "_law_ways" (spN2 (fun n k => n ≤ 60 ∧ k ≤ 100) fun n k => bin n k) []) : C8.Cal P w K mg base 6 "_law_summed" (spPart1 T9) [] := by
  refine calC Df hmg kp bf sc__law_summed (fun vs H Q E h => ?_) (fun A outer s H vs Q E hr h => ?_)
  · obtain ⟨_, rfl, _⟩ := h; rfl
  · obtain ⟨d, rfl, hd, hT, k⟩ := h
    refine ⟨_, (pss_cons (ps_set (i := 1) sc__law_summed.nd rfl (Or.inl rfl) (pe_lst pa_nil))
      (pss_cons (ps_for PassesOwn.never rfl (pi_range1 (by rfl) T.n_range (pa_cons (C8.pe_c c__law_roll hr (by omega) (by rfl) (pa_cons (pv 0) (pa_cons pe_int pa_nil))) pa_nil)) (pg_name (i := 2) sc__law_summed.nd rfl (Or.inl rfl) (by exact Or.inl rfl))
      (pss_cons (ps_set (i := 3) sc__law_summed.nd rfl (Or.inr rfl) (pe_op op_add pe_int (C8.pe_c c__law_roll hr (by omega) (by rfl) (pa_cons (pv 0) (pa_cons pe_int pa_nil)))))
        (pss_one (ps_expr (pe_bm PySem.F.plainAttrs_list PySem.F.slot_list_append PySem.F.type_list_append mt_append (pv 1) (pa_cons (C8.pe_c c_part hr (by omega) (by rfl) (pa_cons (C8.pe_c c__law_roll hr (by omega) (by rfl) (pa_cons (pv 0) (pa_cons (pe_op op_add (pv 3) pe_int) pa_nil))) (pa_cons (pv 3) pa_nil))) pa_nil))))))
      (pss_cons (ps_set (i := 4) sc__law_summed.nd rfl (Or.inr rfl) (pe_lst (pa_cons (pe_tup (pa_cons pe_int (pa_cons pe_int pa_nil))) pa_nil)))
      (pss_cons (ps_for PassesOwn.never rfl (pi_list (pv 1)) (pg_tup (n := 2) rfl (pgs_cons (pg_name (i := 5) sc__law_summed.nd rfl (Or.inr rfl) (by exact Or.inl rfl)) (pgs_cons (pg_name (i := 3) sc__law_summed.nd rfl (Or.inr rfl) (by exact Or.inl rfl)) pgs_nil)))
      (pss_cons (ps_set (i := 7) sc__law_summed.nd rfl (Or.inr rfl) (pe_op op_cat (pe_lc (own := [("one", 6)]) rfl sc__law_summed.nd (pi_list (pv 4)) (by first | exact blkOk_by (N := N__law_summed) (sc := C8.fnScope s__law_summed) (by decide +kernel) | exact blkOk_by (by rfl)) (fun _ _ _ _ _ => castPG (pg_name (i := 6) sc__law_summed.nd rfl (Or.inl rfl) (by first | exact Or.inr rfl | exact Or.inl rfl)) (by first | (dsimp only [Cx.blk]; done) | rfl)) (fun _ _ _ _ _ => castPTs (pts_nil) (by first | (dsimp only [Cx.blk]; done) | rfl)) (fun _ _ _ _ _ => castPE (C8.pe_c c_times hr (by omega) (by rfl) (pa_cons (pv 6) (pa_cons (pe_tup (pa_cons (pe_op op_sub (pv 3) (pv 5)) (pa_cons (pv 3) pa_nil))) pa_nil))) (by first | (dsimp only [Cx.blk]; done) | rfl))) (pe_lst (pa_cons (pe_tup (pa_cons pe_int (pa_cons pe_int pa_nil))) pa_nil))))
        (pss_one (ps_set (i := 4) sc__law_summed.nd rfl (Or.inr rfl) (pe_lc (own := [("k", 2)]) rfl sc__law_summed.nd (pi_range1 (by rfl) T.n_range (pa_cons (pe_callB call_len_seq (by rfl) T.n_len (by decide +kernel) (pa_cons (pv 7) pa_nil)) pa_nil)) (by first | exact blkOk_by (N := N__law_summed) (sc := C8.fnScope s__law_summed) (by decide +kernel) | exact blkOk_by (by rfl)) (fun _ _ _ _ _ => castPG (pg_name (i := 2) sc__law_summed.nd rfl (Or.inl rfl) (by first | exact Or.inr rfl | exact Or.inl rfl)) (by first | (dsimp only [Cx.blk]; done) | rfl)) (fun _ _ _ _ _ => castPTs (pts_nil) (by first | (dsimp only [Cx.blk]; done) | rfl)) (fun _ _ _ _ _ => castPE (C8.pe_c c_plus hr (by omega) (by rfl) (pa_cons (pe_ix ix_list (pv 7) (pv 2) (fun _ _ => rfl)) (pa_cons (pe_ifExp (pt_cmpR op_gt (pv 2) pe_int (nomark _)) (C8.pe_c c_times hr (by omega) (by rfl) (pa_cons (pe_ix ix_list (pv 4) (pe_op op_sub (pv 2) pe_int) (fun _ _ => rfl)) (pa_cons (pe_tup (pa_cons (pv 5) (pa_cons (pv 3) pa_nil))) pa_nil))) (pe_tup (pa_cons pe_int (pa_cons pe_int pa_nil)))) pa_nil))) (by first | (dsimp only [Cx.blk]; done) | rfl)))))))
      (pss_cons (ps_set (i := 8) sc__law_summed.nd rfl (Or.inr rfl) (C8.pe_c c_how_many hr (by omega) (by rfl) (pa_cons (pv 1) pa_nil)))
      (pss_cons (ps_if (pt_cmpR (op_neD hr.units) (pe_lc (own := [("k", 2)]) rfl sc__law_summed.nd (pi_range1 (by rfl) T.n_range (pa_cons (pe_callB call_len_seq (by rfl) T.n_len (by decide +kernel) (pa_cons (pv 4) pa_nil)) pa_nil)) (by first | exact blkOk_by (N := N__law_summed) (sc := C8.fnScope s__law_summed) (by decide +kernel) | exact blkOk_by (by rfl)) (fun _ _ _ _ _ => castPG (pg_name (i := 2) sc__law_summed.nd rfl (Or.inl rfl) (by first | exact Or.inr rfl | exact Or.inl rfl)) (by first | (dsimp only [Cx.blk]; done) | rfl)) (fun _ _ _ _ _ => castPTs (pts_nil) (by first | (dsimp only [Cx.blk]; done) | rfl)) (fun _ _ _ _ _ => castPE (C8.pe_mt mt_Spread_chance hr (by omega) (pv 8) (pa_cons (pv 2) pa_nil)) (by first | (dsimp only [Cx.blk]; done) | rfl))) (pv 4) (nomark _)) (pss_one (ps_ret pe_bl)) pss_nil)
      (pss_cons (ps_if (pt_cmpR (op_neD hr.units) (pe_callTy call_list_of (by rfl) T.n_list (by decide +kernel) (pa_cons (C8.pe_c c_from_overlaps hr (by omega) (by rfl) (pa_cons (C8.pe_c c_overlaps_of hr (by omega) (by rfl) (pa_cons (pv 8) (pa_cons (pe_callB call_len_seq (by rfl) T.n_len (by decide +kernel) (pa_cons (pv 1) pa_nil)) pa_nil))) pa_nil)) pa_nil)) (pv 4) (nomark _)) (pss_one (ps_ret pe_bl)) pss_nil)
      (pss_cons (ps_asg (pe_tup (pa_cons (pe_lc (own := [("k", 2)]) rfl sc__law_summed.nd (pi_range1 (by rfl) T.n_range (pa_cons (pe_op op_add pe_int (C8.pe_c c__law_roll hr (by omega) (by rfl) (pa_cons (pv 0) (pa_cons pe_int pa_nil)))) pa_nil)) (by first | exact blkOk_by (N := N__law_summed) (sc := C8.fnScope s__law_summed) (by decide +kernel) | exact blkOk_by (by rfl)) (fun _ _ _ _ _ => castPG (pg_name (i := 2) sc__law_summed.nd rfl (Or.inl rfl) (by first | exact Or.inr rfl | exact Or.inl rfl)) (by first | (dsimp only [Cx.blk]; done) | rfl)) (fun _ _ _ _ _ => castPTs (pts_nil) (by first | (dsimp only [Cx.blk]; done) | rfl)) (fun _ _ _ _ _ => castPE (C8.pe_c c__law_roll hr (by omega) (by rfl) (pa_cons (pv 0) (pa_cons pe_int pa_nil))) (by first | (dsimp only [Cx.blk]; done) | rfl))) (pa_cons (pe_lc (own := [("k", 2)]) rfl sc__law_summed.nd (pi_range1 (by rfl) T.n_range (pa_cons (pe_op op_add pe_int (C8.pe_c c__law_roll hr (by omega) (by rfl) (pa_cons (pv 0) (pa_cons pe_int pa_nil)))) pa_nil)) (by first | exact blkOk_by (N := N__law_summed) (sc := C8.fnScope s__law_summed) (by decide +kernel) | exact blkOk_by (by rfl)) (fun _ _ _ _ _ => castPG (pg_name (i := 2) sc__law_summed.nd rfl (Or.inl rfl) (by first | exact Or.inr rfl | exact Or.inl rfl)) (by first | (dsimp only [Cx.blk]; done) | rfl)) (fun _ _ _ _ _ => castPTs (pts_nil) (by first | (dsimp only [Cx.blk]; done) | rfl)) (fun _ _ _ _ _ => castPE (C8.pe_c c__law_roll hr (by omega) (by rfl) (pa_cons (pv 0) (pa_cons pe_int pa_nil))) (by first | (dsimp only [Cx.blk]; done) | rfl))) pa_nil))) (pg_tup (n := 2) rfl (pgs_cons (pg_name (i := 6) sc__law_summed.nd rfl (Or.inr rfl) (by exact Or.inl rfl)) (pgs_cons (pg_name (i := 17) sc__law_summed.nd rfl (Or.inr rfl) (by exact Or.inl rfl)) pgs_nil))))
      (pss_cons (ps_set (i := 9) sc__law_summed.nd rfl (Or.inr rfl) (RX.pe_dispT hr.u8 (pa_cons pe_int (pa_cons pe_int pa_nil)) pe_int))
      (pss_cons (ps_for PassesOwn.never rfl (pi_list (pe_op op_cat (pv 6) (pv 17))) (pg_name (i := 10) sc__law_summed.nd rfl (Or.inl rfl) (by exact Or.inl rfl))
      (pss_cons (ps_set (i := 11) sc__law_summed.nd rfl (Or.inl rfl) (pe_callTy (RX.call_dictT hr.u8) (by rfl) T.n_dict (by decide +kernel) (pa_cons (pv 9) pa_nil)))
        (pss_cons (ps_for PassesOwn.never rfl (pi_keys (RX.pe_frz (pv 9))) (pg_tup (n := 2) rfl (pgs_cons (pg_name (i := 12) sc__law_summed.nd rfl (Or.inl rfl) (by exact Or.inl rfl)) (pgs_cons (pg_name (i := 13) sc__law_summed.nd rfl (Or.inl rfl) (by exact Or.inl rfl)) pgs_nil)))
        (pss_cons (ps_set (i := 14) sc__law_summed.nd rfl (Or.inl rfl) (pe_tup (pa_cons (pe_op op_add (pv 12) pe_int) (pa_cons (pe_op op_add (pv 13) (pv 10)) pa_nil))))
          (pss_one (ps_dput hr.u1 (pv 11) (pv 14) (pe_op op_add (pe_dget2 hr.u1 (pv 11) (pv 14) pe_int ⟨rfl, by rfl, rfl, rfl⟩) (pe_dget hr.u1 (pv 9) (pe_tup (pa_cons (pv 12) (pa_cons (pv 13) pa_nil))) (fun _ _ => rfl))) rfl))))
        (pss_one (ps_set (i := 9) sc__law_summed.nd rfl (Or.inr rfl) (pv 11))))))
      (pss_cons (ps_set (i := 15) sc__law_summed.nd rfl (Or.inr rfl) (LX.pe_lam (T := T9) TL rfl (by rfl) hTm hTu rfl (NdefX.ndef_free (sc := C8.fnScope s__law_summed) (fr := []) (by decide +kernel))))
      (pss_cons (ps_set (i := 16) sc__law_summed.nd rfl (Or.inl rfl) (pe_callB (cr_sum rfl) (by rfl) T.n_sum (by decide +kernel) (pa_cons (LX.pe_lcG (own := [("key", 14)]) (fr := ["one", "other"]) (js := [6, 17]) (fun ok => Caps.made (scope := farS) ok (NdefX.ndef_free (sc := C8.fnScope s__law_summed) (fr := ["one", "other"]) (by decide +kernel)) (by decide +kernel) (by rfl)) (fun _ => rfl) rfl sc__law_summed.nd (pi_keys (RX.pe_frz (pv 9))) (by first | exact blkOk_by (N := N__law_summed) (sc := C8.fnScope s__law_summed) (by decide +kernel) | exact blkOk_by (by rfl)) (fun _ _ _ _ _ => castPG (pg_name (i := 14) sc__law_summed.nd rfl (Or.inl rfl) (by first | exact Or.inr rfl | exact Or.inl rfl)) (by first | (dsimp only [Cx.blk]; done) | rfl)) (fun ws _ _ _ _ _ G => castPTs (pts_one (PW.pt (pw_and (pt_cmpR op_eq (pe_ix ix_tup (pv 14) pe_int (fun _ _ => rfl)) (pe_callB call_len_seq (by rfl) T.n_len (by decide +kernel) (pa_cons (pv 6) pa_nil)) (nomark _)) (pw_and1 (pt_cmpR op_ge (LX.pe_callG (k := 1) (mk := fun c' => LF.made (cxOf C8.CX0 P w K mg base N__law_summed "_law_summed" (C8.fnScope s__law_summed) f (.ref c) A outer s H E).nox qFar farA farB0 farS c') (ps := ["amount"]) (sp := farSp K) (fun _ => rfl) G.at_ G.nofp G.nofs hr (by omega) (i := 15) rfl (by first | exact Or.inl rfl | exact Or.inr (Or.inl rfl) | exact Or.inr (Or.inr rfl)) (pa_cons (pe_ix ix_tup (pv 14) pe_int (fun _ _ => rfl)) pa_nil)) (LX.pe_callG (k := 1) (mk := fun c' => LF.made (cxOf C8.CX0 P w K mg base N__law_summed "_law_summed" (C8.fnScope s__law_summed) f (.ref c) A outer s H E).nox qFar farA farB0 farS c') (ps := ["amount"]) (sp := farSp K) (fun _ => rfl) G.at_ G.nofp G.nofs hr (by omega) (i := 15) rfl (by first | exact Or.inl rfl | exact Or.inr (Or.inl rfl) | exact Or.inr (Or.inr rfl)) (pa_cons (pe_callB (cr_sum rfl) (by rfl) T.n_sum (by decide +kernel) (pa_cons (pv 6) pa_nil)) pa_nil)) (nomark _)))))) (by first | (dsimp only [Cx.blk]; done) | rfl)) (fun _ _ _ _ _ => castPE (pe_dget hr.u1 (pv 9) (pv 14) (fun _ _ => rfl)) (by first | (dsimp only [Cx.blk]; done) | rfl))) pa_nil)))
      (pss_one (ps_ret (pe_cmpR (op_eqD hr.units) (C8.pe_c c_two_lots hr (by omega) (by rfl) (pa_cons (pv 6) (pa_cons (pv 17) pa_nil))) (C8.pe_c c_part hr (by omega) (by rfl) (pa_cons (pv 16) (pa_cons (C8.pe_c c__law_ways hr (by omega) (by rfl) (pa_cons (pe_op op_add (pe_callB call_len_seq (by rfl) T.n_len (by decide +kernel) (pa_cons (pv 6) pa_nil)) (pe_callB call_len_seq (by rfl) T.n_len (by decide +kernel) (pa_cons (pv 17) pa_nil))) (pa_cons (pe_callB call_len_seq (by rfl) T.n_len (by decide +kernel) (pa_cons (pv 6) pa_nil)) pa_nil))) pa_nil))) (nomark _)))))))))))))))), ?_⟩
    refine ⟨(by show 0 ≤ sizeLine; exact Nat.zero_le _), fun C hC => ?_⟩
    have hCd : C ≠ d := fun z => by
      obtain ⟨_, _, _, h⟩ := hd
      rw [← z, hC] at h
      cases h
    have e0 : Ex H (upd H C (.lst [])) := Evl.Ex.new hC
    refine ⟨_, rfl, d, 13, rfl, hd.ex e0, by decide, by decide, fun x ys H1 x0 x1 eH1 hd1 => ⟨x, rfl, by omega, by omega, ?_⟩⟩
    have hC1 : H1 C = some (.lst []) := by rw [eH1, upd_ne hCd]; exact upd_same
    have m1 : Mo (some d) T9 H H1 := (Mo.of e0).trans (roll_mo (hd.ex e0) eH1)
    clear eH1 e0
    obtain ⟨n, rfl⟩ : ∃ n : Nat, x = n := ⟨x.toNat, by omega⟩
    refine for_n (n := n) (fun i σ' H' => ∃ (o2 o3 : Option V) (ys : List V) (pr : Nat → Rat), σ' = [some (.ref d), some (.ref C), o2, o3, none, none, none, none, none, none, none, none, none, none, none, none, none, none] ∧ Mo (some d) T9 H H' ∧ DiceOk H' d ∧ H' C = some (.lst ys) ∧ Pq K H' ys i pr ∧ (∀ j, 0 ≤ pr j ∧ pr j ≤ 1) ∧ ∀ j, Dv 2520 (pr j))
      ⟨_, _, [], fun _ => 0, rfl, m1, hd1, hC1, Pq.nil, fun _ => ⟨Rat.le_refl, (by show (0 : Rat) ≤ 1; decide)⟩, fun _ => Dv.zero⟩ (fun i σ' H' hi _ => by show i < ((n : Nat) : Int).toNat; omega) (fun σ' H' _ => by show ((n : Nat) : Int).toNat ≤ n; omega) ?_ ?_
    · rintro i _ H2 u H3 hi ⟨o2, o3, ys, pr, rfl, m2, hd2, hC2, hys, h01, hdv⟩ ⟨rfl, rfl⟩
      refine ⟨_, rfl, d, 9, rfl, hd2, by decide, by decide, fun x ys3 H4 x0 x1 eH4 hd4 => ⟨_, _, rfl, rfl, ?_⟩⟩
      obtain ⟨low, hlow⟩ : ∃ n : Nat, 1 + x = n := ⟨(1 + x).toNat, by omega⟩
      simp only [hlow]
      have m4 := m2.trans (roll_mo hd2 eH4)
      have kt4 := roll_kt hd2 eH4
      have hC4 : H4 C = some (.lst ys) := by rw [eH4, upd_ne hCd]; exact hC2
      refine ⟨_, rfl, .inl ⟨rfl, _, Evl.sq_of hC4⟩, _, rfl, _, rfl, _, _, rfl, rfl, d, ((low : Nat) : Int) + 1, rfl, hd4, by omega, by omega, fun y ys5 H5 y0 y1 eH5 hd5 => ?_⟩
      have m5 := m4.trans (roll_mo hd4 eH5)
      have kt5 := kt4.trans (roll_kt hd4 eH5)
      have hC5 : H5 C = some (.lst ys) := by rw [eH5, upd_ne hCd]; exact hC4
      refine ⟨_, rfl, y, _, rfl, by omega, (Lt2.nn (a := 10) y0 (by show y < 1024; omega)).up (by decide), (Lt2.nn (a := 10) (by omega) (by show _ < (1024 : Int); omega)).up (by decide), fun v H6 e6 hv => ?_⟩
      have hl0 : 0 < low := by omega
      have hp := dq_le (a := y) (M := low) (B := 1) hl0 y0 (by omega)
      have hdp : Dv 2520 (Rat.divInt y (low : Nat)) := Dv.of_dvd (Dv.div hl0) (dvd2520 low (by omega) hl0)
      generalize Rat.divInt y (low : Nat) = p at hv hp hdp
      have hC6 := e6 _ _ hC5
      have hys6 := (hys.kt kt5).ex e6
      refine ⟨C, ys, v, rfl, rfl, hC6, by rw [hys.1]; exact Nat.lt_of_lt_of_le (show i < 1000 by omega) (by decide), ?_⟩
      have kt6 : Kt H6 (upd H6 C (.lst (ys ++ [v]))) := Kt.lst hC6
      refine ⟨_, _, ys ++ [v], fun j => if j = i then p else pr j, rfl, Mo.fresh (m5.trans (Mo.of e6)) (Nn.of hC) hC6, ?_, upd_same, ?_, fun j => ?_, fun j => ?_⟩
      · obtain ⟨a, b, c, h⟩ := hd5.ex e6
        exact ⟨a, b, c, (upd_ne (Ne.symm hCd)).trans h⟩
      · refine Pq.snoc ((hys6.kt kt6).congr fun j hj => by rw [if_neg (by omega)]) ?_
        show PtAt K _ v (if i = i then p else pr i)
        rw [if_pos rfl]
        exact hv.kt kt6
      · show 0 ≤ (if j = i then p else pr j) ∧ (if j = i then p else pr j) ≤ 1
        split
        · exact ⟨hp.1, hp.2⟩
        · exact h01 j
      · show Dv 2520 (if j = i then p else pr j)
        split
        · exact hdp
        · exact hdv j
    · rintro _ H2 ⟨o2, o3, ys, pr, rfl, m2, hd2, hC2, hys, h01, hdv⟩
      have hsm : ∀ (m : Nat) (x : Rat), m ≤ 13 → Dv (2520 ^ m) x → 0 ≤ x → x ≤ 1 → sm x := fun m x hm hd h0 h1 => sm_unit (Nat.pow_pos (by decide)) hd h0 h1 ((b2520 m hm).up (by decide))
      have hnn : ∀ i, 0 ≤ 1 - pr i ∧ 1 - pr i ≤ 1 := fun i => by have := h01 i; grind
      have dv1 : ∀ i, Dv 2520 (1 - pr i) := fun i => Dv.sub (Dv.one) (hdv i)
      have hdB : ∀ x, Dv 2520 x → Dv (2520 ^ 1) x := fun x h => by rw [Nat.pow_one]; exact h
      have sm0 : ∀ i, sm (pr i) := fun i => hsm 1 _ (by omega) (hdB _ (hdv i)) (h01 i).1 (h01 i).2
      have sm1 : ∀ i, sm (1 - pr i) := fun i => hsm 1 _ (by omega) (hdB _ (dv1 i)) (hnn i).1 (hnn i).2
      have smh : ∀ i j, i ≤ 12 → sm (hm pr i j) := fun i j hi => hsm i _ (by omega) (hm_dv pr 2520 hdv i j) (hm_nn pr h01 i j) (hm_le h01 i j)
      have smp : ∀ i j (q : Rat), i < 12 → 0 ≤ q → q ≤ 1 → Dv 2520 q → sm (hm pr i j * q) := fun i j q hi q0 q1 qd => by
        have u := unit_mul (hm_nn pr h01 i j) (hm_le h01 i j) q0 q1
        refine hsm (i + 1) _ (by omega) ?_ u.1 u.2
        have := Dv.mul (hm_dv pr 2520 hdv i j) qd
        rw [← Nat.pow_succ] at this
        exact this
      have hn12 : n ≤ 12 := by omega
      have hnl : ys.length = n := hys.1
      refine ⟨(by show 2 ≤ sizeLine; decide), fun p0 hp0 => ⟨(by show 1 ≤ sizeLine; decide), fun R0 hR0 => ?_⟩⟩
      have e0 : Ex H2 (upd (upd H2 p0 (.tup [.int 1, .int 1])) R0 (.lst [.ref p0])) := Evl.Ex.trans (Evl.Ex.new hp0) (Evl.Ex.new hR0)
      have q0 : Pq K (upd (upd H2 p0 (.tup [.int 1, .int 1])) R0 (.lst [.ref p0])) [.ref p0] (0 + 1) (hm pr 0) := Pq.snoc Pq.nil ⟨p0, rfl, Evl.st_of (Evl.Ex.new hR0 _ _ upd_same)⟩
      have r0 : upd (upd H2 p0 (.tup [.int 1, .int 1])) R0 (.lst [.ref p0]) R0 = some (.lst [.ref p0]) := upd_same
      dsimp only [gName]
      generalize (upd (upd H2 p0 (.tup [.int 1, .int 1])) R0 (.lst [.ref p0])) = G at e0 q0 r0 ⊢
      refine ⟨_, rfl, C, rfl, ⟨_, Evl.sq_of (e0 _ _ hC2)⟩, ?_⟩
      refine for_n (n := n) (fun i σ' H' => ∃ (R : Addr) (rs : List V) (o3 o5 o7 : Option V), σ' = [some (.ref d), some (.ref C), o2, o3, some (.ref R), o5, none, o7, none, none, none, none, none, none, none, none, none, none] ∧ Ex H2 H' ∧ H' R = some (.lst rs) ∧ Pq K H' rs (i + 1) (hm pr i))
        ⟨R0, _, _, _, _, rfl, e0, r0, q0⟩ (fun i σ' H' hi ⟨_, _, _, _, _, _, e, _⟩ => ⟨_, _, Evl.sq_of (e _ _ hC2), List.getElem?_eq_getElem (by omega)⟩) (fun σ' H' ⟨_, _, _, _, _, _, e, _⟩ => ⟨_, Evl.sq_of (e _ _ hC2), by omega⟩) ?_ ?_
      · rintro i _ H3 u H4 hi ⟨R, rs, o3, o5, o7, rfl, e, hR, hrs⟩ ⟨rfl, hu⟩
        obtain ⟨a, rfl, ha⟩ := (hys.2 i u (hu _ (Evl.sq_of (e _ _ hC2)))).ex e
        refine ⟨a, _, rfl, ha, rfl, _, _, rfl, _, _, rfl, rfl, ?_⟩
        refine re_st [some (.ref d), some (.ref C), o2, some (.int ((pr i).den : Nat)), some (.ref R), some (.int (pr i).num), none, o7, none, none, none, none, none, none, none, none, none, none] rfl ?_
        refine ⟨_, rfl, R, rfl, ⟨_, Evl.sq_of hR⟩, fun D hD => ?_⟩
        have hRD : R ≠ D := ne_of_none hR hD
        refine lc_n (n := i + 1) (fun j acc H' => Pq K H' acc j (fun t => hm pr i t * (1 - pr i)) ∧ Ex H4 H') ⟨Pq.nil, Evl.Ex.new hD⟩ (fun j acc H' hj p => ⟨_, _, Evl.sq_of (p.2 _ _ hR), List.getElem?_eq_getElem (by rw [hrs.1]; exact hj)⟩) (fun acc H' p => ⟨_, Evl.sq_of (p.2 _ _ hR), by rw [hrs.1]; exact Nat.le_refl _⟩) (fun j acc H5 u5 H6 hj hacc p hy => ?_) (fun acc H5 hacc p => ?_)
        · obtain ⟨rfl, hu5⟩ := hy
          have h5 := (hrs.2 j u5 (hu5 _ (Evl.sq_of (p.2 _ _ hR)))).ex p.2
          refine ⟨rfl, ⟨_, rfl, _, rfl, _, rfl, _, _, rfl, rfl, _, rfl, (by show 2 ≤ sizeLine; decide), fun q hq => ?_⟩⟩
          have eq := Evl.Ex.new (o := .tup [.int (((pr i).den : Nat) - (pr i).num), .int ((pr i).den : Nat)]) hq
          refine ⟨u5, .ref q, hm pr i j, 1 - pr i, rfl, h5.ex eq, ⟨q, rfl, Evl.st_of (by rw [upd_same, one_sub.1, one_sub.2])⟩, smh i j (by omega), sm1 i, fun v H7 e7 h7 => ?_⟩
          have e67 := Evl.Ex.trans eq e7
          have hD7 := e67 _ _ hacc
          exact App.of hD7 (by rw [p.1.1]; omega) ⟨Pq.snoc ((p.1.ex e67).kt (Kt.lst hD7)) (h7.kt (Kt.lst hD7)), Evl.Ex.mut (Evl.Ex.trans p.2 e67) hD⟩
        · refine ⟨(by show 2 ≤ sizeLine; decide), fun q hq => ⟨(by show 1 ≤ sizeLine; decide), fun Z hZ => ?_⟩⟩
          have e6 := Evl.Ex.trans (Evl.Ex.new (o := .tup [.int 0, .int 1]) hq) (Evl.Ex.new (o := .lst [.ref q]) hZ)
          refine ⟨D, Z, _, _, rfl, rfl, e6 _ _ hacc, upd_same, by rw [p.1.1]; exact Nat.le_trans (show i + 1 + 1 ≤ 20 by omega) (by decide), fun F hF => ?_⟩
          have e7 := Evl.Ex.trans e6 (Evl.Ex.new (o := .lst (acc ++ [.ref q])) hF)
          have hq7 : PtAt K (upd (upd (upd H5 q (.tup [.int 0, .int 1])) Z (.lst [.ref q])) F (.lst (acc ++ [.ref q]))) (.ref q) 0 := ⟨q, rfl, Evl.st_of (Evl.Ex.new hF _ _ (Evl.Ex.new hZ _ _ upd_same))⟩
          have hF7 : upd (upd (upd H5 q (.tup [.int 0, .int 1])) Z (.lst [.ref q])) F (.lst (acc ++ [.ref q])) F = some (.lst (acc ++ [.ref q])) := upd_same
          have hheld : Pq K (upd (upd (upd H5 q (.tup [.int 0, .int 1])) Z (.lst [.ref q])) F (.lst (acc ++ [.ref q]))) (acc ++ [.ref q]) (i + 2) (fun t => hm pr i t * (1 - pr i)) := by
            refine Pq.snoc (p.1.ex e7) ?_
            show PtAt K _ (.ref q) (hm pr i (i + 1) * (1 - pr i))
            rw [hm_gt pr i (i + 1) (by omega), Rat.zero_mul]
            exact hq7
          have e47 := Evl.Ex.trans p.2 e7
          dsimp only [gName]
          generalize (upd (upd (upd H5 q (.tup [.int 0, .int 1])) Z (.lst [.ref q])) F (.lst (acc ++ [.ref q]))) = G7 at hF7 hheld e47 ⊢
          generalize acc ++ [V.ref q] = held at hF7 hheld
          refine re_st [some (.ref d), some (.ref C), o2, some (.int ((pr i).den : Nat)), some (.ref R), some (.int (pr i).num), none, some (.ref F), none, none, none, none, none, none, none, none, none, none] rfl ?_
          have hR7 := e47 _ _ hR
          have hrs7 := hrs.ex e47
          refine ⟨_, rfl, F, held, rfl, .inl (Evl.sq_of hF7), ((held.length : Nat) : Int), rfl, by rw [hheld.1]; omega, by rw [hheld.1]; omega, fun D2 hD2 => ?_⟩
          refine lc_n (n := i + 2) (fun j acc H' => Pq K H' acc j (hm pr (i + 1)) ∧ Ex G7 H') ⟨Pq.nil, Evl.Ex.new hD2⟩ (fun j acc H' hj _ => by show j < ((held.length : Nat) : Int).toNat; rw [hheld.1]; omega) (fun acc H' _ => by show ((held.length : Nat) : Int).toNat ≤ i + 2; rw [hheld.1]; omega) (fun j acc2 H8 u8 H9 hj hacc2 p2 hy2 => ?_) (fun acc2 H8 hacc2 p2 => ?_)
          · obtain ⟨rfl, rfl⟩ := hy2
            obtain ⟨v1, hv1, hq1⟩ := hheld.get hj
            have hq1 := hq1.ex p2.2
            refine ⟨rfl, ⟨_, rfl, _, rfl, F, held, ((j : Nat) : Int), v1, rfl, (by show V.int (0 + (j : Nat)) = _; rw [Int.zero_add]), Evl.sq_of (p2.2 _ _ hF7), atI_nat hv1, ?_⟩⟩
            refine with_if (fun tv H' => Ex H9 H' ∧ ∃ x : Rat, PtAt K H' tv x ∧ sm x ∧ hm pr i j * (1 - pr i) + x = hm pr (i + 1) j) (fun Q' k' => ?_) ?_
            · refine ⟨_, rfl, _, _, rfl, rfl, _, rfl, ?_⟩
              rcases Nat.eq_zero_or_pos j with z | z
              · subst z
                refine iteF ⟨(by show 2 ≤ sizeLine; decide), fun q3 hq3 => k' _ _ ⟨Evl.Ex.new hq3, 0, ⟨q3, rfl, Evl.st_of upd_same⟩, sm_zero, ?_⟩⟩
                rw [Rat.mul_comm]
                exact (hm_s0 pr i).symm
              · rw [decide_eq_true (by omega)]
                obtain ⟨vr, hvr, hvq⟩ := hrs7.get (show j - 1 < i + 1 by omega)
                refine iteT ⟨_, rfl, _, rfl, _, _, rfl, rfl, R, rs, ((j - 1 : Nat) : Int), vr, rfl, (by show V.int (0 + (j : Nat) - 1) = _; rw [show (0 : Int) + (j : Nat) - 1 = ((j - 1 : Nat) : Int) by omega]), Evl.sq_of (p2.2 _ _ hR7), atI_nat hvr, _, rfl, _, rfl, (by show 2 ≤ sizeLine; decide), fun q3 hq3 => ?_⟩
                have eq3 := Evl.Ex.new (o := .tup [.int (pr i).num, .int ((pr i).den : Nat)]) hq3
                refine ⟨vr, .ref q3, hm pr i (j - 1), pr i, rfl, (hvq.ex p2.2).ex eq3, ⟨q3, rfl, Evl.st_of upd_same⟩, smh i (j - 1) (by omega), sm0 i, fun v7 HA e7 h7 => k' v7 HA ⟨Evl.Ex.trans eq3 e7, _, h7, smp i (j - 1) _ (by omega) (h01 i).1 (h01 i).2 (hdv i), ?_⟩⟩
                show hm pr i j * (1 - pr i) + hm pr i (j - 1) * pr i = _
                rw [hm_s1 pr i j z, Rat.mul_comm, Rat.mul_comm (hm pr i (j - 1))]
            · rintro tv HA ⟨eA, x, hx, sx, ex⟩
              refine ⟨v1, tv, _, x, rfl, hq1.ex eA, hx, smp i j _ (by omega) (hnn i).1 (hnn i).2 (dv1 i), sx, fun v8 HB e8 h8 => ?_⟩
              have h8 : PtAt K HB v8 (hm pr i j * (1 - pr i) + x) := h8
              rw [ex] at h8
              have e9B := Evl.Ex.trans eA e8
              have hDB := e9B _ _ hacc2
              exact App.of hDB (by rw [p2.1.1]; omega) ⟨Pq.snoc ((p2.1.ex e9B).kt (Kt.lst hDB)) (h8.kt (Kt.lst hDB)), Evl.Ex.mut (Evl.Ex.trans p2.2 e9B) hD2⟩
          · exact ⟨D2, acc2, _, _, _, rfl, Evl.Ex.trans (Evl.Ex.trans e e47) p2.2, hacc2, p2.1⟩
      · rintro _ H3 ⟨R, rs, o3, o5, o7, rfl, e, hR, hrs⟩
        have hnn' := hm_nn pr h01
        refine ⟨_, rfl, C, ys, n, 2520, pr, rfl, Evl.sq_of (e _ _ hC2), hys.ex e, hn12, h01, hdv, by decide, b2520, fun sv H4 ws e4 hS hN hH hlt hlw => ?_⟩
        have hR4 := e4 _ _ hR
        have hrs4 := hrs.ex e4
        have hC4 := e4 _ _ (e _ _ hC2)
        have hS0 := hS
        obtain ⟨sa, sdx, swd, sod, rfl, hsa, hswd⟩ := hS
        refine ⟨_, rfl, R, rs, rfl, .inl (Evl.sq_of hR4), ((rs.length : Nat) : Int), rfl, by rw [hrs.1]; omega, by rw [hrs.1]; omega, fun D hD => ?_⟩
        have hrl := hrs.1
        refine lc_n (n := n + 1) (fun j acc H' => Pq K H' acc j (hm pr n) ∧ Ex H4 H') ⟨Pq.nil, Evl.Ex.new hD⟩ (fun j acc H' hj _ => by show j < ((rs.length : Nat) : Int).toNat; omega) (fun acc H' _ => by show ((rs.length : Nat) : Int).toNat ≤ n + 1; omega) (fun j acc H5 u5 H6 hj hacc p hy => ?_) (fun acc H5 hacc p => ?_)
        · obtain ⟨rfl, rfl⟩ := hy
          refine ⟨rfl, ⟨_, rfl, sa, sdx, _, rfl, p.2 _ _ hsa, rfl, _, rfl, .ref sa, 0 + (j : Nat), ws, rfl, hS0.ex p.2, hN, hlt.up (by decide), fun v H7 e7 h7 => ?_⟩⟩
          rw [hH.chance hN, if_pos (by omega), show ((0 : Int) + ((j : Nat) : Int)).toNat = j by omega] at h7
          have hD7 := e7 _ _ hacc
          exact App.of hD7 (by rw [p.1.1]; omega) ⟨Pq.snoc ((p.1.ex e7).kt (Kt.lst hD7)) (h7.kt (Kt.lst hD7)), Evl.Ex.mut (Evl.Ex.trans p.2 e7) hD⟩
        · refine ⟨_, rfl, .list (qsD (n + 1) (hm pr n)), .list (qsD (n + 1) (hm pr n)), .lst (Evl.sq_of hacc) p.1.dpall, .lst (Evl.sq_of (p.2 _ _ hR4)) (hrs4.ex p.2).dpall, (Flat.list qsD_flat).shaped (by decide), (Flat.list qsD_flat).shaped (by decide), _, rfl, ?_⟩
          rw [(Flat.list qsD_flat).refl]
          have e5 := p.2
          clear hacc hD p
          refine iteF ⟨_, rfl, _, rfl, C, ys, rfl, .inl (Evl.sq_of (e5 _ _ hC4)), .ref sa, n, ws, hm pr n, (by rw [hnl]; rfl), hS0.ex e5, hN, hH, hn12, hlt, hlw, fun t6 H6 ys6 e6 ht6 hq6 => ?_⟩
          have hO := ovl_bd (q := hm pr n) hn12 (hnn' n) (hm_sum pr n)
          refine ⟨t6, ys6, n, 2520 ^ n, _, hm pr n, rfl, ht6, hq6, hn12, Nat.pow_pos (by decide), b2520 n (by omega), fun s => Dv.sumq fun i hi => ?_, hO, fun c hc => ⟨und_eq hn12 hc, hnn' n c⟩, fun t7 H7 ys7 e7 ht7 hq7 => ?_⟩
          · have := Dv.mul (hm_dv pr 2520 hdv n i) (Dv.int (M := 1) ((bin i s : Nat) : Int))
            rw [Nat.mul_one] at this
            exact this
          refine ⟨t7, ys7, rfl, .inr ht7, fun L hL => ?_⟩
          have e57 := Evl.Ex.trans (Evl.Ex.trans e6 e7) (Evl.Ex.new (o := .lst ys7) hL)
          refine ⟨_, rfl, .list (qsD (n + 1) (hm pr n)), .list (qsD (n + 1) (hm pr n)), .lst (Evl.sq_of upd_same) (hq7.ex (Evl.Ex.new hL)).dpall, .lst (Evl.sq_of (e57 _ _ (e5 _ _ hR4))) ((hrs4.ex e5).ex e57).dpall, (Flat.list qsD_flat).shaped (by decide), (Flat.list qsD_flat).shaped (by decide), _, rfl, ?_⟩
          rw [(Flat.list qsD_flat).refl]
          have eAll := Evl.Ex.trans (Evl.Ex.trans (Evl.Ex.trans e e4) e5) e57
          have m7 := m2.trans (Mo.of eAll)
          have hd7 := hd2.ex eAll
          generalize (upd H7 L (.lst ys7)) = H8 at m7 hd7
          clear hq7 ht7 e7 hO hq6 ht6 e6 eAll e57 e5 e4 hS0 hN hH hlt hlw hrs4 hR4 hC4 hsa hswd e hR hrs q0 r0 e0 hys hC2 m2 hd2 hL hdv h01 hsm hnn dv1 hdB sm0 sm1 smh smp hnn'
          refine iteF ?_
          refine re_st [some (.ref d), some (.ref C), o2, o3, some (.ref R), o5, none, o7, some (.ref sa), none, none, none, none, none, none, none, none, none] rfl ?_
          refine ⟨_, rfl, d, 7, rfl, hd7, by decide, by decide, fun x1 yz HA x10 x11 eHA hdA => ⟨_, _, rfl, rfl, 1 + x1, rfl, by omega, by omega, fun A1 hA1 => ?_⟩⟩
          obtain ⟨n1, hn1⟩ : ∃ n : Nat, 1 + x1 = n := ⟨(1 + x1).toNat, by omega⟩
          have mA := m7.trans (roll_mo hd7 eHA)
          clear eHA hd7 m7
          have hAd : A1 ≠ d := fun z => by
            obtain ⟨_, _, _, h⟩ := hdA
            rw [← z, hA1] at h
            cases h
          refine lc_n (n := n1) (fun i acc H' => ∃ xs : List Int, acc = xs.map V.int ∧ xs.length = i ∧ (∀ x ∈ xs, 0 ≤ x ∧ x < 50) ∧ Mo (some d) T9 HA H' ∧ DiceOk H' d) ⟨[], rfl, rfl, fun x hx => absurd hx List.not_mem_nil, Mo.of (Evl.Ex.new hA1), hdA.ex (Evl.Ex.new hA1)⟩ (fun i acc H' hi _ => by show i < (1 + x1).toNat; omega) (fun acc H' _ => by show (1 + x1).toNat ≤ n1; omega) (fun i acc H1 u H2 hi hacc pv hy => ?_) (fun acc HB haccA pv => ?_)
          · obtain ⟨rfl, rfl⟩ := hy
            obtain ⟨xs, rfl, hl, hb, m, hd1⟩ := pv
            refine ⟨rfl, ⟨_, rfl, d, 50, rfl, hd1, by decide, by decide, fun y ys H3 y0 y1 e3 hd3 => ?_⟩⟩
            have m3 := m.trans (roll_mo hd1 e3)
            have hacc3 : H3 A1 = some (.lst (xs.map V.int)) := by rw [e3, upd_ne hAd]; exact hacc
            refine App.of hacc3 (by rw [List.length_map]; omega) ⟨xs ++ [y], by simp, by simp [hl], fun z hz => ?_, Mo.fresh m3 (Nn.of hA1) hacc3, ?_⟩
            · rcases List.mem_append.mp hz with hz | hz
              · exact hb z hz
              · rw [List.mem_singleton] at hz; omega
            · obtain ⟨a, b, c, h⟩ := hd3
              exact ⟨a, b, c, (upd_ne (Ne.symm hAd)).trans h⟩
          obtain ⟨xs, rfl, hxl, hxb, m, hdB⟩ := pv
          have mB := mA.trans m
          clear m mA hdA hA1
          refine ⟨_, rfl, d, 7, rfl, hdB, by decide, by decide, fun x2 yz2 HC x20 x21 eHC hdC => ⟨_, _, rfl, rfl, 1 + x2, rfl, by omega, by omega, fun B1 hB1 => ?_⟩⟩
          obtain ⟨n2, hn2⟩ : ∃ n : Nat, 1 + x2 = n := ⟨(1 + x2).toNat, by omega⟩
          have hAC : HC A1 = some (.lst (xs.map V.int)) := by rw [eHC, upd_ne hAd]; exact haccA
          have mC := mB.trans (roll_mo hdB eHC)
          clear eHC hdB mB haccA
          have hBd : B1 ≠ d := fun z => by
            obtain ⟨_, _, _, h⟩ := hdC
            rw [← z, hB1] at h
            cases h
          refine lc_n (n := n2) (fun i acc H' => ∃ xs : List Int, acc = xs.map V.int ∧ xs.length = i ∧ (∀ x ∈ xs, 0 ≤ x ∧ x < 50) ∧ Mo (some d) T9 HC H' ∧ DiceOk H' d) ⟨[], rfl, rfl, fun x hx => absurd hx List.not_mem_nil, Mo.of (Evl.Ex.new hB1), hdC.ex (Evl.Ex.new hB1)⟩ (fun i acc H' hi _ => by show i < (1 + x2).toNat; omega) (fun acc H' _ => by show (1 + x2).toNat ≤ n2; omega) (fun i acc H1 u H2 hi hacc pv hy => ?_) (fun acc HD haccB pv => ?_)
          · obtain ⟨rfl, rfl⟩ := hy
            obtain ⟨xs, rfl, hl, hb, m, hd1⟩ := pv
            refine ⟨rfl, ⟨_, rfl, d, 50, rfl, hd1, by decide, by decide, fun y ys H3 y0 y1 e3 hd3 => ?_⟩⟩
            have m3 := m.trans (roll_mo hd1 e3)
            have hacc3 : H3 B1 = some (.lst (xs.map V.int)) := by rw [e3, upd_ne hBd]; exact hacc
            refine App.of hacc3 (by rw [List.length_map]; omega) ⟨xs ++ [y], by simp, by simp [hl], fun z hz => ?_, Mo.fresh m3 (Nn.of hB1) hacc3, ?_⟩
            · rcases List.mem_append.mp hz with hz | hz
              · exact hb z hz
              · rw [List.mem_singleton] at hz; omega
            · obtain ⟨a, b, c, h⟩ := hd3
              exact ⟨a, b, c, (upd_ne (Ne.symm hBd)).trans h⟩
          obtain ⟨zs, rfl, hzl, hzb, m, hdD⟩ := pv
          have mD := mC.trans m
          have hAD : HD A1 = some (.lst (xs.map V.int)) := m.1 _ _ (fun z => hAd (Option.some.inj z)) hAC (fun _ z => nomatch z)
          clear m mC hdC hB1 hAC
          have hx7 : 1 ≤ xs.length ∧ xs.length ≤ 7 := by omega
          have hz7 : 1 ≤ zs.length ∧ zs.length ≤ 7 := by omega
          clear hn1 hn2 hxl hzl x10 x11 x20 x21
          refine ⟨(by show 2 ≤ sizeLine; decide), fun q hq => ⟨q, _, rfl, Evl.st_of upd_same, rfl, _, _, rfl, _, _, rfl, rfl, ?_⟩⟩
          have eE : Ex HD (upd HD q (.tup [.ref A1, .ref B1])) := Evl.Ex.new hq
          have hAE := eE _ _ hAD
          have hBE := eE _ _ haccB
          have mE := mD.trans (Mo.of eE)
          have hdE := hdD.ex eE
          generalize (upd HD q (.tup [.ref A1, .ref B1])) = HE at hAE hBE mE hdE
          clear eE hq hAD haccB mD hdD
          refine re_st [some (.ref d), some (.ref C), o2, o3, some (.ref R), o5, some (.ref A1), o7, some (.ref sa), none, none, none, none, none, none, none, none, some (.ref B1)] rfl ?_
          have hL1 : ((xs ++ zs).map V.int).length = xs.length + zs.length := by rw [List.length_map, List.length_append]
          have hvb : ∀ x ∈ xs ++ zs, 0 ≤ x ∧ x < 50 := fun x hx => (List.mem_append.mp hx).elim (hxb x) (hzb x)
          refine fun F0 hF0 => ⟨(by show 2 ≤ sizeLine; decide), fun b hb => ⟨b, _, rfl, upd_same, pk (0, 0), rfl, ?_, ?_, ?_⟩⟩
          · exact (upd_ne (ne_of_none upd_same hb)).trans upd_same
          · exact upd_same
          have e1 := Evl.Ex.mut (o := .dT [(pk (0, 0), .int 1)]) (Evl.Ex.trans (Evl.Ex.new (o := .dT []) hF0) (Evl.Ex.new (o := .tup [.int 0, .int 0]) hb)) hF0
          have hF1 : (upd (upd (upd HE F0 (.dT [])) b (.tup [.int 0, .int 0])) F0 (.dT [(pk (0, 0), .int 1)])) F0 = some (.dT (dk2 [((0, 0), 1)])) := upd_same
          dsimp only [gName]
          generalize (upd (upd (upd HE F0 (.dT [])) b (.tup [.int 0, .int 0])) F0 (.dT [(pk (0, 0), .int 1)])) = G1 at e1 hF1 ⊢
          clear hb
          refine ⟨_, rfl, _, rfl, A1, B1, _, _, rfl, rfl, e1 _ _ hAE, e1 _ _ hBE, by rw [List.length_map, List.length_map]; exact Nat.le_trans (show xs.length + zs.length ≤ 14 by omega) (by decide), fun L0 hL0 => ⟨L0, rfl, ⟨_, Evl.sq_of upd_same⟩, ?_⟩⟩
          have e2 : Ex HE (upd G1 L0 (.lst (xs.map V.int ++ zs.map V.int))) := Evl.Ex.trans e1 (Evl.Ex.new hL0)
          have hF2 : upd G1 L0 (.lst (xs.map V.int ++ zs.map V.int)) F0 = some (.dT (dk2 [((0, 0), 1)])) := Evl.Ex.new hL0 _ _ hF1
          have hL2 : upd G1 L0 (.lst (xs.map V.int ++ zs.map V.int)) L0 = some (.lst ((xs ++ zs).map V.int)) := by rw [upd_same, List.map_append]
          have hnL : HE L0 = none := none_ex e1 hL0
          have ne0 : F0 ≠ L0 := ne_of_none hF1 hL0
          generalize (upd G1 L0 (.lst (xs.map V.int ++ zs.map V.int))) = G2 at e2 hF2 hL2
          clear hF1 hL0 e1
          refine for_n (n := (xs ++ zs).length) (fun t σ' H' => ∃ (o10 o11 o12 o13 o14 : Option V) (F : Addr) (ws : PL), σ' = [some (.ref d), some (.ref C), o2, o3, some (.ref R), o5, some (.ref A1), o7, some (.ref sa), some (.ref F), o10, o11, o12, o13, o14, none, none, some (.ref B1)] ∧ Ex HE H' ∧ H' L0 = some (.lst ((xs ++ zs).map V.int)) ∧ HE F = none ∧ H' F = some (.dT (dk2 ws)) ∧ StOk t (50 * t) ws ∧ ∀ ψ, ms2 ws ψ = lotN (fun i => (xs ++ zs).getD i 0) t ψ)
            ⟨_, _, _, _, _, F0, _, rfl, e2, hL2, hF0, hF2, ?_, fun ψ => ?_⟩ (fun i σ' H' hi ⟨_, _, _, _, _, _, _, _, _, l, _⟩ => ⟨_, .int (xs ++ zs)[i], Evl.sq_of l, by rw [List.getElem?_map, List.getElem?_eq_getElem hi]; rfl⟩) (fun σ' H' ⟨_, _, _, _, _, _, _, _, _, l, _⟩ => ⟨_, Evl.sq_of l, by simp⟩) ?_ ?_
          · exact ⟨by simp, fun p hp => by rw [List.mem_singleton.mp hp]; decide, fun p hp => ⟨0, 0, by rw [List.mem_singleton.mp hp]; rfl, Nat.zero_le _, Nat.zero_le _⟩⟩
          · show 1 * ψ 0 0 + 0 = ψ 0 0
            omega
          · rintro t _ H1 u H2 ht ⟨o10, o11, o12, o13, o14, F, ws, rfl, e, hl0, hB, hF, so, hf⟩ ⟨rfl, hu⟩
            have hu' := hu _ (Evl.sq_of hl0)
            rw [List.getElem?_map, List.getElem?_eq_getElem ht] at hu'
            obtain rfl : V.int (xs ++ zs)[t] = u := Option.some.inj hu'
            have hval : (xs ++ zs).getD t 0 = (xs ++ zs)[t] := by rw [List.getD_eq_getElem?_getD, List.getElem?_eq_getElem ht]; rfl
            have hvt := hvb _ (List.getElem_mem ht)
            have ht14 : t < 14 := by
              rw [List.length_append] at ht
              omega
            obtain ⟨vt, hvt2⟩ : ∃ n : Nat, (xs ++ zs)[t] = n := ⟨((xs ++ zs)[t]).toNat, by omega⟩
            rw [hvt2] at hval hvt ⊢
            have hnext : ∀ ψ, lotN (fun i => (xs ++ zs).getD i 0) (t + 1) ψ = ms2 ws ψ + ms2 ws (fun c x => ψ (c + 1) (x + (vt : Int))) := fun ψ => by
              rw [hf, hf]
              show _ + lotN _ t (fun c x => ψ (c + 1) (x + (xs ++ zs).getD t 0)) = _
              rw [hval]
            refine ⟨_, rfl, F, dk2 ws, rfl, .inl hF, dk2_hash so (by omega) (by omega), fun L hL => ?_⟩
            have hFL : F ≠ L := ne_of_none hF hL
            refine ⟨_, rfl, F, .dT (dk2 ws), rfl, (upd_ne hFL).trans hF, trivial, fun od => ⟨F, od, rfl, .inr ⟨dk2 ws, upd_same, ?_⟩⟩⟩
            have hBL : HE L = none := none_ex e hL
            have e1 : Ex HE (upd (upd H2 L (.dT (dk2 ws))) F (.frz od (.dT (dk2 ws)))) := Evl.Ex.mut (Evl.Ex.trans e (Evl.Ex.new hL)) hB
            have f1 : upd (upd H2 L (.dT (dk2 ws))) F (.frz od (.dT (dk2 ws))) F = some (.frz od (.dT (dk2 ws))) := upd_same
            have l1 : upd (upd H2 L (.dT (dk2 ws))) F (.frz od (.dT (dk2 ws))) L = some (.dT (dk2 ws)) := (upd_ne (Ne.symm hFL)).trans upd_same
            have z1 : upd (upd H2 L (.dT (dk2 ws))) F (.frz od (.dT (dk2 ws))) L0 = some (.lst ((xs ++ zs).map V.int)) := (upd_ne fun z => by rw [z, hF] at hl0; cases hl0).trans ((upd_ne (ne_of_none hl0 hL)).trans hl0)
            generalize (upd (upd H2 L (.dT (dk2 ws))) F (.frz od (.dT (dk2 ws)))) = G1 at e1 f1 l1 z1
            have hL0L : L0 ≠ L := fun z => by rw [z, l1] at z1; cases z1
            refine for_n (n := ws.length) (fun i σ' H' => ∃ (o12 o13 o14 : Option V) (rows : PL), σ' = [some (.ref d), some (.ref C), o2, o3, some (.ref R), o5, some (.ref A1), o7, some (.ref sa), some (.ref F), some (.int (vt : Nat)), some (.ref L), o12, o13, o14, none, none, some (.ref B1)] ∧ Ex HE H' ∧ H' L0 = some (.lst ((xs ++ zs).map V.int)) ∧ H' F = some (.frz od (.dT (dk2 ws))) ∧ H' L = some (.dT (dk2 rows)) ∧ StOk (t + 1) (50 * t + 50) rows ∧ ∀ ψ, ms2 rows ψ = ms2 ws ψ + ms2 (ws.take i) (fun c x => ψ (c + 1) (x + (vt : Int))))
              ⟨_, _, _, ws, rfl, e1, z1, f1, l1, ⟨so.nd, so.nn, fun p hp => ?_⟩, fun ψ => by rw [List.take_zero]; show _ = _ + 0; omega⟩ (fun i σ' H' hi ⟨_, _, _, _, _, _, _, f, _⟩ => ⟨f, by rw [dk2_len]; exact hi⟩) (fun σ' H' ⟨_, _, _, _, _, _, _, f, _⟩ => ⟨f, by rw [dk2_len]; exact Nat.le_refl _⟩) ?_ ?_
            · obtain ⟨c, x, h1, h2, h3⟩ := so.key p hp
              exact ⟨c, x, h1, by omega, by omega⟩
            · rintro i _ H3 u3 H4 hi ⟨o12, o13, o14, rows, rfl, e3, z3, f3, l3, so3, hms3⟩ ⟨rfl, kk, vv, q, hkk, rfl, hq⟩
              obtain ⟨⟨p1, p2⟩, b, hab, rfl, rfl⟩ := dk2_get hkk
              have hmem := List.mem_of_getElem? hab
              obtain ⟨c, x, ecx, hc, hx⟩ := so.key _ hmem
              have hb0 : 0 ≤ b := so.nn _ hmem
              have ecx : (p1, p2) = (((c : Nat) : Int), ((x : Nat) : Int)) := ecx
              cases ecx
              have hgx : getI ws (((c : Nat) : Int), ((x : Nat) : Int)) = b := getI_mem so.nd hmem
              have hkx : (((c : Nat) : Int), ((x : Nat) : Int)) ∈ ws.map (·.1) := List.mem_map_of_mem hmem
              have htk := fun ψ => ms2_take hab ψ
              refine ⟨q, _, rfl, Evl.st_of hq, rfl, _, _, rfl, _, _, rfl, rfl, ?_⟩
              refine ⟨_, rfl, _, _, rfl, rfl, _, rfl, _, rfl, _, _, rfl, rfl, (by show 2 ≤ sizeLine; decide), fun q2 hq2 => ?_⟩
              have ecm : ((c : Nat) : Int) + 1 = ((c + 1 : Nat) : Int) := by omega
              have exm : ((x : Nat) : Int) + ((vt : Nat) : Int) = ((x + vt : Nat) : Int) := by omega
              have hq3 : upd H4 q2 (.tup [.int (((c : Nat) : Int) + 1), .int (((x : Nat) : Int) + ((vt : Nat) : Int))]) q2 = some (.tup ((pk (((c + 1 : Nat) : Int), ((x + vt : Nat) : Int))).map kV)) := by rw [upd_same, ecm, exm]; rfl
              have e6 : Ex H4 (upd H4 q2 (.tup [.int (((c : Nat) : Int) + 1), .int (((x : Nat) : Int) + ((vt : Nat) : Int))])) := Evl.Ex.new hq2
              dsimp only [gName]
              refine re_st [some (.ref d), some (.ref C), o2, o3, some (.ref R), o5, some (.ref A1), o7, some (.ref sa), some (.ref F), some (.int (vt : Nat)), some (.ref L), some (.int (c : Nat)), some (.int (x : Nat)), some (.ref q2), none, none, some (.ref B1)] rfl ?_
              show sDPut _ _ _ _ _ (upd H4 q2 (.tup [.int (((c : Nat) : Int) + 1), .int (((x : Nat) : Int) + ((vt : Nat) : Int))]))
              generalize (upd H4 q2 (.tup [.int (((c : Nat) : Int) + 1), .int (((x : Nat) : Int) + ((vt : Nat) : Int))])) = G6 at hq3 e6 ⊢
              have l6 := e6 _ _ l3
              have f6 := e6 _ _ f3
              have z6 := e6 _ _ z3
              have e06 := Evl.Ex.trans e3 e6
              have hlen := so3.len
              have hlen2 : (t + 1 + 1) * (50 * t + 50 + 1) ≤ 15 * 701 := Nat.mul_le_mul (by omega) (by omega)
              refine ⟨_, rfl, L, rfl, .inr ⟨_, .inl l6⟩, _, rfl, valV (dk2 rows) (pk (((c + 1 : Nat) : Int), ((x + vt : Nat) : Int))), .inr ⟨dk2 rows, pk (((c + 1 : Nat) : Int), ((x + vt : Nat) : Int)), q2, .inl l6, rfl, hq3, rfl⟩, ?_⟩
              refine ⟨_, rfl, _, rfl, _, rfl, (by show 2 ≤ sizeLine; decide), fun q4 hq4 => ?_⟩
              have e7 : Ex G6 (upd G6 q4 (.tup [.int (c : Nat), .int (x : Nat)])) := Evl.Ex.new hq4
              have hq5 : upd G6 q4 (.tup [.int (c : Nat), .int (x : Nat)]) q4 = some (.tup ((pk (((c : Nat) : Int), ((x : Nat) : Int))).map kV)) := upd_same
              have hq7 := e7 _ _ hq3
              have f7 := e7 _ _ f6
              have l7 := e7 _ _ l6
              have z7 := e7 _ _ z6
              have e07 := Evl.Ex.trans e06 e7
              generalize (upd G6 q4 (.tup [.int (c : Nat), .int (x : Nat)])) = G7 at hq5 hq7 f7 l7 z7 e07
              refine ⟨F, _, rfl, .inr ⟨dk2 ws, pk (((c : Nat) : Int), ((x : Nat) : Int)), q4, .inr ⟨od, f7⟩, rfl, hq5, (dk2_some hkx).symm⟩, ?_⟩
              rw [hgx]
              refine ⟨getI rows (((c + 1 : Nat) : Int), ((x + vt : Nat) : Int)), b, dk2_val _ _, rfl, ?_⟩
              refine ⟨_, rfl, _, rfl, L, _, rfl, .inr ⟨dk2 rows, pk (((c + 1 : Nat) : Int), ((x + vt : Nat) : Int)), q2, l7, rfl, hq7, Evl.sz_lt (by rw [dk2_len]; omega), rfl⟩, ?_⟩
              rw [dk2_put _ _ so3.nd]
              refine ⟨_, _, _, bump rows (((c + 1 : Nat) : Int), ((x + vt : Nat) : Int)) b, rfl, Evl.Ex.mut e07 hBL, (upd_ne hL0L).trans z7, (upd_ne hFL).trans f7, upd_same, stOk_put so3 (by omega) (by omega) hb0, fun ψ => ?_⟩
              rw [ms2_bump, hms3, htk, ← exm]
              exact Int.add_assoc _ _ _
            · rintro _ H3 ⟨o12, o13, o14, rows, rfl, e3, z3, f3, l3, so3, hms3⟩
              rw [List.take_length] at hms3
              exact ⟨_, rfl, _, _, _, _, _, L, rows, rfl, e3, z3, hBL, l3, stOk_up so3 (by omega), fun ψ => by rw [hms3, hnext]⟩
          · rintro _ H1 ⟨o10, o11, o12, o13, o14, F, ws, rfl, e, hL, hB, hF, so, hf⟩
            have m1 : Mo none T9 HE H1 := Mo.of e
            refine ⟨(mE.trans (Mo.of e)).2 hT, fun f1 c1 H2 m2 hT2 hn hf1 hc1 => ?_⟩
            have m02 : Mo none T9 HE H2 := m1.trans m2
            have st : ∀ {H' : Hp}, Mo none T9 HE H' → H' A1 = some (.lst (xs.map V.int)) ∧ H' B1 = some (.lst (zs.map V.int)) := fun m => ⟨m.1 _ _ (fun z => nomatch z) hAE (fun _ z => nomatch z), m.1 _ _ (fun z => nomatch z) hBE (fun _ z => nomatch z)⟩
            have hF2 : H2 F = some (.dT (dk2 ws)) := m2.1 _ _ (fun z => nomatch z) hF (fun _ z => nomatch z)
            refine ⟨_, rfl, F, .dT (dk2 ws), rfl, hF2, trivial, fun od => ⟨F, od, rfl, .inr ⟨dk2 ws, upd_same, fun D hD => ?_⟩⟩⟩
            have hf1F : f1 ≠ F := fun z => by rw [z, hF2] at hf1; cases hf1
            have m03 : Mo none T9 HE (upd H2 F (.frz od (.dT (dk2 ws)))) := Mo.frzT m02 hB hF2
            have f3 : upd H2 F (.frz od (.dT (dk2 ws))) F = some (.frz od (.dT (dk2 ws))) := upd_same
            have hf3 := (upd_ne (o := .frz od (.dT (dk2 ws))) hf1F).trans hf1
            have hc3 : ∀ {q : Str}, H2 c1 = some (CodeO c1 q) → upd H2 F (.frz od (.dT (dk2 ws))) c1 = some (CodeO c1 q) := fun hc => (upd_ne fun z => by rw [z, hF2] at hc; cases hc).trans hc
            have hc3 := hc3 hc1
            generalize (upd H2 F (.frz od (.dT (dk2 ws)))) = G3 at m03 f3 hf3 hc3 hD ⊢
            have cm : ∀ (i : Int) (n : Nat), n ≤ 14 → CMul i (n : Nat) := fun i n h => .inr ⟨by omega, by omega⟩
            have hLO : LOk P w K mg base 1 f1 (LF.made (cxOf C8.CX0 P w K mg base N__law_summed "_law_summed" (C8.fnScope s__law_summed) f (.ref c) A outer s H E).nox qFar farA farB0 farS c1) ["amount"] ["one", "other"] (farSp K) := by
              refine lok_of (N := ["amount", "one", "other"]) (nscope_by (by dsimp only [LF.made]; decide +kernel)) ?_ (fun ws vs H Q h => ?_) (fun A outer s H vs ws Q hr hf hc hw h => ?_)
              · intro pm ctv us hu
                match us, hu with
                | [u], _ => rfl
              · obtain ⟨_, _, _, _, _, _, rfl, _⟩ := h; rfl
              · obtain ⟨a, b, xs, ys, x, rfl, rfl, ha, hb, hx, hy, k⟩ := h
                refine ⟨_, pe_callB call_abs (by rfl) T.n_abs (by decide +kernel) (pa_cons (pe_op op_sub (pe_op op_mul (pv 0) (pe_op op_add (pe_callB call_len_seq (by rfl) T.n_len (by decide +kernel) (pa_cons (pv 1) pa_nil)) (pe_callB call_len_seq (by rfl) T.n_len (by decide +kernel) (pa_cons (pv 2) pa_nil)))) (pe_op op_mul (pe_callB (cr_sum rfl) (by rfl) T.n_sum (by decide +kernel) (pa_cons (pe_op op_cat (pv 1) (pv 2)) pa_nil)) (pe_callB call_len_seq (by rfl) T.n_len (by decide +kernel) (pa_cons (pv 1) pa_nil)))) pa_nil), ?_⟩
                have lx : (xs.map V.int).length = xs.length := List.length_map ..
                have ly : (ys.map V.int).length = ys.length := List.length_map ..
                refine ⟨_, rfl, _, rfl, a, _, rfl, .inl (Evl.sq_of ha), _, rfl, b, _, rfl, .inl (Evl.sq_of hb), _, _, rfl, rfl, _, _, rfl, rfl, .inr ⟨by rw [lx, ly]; omega, by rw [lx, ly]; omega⟩, _, rfl, _, rfl, a, b, _, _, rfl, rfl, ha, hb, by rw [lx, ly]; exact Nat.le_trans (show xs.length + ys.length ≤ 14 by omega) (by decide), fun p hp => ⟨p, xs ++ ys, rfl, Evl.sq_of (by rw [upd_same, List.map_append]), _, rfl, a, _, rfl, .inl (Evl.sq_of (Evl.Ex.new hp _ _ ha)), _, _, rfl, rfl, .inr ⟨by rw [lx]; omega, by rw [lx]; omega⟩, _, _, rfl, rfl, _, rfl, ?_⟩⟩
                show Q (V.int (abz (x * (((xs.map V.int).length : Nat) + ((ys.map V.int).length : Nat)) - (xs ++ ys).sum * ((xs.map V.int).length : Nat)))) _
                rw [lx, ly, show ((xs.length : Nat) : Int) + ((ys.length : Nat) : Int) = (((xs ++ ys).length : Nat) : Int) by rw [List.length_append]; omega]
                exact k _ (Evl.Ex.new hp)
            have hLx : (xs.map V.int).length = xs.length := List.length_map ..
            have hLz : (zs.map V.int).length = zs.length := List.length_map ..
            refine lc_n (n := ws.length) (fun i acc H' => ∃ ns : List Int, acc = ns.map V.int ∧ ns.length ≤ i ∧ ns.sum = ms2 (ws.take i) (fun c x => if c = xs.length then (if farB xs zs x then 1 else 0) else 0) ∧ Ex G3 H') ⟨[], rfl, Nat.le_refl _, rfl, Evl.Ex.new hD⟩ (fun i acc H' hi ⟨_, _, _, _, e⟩ => ⟨e _ _ f3, by rw [dk2_len]; exact hi⟩) (fun acc H' ⟨_, _, _, _, e⟩ => ⟨e _ _ f3, by rw [dk2_len]; exact Nat.le_refl _⟩) (fun i acc H4 u H5 hi hacc p hy => ?_) (fun acc H4 hacc p => ?_)
            · obtain ⟨rfl, kk, vv, q, hkk, rfl, hq⟩ := hy
              obtain ⟨ns, rfl, hnl, hns, e4⟩ := p
              obtain ⟨⟨p1, p2⟩, b, hab, rfl, rfl⟩ := dk2_get hkk
              have hmem := List.mem_of_getElem? hab
              obtain ⟨c2, x, ecx, hc, hx⟩ := so.key _ hmem
              have ecx : (p1, p2) = (((c2 : Nat) : Int), ((x : Nat) : Int)) := ecx
              cases ecx
              have hgx : getI ws (((c2 : Nat) : Int), ((x : Nat) : Int)) = b := getI_mem so.nd hmem
              have hkx : (((c2 : Nat) : Int), ((x : Nat) : Int)) ∈ ws.map (·.1) := List.mem_map_of_mem hmem
              have htk := ms2_take hab (fun c x => if c = xs.length then (if farB xs zs x then 1 else 0) else 0)
              rw [← hns] at htk
              have s5 := st (m03.trans (Mo.of e4))
              have hqt : SqT K H5 q [.int (c2 : Nat), .int (x : Nat)] := Evl.st_of hq
              refine ⟨rfl, _, rfl, _, _, _, _, rfl, rfl, hqt, atI_nat (j := 0) rfl, _, rfl, A1, _, rfl, .inl (Evl.sq_of s5.1), rfl, _, rfl, ?_⟩
              rw [decV, hLx]
              by_cases hc1 : c2 = xs.length
              · rw [decide_eq_true (by omega)]
                have hx1 := (st (m03.trans (Mo.of e4)))
                refine iteT ⟨f1, c1, rfl, e4 _ _ hf3, hLO, _, rfl, _, _, _, _, rfl, rfl, hqt, atI_nat (j := 1) rfl, e4 _ _ hf3, e4 _ _ hc3, A1, B1, xs, zs, ((x : Nat) : Int), rfl, rfl, hx1.1, hx1.2, by omega, by omega, fun H6 e6 => ?_⟩
                have e46 := Evl.Ex.trans e4 e6
                have s6 := st (m03.trans (Mo.of e46))
                refine ⟨f1, c1, rfl, e46 _ _ hf3, hLO, _, rfl, A1, xs, rfl, Evl.sq_of s6.1, e46 _ _ hf3, e46 _ _ hc3, A1, B1, xs, zs, xs.sum, rfl, rfl, s6.1, s6.2, by omega, by omega, fun H7 e7 => ?_⟩
                have e47 := Evl.Ex.trans e46 e7
                have e57 := Evl.Ex.trans e6 e7
                refine ⟨_, _, rfl, rfl, _, rfl, ?_⟩
                rw [show decide (farV xs zs xs.sum ≤ farV xs zs ((x : Nat) : Int)) = farB xs zs ((x : Nat) : Int) from rfl]
                rw [if_pos hc1] at htk
                cases hfb : farB xs zs ((x : Nat) : Int) with
                | true =>
                  rw [hfb, if_pos rfl] at htk
                  refine iteT ⟨_, rfl, _, rfl, F, _, rfl, .inr ⟨dk2 ws, pk (((c2 : Nat) : Int), ((x : Nat) : Int)), q, .inr ⟨od, e47 _ _ f3⟩, rfl, e57 _ _ hq, (dk2_some hkx).symm⟩, ?_⟩
                  rw [hgx]
                  have hD7 := e57 _ _ hacc
                  have hwl := so.len
                  have hwl2 : ((xs ++ zs).length + 1) * (50 * (xs ++ zs).length + 1) ≤ 15 * 701 := Nat.mul_le_mul (by rw [List.length_append]; omega) (by rw [List.length_append]; omega)
                  refine App.of hD7 (by rw [List.length_map]; omega) ⟨ns ++ [b], by simp, by simp; omega, ?_, Evl.Ex.mut e47 hD⟩
                  rw [htk, List.sum_append]
                  simp
                | false =>
                  rw [hfb] at htk
                  refine iteF ⟨_, e57 _ _ hacc, ns, rfl, by omega, ?_, e47⟩
                  rw [htk]
                  simp
              · rw [decide_eq_false (by omega)]
                rw [if_neg hc1] at htk
                refine iteF ⟨_, hacc, ns, rfl, by omega, ?_, e4⟩
                rw [htk]
                simp
            · obtain ⟨ns, rfl, hnl, hns, e4⟩ := p
              rw [List.take_length, hf] at hns
              refine ⟨D, ns, rfl, Evl.sq_of hacc, ?_⟩
              have m04 := m03.trans (Mo.of e4)
              have s4 := st m04
              have mF := mE.trans m04.any
              have hdF := Mo.dice m04 hdE
              refine ⟨_, rfl, _, rfl, A1, B1, xs, zs, rfl, Evl.sq_of s4.1, Evl.sq_of s4.2, hx7.1, hx7.2, hz7.1, hz7.2, mF.2 hT, fun v5 H5 m5 h5 => ?_⟩
              have s5 := st (m04.trans m5)
              have hb0 : 0 ≤ ns.sum := by
                rw [hns, ← hf]
                have := ms2_mono (ws := ws) (f := fun _ _ => 0) (g := fun c x => if c = xs.length then (if farB xs zs x then 1 else 0) else 0) so.nn fun c x => by
                  show (0 : Int) ≤ (if c = xs.length then (if farB xs zs x then 1 else 0) else 0)
                  split
                  · split <;> decide
                  · decide
                rw [show ms2 ws (fun _ _ => 0) = 0 from ms_zero ws] at this
                exact this
              have hb1 : ns.sum ≤ (bin (xs ++ zs).length xs.length : Nat) := by
                rw [hns, ← hf]
                have := ms2_mono (ws := ws) (f := fun c x => if c = xs.length then (if farB xs zs x then 1 else 0) else 0) (g := fun c x => if c = xs.length then 1 else 0) so.nn fun c x => by
                  show (if c = xs.length then (if farB xs zs x then 1 else 0) else 0) ≤ (if c = xs.length then (1 : Int) else 0)
                  split
                  · split <;> decide
                  · decide
                rw [hf (fun c x => if c = xs.length then 1 else 0)] at this
                have e := subs_const (fun i => (xs ++ zs).getD i 0) (xs ++ zs).length xs.length 1
                unfold subs at e
                rw [e, Int.mul_one] at this
                exact this
              have hN14 : (xs ++ zs).length ≤ 14 := by rw [List.length_append]; omega
              have hb64 := bin_lt (n := (xs ++ zs).length) (k := xs.length) (by omega)
              have hbp := bin_pos (n := (xs ++ zs).length) (k := xs.length) (by rw [List.length_append]; omega)
              refine ⟨_, rfl, _, rfl, A1, _, rfl, .inl (Evl.sq_of s5.1), _, rfl, B1, _, rfl, .inl (Evl.sq_of s5.2), _, _, rfl, rfl, _, rfl, A1, _, rfl, .inl (Evl.sq_of s5.1), (xs ++ zs).length, xs.length, ?_, ⟨by omega, by omega⟩, ns.sum, _, rfl, (by show ((bin (xs ++ zs).length xs.length : Nat) : Int) ≠ 0; omega), (Lt2.nn (a := 64) hb0 (Int.lt_of_le_of_lt hb1 hb64)).up (by decide), (Lt2.nn (a := 64) (by omega) hb64).up (by decide), fun v6 H6 e6 h6 => ?_⟩
              · show [V.int (((xs.map V.int).length : Nat) + ((zs.map V.int).length : Nat)), V.int ((xs.map V.int).length : Nat)] = _
                rw [hLx, hLz, List.length_append]
                rfl
              refine ⟨_, _, (h5.ex e6).dp, h6.dp, (Flat.qD _).shaped (by decide), (Flat.qD _).shaped (by decide), ?_⟩
              rw [qD_eqv, hns]
              rw [decide_eq_true (by rfl)]
              exact k H6 ((mF.trans m5.any).trans (Mo.of e6)) ((Mo.dice m5 hdF).ex e6)
end
end KK
end
/-! K37 -/
section
set_option Elab.async false
set_option linter.all false
set_option maxRecDepth 100000
set_option maxHeartbeats 4000000
namespace KK
open PySem PySem.Spec PyProof.Rows L2 KM LX LamX NdefX
/-! ### walks: the numbers stay small -/
def BB : Nat := 2329089562800
theorem dvdBB : ∀ s : Nat, s < 31 → 0 < s → s ∣ BB := by decide
theorem bbL (t : Nat) (h : t ≤ 20) : Ln (BB ^ t) 1000 := by
  have h2 : BB ^ t ≤ BB ^ 20 := Nat.pow_le_pow_right (by decide) h
  have h3 : BB ^ 20 < 2 ^ 900 := by decide +kernel
  have h4 : Ln (BB ^ t) 900 := by
    unfold Ln
    exact Nat.lt_of_le_of_lt h2 h3
  exact Ln.up h4 (by decide)
theorem bbP (t : Nat) : 0 < BB ^ t := Nat.pow_pos (by decide)
/-- rows of parts of which each is one in all -/
structure RwS (m : Nat) (R : Nat → Nat → Rat) : Prop where
  row : ∀ j, j < m → Row m (R j)
  dv : ∀ j k, j < m → k < m → Dv BB (R j k)
theorem smB {q : Rat} {t : Nat} (h : t ≤ 20) (d : Dv (BB ^ t) q) (h0 : 0 ≤ q) (h1 : q ≤ 1) : sm q := sm_unit (bbP t) d h0 h1 (bbL t h)
theorem dvB1 {q : Rat} (d : Dv BB q) : Dv (BB ^ 1) q := by rw [Nat.pow_one]; exact d
structure VeS (m a : Nat) (v : Nat → Rat) : Prop where
  row : Row m v
  dv : ∀ i, i < m → Dv (BB ^ a) (v i)
theorem VeS.stp {m a : Nat} {R : Nat → Nat → Rat} {v : Nat → Rat} (h : VeS m a v) (r : RwS m R) : VeS m (a + 1) (stp m R v) :=
  ⟨h.row.stp r.row, fun i hi => Dv.sumq fun j hj => by
    have := Dv.mul (h.dv j hj) (r.dv j i hj hi)
    rw [Nat.pow_succ]
    exact this⟩
theorem VeS.itr {m a : Nat} {R : Nat → Nat → Rat} {v : Nat → Rat} (h : VeS m a v) (r : RwS m R) : ∀ t, VeS m (a + t) (itr m R v t)
  | 0 => h
  | t + 1 => (VeS.itr h r t).stp r
theorem VeS.sm {m a : Nat} {v : Nat → Rat} (h : VeS m a v) (ha : a ≤ 20) {i : Nat} (hi : i < m) : sm (v i) := smB ha (h.dv i hi) (h.row.nn i hi) (h.row.le hi)
theorem VeS.part {m a : Nat} {v : Nat → Rat} (h : VeS m a v) (ha : a ≤ 20) {i : Nat} (hi : i ≤ m) : KM.sm (sumq i v) := smB ha (Dv.sumq fun j hj => h.dv j (by omega)) (h.row.part hi).1 (h.row.part hi).2
theorem VeS.pr {m a : Nat} {R : Nat → Nat → Rat} {v : Nat → Rat} (h : VeS m a v) (r : RwS m R) {i k : Nat} (hi : i ≤ m) (hk : k < m) : 0 ≤ sumq i (fun j => v j * R j k) ∧ sumq i (fun j => v j * R j k) ≤ 1 := by
  have nn : ∀ j, j < m → 0 ≤ v j * R j k := fun j hj => Rat.mul_nonneg (h.row.nn j hj) ((r.row j hj).nn k hk)
  refine ⟨sumq_nonneg fun j hj => nn j (by omega), ?_⟩
  have h1 := sumq_le (f := fun j => v j * R j k) nn hi
  have h2 := (h.stp r).row.le hk
  have h3 : sumq m (fun j => v j * R j k) = KM.stp m R v k := rfl
  rw [← h3] at h2
  grind
theorem VeS.st {m a : Nat} {R : Nat → Nat → Rat} {v : Nat → Rat} (h : VeS m a v) (r : RwS m R) (ha : a + 1 ≤ 20) : StSm m R v := by
  have dv : ∀ j k, j < m → k < m → Dv (BB ^ (a + 1)) (v j * R j k) := fun j k hj hk => by
    have := Dv.mul (h.dv j hj) (r.dv j k hj hk)
    rw [Nat.pow_succ]
    exact this
  refine ⟨fun j hj => h.sm (by omega) hj, fun j k hj hk => smB (t := 1) (by decide) (dvB1 (r.dv j k hj hk)) ((r.row j hj).nn k hk) ((r.row j hj).le hk), fun j k hj hk => ?_, fun i k hi hk => ?_⟩
  · have u := unit_mul (h.row.nn j hj) (h.row.le hj) ((r.row j hj).nn k hk) ((r.row j hj).le hk)
    exact smB ha (dv j k hj hk) u.1 u.2
  · have u := h.pr r hi hk
    exact smB ha (Dv.sumq fun j hj => dv j k (by omega) hk) u.1 u.2
theorem unitS {m k : Nat} (h : k < m) : VeS m 0 (unit k) := ⟨Row.unit h, fun i _ => by
  unfold unit
  split
  · exact Dv.one
  · exact Dv.zero⟩
end KK
end
/-! K38 -/
section
set_option Elab.async false
set_option linter.all false
set_option maxRecDepth 100000
set_option maxHeartbeats 4000000
namespace KK
open PySem PySem.Spec PyProof.Rows L2 KM LX LamX NdefX
theorem occ_z : Builtin.Str.occurrences ("z" : Str) ("z" : Str) 0 ("z" : Str).length 1 = [0] := by decide +kernel
theorem div_sum (s : Nat) (f : Nat → Int) : ∀ n, sumq n (fun j => Rat.divInt (f j) (s : Nat)) = Rat.divInt (sumr n f) (s : Nat)
  | 0 => by show (0 : Rat) = Rat.divInt 0 _; rw [Rat.zero_divInt]
  | n + 1 => by
    rw [sumq_s, div_sum s f n, div_add]
    rfl
theorem list_sumr : ∀ (l : List Int), l.sum = sumr l.length fun j => l.getD j 0 := fun l => by
  have key : ∀ (l : List Int), (∀ n, n ≤ l.length → (l.take n).sum = sumr n fun j => l.getD j 0) := fun l n => by
    induction n with
    | zero => intro _; rfl
    | succ n ih =>
      intro h
      rw [List.take_add_one, List.getElem?_eq_getElem (by omega), List.sum_append, ih (by omega)]
      show _ = sumr n _ + l.getD n 0
      rw [List.getD_eq_getElem?_getD, List.getElem?_eq_getElem (by omega)]
      simp
  have := key l l.length (Nat.le_refl _)
  rw [List.take_length] at this
  exact this
theorem sum_bd : ∀ {l : List Int}, (∀ x ∈ l, 0 ≤ x ∧ x ≤ 5) → 0 ≤ l.sum ∧ l.sum ≤ 5 * l.length ∧ ∀ x ∈ l, x ≤ l.sum
  | [], _ => ⟨by simp, by simp, fun x hx => absurd hx List.not_mem_nil⟩
  | a :: l, h => by
    obtain ⟨h1, h2, h3⟩ := sum_bd (l := l) fun x hx => h x (List.mem_cons_of_mem _ hx)
    have ha := h a List.mem_cons_self
    rw [List.sum_cons, List.length_cons]
    refine ⟨by omega, by omega, fun x hx => ?_⟩
    rcases List.mem_cons.mp hx with rfl | hx
    · omega
    · have := h3 x hx
      omega
theorem w_row {l : List Int} {m s : Nat} (hl : l.length = m) (h : ∀ x ∈ l, 0 ≤ x ∧ x ≤ 5) (hs : l.sum = (s : Nat)) (s0 : 0 < s) (s30 : s ≤ 30) : Row m (fun j => Rat.divInt (l.getD j 0) (s : Nat)) ∧ ∀ j, Dv BB (Rat.divInt (l.getD j 0) (s : Nat)) := by
  refine ⟨⟨fun i hi => ?_, ?_⟩, fun j => Dv.of_dvd (Dv.div s0) (dvdBB s (by omega) s0)⟩
  · have hm : l.getD i 0 ∈ l := by
      rw [List.getD_eq_getElem?_getD, List.getElem?_eq_getElem (by omega)]
      exact List.getElem_mem _
    have b := sum_bd h
    exact (dq_le (M := s) (B := 1) s0 (h _ hm).1 (by have := b.2.2 _ hm; omega)).1
  · rw [div_sum, ← hl, ← list_sumr, hs]
    have e : Rat.divInt (((s : Nat) : Int) * 1) (((s : Nat) : Int) * 1) = Rat.divInt 1 1 := Rat.divInt_mul_left (by omega)
    rw [Int.mul_one] at e
    rw [e]
    rfl
theorem cut_tail (xs : List V) (h : xs ≠ []) : cutV xs (some 1) none = xs.tail := by
  match xs, h with
  | x :: xs, _ =>
    unfold cutV HT.sIx
    have e : min (1 : Int).toNat (x :: xs).length = 1 := by simp
    simp
section
variable {P : Program} {w : World} {K : PySem.W.Frag} {mg : Str → Option Value} {base : Heap} {T9 : LX.TL} {CW CH : Addr}
theorem RowsOf.tail {H : Hp} {xs : List V} {k m : Nat} {R : Nat → Nat → Rat} (h : RowsOf K H xs (k + 1) m R) : RowsOf K H xs.tail k m (fun i => R (i + 1)) :=
  ⟨by rw [List.length_tail, h.1]; rfl, fun i v g => h.2 (i + 1) v (by
    match xs, g with
    | x :: xs, g => exact g)⟩
theorem RowsOf.congr {H : Hp} {xs : List V} {k m : Nat} {R R' : Nat → Nat → Rat} (h : RowsOf K H xs k m R) (e : ∀ i, i < k → R i = R' i) : RowsOf K H xs k m R' :=
  ⟨h.1, fun i v g => by
    obtain ⟨t, ys, h1, h2, h3⟩ := h.2 i v g
    have hi : i < k := by rw [← h.1]; exact (List.getElem?_eq_some_iff.mp g).1
    rw [e i hi] at h3
    exact ⟨t, ys, h1, h2, h3⟩⟩
theorem mk_mo {T : LX.TL} {H H' : Hp} {x dx : Addr} {o o' : HO} (hx : H x = none) (hdx : H dx = none) (hne : dx ≠ x) (m : Mo (some x) T (upd (upd H dx o) x o') H') : Mo none T H H' := by
  have e1 : Ex H (upd H dx o) := Evl.Ex.new hdx
  have e2 : Ex (upd H dx o) (upd (upd H dx o) x o') := Evl.Ex.new ((upd_ne (Ne.symm hne)).trans hx)
  have m0 : Mo none T H (upd (upd H dx o) x o') := Mo.of (Evl.Ex.trans e1 e2)
  exact ⟨fun b u n hb nt => m.1 b u (fun z => by rw [Option.some.inj z, hx] at hb; cases hb) (m0.1 b u n hb nt) nt, fun t => m.2 (m0.2 t)⟩
theorem RwS.ok {m : Nat} {R : Nat → Nat → Rat} (r : RwS m R) (h1 : 1 ≤ m) (h2 : m ≤ 100) : RwOk m R :=
  ⟨h1, h2, fun i j hi hj => (r.row i hi).nn j hj, fun i hi => (r.row i hi).one, fun i j hi hj => smB (t := 1) (by decide) (dvB1 (r.dv i j hi hj)) ((r.row i hi).nn j hj) ((r.row i hi).le hj), fun i j hi hj => smB (t := 1) (by decide) (Dv.sumq fun k hk => dvB1 (r.dv i k hi (by omega))) ((r.row i hi).part hj).1 ((r.row i hi).part hj).2⟩
theorem WalkAt.mo {T : LX.TL} {H H' : Hp} {v : V} {m : Nat} {R : Nat → Nat → Rat} (h : WalkAt K CW H v m R) (e : Mo none T H H') : WalkAt K CW H' v m R := by
  obtain ⟨a, dx, Fl, ys, h1, h2, h3, h4⟩ := h
  exact ⟨a, dx, Fl, ys, h1, e.1 _ _ (fun z => nomatch z) h2 (fun _ z => nomatch z), Mo.sl e h3, h4.kt (Mo.kt e)⟩
theorem ones {H : Hp} {q1 q2 : Addr} (h1 : PtAt K H (.ref q1) 1) (h2 : SqT K H q2 [.ref q1]) (m : Nat) : RowsOf K H (List.replicate m [V.ref q2]).flatten m 1 (fun _ _ => 1) := by
  induction m with
  | zero => exact RowsOf.nil
  | succ n ih =>
    rw [List.replicate_succ', List.flatten_append]
    exact RowsOf.snoc ih h2 (Pq.snoc Pq.nil h1)
abbrev s__law_walked : Stmt := top 75
abbrev N__law_walked : List Str := ["dice", "many", "long", "rows", "k", "j", "weights", "first", "here", "turn", "later", "amount", "walk", "hidden", "due", "weight"]
theorem sc__law_walked : FnScope N__law_walked ["dice"] (C8.fnScope s__law_walked) := C8.fnScope_by (by decide +kernel)
-- slots: dice=0c many=1 long=2 rows=3 k=4 j=5 weights=6c first=7 here=8 turn=9 later=10 amount=11 walk=12 hidden=13 due=14 weight=15
theorem k__law_walked {f : Addr} {fd : FuncData} (T : Tx K mg) (Df : C8.Def K mg "_law_walked" s__law_walked f fd) (bf : Binds K fd ["dice"] []) (c__law_roll : C8.Cal P w K mg base 1 "_law_roll" spRoll []) (c_part : C8.Cal P w K mg base 2 "part" (spPart K) []) (c_plus : C8.Cal P w K mg base 3 "plus" (spTwo K (· + ·)) []) (c_times : C8.Cal P w K mg base 3 "times" (spTwo K (· * ·)) [])
    (m_Walk : C8.Mak P w K mg base 7 "Walk" CW (spWalkInit K T9 CW) []) (m_Hidden : C8.Mak P w K mg base 7 "Hidden" CH (spHiddenInit K T9 CH) []) (mt_Walk_after : C8.Met P w K mg base 6 CW "after" (spAfter K CW) []) (mt_Hidden_ahead : C8.Met P w K mg base 5 CH "ahead" (spHAhead K CH) []) (mt_Hidden_chance : C8.Met P w K mg base 6 CH "chance" (spHChance K CH) []) :
    C8.Cal P w K mg base 9 "_law_walked" (spPart1 T9) [] := by
  refine C8.cal0 Df bf .nil sc__law_walked (fun vs H Q E h => ?_) (fun cdv A outer s H vs Q E hr h => ?_)
  · obtain ⟨_, rfl, _⟩ := h; rfl
  · obtain ⟨d, rfl, hd, hT, k⟩ := h
    refine ⟨_, (pss_cons (ps_par (i := 1) (j := 2) (by rfl) sc__law_walked.nd rfl rfl (by decide) rfl rfl (pa_cons (pe_op op_add pe_int (C8.pe_c c__law_roll hr (by omega) (by rfl) (pa_cons (pv 0) (pa_cons pe_int pa_nil)))) (pa_cons (C8.pe_c c__law_roll hr (by omega) (by rfl) (pa_cons (pv 0) (pa_cons pe_int pa_nil))) pa_nil)) (by rfl))
      (pss_cons (ps_set (i := 3) sc__law_walked.nd rfl (Or.inl rfl) (pe_lst pa_nil))
      (pss_cons (ps_for PassesOwn.never rfl (pi_range1 (by rfl) T.n_range (pa_cons (pe_op op_add (pv 1) pe_int) pa_nil)) (pg_name (i := 4) sc__law_walked.nd rfl (Or.inl rfl) (by exact Or.inl rfl))
      (pss_cons (ps_set (i := 6) sc__law_walked.nd rfl (Or.inr rfl) (pe_lc (own := [("j", 5)]) rfl sc__law_walked.nd (pi_range1 (by rfl) T.n_range (pa_cons (pv 1) pa_nil)) (by first | exact blkOk_by (N := N__law_walked) (sc := C8.fnScope s__law_walked) (by decide +kernel) | exact blkOk_by (by rfl)) (fun _ _ _ _ _ => castPG (pg_name (i := 5) sc__law_walked.nd rfl (Or.inl rfl) (by first | exact Or.inr rfl | exact Or.inl rfl)) (by first | (dsimp only [Cx.blk]; done) | rfl)) (fun _ _ _ _ _ => castPTs (pts_nil) (by first | (dsimp only [Cx.blk]; done) | rfl)) (fun _ _ _ _ _ => castPE (C8.pe_c c__law_roll hr (by omega) (by rfl) (pa_cons (pv 0) (pa_cons pe_int pa_nil))) (by first | (dsimp only [Cx.blk]; done) | rfl))))
        (pss_cons (ps_asg (pe_op op_add pe_int (C8.pe_c c__law_roll hr (by omega) (by rfl) (pa_cons (pv 0) (pa_cons pe_int pa_nil)))) (pg_sub (pv 6) (C8.pe_c c__law_roll hr (by omega) (by rfl) (pa_cons (pv 0) (pa_cons (pv 1) pa_nil))) set_list))
        (pss_one (ps_expr (pe_bm PySem.F.plainAttrs_list PySem.F.slot_list_append PySem.F.type_list_append mt_append (pv 3) (pa_cons (pe_callTy call_tuple_of (by rfl) T.n_tuple (by decide +kernel) (pa_cons (pe_lc (own := [("weight", 15)]) rfl sc__law_walked.nd (pi_list (pv 6)) (by first | exact blkOk_by (N := N__law_walked) (sc := C8.fnScope s__law_walked) (by decide +kernel) | exact blkOk_by (by rfl)) (fun _ _ _ _ _ => castPG (pg_name (i := 15) sc__law_walked.nd rfl (Or.inl rfl) (by first | exact Or.inr rfl | exact Or.inl rfl)) (by first | (dsimp only [Cx.blk]; done) | rfl)) (fun _ _ _ _ _ => castPTs (pts_nil) (by first | (dsimp only [Cx.blk]; done) | rfl)) (fun _ _ _ _ _ => castPE (C8.pe_c c_part hr (by omega) (by rfl) (pa_cons (pv 15) (pa_cons (pe_callB (cr_sum rfl) (by rfl) T.n_sum (by decide +kernel) (pa_cons (pv 6) pa_nil)) pa_nil))) (by first | (dsimp only [Cx.blk]; done) | rfl))) pa_nil)) pa_nil)))))))
      (pss_cons (ps_par (i := 7) (j := 3) (by rfl) sc__law_walked.nd rfl rfl (by decide) rfl rfl (pa_cons (pe_ix ix_list (pv 3) pe_int (fun _ _ => rfl)) (pa_cons (pe_slice sl_list (pv 3) (po_some pe_int) po_none) pa_nil)) (by rfl))
      (pss_cons (ps_set (i := 8) sc__law_walked.nd rfl (Or.inl rfl) (pe_callTy call_list_of (by rfl) T.n_list (by decide +kernel) (pa_cons (pv 7) pa_nil)))
      (pss_cons (ps_for PassesOwn.never rfl (pi_range1 (by rfl) T.n_range (pa_cons (pv 2) pa_nil)) (pg_name (i := 9) sc__law_walked.nd rfl (Or.inl rfl) (by exact Or.inl rfl))
      (pss_cons (ps_set (i := 10) sc__law_walked.nd rfl (Or.inl rfl) (pe_lst pa_nil))
        (pss_cons (ps_for PassesOwn.never rfl (pi_range1 (by rfl) T.n_range (pa_cons (pv 1) pa_nil)) (pg_name (i := 4) sc__law_walked.nd rfl (Or.inl rfl) (by exact Or.inl rfl))
        (pss_cons (ps_set (i := 11) sc__law_walked.nd rfl (Or.inl rfl) (pe_tup (pa_cons pe_int (pa_cons pe_int pa_nil))))
          (pss_cons (ps_for PassesOwn.never rfl (pi_range1 (by rfl) T.n_range (pa_cons (pv 1) pa_nil)) (pg_name (i := 5) sc__law_walked.nd rfl (Or.inl rfl) (by exact Or.inl rfl))
          (pss_one (ps_set (i := 11) sc__law_walked.nd rfl (Or.inl rfl) (C8.pe_c c_plus hr (by omega) (by rfl) (pa_cons (pv 11) (pa_cons (C8.pe_c c_times hr (by omega) (by rfl) (pa_cons (pe_ix ix_list (pv 8) (pv 5) (fun _ _ => rfl)) (pa_cons (pe_ix ix_tup (pe_ix ix_list (pv 3) (pv 5) (fun _ _ => rfl)) (pv 4) (fun _ _ => rfl)) pa_nil))) pa_nil))))))
          (pss_one (ps_expr (pe_bm PySem.F.plainAttrs_list PySem.F.slot_list_append PySem.F.type_list_append mt_append (pv 10) (pa_cons (pv 11) pa_nil)))))))
        (pss_one (ps_set (i := 8) sc__law_walked.nd rfl (Or.inl rfl) (pv 10))))))
      (pss_cons (ps_par3 (i := 12) (j := 13) (l := 14) (by rfl) sc__law_walked.nd rfl rfl rfl (by decide) (by decide) (by decide) rfl rfl rfl (pa_cons (C8.pe_mk m_Walk hr (by omega) (by rfl) (pa_cons (pv 3) pa_nil)) (pa_cons (C8.pe_mk m_Hidden hr (by omega) (by rfl) (pa_cons (pv 7) (pa_cons (pv 3) (pa_cons (pe_op op_rep (pe_lst (pa_cons (pe_tup (pa_cons (pe_tup (pa_cons pe_int (pa_cons pe_int pa_nil))) pa_nil)) pa_nil)) (pv 1)) (pa_cons pe_str pa_nil))))) (pa_cons (pe_tup (pa_cons pe_int (pa_cons pe_int pa_nil))) pa_nil))) (by rfl))
      (pss_cons (ps_for PassesOwn.never rfl (pi_range1 (by rfl) T.n_range (pa_cons (pv 1) pa_nil)) (pg_name (i := 4) sc__law_walked.nd rfl (Or.inl rfl) (by exact Or.inl rfl))
      (pss_one (ps_set (i := 14) sc__law_walked.nd rfl (Or.inl rfl) (C8.pe_c c_plus hr (by omega) (by rfl) (pa_cons (pv 14) (pa_cons (C8.pe_c c_times hr (by omega) (by rfl) (pa_cons (pe_ix ix_tup (pv 7) (pv 4) (fun _ _ => rfl)) (pa_cons (pe_ix ix_tup (C8.pe_mt mt_Walk_after hr (by omega) (pv 12) (pa_cons (pv 4) (pa_cons (pv 2) pa_nil))) (pe_op op_sub (pv 1) pe_int) (fun _ _ => rfl)) pa_nil))) pa_nil))))))
      (pss_cons (ps_if (pt_cmpR (op_neD hr.units) (pv 14) (pe_ix ix_list (pv 8) (pe_op op_sub (pv 1) pe_int) (fun _ _ => rfl)) (nomark _)) (pss_one (ps_ret pe_bl)) pss_nil)
      (pss_one (ps_ret (pe_and (pe_cmpR (op_eqD hr.units) (pe_callTy call_list_of (by rfl) T.n_list (by decide +kernel) (pa_cons (pe_ix ix_tup (C8.pe_mt mt_Hidden_ahead hr (by omega) (pv 13) (pa_cons (pe_op RX.op_repS pe_str (pe_op op_add (pv 2) pe_int)) pa_nil)) (pv 2) (fun _ _ => rfl)) pa_nil)) (pv 8) (nomark _)) (pe_one (pe_cmpR (op_eqD hr.units) (C8.pe_mt mt_Hidden_chance hr (by omega) (pv 13) (pa_cons (pe_op RX.op_repS pe_str (pe_op op_add (pv 2) pe_int)) pa_nil)) (pe_tup (pa_cons pe_int (pa_cons pe_int pa_nil))) (nomark _))))))))))))))), ?_⟩
    refine ⟨_, rfl, d, 6, rfl, hd, by decide, by decide, fun x ys H1 x0 x1 eH1 hd1 => ⟨_, _, rfl, rfl, _, rfl, d, 9, rfl, hd1, by decide, by decide, fun y ys2 H2 y0 y1 eH2 hd2 => ⟨_, _, rfl, ?_⟩⟩⟩
    obtain ⟨m, hm⟩ : ∃ n : Nat, 1 + x = n := ⟨(1 + x).toNat, by omega⟩
    obtain ⟨lg, rfl⟩ : ∃ n : Nat, y = n := ⟨y.toNat, by omega⟩
    simp only [hm]
    have m2 : Mo (some d) T9 H H2 := (roll_mo hd eH1).trans (roll_mo hd1 eH2)
    clear eH1 eH2 hd1
    refine ⟨(by show 0 ≤ sizeLine; exact Nat.zero_le _), fun A0 hA0 => ?_⟩
    have hA0d : A0 ≠ d := fun z => by
      obtain ⟨_, _, _, h⟩ := hd2
      rw [← z, hA0] at h
      cases h
    have nA0 : Nn H A0 := none_mo m2 hA0 hd2
    have e3 : Ex H2 (upd H2 A0 (.lst [])) := Evl.Ex.new hA0
    dsimp only [gName]
    refine re_st [some (.ref d), some (.int (m : Nat)), some (.int (lg : Nat)), some (.ref A0), none, none, none, none, none, none, none, none, none, none, none, none] rfl ?_
    have m3 := m2.trans (Mo.of e3)
    have hd3 := hd2.ex e3
    have hA3 : upd H2 A0 (.lst []) A0 = some (.lst []) := upd_same
    generalize (upd H2 A0 (.lst [])) = H3 at e3 m3 hd3 hA3
    clear e3 hA0 m2 hd2
    refine ⟨_, rfl, _, _, rfl, rfl, ((m : Nat) : Int) + 1, rfl, by omega, by omega, ?_⟩
    refine for_n (n := m + 1) (fun i σ' H' => ∃ (o4 o6 : Option V) (rs : List V) (R0 : Nat → Nat → Rat), σ' = [some (.ref d), some (.int (m : Nat)), some (.int (lg : Nat)), some (.ref A0), o4, none, o6, none, none, none, none, none, none, none, none, none] ∧ Mo (some d) T9 H H' ∧ DiceOk H' d ∧ H' A0 = some (.lst rs) ∧ RowsOf K H' rs i m R0 ∧ ∀ k, k < i → Row m (R0 k) ∧ ∀ j, Dv BB (R0 k j))
      ⟨_, _, [], fun _ _ => 0, rfl, m3, hd3, hA3, RowsOf.nil, fun k hk => by omega⟩ (fun i σ' H' hi _ => by show i < (((m : Nat) : Int) + 1).toNat; omega) (fun σ' H' _ => by show (((m : Nat) : Int) + 1).toNat ≤ m + 1; omega) ?_ ?_
    · rintro i _ H4 u H5 hi ⟨o4, o6, rs, R0, rfl, m5, hd5, hA5, hrs, hR⟩ ⟨rfl, rfl⟩
      refine re_st [some (.ref d), some (.int (m : Nat)), some (.int (lg : Nat)), some (.ref A0), some (.int (0 + (i : Nat))), none, o6, none, none, none, none, none, none, none, none, none] rfl ?_
      refine ⟨_, rfl, ((m : Nat) : Int), rfl, by omega, by omega, fun W hW => ?_⟩
      have hWd : W ≠ d := fun z => by
        obtain ⟨_, _, _, h⟩ := hd5
        rw [← z, hW] at h
        cases h
      have hAW : A0 ≠ W := ne_of_none hA5 hW
      have nW : Nn H W := none_mo m5 hW hd5
      refine lc_n (n := m) (fun j acc H' => ∃ xs : List Int, acc = xs.map V.int ∧ xs.length = j ∧ (∀ x ∈ xs, 0 ≤ x ∧ x ≤ 5) ∧ Mo (some d) T9 H5 H' ∧ DiceOk H' d ∧ Kt H5 H') ⟨[], rfl, rfl, fun x hx => absurd hx List.not_mem_nil, Mo.of (Evl.Ex.new hW), hd5.ex (Evl.Ex.new hW), Kt.of (Evl.Ex.new hW)⟩ (fun j acc H' hj _ => by show j < ((m : Nat) : Int).toNat; omega) (fun acc H' _ => by show ((m : Nat) : Int).toNat ≤ m; omega) (fun j acc H6 u H7 hj hacc pv hy => ?_) (fun acc H6 haccW pv => ?_)
      · obtain ⟨rfl, rfl⟩ := hy
        obtain ⟨xs, rfl, hl, hb, mm, hd7, kt⟩ := pv
        refine ⟨rfl, ⟨_, rfl, d, 6, rfl, hd7, by decide, by decide, fun y ys H8 y0 y1 e8 hd8 => ?_⟩⟩
        have m8 := mm.trans (roll_mo hd7 e8)
        have k8 := kt.trans (roll_kt hd7 e8)
        have hacc8 : H8 W = some (.lst (xs.map V.int)) := by rw [e8, upd_ne hWd]; exact hacc
        refine App.of hacc8 (by rw [List.length_map]; omega) ⟨xs ++ [y], by simp, by simp [hl], fun z hz => ?_, Mo.fresh m8 (Nn.of hW) hacc8, ?_, k8.trans (Kt.lst hacc8)⟩
        · rcases List.mem_append.mp hz with hz | hz
          · exact hb z hz
          · rw [List.mem_singleton] at hz; omega
        · obtain ⟨a, b, c, h⟩ := hd8
          exact ⟨a, b, c, (upd_ne (Ne.symm hWd)).trans h⟩
      · obtain ⟨xs, rfl, hxl, hxb, mm, hd6, kt6⟩ := pv
        have hA6 : H6 A0 = some (.lst rs) := mm.1 _ _ (fun z => hA0d (Option.some.inj z)) hA5 (fun _ z => nomatch z)
        have hrs6 := hrs.kt kt6
        have m6 := m5.trans mm
        clear mm kt6 hrs hA5 m5 hd5
        dsimp only [gName]
        refine re_st [some (.ref d), some (.int (m : Nat)), some (.int (lg : Nat)), some (.ref A0), some (.int (0 + (i : Nat))), none, some (.ref W), none, none, none, none, none, none, none, none, none] rfl ?_
        refine ⟨_, rfl, d, 5, rfl, hd6, by decide, by decide, fun z zs H8 z0 z1 e8 hd8 => ⟨_, _, rfl, rfl, _, rfl, _, rfl, _, rfl, d, ((m : Nat) : Int), rfl, hd8, by omega, by omega, fun q qs H9 q0 q1 e9 hd9 => ?_⟩⟩
        obtain ⟨qn, rfl⟩ : ∃ n : Nat, q = n := ⟨q.toNat, by omega⟩
        have kt9 := (roll_kt hd6 e8).trans (roll_kt hd8 e9)
        have m9 := (m6.trans (roll_mo hd6 e8)).trans (roll_mo hd8 e9)
        have hW9 : H9 W = some (.lst (xs.map V.int)) := by rw [e9, upd_ne hWd, e8, upd_ne hWd]; exact haccW
        have hA9 : H9 A0 = some (.lst rs) := by rw [e9, upd_ne hA0d, e8, upd_ne hA0d]; exact hA6
        have hrs9 := hrs6.kt kt9
        refine ⟨W, _, ((qn : Nat) : Int), qn, rfl, rfl, hW9, ixN_nat (by rw [List.length_map]; omega), ?_⟩
        have hset : (xs.map V.int).set qn (.int (1 + z)) = (xs.set qn (1 + z)).map V.int := List.map_set.symm
        rw [hset]
        have hxl' : (xs.set qn (1 + z)).length = m := by rw [List.length_set]; exact hxl
        have hxb' : ∀ x ∈ xs.set qn (1 + z), 0 ≤ x ∧ x ≤ 5 := fun x hx => by
          rcases List.mem_or_eq_of_mem_set hx with hx | rfl
          · exact hxb x hx
          · omega
        have hmem : 1 + z ∈ xs.set qn (1 + z) := List.mem_set (by omega) _
        have bd := sum_bd hxb'
        have s1 := bd.2.2 _ hmem
        have s30 := bd.2.1
        rw [hxl'] at s30
        generalize xs.set qn (1 + z) = wl at hxl' hxb' hmem bd s1 s30
        obtain ⟨s, hs⟩ : ∃ s : Nat, wl.sum = s := ⟨wl.sum.toNat, by omega⟩
        have wr := w_row hxl' hxb' hs (by omega) (by omega)
        have m10 : Mo (some d) T9 H (upd H9 W (.lst (wl.map V.int))) := Mo.fresh m9 nW hW9
        have hd10 : DiceOk (upd H9 W (.lst (wl.map V.int))) d := by
          obtain ⟨a, b, c, h⟩ := hd9
          exact ⟨a, b, c, (upd_ne (Ne.symm hWd)).trans h⟩
        have hW10 : upd H9 W (.lst (wl.map V.int)) W = some (.lst (wl.map V.int)) := upd_same
        have hA10 := (upd_ne (o := .lst (wl.map V.int)) hAW).trans hA9
        have hrs10 := hrs9.kt (Kt.lst (o := .lst (wl.map V.int)) hW9)
        generalize (upd H9 W (.lst (wl.map V.int))) = G at m10 hd10 hW10 hA10 hrs10
        clear m9 hd9 hW9 hA9 hrs9 kt9 e9 hd8 e8 hd6 m6 hrs6 hA6 haccW
        refine ⟨_, rfl, .inl ⟨rfl, _, Evl.sq_of hA10⟩, _, rfl, W, rfl, ⟨_, Evl.sq_of hW10⟩, fun D hD => ?_⟩
        refine lc_n (n := m) (fun j acc H' => Pq K H' acc j (fun t => Rat.divInt (wl.getD t 0) (s : Nat)) ∧ Ex G H') ⟨Pq.nil, Evl.Ex.new hD⟩ (fun j acc H' hj p => ⟨_, .int (wl[j]'(by omega)), Evl.sq_of (p.2 _ _ hW10), by rw [List.getElem?_map, List.getElem?_eq_getElem (by omega)]; rfl⟩) (fun acc H' p => ⟨_, Evl.sq_of (p.2 _ _ hW10), by rw [List.length_map]; omega⟩) (fun j acc H11 u H12 hj hacc p hy => ?_) (fun acc H11 hacc p => ?_)
        · obtain ⟨rfl, hu⟩ := hy
          have hu' := hu _ (Evl.sq_of (p.2 _ _ hW10))
          have hj2 : j < wl.length := by omega
          rw [List.getElem?_map, List.getElem?_eq_getElem hj2] at hu'
          obtain rfl : V.int wl[j] = u := Option.some.inj hu'
          have hjb := hxb' _ (List.getElem_mem hj2)
          have hjd : wl.getD j 0 = wl[j] := by rw [List.getD_eq_getElem?_getD, List.getElem?_eq_getElem hj2]; rfl
          refine ⟨rfl, ⟨_, rfl, _, rfl, W, wl, rfl, Evl.sq_of (p.2 _ _ hW10), wl[j], wl.sum, rfl, by omega, (Lt2.nn (a := 10) hjb.1 (by show _ < (1024 : Int); omega)).up (by decide), (Lt2.nn (a := 10) (by omega) (by show _ < (1024 : Int); omega)).up (by decide), fun v H13 e13 hv => ?_⟩⟩
          have hD13 := e13 _ _ hacc
          have hv : PtAt K H13 v (Rat.divInt (wl.getD j 0) (s : Nat)) := by rw [hjd, ← hs]; exact hv
          exact App.of hD13 (by rw [p.1.1]; omega) ⟨Pq.snoc ((p.1.ex e13).kt (Kt.lst hD13)) (hv.kt (Kt.lst hD13)), Evl.Ex.mut (Evl.Ex.trans p.2 e13) hD⟩
        · refine ⟨D, acc, rfl, .inl ⟨Evl.sq_of hacc, fun t ht => ?_⟩⟩
          have e14 := Evl.Ex.trans p.2 (Evl.Ex.new (o := .tup acc) ht)
          have hA14 := e14 _ _ hA10
          refine ⟨A0, rs, .ref t, rfl, rfl, hA14, by rw [hrs10.1]; exact Nat.lt_of_lt_of_le (show i < 1000 by omega) (by decide), ?_⟩
          have kt : Kt (upd H11 t (.tup acc)) (upd (upd H11 t (.tup acc)) A0 (.lst (rs ++ [.ref t]))) := Kt.lst hA14
          refine ⟨_, _, rs ++ [.ref t], fun k => if k = i then (fun j => Rat.divInt (wl.getD j 0) (s : Nat)) else R0 k, rfl, Mo.fresh (m10.trans (Mo.of e14)) nA0 hA14, ?_, upd_same, ?_, fun k hk => ?_⟩
          · obtain ⟨a, b, c, h⟩ := hd10.ex e14
            exact ⟨a, b, c, (upd_ne (Ne.symm hA0d)).trans h⟩
          · refine RowsOf.snoc (ys := acc) (((hrs10.ex e14).kt kt).congr fun k hk => ?_) (kt.sq (Evl.st_of upd_same)) ?_
            · show R0 k = (if k = i then _ else R0 k)
              rw [if_neg (by omega)]
            · show Pq K _ acc m (if i = i then (fun j => Rat.divInt (wl.getD j 0) (s : Nat)) else R0 i)
              rw [if_pos rfl]
              exact (p.1.ex (Evl.Ex.new ht)).kt kt
          · show Row m (if k = i then (fun j => Rat.divInt (wl.getD j 0) (s : Nat)) else R0 k) ∧ ∀ j, Dv BB ((if k = i then (fun j => Rat.divInt (wl.getD j 0) (s : Nat)) else R0 k) j)
            by_cases z : k = i
            · rw [if_pos z]
              exact wr
            · rw [if_neg z]
              exact hR k (by omega)
    · rintro _ H4 ⟨o4, o6, rs, R0, rfl, m4, hd4, hA4, hrs, hR⟩
      have hv0 : VeS m 1 (R0 0) := ⟨(hR 0 (by omega)).1, fun i _ => dvB1 ((hR 0 (by omega)).2 i)⟩
      have hRS : RwS m (fun j => R0 (j + 1)) := ⟨fun j hj => (hR (j + 1) (by omega)).1, fun j k hj _ => (hR (j + 1) (by omega)).2 k⟩
      obtain ⟨t0, fs, ht0, hst0, hq0⟩ := hrs.get (show 0 < m + 1 by omega)
      have hrt := hrs.tail
      have hrne : rs ≠ [] := fun z => by rw [z] at ht0; cases ht0
      generalize hRR : (fun j => R0 (j + 1)) = R at hRS hrt
      generalize R0 0 = v0 at hv0 hq0
      clear hRR hR
      have hm1 : 1 ≤ m := by omega
      refine ⟨_, rfl, A0, rs, ((0 : Nat) : Int), .ref t0, rfl, rfl, Evl.sq_of hA4, atI_nat ht0, _, rfl, _, rfl, A0, rs, rfl, Evl.sq_of hA4, fun B0 hB0 => ⟨_, _, rfl, ?_⟩⟩
      rw [cut_tail rs hrne]
      have e5 : Ex H4 (upd H4 B0 (.lst rs.tail)) := Evl.Ex.new hB0
      have hB5 : upd H4 B0 (.lst rs.tail) B0 = some (.lst rs.tail) := upd_same
      have hst5 := Evl.ex_t e5 hst0
      have hq5 := hq0.ex e5
      have hr5 := hrt.ex e5
      have m5 := m4.trans (Mo.of e5)
      have hd5 := hd4.ex e5
      generalize (upd H4 B0 (.lst rs.tail)) = H5 at hB5 hst5 hq5 hr5 m5 hd5
      generalize rs.tail = rt at hB5 hr5
      clear e5 hrt hq0 hst0 ht0 hrs hA4 hd4 m4 hB0 hrne
      refine ⟨_, rfl, t0, fs, rfl, .inr hst5, fun L0 hL0 => ?_⟩
      have e6 : Ex H5 (upd H5 L0 (.lst fs)) := Evl.Ex.new hL0
      have hL6 : upd H5 L0 (.lst fs) L0 = some (.lst fs) := upd_same
      dsimp only [gName]
      refine re_st [some (.ref d), some (.int (m : Nat)), some (.int (lg : Nat)), some (.ref B0), o4, none, o6, some (.ref t0), some (.ref L0), none, none, none, none, none, none, none] rfl ?_
      generalize (upd H5 L0 (.lst fs)) = G6 at e6 hL6
      clear hL0
      refine ⟨_, rfl, ((lg : Nat) : Int), rfl, by omega, by omega, ?_⟩
      have stp_ : ∀ t, t ≤ 10 → StSm m R (itr m R v0 t) := fun t ht => (hv0.itr hRS t).st hRS (by omega)
      refine for_n (n := lg) (fun t σ' H' => ∃ (L : Addr) (hs : List V) (o4 o5 o9 o10 o11 : Option V), σ' = [some (.ref d), some (.int (m : Nat)), some (.int (lg : Nat)), some (.ref B0), o4, o5, o6, some (.ref t0), some (.ref L), o9, o10, o11, none, none, none, none] ∧ Ex H5 H' ∧ H' L = some (.lst hs) ∧ Pq K H' hs m (itr m R v0 t))
        ⟨L0, fs, _, _, _, _, _, rfl, e6, hL6, hq5.ex e6⟩ (fun i σ' H' hi _ => by show i < ((lg : Nat) : Int).toNat; omega) (fun σ' H' _ => by show ((lg : Nat) : Int).toNat ≤ lg; omega) ?_ ?_
      · rintro t _ H7 u H8 ht ⟨L, hs, o4, o5, o9, o10, o11, rfl, e7, hL, hq⟩ ⟨rfl, rfl⟩
        refine ⟨(by show 0 ≤ sizeLine; exact Nat.zero_le _), fun N0 hN0 => ?_⟩
        have eN : Ex H8 (upd H8 N0 (.lst [])) := Evl.Ex.new hN0
        have hLN := eN _ _ hL
        have hqN := hq.ex eN
        have hNN : upd H8 N0 (.lst []) N0 = some (.lst []) := upd_same
        have e5N := Evl.Ex.trans e7 eN
        have hN5 : H5 N0 = none := none_ex e7 hN0
        have hLN0 : L ≠ N0 := ne_of_none hL hN0
        dsimp only [gName]
        refine re_st [some (.ref d), some (.int (m : Nat)), some (.int (lg : Nat)), some (.ref B0), o4, o5, o6, some (.ref t0), some (.ref L), some (.int (0 + (t : Nat))), some (.ref N0), o11, none, none, none, none] rfl ?_
        generalize (upd H8 N0 (.lst [])) = G9 at eN hLN hqN hNN e5N
        clear eN hN0 hL hq e7
        have sst := stp_ t (by omega)
        refine ⟨_, rfl, ((m : Nat) : Int), rfl, by omega, by omega, ?_⟩
        refine for_n (n := m) (fun k σ' H' => ∃ (ns : List V) (o4 o5 o11 : Option V), σ' = [some (.ref d), some (.int (m : Nat)), some (.int (lg : Nat)), some (.ref B0), o4, o5, o6, some (.ref t0), some (.ref L), some (.int (0 + (t : Nat))), some (.ref N0), o11, none, none, none, none] ∧ Ex H5 H' ∧ H' L = some (.lst hs) ∧ Pq K H' hs m (itr m R v0 t) ∧ H' N0 = some (.lst ns) ∧ Pq K H' ns k (itr m R v0 (t + 1)))
          ⟨[], _, _, _, rfl, e5N, hLN, hqN, hNN, Pq.nil⟩ (fun i σ' H' hi _ => by show i < ((m : Nat) : Int).toNat; omega) (fun σ' H' _ => by show ((m : Nat) : Int).toNat ≤ m; omega) ?_ ?_
        · rintro k _ HA u HB hk ⟨ns, o4, o5, o11, rfl, eA, hLA, hqA, hNA, hnsA⟩ ⟨rfl, rfl⟩
          refine ⟨(by show 2 ≤ sizeLine; decide), fun q hq => ?_⟩
          have eq := Evl.Ex.new (o := .tup [.int 0, .int 1]) hq
          dsimp only [gName]
          refine re_st [some (.ref d), some (.int (m : Nat)), some (.int (lg : Nat)), some (.ref B0), some (.int (0 + (k : Nat))), o5, o6, some (.ref t0), some (.ref L), some (.int (0 + (t : Nat))), some (.ref N0), some (.ref q), none, none, none, none] rfl ?_
          refine ⟨_, rfl, ((m : Nat) : Int), rfl, by omega, by omega, ?_⟩
          refine for_n (n := m) (fun j σ' H' => ∃ (o5 : Option V) (av : V), σ' = [some (.ref d), some (.int (m : Nat)), some (.int (lg : Nat)), some (.ref B0), some (.int (0 + (k : Nat))), o5, o6, some (.ref t0), some (.ref L), some (.int (0 + (t : Nat))), some (.ref N0), some av, none, none, none, none] ∧ Ex HB H' ∧ PtAt K H' av (sumq j fun j => itr m R v0 t j * R j k))
            ⟨_, _, rfl, eq, ⟨q, rfl, Evl.st_of upd_same⟩⟩ (fun i σ' H' hi _ => by show i < ((m : Nat) : Int).toNat; omega) (fun σ' H' _ => by show ((m : Nat) : Int).toNat ≤ m; omega) ?_ ?_
          · rintro j _ HC u HD hj ⟨o5, av, rfl, eC, hav⟩ ⟨rfl, rfl⟩
            have eBD := Evl.Ex.trans eA eC
            obtain ⟨vj, hvj, hqj⟩ := hqA.get hj
            obtain ⟨tj, yj, htj, hstj, hrj⟩ := hr5.get hj
            obtain ⟨vjk, hvjk, hqjk⟩ := hrj.get hk
            refine ⟨_, rfl, _, rfl, _, rfl, L, hs, ((j : Nat) : Int), vj, rfl, (by show V.int (0 + (j : Nat)) = _; rw [Int.zero_add]), Evl.sq_of (eC _ _ hLA), atI_nat hvj, _, rfl, _, rfl, B0, rt, ((j : Nat) : Int), .ref tj, rfl, (by show V.int (0 + (j : Nat)) = _; rw [Int.zero_add]), Evl.sq_of (eBD _ _ hB5), atI_nat htj, _, rfl, tj, yj, ((k : Nat) : Int), vjk, rfl, (by show V.int (0 + (k : Nat)) = _; rw [Int.zero_add]), Evl.ex_t eBD hstj, atI_nat hvjk, ?_⟩
            refine ⟨vj, vjk, _, _, rfl, hqj.ex eC, hqjk.ex eBD, sst.hv j hj, sst.hr j k hj hk, fun v1 HE e1 h1 => ?_⟩
            refine ⟨av, v1, _, _, rfl, hav.ex e1, h1, sst.hs j k (by omega) hk, sst.hp j k hj hk, fun v2 HF e2 h2 => ?_⟩
            exact ⟨_, v2, rfl, Evl.Ex.trans eC (Evl.Ex.trans e1 e2), h2⟩
          · rintro _ HC ⟨o5, av, rfl, eC, hav⟩
            have hNC := eC _ _ hNA
            have kt : Kt HC (upd HC N0 (.lst (ns ++ [av]))) := Kt.lst hNC
            refine ⟨_, rfl, .inl ⟨rfl, _, Evl.sq_of hNC⟩, _, rfl, N0, ns, av, rfl, rfl, hNC, by rw [hnsA.1]; exact Nat.lt_of_lt_of_le (show k < 1000 by omega) (by decide), ?_⟩
            refine ⟨_, _, _, _, rfl, Evl.Ex.mut (Evl.Ex.trans eA eC) hN5, (upd_ne hLN0).trans (eC _ _ hLA), (hqA.ex eC).kt kt, upd_same, Pq.snoc ((hnsA.ex eC).kt kt) (hav.kt kt)⟩
        · rintro _ HA ⟨ns, o4, o5, o11, rfl, eA, hLA, hqA, hNA, hnsA⟩
          exact ⟨_, rfl, N0, ns, _, _, _, _, _, rfl, eA, hNA, hnsA⟩
      · rintro _ H7 ⟨L, hs, o4, o5, o9, o10, o11, rfl, e7, hL, hq⟩
        have lgb : lg ≤ 8 := by omega
        have mB5 : ∀ {H' : Hp}, Mo none T9 H5 H' → SqL K H' B0 rt ∧ RowsOf K H' rt m m R ∧ SqT K H' t0 fs ∧ Pq K H' fs m v0 := fun e => ⟨Mo.sl e (Evl.sq_of hB5), hr5.kt (Mo.kt e), (Mo.kt e).sq hst5, hq5.kt (Mo.kt e)⟩
        have m7 : Mo none T9 H5 H7 := Mo.of e7
        refine ⟨_, rfl, fun xw dxw hxw hdxw hnew => ?_⟩
        have e8 : Ex H7 (upd (upd H7 dxw (.own xw)) xw (.ins CW dxw [])) := Evl.Ex.trans (Evl.Ex.new hdxw) (Evl.Ex.new ((upd_ne (Ne.symm hnew)).trans hxw))
        have b8 := mB5 (m7.trans (Mo.of e8))
        refine ⟨xw, dxw, B0, rt, m, R, rfl, upd_same, b8.1, b8.2.1, hRS.ok hm1 (by omega), (m5.trans (m7.trans (Mo.of e8)).any).2 hT, fun H9 Fw yw m9 hx9 hF9 hr9 => ⟨rfl, ?_⟩⟩
        have m79 : Mo none T9 H7 H9 := mk_mo hxw hdxw hnew m9
        have hW9 : WalkAt K CW H9 (.ref xw) m R := ⟨xw, dxw, Fw, yw, rfl, hx9, Evl.sq_of hF9, hr9⟩
        have hL9 : H9 L = some (.lst hs) := m79.1 _ _ (fun z => nomatch z) hL (fun _ z => nomatch z)
        have hq9 := hq.kt (Mo.kt m79)
        have m59 := m7.trans m79
        clear m9 hx9 hF9 hr9 b8 e8 hxw hdxw hnew m79 hL hq e7 m7
        refine ⟨_, rfl, _, rfl, (by show 2 ≤ sizeLine; decide), fun q1 hq1 => ⟨(by show 1 ≤ sizeLine; decide), fun q2 hq2 => ⟨(by show 1 ≤ sizeLine; decide), fun S1 hS1 => ⟨_, rfl, S1, ((m : Nat) : Int), _, rfl, rfl, upd_same, by omega, by omega, (by show 1 * ((m : Nat) : Int).toNat ≤ sizeLine; exact Nat.le_trans (show _ ≤ 100 by omega) (by decide)), fun S2 hS2 => ?_⟩⟩⟩⟩
        have f1 := Evl.Ex.new (o := .tup [.int 1, .int 1]) hq1
        have f2 := Evl.Ex.new (o := .tup [.ref q1]) hq2
        have f3 := Evl.Ex.new (o := .lst [.ref q2]) hS1
        have f4 := Evl.Ex.new (o := .lst (List.replicate ((m : Nat) : Int).toNat [V.ref q2]).flatten) hS2
        have g9 := Evl.Ex.trans (Evl.Ex.trans (Evl.Ex.trans f1 f2) f3) f4
        have hone : PtAt K (upd (upd (upd (upd H9 q1 (.tup [.int 1, .int 1])) q2 (.tup [.ref q1])) S1 (.lst [.ref q2])) S2 (.lst (List.replicate ((m : Nat) : Int).toNat [V.ref q2]).flatten)) (.ref q1) 1 := ⟨q1, rfl, Evl.st_of (f4 _ _ (f3 _ _ (f2 _ _ upd_same)))⟩
        have htwo : SqT K (upd (upd (upd (upd H9 q1 (.tup [.int 1, .int 1])) q2 (.tup [.ref q1])) S1 (.lst [.ref q2])) S2 (.lst (List.replicate ((m : Nat) : Int).toNat [V.ref q2]).flatten)) q2 [.ref q1] := Evl.st_of (f4 _ _ (f3 _ _ upd_same))
        have hs2 : (upd (upd (upd (upd H9 q1 (.tup [.int 1, .int 1])) q2 (.tup [.ref q1])) S1 (.lst [.ref q2])) S2 (.lst (List.replicate ((m : Nat) : Int).toNat [V.ref q2]).flatten)) S2 = some (.lst (List.replicate ((m : Nat) : Int).toNat [V.ref q2]).flatten) := upd_same
        generalize (upd (upd (upd (upd H9 q1 (.tup [.int 1, .int 1])) q2 (.tup [.ref q1])) S1 (.lst [.ref q2])) S2 (.lst (List.replicate ((m : Nat) : Int).toNat [V.ref q2]).flatten)) = GA at g9 hone htwo hs2
        clear f1 f2 f3 f4 hq1 hq2 hS1 hS2
        rw [Int.toNat_natCast] at hs2
        have hones := ones hone htwo m
        generalize (List.replicate m [V.ref q2]).flatten = ss at hs2 hones
        have hmA : Mo none T9 H9 GA := Mo.of g9
        refine fun xh dxh hxh hdxh hneh => ?_
        have e8 : Ex GA (upd (upd GA dxh (.own xh)) xh (.ins CH dxh [])) := Evl.Ex.trans (Evl.Ex.new hdxh) (Evl.Ex.new ((upd_ne (Ne.symm hneh)).trans hxh))
        have b8 := mB5 ((m59.trans hmA).trans (Mo.of e8))
        refine ⟨xh, dxh, t0, B0, S2, fs, rt, ss, _, m, v0, R, rfl, upd_same, b8.2.2.1, b8.2.2.2, b8.1, b8.2.1, hRS.ok hm1 (by omega), Evl.sq_of (e8 _ _ hs2), hones.ex e8, rfl, fun i hi => ⟨hv0.sm (by decide) hi, hv0.row.nn i hi, hv0.row.le hi⟩, fun i hi => hv0.part (by decide) hi, hv0.row.one, (m5.trans ((m59.trans hmA).trans (Mo.of e8)).any).2 hT, fun HB mB hHB => ⟨rfl, ?_⟩⟩
        have mAB : Mo none T9 GA HB := mk_mo hxh hdxh hneh mB
        have m9B := hmA.trans mAB
        have hWB := hW9.mo m9B
        have hLB : HB L = some (.lst hs) := m9B.1 _ _ (fun z => nomatch z) hL9 (fun _ z => nomatch z)
        have hqB := hq9.kt (Mo.kt m9B)
        have m5B := m59.trans m9B
        clear mB b8 e8 hxh hdxh hneh mAB hmA hones hs2 hone htwo g9 hq9 hL9 hW9 m59
        refine ⟨(by show 2 ≤ sizeLine; decide), fun q0 hq0 => ⟨_, _, _, rfl, ?_⟩⟩
        have eC : Ex HB (upd HB q0 (.tup [.int 0, .int 1])) := Evl.Ex.new hq0
        have hWC := hWB.mo (Mo.of (T := T9) eC)
        have hHC := hHB.ex eC
        have hLC := eC _ _ hLB
        have hqC := hqB.ex eC
        have m5C := m5B.trans (Mo.of eC)
        have hdue : PtAt K (upd HB q0 (.tup [.int 0, .int 1])) (.ref q0) 0 := ⟨q0, rfl, Evl.st_of upd_same⟩
        refine re_st [some (.ref d), some (.int (m : Nat)), some (.int (lg : Nat)), some (.ref B0), o4, o5, o6, some (.ref t0), some (.ref L), o9, o10, o11, some (.ref xw), some (.ref xh), some (.ref q0), none] rfl ?_
        generalize (upd HB q0 (.tup [.int 0, .int 1])) = GC at hWC hHC hLC hqC m5C hdue
        clear eC hq0 hWB hHB hLB hqB m5B
        have bC := mB5 m5C
        have hw : ∀ k, k < m → VeS m (0 + lg) (itr m R (unit k) lg) := fun k hk => (unitS hk).itr hRS lg
        have hlin := itr_lin m R v0 lg (m - 1) (by omega)
        have hvl := hv0.itr hRS lg
        have wnn : ∀ k, k < m → 0 ≤ v0 k * itr m R (unit k) lg (m - 1) := fun k hk => Rat.mul_nonneg (hv0.row.nn k hk) ((hw k hk).row.nn _ (by omega))
        have wdv : ∀ k, k < m → Dv (BB ^ (1 + lg)) (v0 k * itr m R (unit k) lg (m - 1)) := fun k hk => by
          have := Dv.mul (hv0.dv k hk) ((hw k hk).dv (m - 1) (by omega))
          rw [← Nat.pow_add, Nat.zero_add] at this
          exact this
        have wsm : ∀ k, k < m → sm (v0 k * itr m R (unit k) lg (m - 1)) := fun k hk => by
          have u := unit_mul (hv0.row.nn k hk) (hv0.row.le hk) ((hw k hk).row.nn (m - 1) (by omega)) ((hw k hk).row.le (by omega))
          exact smB (by omega) (wdv k hk) u.1 u.2
        have psm : ∀ k, k ≤ m → sm (sumq k fun k => v0 k * itr m R (unit k) lg (m - 1)) := fun k hk => by
          have h1 := sumq_le (f := fun k => v0 k * itr m R (unit k) lg (m - 1)) wnn hk
          rw [← hlin] at h1
          have h2 := hvl.row.le (show m - 1 < m by omega)
          exact smB (t := 1 + lg) (by omega) (Dv.sumq fun j hj => wdv j (by omega)) (sumq_nonneg fun j hj => wnn j (by omega)) (by grind)
        refine ⟨_, rfl, ((m : Nat) : Int), rfl, by omega, by omega, ?_⟩
        refine for_n (n := m) (fun k σ' H' => ∃ (o4 : Option V) (dv : V), σ' = [some (.ref d), some (.int (m : Nat)), some (.int (lg : Nat)), some (.ref B0), o4, o5, o6, some (.ref t0), some (.ref L), o9, o10, o11, some (.ref xw), some (.ref xh), some dv, none] ∧ Ex GC H' ∧ PtAt K H' dv (sumq k fun k => v0 k * itr m R (unit k) lg (m - 1)))
          ⟨_, _, rfl, Evl.Ex.refl _, hdue⟩ (fun i σ' H' hi _ => by show i < ((m : Nat) : Int).toNat; omega) (fun σ' H' _ => by show ((m : Nat) : Int).toNat ≤ m; omega) ?_ ?_
        · rintro k _ HD u HE hk ⟨o4, dv, rfl, eD, hdv⟩ ⟨rfl, rfl⟩
          have hWE := hWC.mo (Mo.of (T := T9) eD)
          have hWE0 := hWE
          obtain ⟨aw, dxw, Flw, yw, haw, hxw, _, _⟩ := hWE
          cases haw
          obtain ⟨vk, hvk, hqk⟩ := bC.2.2.2.get hk
          refine ⟨_, rfl, _, rfl, _, rfl, t0, fs, ((k : Nat) : Int), vk, rfl, (by show V.int (0 + (k : Nat)) = _; rw [Int.zero_add]), Evl.ex_t eD bC.2.2.1, atI_nat hvk, _, rfl, xw, dxw, _, rfl, hxw, rfl, _, rfl, _, rfl, .ref xw, k, lg, m, R, (by show [V.ref xw, V.int (0 + (k : Nat)), V.int (lg : Nat)] = _; rw [Int.zero_add]), hWE0, by omega, hk, by omega, fun i hi => ((unitS hk).itr hRS i).st hRS (by omega), fun ta HF ya eF hta hqa => ?_⟩
          obtain ⟨va, hva, hqva⟩ := hqa.get (show m - 1 < m by omega)
          refine ⟨_, rfl, _, _, rfl, rfl, ta, ya, ((m - 1 : Nat) : Int), va, rfl, (by show V.int (((m : Nat) : Int) - 1) = _; rw [show ((m : Nat) : Int) - 1 = ((m - 1 : Nat) : Int) by omega]), hta, atI_nat hva, vk, va, _, _, rfl, hqk.ex (Evl.Ex.trans eD eF), hqva, hv0.sm (by decide) hk, (hw k hk).sm (by omega) (by omega), fun v1 HG e1 h1 => ?_⟩
          refine ⟨dv, v1, _, _, rfl, hdv.ex (Evl.Ex.trans eF e1), h1, psm k (by omega), wsm k hk, fun v2 HI e2 h2 => ?_⟩
          exact ⟨_, v2, rfl, Evl.Ex.trans eD (Evl.Ex.trans eF (Evl.Ex.trans e1 e2)), h2⟩
        · rintro _ HD ⟨o4, dv, rfl, eD, hdv⟩
          rw [← hlin] at hdv
          obtain ⟨vh, hvh, hqh⟩ := hqC.get (show m - 1 < m by omega)
          refine ⟨_, rfl, _, rfl, _, rfl, _, _, rfl, rfl, L, hs, ((m - 1 : Nat) : Int), vh, rfl, (by show V.int (((m : Nat) : Int) - 1) = _; rw [show ((m : Nat) : Int) - 1 = ((m - 1 : Nat) : Int) by omega]), Evl.sq_of (eD _ _ hLC), atI_nat hvh, _, _, hdv.dp, (hqh.ex eD).dp, (Flat.qD _).shaped (by decide), (Flat.qD _).shaped (by decide), _, rfl, ?_⟩
          rw [qD_eqv, decide_eq_true rfl]
          refine iteF ?_
          have hHD := hHC.ex eD
          have hHD0 := hHD
          obtain ⟨ah, dxh, Fah, Flh, Slh, xsh, ysh, ssh, hah, hxh, _⟩ := hHD
          cases hah
          have hst : ∀ i, i < lg + 1 → StSm m R (itr m R v0 i) := fun i hi => stp_ i (by omega)
          have hwc : ∀ (i c' : Nat), ((List.replicate (lg + 1) 122).toArray)[i]? = some c' → c' = 122 := fun i c' h => by
            rw [List.getElem?_toArray, List.getElem?_replicate] at h
            split at h
            · cases h; rfl
            · cases h
          have hall : ((List.replicate (lg + 1) 122).toArray).all (· < 128) = true := by
            rw [Array.all_eq_true]
            intro i hi
            have := hwc i _ (Array.getElem?_eq_getElem hi)
            rw [this]
            decide
          have hsz : ((List.replicate (lg + 1) 122).toArray).size = lg + 1 := by simp
          have elg : V.int (((lg : Nat) : Int) + 1) = V.int ((lg + 1 : Nat) : Int) := by rw [show ((lg : Nat) : Int) + 1 = ((lg + 1 : Nat) : Int) by omega]
          refine ⟨_, rfl, xh, dxh, _, rfl, hxh, rfl, _, rfl, _, _, rfl, rfl, 122, lg + 1, rfl, elg, by omega, by omega, .ref xh, m, lg + 1, 122, _, _, v0, R, rfl, hHD0, rfl, occ_z, hsz, by omega, by omega, hall, hwc, hst, fun ta HE ya eE hta hra => ?_⟩
          obtain ⟨tr, yr, htr, hstr, hqr⟩ := hra.get (show lg < lg + 1 by omega)
          refine ⟨_, rfl, ta, ya, ((lg : Nat) : Int), .ref tr, rfl, rfl, hta, atI_nat htr, tr, yr, rfl, .inr hstr, fun L2 hL2 => ?_⟩
          have eL := Evl.Ex.new (o := .lst yr) hL2
          have eDL := Evl.Ex.trans eE eL
          have eCL := Evl.Ex.trans eD eDL
          refine ⟨_, rfl, .list (qsD m (itr m R v0 lg)), .list (qsD m (itr m R v0 lg)), .lst (Evl.sq_of upd_same) (hqr.ex eL).dpall, .lst (Evl.sq_of (eCL _ _ hLC)) (hqC.ex eCL).dpall, (Flat.list qsD_flat).shaped (by decide), (Flat.list qsD_flat).shaped (by decide), _, rfl, ?_⟩
          rw [(Flat.list qsD_flat).refl]
          have hHL := hHD0.ex eDL
          have hxL := eDL _ _ hxh
          generalize (upd HE L2 (.lst yr)) = HL at eCL hHL hxL
          refine iteT ⟨_, rfl, xh, dxh, _, rfl, hxL, rfl, _, rfl, _, _, rfl, rfl, 122, lg + 1, rfl, elg, by omega, by omega, .ref xh, m, lg, 122, _, _, v0, R, rfl, hHL, rfl, occ_z, hsz, hsz, by omega, by omega, hall, hwc, hst, fun i hi => hvl.part (by omega) hi, fun v1 HM eM h1 => ?_⟩
          rw [hvl.row.one] at h1
          refine ⟨(by show 2 ≤ sizeLine; decide), fun q hq => ⟨qD 1, qD 1, (h1.ex (Evl.Ex.new hq)).dp, dp_pair (q := 1) (Evl.st_of upd_same), rfl, rfl, ?_⟩⟩
          rw [qD_eqv, decide_eq_true rfl]
          have eAll := Evl.Ex.trans eCL (Evl.Ex.trans eM (Evl.Ex.new (o := .tup [.int 1, .int 1]) hq))
          have mAll := m5C.trans (Mo.of eAll)
          exact k _ (m5.trans mAll.any) (Mo.dice mAll hd5)
end
end KK
end
/-! K39 -/
section
set_option Elab.async false
set_option linter.all false
set_option maxRecDepth 100000
set_option maxHeartbeats 4000000
namespace KK
open PySem PySem.Spec PyProof.Rows L2 KM LX LamX NdefX
section
variable {P : Program} {w : World} {K : PySem.W.Frag} {mg : Str → Option Value} {base : Heap} {T9 : LX.TL}
abbrev s_law : Stmt := top 76
abbrev N_law : List Str := ["script", "dice"]
theorem sc_law : FnScope N_law ["script"] (C8.fnScope s_law) := C8.fnScope_by (by decide +kernel)
-- slots: script=0 dice=1
def spTop (K : PySem.W.Frag) (T9 : LX.TL) : Sp := fun vs H Q _ => ∃ (p : Addr) (xs : List Int), vs = [.ref p] ∧ SqL K H p (xs.map V.int) ∧ Tbs T9 H ∧ ∀ H', Q (.bl true) H'
theorem k_law {f : Addr} {fd : FuncData} (T : Tx K mg) (Df : C8.Def K mg "law" s_law f fd) (bf : Binds K fd ["script"] []) (c__law_rounds : C8.Cal P w K mg base 2 "_law_rounds" (spRounds K) []) (c__law_thrown : C8.Cal P w K mg base 13 "_law_thrown" (spPart1 T9) []) (c__law_orders : C8.Cal P w K mg base 5 "_law_orders" (spPart1 T9) [])
    (c__law_raced : C8.Cal P w K mg base 10 "_law_raced" (spPart1 T9) []) (c__law_summed : C8.Cal P w K mg base 6 "_law_summed" (spPart1 T9) []) (c__law_walked : C8.Cal P w K mg base 9 "_law_walked" (spPart1 T9) []) : FnOk P w K mg base C8.CX0 14 f fd ["script"] (spTop K T9) := by
  refine C8.fn0 Df.fn sc_law (fun vs H Q E h => ?_) (fun cdv A outer s H vs Q E hr h => ?_)
  · obtain ⟨_, _, rfl, _⟩ := h; rfl
  · obtain ⟨p, xs, rfl, hp, hT, k⟩ := h
    refine ⟨_, (pss_cons (ps_for PassesOwn.never rfl (pi_list (C8.pe_c c__law_rounds hr (by omega) (by rfl) (pa_cons (pv 0) (pa_cons pe_int pa_nil)))) (pg_name (i := 1) sc_law.nd rfl (Or.inl rfl) (by exact Or.inl rfl))
      (pss_cons (ps_if (PW.pt (pw_or (pt_not (pt_val (C8.pe_c c__law_thrown hr (by omega) (by rfl) (pa_cons (pv 1) pa_nil)))) (pw_or (pt_not (pt_val (C8.pe_c c__law_orders hr (by omega) (by rfl) (pa_cons (pv 1) pa_nil)))) (pw_or1 (pt_not (pt_val (C8.pe_c c__law_raced hr (by omega) (by rfl) (pa_cons (pv 1) pa_nil)))))))) (pss_one (ps_ret pe_bl)) pss_nil)
        (pss_one (ps_if (PW.pt (pw_or (pt_not (pt_val (C8.pe_c c__law_summed hr (by omega) (by rfl) (pa_cons (pv 1) pa_nil)))) (pw_or1 (pt_not (pt_val (C8.pe_c c__law_walked hr (by omega) (by rfl) (pa_cons (pv 1) pa_nil))))))) (pss_one (ps_ret pe_bl)) pss_nil))))
      (pss_one (ps_ret pe_bl))), ?_⟩
    refine ⟨_, rfl, p, xs, rfl, hp, fun d L H1 e1 hd0 hL hok => ⟨L, rfl, ⟨_, Evl.sq_of hL⟩, ?_⟩⟩
    have hLd : L ≠ d := fun z => by
      obtain ⟨a, b, c, h⟩ := hok
      rw [z, h] at hL
      cases hL
    have hT1 : Tbs T9 H1 := (Mo.of (d := none) e1).2 hT
    refine for_n (n := 1) (fun i σ' H' => ∃ o1 : Option V, σ' = [some (.ref p), o1] ∧ Mo (some d) T9 H1 H' ∧ DiceOk H' d) ⟨_, rfl, Mo.refl _, hok⟩ (fun i σ' H' hi ⟨_, _, m, _⟩ => ⟨_, .ref d, Evl.sq_of (m.1 _ _ (fun z => hLd (Option.some.inj z)) hL (fun _ z => nomatch z)), by rw [show i = 0 by omega]; rfl⟩) (fun σ' H' ⟨_, _, m, _⟩ => ⟨_, Evl.sq_of (m.1 _ _ (fun z => hLd (Option.some.inj z)) hL (fun _ z => nomatch z)), Nat.le_refl _⟩) ?_ ?_
    · rintro i _ H2 u H3 hi ⟨o1, rfl, m, hd⟩ ⟨rfl, hu⟩
      have hu' := hu _ (Evl.sq_of (m.1 _ _ (fun z => hLd (Option.some.inj z)) hL (fun _ z => nomatch z)))
      obtain rfl : i = 0 := by omega
      cases hu'
      refine ⟨_, rfl, d, rfl, hd, m.2 hT1, fun H4 m4 hd4 => ⟨true, rfl, ?_⟩⟩
      have mm4 := m.trans m4
      refine iteF ⟨_, rfl, d, rfl, hd4, mm4.2 hT1, fun H5 m5 hd5 => ⟨true, rfl, ?_⟩⟩
      have mm5 := mm4.trans m5
      refine iteF ⟨_, rfl, d, rfl, hd5, mm5.2 hT1, fun H6 m6 hd6 => ⟨true, rfl, ?_⟩⟩
      have mm6 := mm5.trans m6
      refine iteF ⟨_, rfl, d, rfl, hd6, mm6.2 hT1, fun H7 m7 hd7 => ⟨true, rfl, ?_⟩⟩
      have mm7 := mm6.trans m7
      refine iteF ⟨_, rfl, d, rfl, hd7, mm7.2 hT1, fun H8 m8 hd8 => ⟨true, rfl, ?_⟩⟩
      exact iteF ⟨_, rfl, mm7.trans m8, hd8⟩
    · rintro _ H2 ⟨o1, rfl, m, hd⟩
      exact k _
end
end KK
end
/-! HD -/
section
set_option Elab.async false
set_option linter.all false
set_option maxRecDepth 100000
set_option maxHeartbeats 0
/-! ### the head: facts by names, the run -/
namespace HD
open PySem PySem.Spec PyProof.Rows L2 KK
def dd (x : Str) (st : Stmt) (dv : List He.Dv) : He.DefD := ⟨(x, none), x, x, C8.fnArgs st, C8.fnBody st, C8.fnScope st, dv, []⟩
def dm (C m q : Str) (st : Stmt) : He.DefD := ⟨(C, some m), m, q, C8.fnArgs st, C8.fnBody st, C8.fnScope st, [], []⟩
def fn0 : List He.DefD := [dd "shared" s_shared [], dd "part" s_part [.int 1], dd "plus" s_plus [], dd "minus" s_minus [], dd "times" s_times [], dd "other_way" s_other_way [], dd "check_chance" s_check_chance [], dm "Spread" "__init__" "Spread.__init__" s_Spread_init, dm "Spread" "chance" "Spread.chance" s_Spread_chance, dm "Spread" "chance_of" "Spread.chance_of" s_Spread_chance_of, dm "Spread" "shown" "Spread.shown" s_Spread_shown, dd "sure" s_sure [], dd "even" s_even [], dd "together" s_together [], dd "added" s_added [], dd "added_often" s_added_often [], dd "die" s_die [], dd "rolls" s_rolls [], dd "ways" s_ways [], dd "check_count" s_check_count []]
def fn1 : List He.DefD := [dd "check_many" s_check_many [], dd "factorial" s_factorial [], dd "choose" s_choose [], dd "none_home" s_none_home [], dd "raised" s_raised [], dd "onto" s_onto [], dd "at_home" s_at_home [], dd "bare_lots" s_bare_lots [], dd "all_found" s_all_found [], dd "check_urn" s_check_urn [], dd "kept_out" s_kept_out [], dd "from_chances" s_from_chances [], dd "total" s_total [], dd "how_many" s_how_many [], dd "overlaps_of" s_overlaps_of [], dd "from_overlaps" s_from_overlaps [], dd "race" s_race [], dd "step" s_step [], dd "check_rows" s_check_rows [], dm "Walk" "__init__" "Walk.__init__" s_Walk_init]
def fn2 : List He.DefD := [dm "Walk" "after" "Walk.after" s_Walk_after, dm "Hidden" "__init__" "Hidden.__init__" s_Hidden_init, dm "Hidden" "size" "Hidden.size" s_Hidden_size, dm "Hidden" "sign" "Hidden.sign" s_Hidden_sign, dm "Hidden" "ahead" "Hidden.ahead" s_Hidden_ahead, dm "Hidden" "chance" "Hidden.chance" s_Hidden_chance, dd "sums_of" s_sums_of [], dd "two_lots" s_two_lots [], dd "laid" s_laid [], dd "kept" s_kept [.bl true], dd "_law_ways" s__law_ways [], dd "_law_roll" s__law_roll [], dd "_law_dice" s__law_dice [], dd "_law_rounds" s__law_rounds [], dd "_law_rolls" s__law_rolls [], dd "_law_same" s__law_same [], dd "_law_kept" s__law_kept [], dd "_law_thrown" s__law_thrown [], dd "_law_orders" s__law_orders [], dd "_law_raced" s__law_raced []]
def fn3 : List He.DefD := [dd "_law_summed" s__law_summed [], dd "_law_walked" s__law_walked [], dd "law" s_law []]
def fn : List He.DefD := fn0 ++ fn1 ++ fn2 ++ fn3
def fa0 : List He.Fa := [.glo "shared", .glo "part", .glo "plus", .glo "minus", .glo "times", .glo "other_way", .glo "check_chance", .glo "sure", .glo "even", .glo "together", .glo "added", .glo "added_often", .glo "die", .glo "rolls", .glo "ways", .glo "check_count", .glo "check_many", .glo "factorial", .glo "choose", .glo "none_home", .glo "raised", .glo "onto", .glo "at_home", .glo "bare_lots", .glo "all_found", .glo "check_urn", .glo "kept_out", .glo "from_chances", .glo "total", .glo "how_many"]
def fa1 : List He.Fa := [.glo "overlaps_of", .glo "from_overlaps", .glo "race", .glo "step", .glo "check_rows", .glo "sums_of", .glo "two_lots", .glo "laid", .glo "kept", .glo "_law_ways", .glo "_law_roll", .glo "_law_dice", .glo "_law_rounds", .glo "_law_rolls", .glo "_law_same", .glo "_law_kept", .glo "_law_thrown", .glo "_law_orders", .glo "_law_raced", .glo "_law_summed", .glo "_law_walked", .glo "law", .glo "Spread", .glo "Hidden", .glo "Walk", .glo "NOUGHT", .glo "ONE", .free "abs", .free "min", .free "max"]
def fa2 : List He.Fa := [.free "len", .free "sum", .free "any", .free "dict", .free "list", .free "tuple", .free "sorted", .free "int", .free "range", .free "enumerate", .cls "Spread", .cls "Hidden", .cls "Walk", .mkr "Spread", .mkr "Hidden", .mkr "Walk", .noat "Spread" "weights", .noat "Spread" "whole", .noat "Hidden" "first", .noat "Hidden" "rows", .noat "Hidden" "letters", .noat "Hidden" "signs", .noat "Walk" "rows", .noat "Walk" "many", .meth "Spread" "chance", .meth "Spread" "chance_of", .meth "Spread" "shown", .meth "Walk" "after", .meth "Hidden" "size", .meth "Hidden" "sign"]
def fa3 : List He.Fa := [.meth "Hidden" "ahead", .meth "Hidden" "chance"]
def fa : List He.Fa := fa0 ++ fa1 ++ fa2 ++ fa3
def tf : List He.Defn := [("Spread", some "chance_of"), ("added", none), ("check_rows", none), ("Hidden", some "__init__"), ("two_lots", none), ("_law_summed", none)]
def kd : List (Option Str) := [none, some qAdded, none, none, some qTwo, some qFar]
def ex (K : PySem.W.Frag) : Bool := He.tupB K "NOUGHT" [.int 0, .int 1] && (He.tupB K "ONE" [.int 1, .int 1] && decide ((tf.map fun p => (He.cT K p).2).Nodup))
def nm0 : List Str := ["_wall", "ChanceFault", "BadPart", "BadSpread", "BadTree", "BadSize", "NOUGHT", "ONE", "shared", "part", "plus", "minus", "times", "total", "raised", "check_chance", "other_way", "Spread", "sure", "even", "together", "added", "added_often", "from_chances", "die", "rolls", "kept", "laid", "ways", "race"]
def nm1 : List Str := ["check_rows", "step", "Hidden", "check_count", "factorial", "choose", "none_home", "onto", "check_many", "at_home", "all_found", "how_many", "from_overlaps", "overlaps_of", "sums_of", "two_lots", "check_urn", "kept_out", "bare_lots", "Walk", "_law_dice", "_law_roll", "_law_rounds", "_law_ways", "_law_rolls", "_law_kept", "_law_same", "_law_thrown", "_law_orders", "_law_raced"]
def nm2 : List Str := ["_law_summed", "_law_walked"]
def nm : List Str := nm0 ++ nm1 ++ nm2
abbrev R : PySem.W.OpenRow := PySem.W.OpenLaw.row PySem.Challenge.rw_luckwright_k63_whole_counting_at_any_siz
abbrev qv : Program := PySem.W.view R.prog [76]
/-- what is looked at: the module's names, what they name, the methods and their code -/
def nx (g : Addr → Option Obj) (a : Addr) : List Addr := match g a with
  | some o => He.refsD o
  | none => []
def nxD (g : Addr → Option Obj) (a : Addr) : List Addr := match g a with
  | some ⟨_, _, .dict es _, _⟩ => es.toList.flatMap fun e => He.refV e.val
  | _ => []
def nxF (g : Addr → Option Obj) (a : Addr) : List Addr := match g a with
  | some ⟨_, _, .func fd, _⟩ => He.refV fd.code
  | _ => []
def asY (g : Addr → Option Obj) : List Addr :=
  mainGlobals :: (nxD g mainGlobals ++ ((nxD g mainGlobals).flatMap (nx g) ++ (((nxD g mainGlobals).flatMap (nx g)).flatMap (nxD g) ++ (((nxD g mainGlobals).flatMap (nx g)).flatMap (nxD g)).flatMap (nxF g))))
def obY (g : Addr → Option Obj) : He.AlX := (He.obsT fa fn [] (He.frT g (asY g)), ex (He.frT g (asY g)) && He.tabsB g tf (He.frT g (asY g)))
theorem saysY {w : World} {h : Heap} (e : obY h.get? = He.valX fn [] w) : He.SaysX fa fn [] tf ex w h (He.frT h.get? (asY h.get?)) := by
  obtain ⟨e1, e2⟩ := Prod.mk.inj e
  obtain ⟨h1, h2⟩ := He.ba e2
  have look : ∀ p ∈ tf, PySem.W.codeHdIn (He.frT h.get? (asY h.get?)) (He.cT (He.frT h.get? (asY h.get?)) p).1 (He.cT (He.frT h.get? (asY h.get?)) p).2 = true ∧ ∃ o, h.get? (He.cT (He.frT h.get? (asY h.get?)) p).2 = some o ∧ He.emptyTab o = true := fun p hp => by
    obtain ⟨a, b⟩ := He.ba (List.all_eq_true.mp h2 p hp)
    refine ⟨a, ?_⟩
    cases z : h.get? (He.cT (He.frT h.get? (asY h.get?)) p).2 with
    | none => rw [z] at b; cases b
    | some o => rw [z] at b; exact ⟨o, rfl, b⟩
  refine ⟨e1, h1, fun p hp => (look p hp).1, fun p hp => ?_, fun p hp => ?_⟩
  · obtain ⟨_, o, z, m⟩ := look p hp
    exact He.frT_none z m
  · obtain ⟨_, o, z, m⟩ := look p hp
    rw [z, He.emptyTab_eq m]
abbrev hk : PySem.W.Hook := { He.hookX 5 fa fn [] tf ex with obs := fun s => obY s.heap.get?, of := fun _ _ e => ⟨_, He.frT_in, saysY e⟩ }
def ob (s : PySem.W.SharedT) : He.AlX := obY (HandSHeadRun.getT s)
theorem ob_eq (s : PySem.W.SharedT) : ob s = hk.obs s.abs := by
  have e : HandSHeadRun.getT s = s.abs.heap.get? := funext (HandSHeadRun.getT_eq s)
  unfold ob
  rw [e] <;> rfl
/-! ### what they give -/
theorem toFun {K : PySem.W.Frag} {x qual : Str} {st : Stmt} {dvs : List V} {kws : List (Str × V)} {f : Addr} {fd : FuncData} (F : FunD K x qual (C8.fnArgs st) (C8.fnBody st) (C8.fnScope st) dvs kws f fd) : C8.Fun K x qual st f fd := by
  obtain ⟨oc, od, dV, kV, doc, pm, an, cdv, ct, osl, e, lk, hc, _, _⟩ := F.ex
  exact ⟨oc, od, dV, kV, doc, pm, an, cdv, ct, osl, e, lk, hc⟩
theorem toFunC {K : PySem.W.Frag} {x qual : Str} {st : Stmt} {dvs : List V} {kws : List (Str × V)} {p : He.Defn} {fd : FuncData} (F : FunD K x qual (C8.fnArgs st) (C8.fnBody st) (C8.fnScope st) dvs kws (He.fAd K p) fd) : FunC K x qual st (He.fAd K p) fd (He.codeOf K p) := by
  obtain ⟨oc, od, dV, kV, doc, pm, an, cdv, ct, osl, rfl, lk, hc, _, _⟩ := F.ex
  obtain ⟨c, rfl⟩ := He.codeIn_ref hc
  rw [He.codeOf_eq lk rfl]
  exact ⟨oc, od, dV, kV, doc, pm, an, ct, osl, rfl, lk, hc⟩
def T9 (K : PySem.W.Frag) : LX.TL := (tf.map fun p => (He.cT K p).2).zip kd
theorem uniq {a : Addr} {z : Option Str} : ∀ {l : LX.TL}, (l.map (·.1)).Nodup → (a, z) ∈ l → ∀ p ∈ l, p.1 = a → p.2 = z
  | [], _, h, _, _, _ => absurd h List.not_mem_nil
  | q :: l, nd, h, p, hp, e => by
    rw [List.map_cons, List.nodup_cons] at nd
    rcases List.mem_cons.mp h with h1 | h1
    · rcases List.mem_cons.mp hp with h2 | h2
      · rw [h2, ← h1]
      · exact absurd (List.mem_map.mpr ⟨p, h2, by rw [e, ← h1]⟩) nd.1
    · rcases List.mem_cons.mp hp with h2 | h2
      · rw [h2] at e
        exact absurd (List.mem_map.mpr ⟨(a, z), h1, e.symm⟩) nd.1
      · exact uniq nd.2 h1 p h2 e
theorem toG {base : Heap} {mg : Str → Option Value} {c P : Addr} (t : LamX.TabB base mg c P) : GxR.TabB base mg c P := ⟨t.code, t.bm, t.gP⟩
theorem facts {P : Program} {w : World} {K : PySem.W.Frag} {h : Heap} {mg : Str → Option Value} (X : K.In h) (G : h.Ns mainGlobals mg) (c : He.SaysX fa fn [] tf ex w h K) :
    ∃ fd : FuncData, (∀ (s : Shared) (u : Value), BindsTo s fd ⟨[u], []⟩ [("script", u)]) ∧ mg "law" = some (.ref (He.ga K "law")) ∧ ∀ base : Heap, (∀ p ∈ tf.map (He.cT K), LamX.TabB base mg p.1 p.2) → FnOk P w K mg base C8.CX0 14 (He.ga K "law") fd ["script"] (spTop K (T9 K)) := by
  have cd : He.SaysD fa fn K := c.t.d
  obtain ⟨x1, x2⟩ := He.ba c.more
  obtain ⟨x2, x3⟩ := He.ba x2
  have nd : (tf.map fun p => (He.cT K p).2).Nodup := of_decide_eq_true x3
  have hN : ∀ H, SqT K H (He.ga K "NOUGHT") [V.int 0, V.int 1] := fun H => He.tupB_ok x1 H
  have hO : ∀ H, SqT K H (He.ga K "ONE") [V.int 1, V.int 1] := fun H => He.tupB_ok x2 H
  have ndT : ((T9 K).map (·.1)).Nodup := nd
  have G_shared := He.glo_ok X G (cd.fact 0 (f := .glo "shared") rfl)
  have G_part := He.glo_ok X G (cd.fact 1 (f := .glo "part") rfl)
  have G_plus := He.glo_ok X G (cd.fact 2 (f := .glo "plus") rfl)
  have G_minus := He.glo_ok X G (cd.fact 3 (f := .glo "minus") rfl)
  have G_times := He.glo_ok X G (cd.fact 4 (f := .glo "times") rfl)
  have G_other_way := He.glo_ok X G (cd.fact 5 (f := .glo "other_way") rfl)
  have G_check_chance := He.glo_ok X G (cd.fact 6 (f := .glo "check_chance") rfl)
  have G_sure := He.glo_ok X G (cd.fact 7 (f := .glo "sure") rfl)
  have G_even := He.glo_ok X G (cd.fact 8 (f := .glo "even") rfl)
  have G_together := He.glo_ok X G (cd.fact 9 (f := .glo "together") rfl)
  have G_added := He.glo_ok X G (cd.fact 10 (f := .glo "added") rfl)
  have G_added_often := He.glo_ok X G (cd.fact 11 (f := .glo "added_often") rfl)
  have G_die := He.glo_ok X G (cd.fact 12 (f := .glo "die") rfl)
  have G_rolls := He.glo_ok X G (cd.fact 13 (f := .glo "rolls") rfl)
  have G_ways := He.glo_ok X G (cd.fact 14 (f := .glo "ways") rfl)
  have G_check_count := He.glo_ok X G (cd.fact 15 (f := .glo "check_count") rfl)
  have G_check_many := He.glo_ok X G (cd.fact 16 (f := .glo "check_many") rfl)
  have G_factorial := He.glo_ok X G (cd.fact 17 (f := .glo "factorial") rfl)
  have G_choose := He.glo_ok X G (cd.fact 18 (f := .glo "choose") rfl)
  have G_none_home := He.glo_ok X G (cd.fact 19 (f := .glo "none_home") rfl)
  have G_raised := He.glo_ok X G (cd.fact 20 (f := .glo "raised") rfl)
  have G_onto := He.glo_ok X G (cd.fact 21 (f := .glo "onto") rfl)
  have G_at_home := He.glo_ok X G (cd.fact 22 (f := .glo "at_home") rfl)
  have G_bare_lots := He.glo_ok X G (cd.fact 23 (f := .glo "bare_lots") rfl)
  have G_all_found := He.glo_ok X G (cd.fact 24 (f := .glo "all_found") rfl)
  have G_check_urn := He.glo_ok X G (cd.fact 25 (f := .glo "check_urn") rfl)
  have G_kept_out := He.glo_ok X G (cd.fact 26 (f := .glo "kept_out") rfl)
  have G_from_chances := He.glo_ok X G (cd.fact 27 (f := .glo "from_chances") rfl)
  have G_total := He.glo_ok X G (cd.fact 28 (f := .glo "total") rfl)
  have G_how_many := He.glo_ok X G (cd.fact 29 (f := .glo "how_many") rfl)
  have G_overlaps_of := He.glo_ok X G (cd.fact 30 (f := .glo "overlaps_of") rfl)
  have G_from_overlaps := He.glo_ok X G (cd.fact 31 (f := .glo "from_overlaps") rfl)
  have G_race := He.glo_ok X G (cd.fact 32 (f := .glo "race") rfl)
  have G_step := He.glo_ok X G (cd.fact 33 (f := .glo "step") rfl)
  have G_check_rows := He.glo_ok X G (cd.fact 34 (f := .glo "check_rows") rfl)
  have G_sums_of := He.glo_ok X G (cd.fact 35 (f := .glo "sums_of") rfl)
  have G_two_lots := He.glo_ok X G (cd.fact 36 (f := .glo "two_lots") rfl)
  have G_laid := He.glo_ok X G (cd.fact 37 (f := .glo "laid") rfl)
  have G_kept := He.glo_ok X G (cd.fact 38 (f := .glo "kept") rfl)
  have G__law_ways := He.glo_ok X G (cd.fact 39 (f := .glo "_law_ways") rfl)
  have G__law_roll := He.glo_ok X G (cd.fact 40 (f := .glo "_law_roll") rfl)
  have G__law_dice := He.glo_ok X G (cd.fact 41 (f := .glo "_law_dice") rfl)
  have G__law_rounds := He.glo_ok X G (cd.fact 42 (f := .glo "_law_rounds") rfl)
  have G__law_rolls := He.glo_ok X G (cd.fact 43 (f := .glo "_law_rolls") rfl)
  have G__law_same := He.glo_ok X G (cd.fact 44 (f := .glo "_law_same") rfl)
  have G__law_kept := He.glo_ok X G (cd.fact 45 (f := .glo "_law_kept") rfl)
  have G__law_thrown := He.glo_ok X G (cd.fact 46 (f := .glo "_law_thrown") rfl)
  have G__law_orders := He.glo_ok X G (cd.fact 47 (f := .glo "_law_orders") rfl)
  have G__law_raced := He.glo_ok X G (cd.fact 48 (f := .glo "_law_raced") rfl)
  have G__law_summed := He.glo_ok X G (cd.fact 49 (f := .glo "_law_summed") rfl)
  have G__law_walked := He.glo_ok X G (cd.fact 50 (f := .glo "_law_walked") rfl)
  have G_law := He.glo_ok X G (cd.fact 51 (f := .glo "law") rfl)
  have G_Spread := He.glo_ok X G (cd.fact 52 (f := .glo "Spread") rfl)
  have G_Hidden := He.glo_ok X G (cd.fact 53 (f := .glo "Hidden") rfl)
  have G_Walk := He.glo_ok X G (cd.fact 54 (f := .glo "Walk") rfl)
  have G_NOUGHT := He.glo_ok X G (cd.fact 55 (f := .glo "NOUGHT") rfl)
  have G_ONE := He.glo_ok X G (cd.fact 56 (f := .glo "ONE") rfl)
  have N_abs := He.free_ok X G (cd.fact 57 (f := .free "abs") rfl)
  have N_min := He.free_ok X G (cd.fact 58 (f := .free "min") rfl)
  have N_max := He.free_ok X G (cd.fact 59 (f := .free "max") rfl)
  have N_len := He.free_ok X G (cd.fact 60 (f := .free "len") rfl)
  have N_sum := He.free_ok X G (cd.fact 61 (f := .free "sum") rfl)
  have N_any := He.free_ok X G (cd.fact 62 (f := .free "any") rfl)
  have N_dict := He.free_ok X G (cd.fact 63 (f := .free "dict") rfl)
  have N_list := He.free_ok X G (cd.fact 64 (f := .free "list") rfl)
  have N_tuple := He.free_ok X G (cd.fact 65 (f := .free "tuple") rfl)
  have N_sorted := He.free_ok X G (cd.fact 66 (f := .free "sorted") rfl)
  have N_int := He.free_ok X G (cd.fact 67 (f := .free "int") rfl)
  have N_range := He.free_ok X G (cd.fact 68 (f := .free "range") rfl)
  have N_enumerate := He.free_ok X G (cd.fact 69 (f := .free "enumerate") rfl)
  have cl_Spread := He.cls_ok (cd.fact 70 (f := .cls "Spread") rfl)
  have cl_Hidden := He.cls_ok (cd.fact 71 (f := .cls "Hidden") rfl)
  have cl_Walk := He.cls_ok (cd.fact 72 (f := .cls "Walk") rfl)
  have mk_Spread := He.mkr_ok (cd.fact 73 (f := .mkr "Spread") rfl)
  have mk_Hidden := He.mkr_ok (cd.fact 74 (f := .mkr "Hidden") rfl)
  have mk_Walk := He.mkr_ok (cd.fact 75 (f := .mkr "Walk") rfl)
  have na_Spread_weights := He.noat_ok (cd.fact 76 (f := .noat "Spread" "weights") rfl)
  have na_Spread_whole := He.noat_ok (cd.fact 77 (f := .noat "Spread" "whole") rfl)
  have na_Hidden_first := He.noat_ok (cd.fact 78 (f := .noat "Hidden" "first") rfl)
  have na_Hidden_rows := He.noat_ok (cd.fact 79 (f := .noat "Hidden" "rows") rfl)
  have na_Hidden_letters := He.noat_ok (cd.fact 80 (f := .noat "Hidden" "letters") rfl)
  have na_Hidden_signs := He.noat_ok (cd.fact 81 (f := .noat "Hidden" "signs") rfl)
  have na_Walk_rows := He.noat_ok (cd.fact 82 (f := .noat "Walk" "rows") rfl)
  have na_Walk_many := He.noat_ok (cd.fact 83 (f := .noat "Walk" "many") rfl)
  have me_Spread_chance := He.meth_ok (cd.fact 84 (f := .meth "Spread" "chance") rfl)
  have me_Spread_chance_of := He.meth_ok (cd.fact 85 (f := .meth "Spread" "chance_of") rfl)
  have me_Spread_shown := He.meth_ok (cd.fact 86 (f := .meth "Spread" "shown") rfl)
  have me_Walk_after := He.meth_ok (cd.fact 87 (f := .meth "Walk" "after") rfl)
  have me_Hidden_size := He.meth_ok (cd.fact 88 (f := .meth "Hidden" "size") rfl)
  have me_Hidden_sign := He.meth_ok (cd.fact 89 (f := .meth "Hidden" "sign") rfl)
  have me_Hidden_ahead := He.meth_ok (cd.fact 90 (f := .meth "Hidden" "ahead") rfl)
  have me_Hidden_chance := He.meth_ok (cd.fact 91 (f := .meth "Hidden" "chance") rfl)
  have T : Tx K mg := ⟨N_abs, N_min, N_max, N_len, N_sum, N_any, N_dict, N_list, N_tuple, N_sorted, N_int, N_range, N_enumerate⟩
  obtain ⟨fd_shared, F_shared⟩ := cd.def_ 0 (d := dd "shared" s_shared []) rfl
  have F_shared : FunD K "shared" "shared" (C8.fnArgs s_shared) (C8.fnBody s_shared) (C8.fnScope s_shared) [] [] (He.fAd K ("shared", none)) fd_shared := F_shared
  have b_shared := F_shared.bindsN (ps := ["one", "other"]) fun _ _ _ _ _ _ us hl => match us, hl with | [_, _], _ => rfl
  have D_shared : C8.Def K mg "shared" s_shared (He.ga K "shared") fd_shared := ⟨toFun F_shared, G_shared, F_shared.kp⟩
  obtain ⟨fd_part, F_part⟩ := cd.def_ 1 (d := dd "part" s_part [.int 1]) rfl
  have F_part : FunD K "part" "part" (C8.fnArgs s_part) (C8.fnBody s_part) (C8.fnScope s_part) [V.int 1] [] (He.fAd K ("part", none)) fd_part := F_part
  obtain ⟨ds_part, v_part, b_part⟩ := F_part.binds1 (ps := ["top", "low"]) 2 1 (by simp) rfl fun T kV doc pm an cdv ct us its hu hi => match us, hu, its, hi with | [_, _], _, [_], _ => ⟨_, rfl, rfl⟩
  obtain rfl : ds_part = [] := by cases v_part; rfl
  have D_part : C8.Def K mg "part" s_part (He.ga K "part") fd_part := ⟨toFun F_part, G_part, F_part.kp⟩
  obtain ⟨fd_plus, F_plus⟩ := cd.def_ 2 (d := dd "plus" s_plus []) rfl
  have F_plus : FunD K "plus" "plus" (C8.fnArgs s_plus) (C8.fnBody s_plus) (C8.fnScope s_plus) [] [] (He.fAd K ("plus", none)) fd_plus := F_plus
  have b_plus := F_plus.bindsN (ps := ["one", "other"]) fun _ _ _ _ _ _ us hl => match us, hl with | [_, _], _ => rfl
  have D_plus : C8.Def K mg "plus" s_plus (He.ga K "plus") fd_plus := ⟨toFun F_plus, G_plus, F_plus.kp⟩
  obtain ⟨fd_minus, F_minus⟩ := cd.def_ 3 (d := dd "minus" s_minus []) rfl
  have F_minus : FunD K "minus" "minus" (C8.fnArgs s_minus) (C8.fnBody s_minus) (C8.fnScope s_minus) [] [] (He.fAd K ("minus", none)) fd_minus := F_minus
  have b_minus := F_minus.bindsN (ps := ["one", "other"]) fun _ _ _ _ _ _ us hl => match us, hl with | [_, _], _ => rfl
  have D_minus : C8.Def K mg "minus" s_minus (He.ga K "minus") fd_minus := ⟨toFun F_minus, G_minus, F_minus.kp⟩
  obtain ⟨fd_times, F_times⟩ := cd.def_ 4 (d := dd "times" s_times []) rfl
  have F_times : FunD K "times" "times" (C8.fnArgs s_times) (C8.fnBody s_times) (C8.fnScope s_times) [] [] (He.fAd K ("times", none)) fd_times := F_times
  have b_times := F_times.bindsN (ps := ["one", "other"]) fun _ _ _ _ _ _ us hl => match us, hl with | [_, _], _ => rfl
  have D_times : C8.Def K mg "times" s_times (He.ga K "times") fd_times := ⟨toFun F_times, G_times, F_times.kp⟩
  obtain ⟨fd_other_way, F_other_way⟩ := cd.def_ 5 (d := dd "other_way" s_other_way []) rfl
  have F_other_way : FunD K "other_way" "other_way" (C8.fnArgs s_other_way) (C8.fnBody s_other_way) (C8.fnScope s_other_way) [] [] (He.fAd K ("other_way", none)) fd_other_way := F_other_way
  have b_other_way := F_other_way.bindsN (ps := ["one"]) fun _ _ _ _ _ _ us hl => match us, hl with | [_], _ => rfl
  have D_other_way : C8.Def K mg "other_way" s_other_way (He.ga K "other_way") fd_other_way := ⟨toFun F_other_way, G_other_way, F_other_way.kp⟩
  obtain ⟨fd_check_chance, F_check_chance⟩ := cd.def_ 6 (d := dd "check_chance" s_check_chance []) rfl
  have F_check_chance : FunD K "check_chance" "check_chance" (C8.fnArgs s_check_chance) (C8.fnBody s_check_chance) (C8.fnScope s_check_chance) [] [] (He.fAd K ("check_chance", none)) fd_check_chance := F_check_chance
  have b_check_chance := F_check_chance.bindsN (ps := ["one"]) fun _ _ _ _ _ _ us hl => match us, hl with | [_], _ => rfl
  have D_check_chance : C8.Def K mg "check_chance" s_check_chance (He.ga K "check_chance") fd_check_chance := ⟨toFun F_check_chance, G_check_chance, F_check_chance.kp⟩
  obtain ⟨fd_Spread_init, F_Spread_init⟩ := cd.def_ 7 (d := dm "Spread" "__init__" "Spread.__init__" s_Spread_init) rfl
  have F_Spread_init : FunD K "__init__" "Spread.__init__" (C8.fnArgs s_Spread_init) (C8.fnBody s_Spread_init) (C8.fnScope s_Spread_init) [] [] (He.fAd K ("Spread", some "__init__")) fd_Spread_init := F_Spread_init
  have b_Spread_init := F_Spread_init.bindsN (ps := ["self", "weights"]) fun _ _ _ _ _ _ us hl => match us, hl with | [_, _], _ => rfl
  obtain ⟨fd_Spread_chance, F_Spread_chance⟩ := cd.def_ 8 (d := dm "Spread" "chance" "Spread.chance" s_Spread_chance) rfl
  have F_Spread_chance : FunD K "chance" "Spread.chance" (C8.fnArgs s_Spread_chance) (C8.fnBody s_Spread_chance) (C8.fnScope s_Spread_chance) [] [] (He.fAd K ("Spread", some "chance")) fd_Spread_chance := F_Spread_chance
  have b_Spread_chance := F_Spread_chance.bindsN (ps := ["self", "value"]) fun _ _ _ _ _ _ us hl => match us, hl with | [_, _], _ => rfl
  obtain ⟨fd_Spread_chance_of, F_Spread_chance_of⟩ := cd.def_ 9 (d := dm "Spread" "chance_of" "Spread.chance_of" s_Spread_chance_of) rfl
  have F_Spread_chance_of : FunD K "chance_of" "Spread.chance_of" (C8.fnArgs s_Spread_chance_of) (C8.fnBody s_Spread_chance_of) (C8.fnScope s_Spread_chance_of) [] [] (He.fAd K ("Spread", some "chance_of")) fd_Spread_chance_of := F_Spread_chance_of
  have b_Spread_chance_of := F_Spread_chance_of.bindsN (ps := ["self", "test"]) fun _ _ _ _ _ _ us hl => match us, hl with | [_, _], _ => rfl
  obtain ⟨fd_Spread_shown, F_Spread_shown⟩ := cd.def_ 10 (d := dm "Spread" "shown" "Spread.shown" s_Spread_shown) rfl
  have F_Spread_shown : FunD K "shown" "Spread.shown" (C8.fnArgs s_Spread_shown) (C8.fnBody s_Spread_shown) (C8.fnScope s_Spread_shown) [] [] (He.fAd K ("Spread", some "shown")) fd_Spread_shown := F_Spread_shown
  have b_Spread_shown := F_Spread_shown.bindsN (ps := ["self"]) fun _ _ _ _ _ _ us hl => match us, hl with | [_], _ => rfl
  obtain ⟨fd_sure, F_sure⟩ := cd.def_ 11 (d := dd "sure" s_sure []) rfl
  have F_sure : FunD K "sure" "sure" (C8.fnArgs s_sure) (C8.fnBody s_sure) (C8.fnScope s_sure) [] [] (He.fAd K ("sure", none)) fd_sure := F_sure
  have b_sure := F_sure.bindsN (ps := ["value"]) fun _ _ _ _ _ _ us hl => match us, hl with | [_], _ => rfl
  have D_sure : C8.Def K mg "sure" s_sure (He.ga K "sure") fd_sure := ⟨toFun F_sure, G_sure, F_sure.kp⟩
  obtain ⟨fd_even, F_even⟩ := cd.def_ 12 (d := dd "even" s_even []) rfl
  have F_even : FunD K "even" "even" (C8.fnArgs s_even) (C8.fnBody s_even) (C8.fnScope s_even) [] [] (He.fAd K ("even", none)) fd_even := F_even
  have b_even := F_even.bindsN (ps := ["values"]) fun _ _ _ _ _ _ us hl => match us, hl with | [_], _ => rfl
  have D_even : C8.Def K mg "even" s_even (He.ga K "even") fd_even := ⟨toFun F_even, G_even, F_even.kp⟩
  obtain ⟨fd_together, F_together⟩ := cd.def_ 13 (d := dd "together" s_together []) rfl
  have F_together : FunD K "together" "together" (C8.fnArgs s_together) (C8.fnBody s_together) (C8.fnScope s_together) [] [] (He.fAd K ("together", none)) fd_together := F_together
  have b_together := F_together.bindsN (ps := ["one", "other", "change"]) fun _ _ _ _ _ _ us hl => match us, hl with | [_, _, _], _ => rfl
  have D_together : C8.Def K mg "together" s_together (He.ga K "together") fd_together := ⟨toFun F_together, G_together, F_together.kp⟩
  obtain ⟨fd_added, F_added⟩ := cd.def_ 14 (d := dd "added" s_added []) rfl
  have F_added : FunD K "added" "added" (C8.fnArgs s_added) (C8.fnBody s_added) (C8.fnScope s_added) [] [] (He.fAd K ("added", none)) fd_added := F_added
  have b_added := F_added.bindsN (ps := ["one", "other"]) fun _ _ _ _ _ _ us hl => match us, hl with | [_, _], _ => rfl
  obtain ⟨fd_added_often, F_added_often⟩ := cd.def_ 15 (d := dd "added_often" s_added_often []) rfl
  have F_added_often : FunD K "added_often" "added_often" (C8.fnArgs s_added_often) (C8.fnBody s_added_often) (C8.fnScope s_added_often) [] [] (He.fAd K ("added_often", none)) fd_added_often := F_added_often
  have b_added_often := F_added_often.bindsN (ps := ["one", "many"]) fun _ _ _ _ _ _ us hl => match us, hl with | [_, _], _ => rfl
  have D_added_often : C8.Def K mg "added_often" s_added_often (He.ga K "added_often") fd_added_often := ⟨toFun F_added_often, G_added_often, F_added_often.kp⟩
  obtain ⟨fd_die, F_die⟩ := cd.def_ 16 (d := dd "die" s_die []) rfl
  have F_die : FunD K "die" "die" (C8.fnArgs s_die) (C8.fnBody s_die) (C8.fnScope s_die) [] [] (He.fAd K ("die", none)) fd_die := F_die
  have b_die := F_die.bindsN (ps := ["sides"]) fun _ _ _ _ _ _ us hl => match us, hl with | [_], _ => rfl
  have D_die : C8.Def K mg "die" s_die (He.ga K "die") fd_die := ⟨toFun F_die, G_die, F_die.kp⟩
  obtain ⟨fd_rolls, F_rolls⟩ := cd.def_ 17 (d := dd "rolls" s_rolls []) rfl
  have F_rolls : FunD K "rolls" "rolls" (C8.fnArgs s_rolls) (C8.fnBody s_rolls) (C8.fnScope s_rolls) [] [] (He.fAd K ("rolls", none)) fd_rolls := F_rolls
  have b_rolls := F_rolls.bindsN (ps := ["many", "sides"]) fun _ _ _ _ _ _ us hl => match us, hl with | [_, _], _ => rfl
  have D_rolls : C8.Def K mg "rolls" s_rolls (He.ga K "rolls") fd_rolls := ⟨toFun F_rolls, G_rolls, F_rolls.kp⟩
  obtain ⟨fd_ways, F_ways⟩ := cd.def_ 18 (d := dd "ways" s_ways []) rfl
  have F_ways : FunD K "ways" "ways" (C8.fnArgs s_ways) (C8.fnBody s_ways) (C8.fnScope s_ways) [] [] (He.fAd K ("ways", none)) fd_ways := F_ways
  have b_ways := F_ways.bindsN (ps := ["many", "few"]) fun _ _ _ _ _ _ us hl => match us, hl with | [_, _], _ => rfl
  have D_ways : C8.Def K mg "ways" s_ways (He.ga K "ways") fd_ways := ⟨toFun F_ways, G_ways, F_ways.kp⟩
  obtain ⟨fd_check_count, F_check_count⟩ := cd.def_ 19 (d := dd "check_count" s_check_count []) rfl
  have F_check_count : FunD K "check_count" "check_count" (C8.fnArgs s_check_count) (C8.fnBody s_check_count) (C8.fnScope s_check_count) [] [] (He.fAd K ("check_count", none)) fd_check_count := F_check_count
  have b_check_count := F_check_count.bindsN (ps := ["many"]) fun _ _ _ _ _ _ us hl => match us, hl with | [_], _ => rfl
  have D_check_count : C8.Def K mg "check_count" s_check_count (He.ga K "check_count") fd_check_count := ⟨toFun F_check_count, G_check_count, F_check_count.kp⟩
  obtain ⟨fd_check_many, F_check_many⟩ := cd.def_ 20 (d := dd "check_many" s_check_many []) rfl
  have F_check_many : FunD K "check_many" "check_many" (C8.fnArgs s_check_many) (C8.fnBody s_check_many) (C8.fnScope s_check_many) [] [] (He.fAd K ("check_many", none)) fd_check_many := F_check_many
  have b_check_many := F_check_many.bindsN (ps := ["many"]) fun _ _ _ _ _ _ us hl => match us, hl with | [_], _ => rfl
  have D_check_many : C8.Def K mg "check_many" s_check_many (He.ga K "check_many") fd_check_many := ⟨toFun F_check_many, G_check_many, F_check_many.kp⟩
  obtain ⟨fd_factorial, F_factorial⟩ := cd.def_ 21 (d := dd "factorial" s_factorial []) rfl
  have F_factorial : FunD K "factorial" "factorial" (C8.fnArgs s_factorial) (C8.fnBody s_factorial) (C8.fnScope s_factorial) [] [] (He.fAd K ("factorial", none)) fd_factorial := F_factorial
  have b_factorial := F_factorial.bindsN (ps := ["many"]) fun _ _ _ _ _ _ us hl => match us, hl with | [_], _ => rfl
  have D_factorial : C8.Def K mg "factorial" s_factorial (He.ga K "factorial") fd_factorial := ⟨toFun F_factorial, G_factorial, F_factorial.kp⟩
  obtain ⟨fd_choose, F_choose⟩ := cd.def_ 22 (d := dd "choose" s_choose []) rfl
  have F_choose : FunD K "choose" "choose" (C8.fnArgs s_choose) (C8.fnBody s_choose) (C8.fnScope s_choose) [] [] (He.fAd K ("choose", none)) fd_choose := F_choose
  have b_choose := F_choose.bindsN (ps := ["many", "few"]) fun _ _ _ _ _ _ us hl => match us, hl with | [_, _], _ => rfl
  have D_choose : C8.Def K mg "choose" s_choose (He.ga K "choose") fd_choose := ⟨toFun F_choose, G_choose, F_choose.kp⟩
  obtain ⟨fd_none_home, F_none_home⟩ := cd.def_ 23 (d := dd "none_home" s_none_home []) rfl
  have F_none_home : FunD K "none_home" "none_home" (C8.fnArgs s_none_home) (C8.fnBody s_none_home) (C8.fnScope s_none_home) [] [] (He.fAd K ("none_home", none)) fd_none_home := F_none_home
  have b_none_home := F_none_home.bindsN (ps := ["many"]) fun _ _ _ _ _ _ us hl => match us, hl with | [_], _ => rfl
  have D_none_home : C8.Def K mg "none_home" s_none_home (He.ga K "none_home") fd_none_home := ⟨toFun F_none_home, G_none_home, F_none_home.kp⟩
  obtain ⟨fd_raised, F_raised⟩ := cd.def_ 24 (d := dd "raised" s_raised []) rfl
  have F_raised : FunD K "raised" "raised" (C8.fnArgs s_raised) (C8.fnBody s_raised) (C8.fnScope s_raised) [] [] (He.fAd K ("raised", none)) fd_raised := F_raised
  have b_raised := F_raised.bindsN (ps := ["number", "count"]) fun _ _ _ _ _ _ us hl => match us, hl with | [_, _], _ => rfl
  have D_raised : C8.Def K mg "raised" s_raised (He.ga K "raised") fd_raised := ⟨toFun F_raised, G_raised, F_raised.kp⟩
  obtain ⟨fd_onto, F_onto⟩ := cd.def_ 25 (d := dd "onto" s_onto []) rfl
  have F_onto : FunD K "onto" "onto" (C8.fnArgs s_onto) (C8.fnBody s_onto) (C8.fnScope s_onto) [] [] (He.fAd K ("onto", none)) fd_onto := F_onto
  have b_onto := F_onto.bindsN (ps := ["many", "few"]) fun _ _ _ _ _ _ us hl => match us, hl with | [_, _], _ => rfl
  have D_onto : C8.Def K mg "onto" s_onto (He.ga K "onto") fd_onto := ⟨toFun F_onto, G_onto, F_onto.kp⟩
  obtain ⟨fd_at_home, F_at_home⟩ := cd.def_ 26 (d := dd "at_home" s_at_home []) rfl
  have F_at_home : FunD K "at_home" "at_home" (C8.fnArgs s_at_home) (C8.fnBody s_at_home) (C8.fnScope s_at_home) [] [] (He.fAd K ("at_home", none)) fd_at_home := F_at_home
  have b_at_home := F_at_home.bindsN (ps := ["many"]) fun _ _ _ _ _ _ us hl => match us, hl with | [_], _ => rfl
  have D_at_home : C8.Def K mg "at_home" s_at_home (He.ga K "at_home") fd_at_home := ⟨toFun F_at_home, G_at_home, F_at_home.kp⟩
  obtain ⟨fd_bare_lots, F_bare_lots⟩ := cd.def_ 27 (d := dd "bare_lots" s_bare_lots []) rfl
  have F_bare_lots : FunD K "bare_lots" "bare_lots" (C8.fnArgs s_bare_lots) (C8.fnBody s_bare_lots) (C8.fnScope s_bare_lots) [] [] (He.fAd K ("bare_lots", none)) fd_bare_lots := F_bare_lots
  have b_bare_lots := F_bare_lots.bindsN (ps := ["lots", "balls"]) fun _ _ _ _ _ _ us hl => match us, hl with | [_, _], _ => rfl
  have D_bare_lots : C8.Def K mg "bare_lots" s_bare_lots (He.ga K "bare_lots") fd_bare_lots := ⟨toFun F_bare_lots, G_bare_lots, F_bare_lots.kp⟩
  obtain ⟨fd_all_found, F_all_found⟩ := cd.def_ 28 (d := dd "all_found" s_all_found []) rfl
  have F_all_found : FunD K "all_found" "all_found" (C8.fnArgs s_all_found) (C8.fnBody s_all_found) (C8.fnScope s_all_found) [] [] (He.fAd K ("all_found", none)) fd_all_found := F_all_found
  have b_all_found := F_all_found.bindsN (ps := ["many", "tries"]) fun _ _ _ _ _ _ us hl => match us, hl with | [_, _], _ => rfl
  have D_all_found : C8.Def K mg "all_found" s_all_found (He.ga K "all_found") fd_all_found := ⟨toFun F_all_found, G_all_found, F_all_found.kp⟩
  obtain ⟨fd_check_urn, F_check_urn⟩ := cd.def_ 29 (d := dd "check_urn" s_check_urn []) rfl
  have F_check_urn : FunD K "check_urn" "check_urn" (C8.fnArgs s_check_urn) (C8.fnBody s_check_urn) (C8.fnScope s_check_urn) [] [] (He.fAd K ("check_urn", none)) fd_check_urn := F_check_urn
  have b_check_urn := F_check_urn.bindsN (ps := ["counts"]) fun _ _ _ _ _ _ us hl => match us, hl with | [_], _ => rfl
  have D_check_urn : C8.Def K mg "check_urn" s_check_urn (He.ga K "check_urn") fd_check_urn := ⟨toFun F_check_urn, G_check_urn, F_check_urn.kp⟩
  obtain ⟨fd_kept_out, F_kept_out⟩ := cd.def_ 30 (d := dd "kept_out" s_kept_out []) rfl
  have F_kept_out : FunD K "kept_out" "kept_out" (C8.fnArgs s_kept_out) (C8.fnBody s_kept_out) (C8.fnScope s_kept_out) [] [] (He.fAd K ("kept_out", none)) fd_kept_out := F_kept_out
  have b_kept_out := F_kept_out.bindsN (ps := ["counts", "kind", "many"]) fun _ _ _ _ _ _ us hl => match us, hl with | [_, _, _], _ => rfl
  have D_kept_out : C8.Def K mg "kept_out" s_kept_out (He.ga K "kept_out") fd_kept_out := ⟨toFun F_kept_out, G_kept_out, F_kept_out.kp⟩
  obtain ⟨fd_from_chances, F_from_chances⟩ := cd.def_ 31 (d := dd "from_chances" s_from_chances []) rfl
  have F_from_chances : FunD K "from_chances" "from_chances" (C8.fnArgs s_from_chances) (C8.fnBody s_from_chances) (C8.fnScope s_from_chances) [] [] (He.fAd K ("from_chances", none)) fd_from_chances := F_from_chances
  have b_from_chances := F_from_chances.bindsN (ps := ["rows"]) fun _ _ _ _ _ _ us hl => match us, hl with | [_], _ => rfl
  have D_from_chances : C8.Def K mg "from_chances" s_from_chances (He.ga K "from_chances") fd_from_chances := ⟨toFun F_from_chances, G_from_chances, F_from_chances.kp⟩
  obtain ⟨fd_total, F_total⟩ := cd.def_ 32 (d := dd "total" s_total []) rfl
  have F_total : FunD K "total" "total" (C8.fnArgs s_total) (C8.fnBody s_total) (C8.fnScope s_total) [] [] (He.fAd K ("total", none)) fd_total := F_total
  have b_total := F_total.bindsN (ps := ["parts"]) fun _ _ _ _ _ _ us hl => match us, hl with | [_], _ => rfl
  have D_total : C8.Def K mg "total" s_total (He.ga K "total") fd_total := ⟨toFun F_total, G_total, F_total.kp⟩
  obtain ⟨fd_how_many, F_how_many⟩ := cd.def_ 33 (d := dd "how_many" s_how_many []) rfl
  have F_how_many : FunD K "how_many" "how_many" (C8.fnArgs s_how_many) (C8.fnBody s_how_many) (C8.fnScope s_how_many) [] [] (He.fAd K ("how_many", none)) fd_how_many := F_how_many
  have b_how_many := F_how_many.bindsN (ps := ["chances"]) fun _ _ _ _ _ _ us hl => match us, hl with | [_], _ => rfl
  have D_how_many : C8.Def K mg "how_many" s_how_many (He.ga K "how_many") fd_how_many := ⟨toFun F_how_many, G_how_many, F_how_many.kp⟩
  obtain ⟨fd_overlaps_of, F_overlaps_of⟩ := cd.def_ 34 (d := dd "overlaps_of" s_overlaps_of []) rfl
  have F_overlaps_of : FunD K "overlaps_of" "overlaps_of" (C8.fnArgs s_overlaps_of) (C8.fnBody s_overlaps_of) (C8.fnScope s_overlaps_of) [] [] (He.fAd K ("overlaps_of", none)) fd_overlaps_of := F_overlaps_of
  have b_overlaps_of := F_overlaps_of.bindsN (ps := ["spread", "many"]) fun _ _ _ _ _ _ us hl => match us, hl with | [_, _], _ => rfl
  have D_overlaps_of : C8.Def K mg "overlaps_of" s_overlaps_of (He.ga K "overlaps_of") fd_overlaps_of := ⟨toFun F_overlaps_of, G_overlaps_of, F_overlaps_of.kp⟩
  obtain ⟨fd_from_overlaps, F_from_overlaps⟩ := cd.def_ 35 (d := dd "from_overlaps" s_from_overlaps []) rfl
  have F_from_overlaps : FunD K "from_overlaps" "from_overlaps" (C8.fnArgs s_from_overlaps) (C8.fnBody s_from_overlaps) (C8.fnScope s_from_overlaps) [] [] (He.fAd K ("from_overlaps", none)) fd_from_overlaps := F_from_overlaps
  have b_from_overlaps := F_from_overlaps.bindsN (ps := ["overlaps"]) fun _ _ _ _ _ _ us hl => match us, hl with | [_], _ => rfl
  have D_from_overlaps : C8.Def K mg "from_overlaps" s_from_overlaps (He.ga K "from_overlaps") fd_from_overlaps := ⟨toFun F_from_overlaps, G_from_overlaps, F_from_overlaps.kp⟩
  obtain ⟨fd_race, F_race⟩ := cd.def_ 36 (d := dd "race" s_race []) rfl
  have F_race : FunD K "race" "race" (C8.fnArgs s_race) (C8.fnBody s_race) (C8.fnScope s_race) [] [] (He.fAd K ("race", none)) fd_race := F_race
  have b_race := F_race.bindsN (ps := ["chance", "mine", "theirs"]) fun _ _ _ _ _ _ us hl => match us, hl with | [_, _, _], _ => rfl
  have D_race : C8.Def K mg "race" s_race (He.ga K "race") fd_race := ⟨toFun F_race, G_race, F_race.kp⟩
  obtain ⟨fd_step, F_step⟩ := cd.def_ 37 (d := dd "step" s_step []) rfl
  have F_step : FunD K "step" "step" (C8.fnArgs s_step) (C8.fnBody s_step) (C8.fnScope s_step) [] [] (He.fAd K ("step", none)) fd_step := F_step
  have b_step := F_step.bindsN (ps := ["start", "rows"]) fun _ _ _ _ _ _ us hl => match us, hl with | [_, _], _ => rfl
  have D_step : C8.Def K mg "step" s_step (He.ga K "step") fd_step := ⟨toFun F_step, G_step, F_step.kp⟩
  obtain ⟨fd_check_rows, F_check_rows⟩ := cd.def_ 38 (d := dd "check_rows" s_check_rows []) rfl
  have F_check_rows : FunD K "check_rows" "check_rows" (C8.fnArgs s_check_rows) (C8.fnBody s_check_rows) (C8.fnScope s_check_rows) [] [] (He.fAd K ("check_rows", none)) fd_check_rows := F_check_rows
  have b_check_rows := F_check_rows.bindsN (ps := ["rows"]) fun _ _ _ _ _ _ us hl => match us, hl with | [_], _ => rfl
  obtain ⟨fd_Walk_init, F_Walk_init⟩ := cd.def_ 39 (d := dm "Walk" "__init__" "Walk.__init__" s_Walk_init) rfl
  have F_Walk_init : FunD K "__init__" "Walk.__init__" (C8.fnArgs s_Walk_init) (C8.fnBody s_Walk_init) (C8.fnScope s_Walk_init) [] [] (He.fAd K ("Walk", some "__init__")) fd_Walk_init := F_Walk_init
  have b_Walk_init := F_Walk_init.bindsN (ps := ["self", "rows"]) fun _ _ _ _ _ _ us hl => match us, hl with | [_, _], _ => rfl
  obtain ⟨fd_Walk_after, F_Walk_after⟩ := cd.def_ 40 (d := dm "Walk" "after" "Walk.after" s_Walk_after) rfl
  have F_Walk_after : FunD K "after" "Walk.after" (C8.fnArgs s_Walk_after) (C8.fnBody s_Walk_after) (C8.fnScope s_Walk_after) [] [] (He.fAd K ("Walk", some "after")) fd_Walk_after := F_Walk_after
  have b_Walk_after := F_Walk_after.bindsN (ps := ["self", "place", "count"]) fun _ _ _ _ _ _ us hl => match us, hl with | [_, _, _], _ => rfl
  obtain ⟨fd_Hidden_init, F_Hidden_init⟩ := cd.def_ 41 (d := dm "Hidden" "__init__" "Hidden.__init__" s_Hidden_init) rfl
  have F_Hidden_init : FunD K "__init__" "Hidden.__init__" (C8.fnArgs s_Hidden_init) (C8.fnBody s_Hidden_init) (C8.fnScope s_Hidden_init) [] [] (He.fAd K ("Hidden", some "__init__")) fd_Hidden_init := F_Hidden_init
  have b_Hidden_init := F_Hidden_init.bindsN (ps := ["self", "first", "rows", "signs", "letters"]) fun _ _ _ _ _ _ us hl => match us, hl with | [_, _, _, _, _], _ => rfl
  obtain ⟨fd_Hidden_size, F_Hidden_size⟩ := cd.def_ 42 (d := dm "Hidden" "size" "Hidden.size" s_Hidden_size) rfl
  have F_Hidden_size : FunD K "size" "Hidden.size" (C8.fnArgs s_Hidden_size) (C8.fnBody s_Hidden_size) (C8.fnScope s_Hidden_size) [] [] (He.fAd K ("Hidden", some "size")) fd_Hidden_size := F_Hidden_size
  have b_Hidden_size := F_Hidden_size.bindsN (ps := ["self"]) fun _ _ _ _ _ _ us hl => match us, hl with | [_], _ => rfl
  obtain ⟨fd_Hidden_sign, F_Hidden_sign⟩ := cd.def_ 43 (d := dm "Hidden" "sign" "Hidden.sign" s_Hidden_sign) rfl
  have F_Hidden_sign : FunD K "sign" "Hidden.sign" (C8.fnArgs s_Hidden_sign) (C8.fnBody s_Hidden_sign) (C8.fnScope s_Hidden_sign) [] [] (He.fAd K ("Hidden", some "sign")) fd_Hidden_sign := F_Hidden_sign
  have b_Hidden_sign := F_Hidden_sign.bindsN (ps := ["self", "place", "letter"]) fun _ _ _ _ _ _ us hl => match us, hl with | [_, _, _], _ => rfl
  obtain ⟨fd_Hidden_ahead, F_Hidden_ahead⟩ := cd.def_ 44 (d := dm "Hidden" "ahead" "Hidden.ahead" s_Hidden_ahead) rfl
  have F_Hidden_ahead : FunD K "ahead" "Hidden.ahead" (C8.fnArgs s_Hidden_ahead) (C8.fnBody s_Hidden_ahead) (C8.fnScope s_Hidden_ahead) [] [] (He.fAd K ("Hidden", some "ahead")) fd_Hidden_ahead := F_Hidden_ahead
  have b_Hidden_ahead := F_Hidden_ahead.bindsN (ps := ["self", "word"]) fun _ _ _ _ _ _ us hl => match us, hl with | [_, _], _ => rfl
  obtain ⟨fd_Hidden_chance, F_Hidden_chance⟩ := cd.def_ 45 (d := dm "Hidden" "chance" "Hidden.chance" s_Hidden_chance) rfl
  have F_Hidden_chance : FunD K "chance" "Hidden.chance" (C8.fnArgs s_Hidden_chance) (C8.fnBody s_Hidden_chance) (C8.fnScope s_Hidden_chance) [] [] (He.fAd K ("Hidden", some "chance")) fd_Hidden_chance := F_Hidden_chance
  have b_Hidden_chance := F_Hidden_chance.bindsN (ps := ["self", "word"]) fun _ _ _ _ _ _ us hl => match us, hl with | [_, _], _ => rfl
  obtain ⟨fd_sums_of, F_sums_of⟩ := cd.def_ 46 (d := dd "sums_of" s_sums_of []) rfl
  have F_sums_of : FunD K "sums_of" "sums_of" (C8.fnArgs s_sums_of) (C8.fnBody s_sums_of) (C8.fnScope s_sums_of) [] [] (He.fAd K ("sums_of", none)) fd_sums_of := F_sums_of
  have b_sums_of := F_sums_of.bindsN (ps := ["values", "few"]) fun _ _ _ _ _ _ us hl => match us, hl with | [_, _], _ => rfl
  have D_sums_of : C8.Def K mg "sums_of" s_sums_of (He.ga K "sums_of") fd_sums_of := ⟨toFun F_sums_of, G_sums_of, F_sums_of.kp⟩
  obtain ⟨fd_two_lots, F_two_lots⟩ := cd.def_ 47 (d := dd "two_lots" s_two_lots []) rfl
  have F_two_lots : FunD K "two_lots" "two_lots" (C8.fnArgs s_two_lots) (C8.fnBody s_two_lots) (C8.fnScope s_two_lots) [] [] (He.fAd K ("two_lots", none)) fd_two_lots := F_two_lots
  have b_two_lots := F_two_lots.bindsN (ps := ["one", "other"]) fun _ _ _ _ _ _ us hl => match us, hl with | [_, _], _ => rfl
  obtain ⟨fd_laid, F_laid⟩ := cd.def_ 48 (d := dd "laid" s_laid []) rfl
  have F_laid : FunD K "laid" "laid" (C8.fnArgs s_laid) (C8.fnBody s_laid) (C8.fnScope s_laid) [] [] (He.fAd K ("laid", none)) fd_laid := F_laid
  have b_laid := F_laid.bindsN (ps := ["states", "many", "keep", "side", "last"]) fun _ _ _ _ _ _ us hl => match us, hl with | [_, _, _, _, _], _ => rfl
  have D_laid : C8.Def K mg "laid" s_laid (He.ga K "laid") fd_laid := ⟨toFun F_laid, G_laid, F_laid.kp⟩
  obtain ⟨fd_kept, F_kept⟩ := cd.def_ 49 (d := dd "kept" s_kept [.bl true]) rfl
  have F_kept : FunD K "kept" "kept" (C8.fnArgs s_kept) (C8.fnBody s_kept) (C8.fnScope s_kept) [V.bl true] [] (He.fAd K ("kept", none)) fd_kept := F_kept
  obtain ⟨ds_kept, v_kept, b_kept⟩ := F_kept.binds1 (ps := ["many", "sides", "keep", "best"]) 3 0 (by simp) rfl fun T kV doc pm an cdv ct us its hu hi => match us, hu, its, hi with | [_, _, _], _, [_], _ => ⟨_, rfl, rfl⟩
  have D_kept : C8.Def K mg "kept" s_kept (He.ga K "kept") fd_kept := ⟨toFun F_kept, G_kept, F_kept.kp⟩
  obtain ⟨fd__law_ways, F__law_ways⟩ := cd.def_ 50 (d := dd "_law_ways" s__law_ways []) rfl
  have F__law_ways : FunD K "_law_ways" "_law_ways" (C8.fnArgs s__law_ways) (C8.fnBody s__law_ways) (C8.fnScope s__law_ways) [] [] (He.fAd K ("_law_ways", none)) fd__law_ways := F__law_ways
  have b__law_ways := F__law_ways.bindsN (ps := ["many", "few"]) fun _ _ _ _ _ _ us hl => match us, hl with | [_, _], _ => rfl
  have D__law_ways : C8.Def K mg "_law_ways" s__law_ways (He.ga K "_law_ways") fd__law_ways := ⟨toFun F__law_ways, G__law_ways, F__law_ways.kp⟩
  obtain ⟨fd__law_roll, F__law_roll⟩ := cd.def_ 51 (d := dd "_law_roll" s__law_roll []) rfl
  have F__law_roll : FunD K "_law_roll" "_law_roll" (C8.fnArgs s__law_roll) (C8.fnBody s__law_roll) (C8.fnScope s__law_roll) [] [] (He.fAd K ("_law_roll", none)) fd__law_roll := F__law_roll
  have b__law_roll := F__law_roll.bindsN (ps := ["dice", "many"]) fun _ _ _ _ _ _ us hl => match us, hl with | [_, _], _ => rfl
  have D__law_roll : C8.Def K mg "_law_roll" s__law_roll (He.ga K "_law_roll") fd__law_roll := ⟨toFun F__law_roll, G__law_roll, F__law_roll.kp⟩
  obtain ⟨fd__law_dice, F__law_dice⟩ := cd.def_ 52 (d := dd "_law_dice" s__law_dice []) rfl
  have F__law_dice : FunD K "_law_dice" "_law_dice" (C8.fnArgs s__law_dice) (C8.fnBody s__law_dice) (C8.fnScope s__law_dice) [] [] (He.fAd K ("_law_dice", none)) fd__law_dice := F__law_dice
  have b__law_dice := F__law_dice.bindsN (ps := ["cell"]) fun _ _ _ _ _ _ us hl => match us, hl with | [_], _ => rfl
  have D__law_dice : C8.Def K mg "_law_dice" s__law_dice (He.ga K "_law_dice") fd__law_dice := ⟨toFun F__law_dice, G__law_dice, F__law_dice.kp⟩
  obtain ⟨fd__law_rounds, F__law_rounds⟩ := cd.def_ 53 (d := dd "_law_rounds" s__law_rounds []) rfl
  have F__law_rounds : FunD K "_law_rounds" "_law_rounds" (C8.fnArgs s__law_rounds) (C8.fnBody s__law_rounds) (C8.fnScope s__law_rounds) [] [] (He.fAd K ("_law_rounds", none)) fd__law_rounds := F__law_rounds
  have b__law_rounds := F__law_rounds.bindsN (ps := ["script", "most"]) fun _ _ _ _ _ _ us hl => match us, hl with | [_, _], _ => rfl
  have D__law_rounds : C8.Def K mg "_law_rounds" s__law_rounds (He.ga K "_law_rounds") fd__law_rounds := ⟨toFun F__law_rounds, G__law_rounds, F__law_rounds.kp⟩
  obtain ⟨fd__law_rolls, F__law_rolls⟩ := cd.def_ 54 (d := dd "_law_rolls" s__law_rolls []) rfl
  have F__law_rolls : FunD K "_law_rolls" "_law_rolls" (C8.fnArgs s__law_rolls) (C8.fnBody s__law_rolls) (C8.fnScope s__law_rolls) [] [] (He.fAd K ("_law_rolls", none)) fd__law_rolls := F__law_rolls
  have b__law_rolls := F__law_rolls.bindsN (ps := ["many", "sides"]) fun _ _ _ _ _ _ us hl => match us, hl with | [_, _], _ => rfl
  have D__law_rolls : C8.Def K mg "_law_rolls" s__law_rolls (He.ga K "_law_rolls") fd__law_rolls := ⟨toFun F__law_rolls, G__law_rolls, F__law_rolls.kp⟩
  obtain ⟨fd__law_same, F__law_same⟩ := cd.def_ 55 (d := dd "_law_same" s__law_same []) rfl
  have F__law_same : FunD K "_law_same" "_law_same" (C8.fnArgs s__law_same) (C8.fnBody s__law_same) (C8.fnScope s__law_same) [] [] (He.fAd K ("_law_same", none)) fd__law_same := F__law_same
  have b__law_same := F__law_same.bindsN (ps := ["spread", "ways_v"]) fun _ _ _ _ _ _ us hl => match us, hl with | [_, _], _ => rfl
  have D__law_same : C8.Def K mg "_law_same" s__law_same (He.ga K "_law_same") fd__law_same := ⟨toFun F__law_same, G__law_same, F__law_same.kp⟩
  obtain ⟨fd__law_kept, F__law_kept⟩ := cd.def_ 56 (d := dd "_law_kept" s__law_kept []) rfl
  have F__law_kept : FunD K "_law_kept" "_law_kept" (C8.fnArgs s__law_kept) (C8.fnBody s__law_kept) (C8.fnScope s__law_kept) [] [] (He.fAd K ("_law_kept", none)) fd__law_kept := F__law_kept
  have b__law_kept := F__law_kept.bindsN (ps := ["many", "sides", "keep"]) fun _ _ _ _ _ _ us hl => match us, hl with | [_, _, _], _ => rfl
  have D__law_kept : C8.Def K mg "_law_kept" s__law_kept (He.ga K "_law_kept") fd__law_kept := ⟨toFun F__law_kept, G__law_kept, F__law_kept.kp⟩
  obtain ⟨fd__law_thrown, F__law_thrown⟩ := cd.def_ 57 (d := dd "_law_thrown" s__law_thrown []) rfl
  have F__law_thrown : FunD K "_law_thrown" "_law_thrown" (C8.fnArgs s__law_thrown) (C8.fnBody s__law_thrown) (C8.fnScope s__law_thrown) [] [] (He.fAd K ("_law_thrown", none)) fd__law_thrown := F__law_thrown
  have b__law_thrown := F__law_thrown.bindsN (ps := ["dice"]) fun _ _ _ _ _ _ us hl => match us, hl with | [_], _ => rfl
  have D__law_thrown : C8.Def K mg "_law_thrown" s__law_thrown (He.ga K "_law_thrown") fd__law_thrown := ⟨toFun F__law_thrown, G__law_thrown, F__law_thrown.kp⟩
  obtain ⟨fd__law_orders, F__law_orders⟩ := cd.def_ 58 (d := dd "_law_orders" s__law_orders []) rfl
  have F__law_orders : FunD K "_law_orders" "_law_orders" (C8.fnArgs s__law_orders) (C8.fnBody s__law_orders) (C8.fnScope s__law_orders) [] [] (He.fAd K ("_law_orders", none)) fd__law_orders := F__law_orders
  have b__law_orders := F__law_orders.bindsN (ps := ["dice"]) fun _ _ _ _ _ _ us hl => match us, hl with | [_], _ => rfl
  have D__law_orders : C8.Def K mg "_law_orders" s__law_orders (He.ga K "_law_orders") fd__law_orders := ⟨toFun F__law_orders, G__law_orders, F__law_orders.kp⟩
  obtain ⟨fd__law_raced, F__law_raced⟩ := cd.def_ 59 (d := dd "_law_raced" s__law_raced []) rfl
  have F__law_raced : FunD K "_law_raced" "_law_raced" (C8.fnArgs s__law_raced) (C8.fnBody s__law_raced) (C8.fnScope s__law_raced) [] [] (He.fAd K ("_law_raced", none)) fd__law_raced := F__law_raced
  have b__law_raced := F__law_raced.bindsN (ps := ["dice"]) fun _ _ _ _ _ _ us hl => match us, hl with | [_], _ => rfl
  have D__law_raced : C8.Def K mg "_law_raced" s__law_raced (He.ga K "_law_raced") fd__law_raced := ⟨toFun F__law_raced, G__law_raced, F__law_raced.kp⟩
  obtain ⟨fd__law_summed, F__law_summed⟩ := cd.def_ 60 (d := dd "_law_summed" s__law_summed []) rfl
  have F__law_summed : FunD K "_law_summed" "_law_summed" (C8.fnArgs s__law_summed) (C8.fnBody s__law_summed) (C8.fnScope s__law_summed) [] [] (He.fAd K ("_law_summed", none)) fd__law_summed := F__law_summed
  have b__law_summed := F__law_summed.bindsN (ps := ["dice"]) fun _ _ _ _ _ _ us hl => match us, hl with | [_], _ => rfl
  obtain ⟨fd__law_walked, F__law_walked⟩ := cd.def_ 61 (d := dd "_law_walked" s__law_walked []) rfl
  have F__law_walked : FunD K "_law_walked" "_law_walked" (C8.fnArgs s__law_walked) (C8.fnBody s__law_walked) (C8.fnScope s__law_walked) [] [] (He.fAd K ("_law_walked", none)) fd__law_walked := F__law_walked
  have b__law_walked := F__law_walked.bindsN (ps := ["dice"]) fun _ _ _ _ _ _ us hl => match us, hl with | [_], _ => rfl
  have D__law_walked : C8.Def K mg "_law_walked" s__law_walked (He.ga K "_law_walked") fd__law_walked := ⟨toFun F__law_walked, G__law_walked, F__law_walked.kp⟩
  obtain ⟨fd_law, F_law⟩ := cd.def_ 62 (d := dd "law" s_law []) rfl
  have F_law : FunD K "law" "law" (C8.fnArgs s_law) (C8.fnBody s_law) (C8.fnScope s_law) [] [] (He.fAd K ("law", none)) fd_law := F_law
  have b_law := F_law.bindsN (ps := ["script"]) fun _ _ _ _ _ _ us hl => match us, hl with | [_], _ => rfl
  have D_law : C8.Def K mg "law" s_law (He.ga K "law") fd_law := ⟨toFun F_law, G_law, F_law.kp⟩
  have bl := FunD.bindsA (ps := ["script"]) F_law fun _ _ _ _ _ _ us hl => match us, hl with | [_], _ => rfl
  refine ⟨fd_law, fun s u => bl s [u] rfl, G_law, fun base TB => ?_⟩
  have TL_Spread_chance_of : LamX.TabB base mg (He.codeOf K ("Spread", some "chance_of")) (He.tabOf K (He.codeOf K ("Spread", some "chance_of"))) := TB (He.cT K ("Spread", some "chance_of")) (List.mem_map.mpr ⟨("Spread", some "chance_of"), by simp [tf], rfl⟩)
  have tm_Spread_chance_of : (He.tabOf K (He.codeOf K ("Spread", some "chance_of")), none) ∈ T9 K := List.mem_of_getElem? (i := 0) rfl
  have tu_Spread_chance_of := uniq ndT tm_Spread_chance_of
  have TL_added : LamX.TabB base mg (He.codeOf K ("added", none)) (He.tabOf K (He.codeOf K ("added", none))) := TB (He.cT K ("added", none)) (List.mem_map.mpr ⟨("added", none), by simp [tf], rfl⟩)
  have tm_added : (He.tabOf K (He.codeOf K ("added", none)), some qAdded) ∈ T9 K := List.mem_of_getElem? (i := 1) rfl
  have tu_added := uniq ndT tm_added
  have TL_check_rows : LamX.TabB base mg (He.codeOf K ("check_rows", none)) (He.tabOf K (He.codeOf K ("check_rows", none))) := TB (He.cT K ("check_rows", none)) (List.mem_map.mpr ⟨("check_rows", none), by simp [tf], rfl⟩)
  have tm_check_rows : (He.tabOf K (He.codeOf K ("check_rows", none)), none) ∈ T9 K := List.mem_of_getElem? (i := 2) rfl
  have tu_check_rows := uniq ndT tm_check_rows
  have TL_Hidden_init : LamX.TabB base mg (He.codeOf K ("Hidden", some "__init__")) (He.tabOf K (He.codeOf K ("Hidden", some "__init__"))) := TB (He.cT K ("Hidden", some "__init__")) (List.mem_map.mpr ⟨("Hidden", some "__init__"), by simp [tf], rfl⟩)
  have tm_Hidden_init : (He.tabOf K (He.codeOf K ("Hidden", some "__init__")), none) ∈ T9 K := List.mem_of_getElem? (i := 3) rfl
  have tu_Hidden_init := uniq ndT tm_Hidden_init
  have TL_two_lots : LamX.TabB base mg (He.codeOf K ("two_lots", none)) (He.tabOf K (He.codeOf K ("two_lots", none))) := TB (He.cT K ("two_lots", none)) (List.mem_map.mpr ⟨("two_lots", none), by simp [tf], rfl⟩)
  have tm_two_lots : (He.tabOf K (He.codeOf K ("two_lots", none)), some qTwo) ∈ T9 K := List.mem_of_getElem? (i := 4) rfl
  have tu_two_lots := uniq ndT tm_two_lots
  have TL__law_summed : LamX.TabB base mg (He.codeOf K ("_law_summed", none)) (He.tabOf K (He.codeOf K ("_law_summed", none))) := TB (He.cT K ("_law_summed", none)) (List.mem_map.mpr ⟨("_law_summed", none), by simp [tf], rfl⟩)
  have tm__law_summed : (He.tabOf K (He.codeOf K ("_law_summed", none)), some qFar) ∈ T9 K := List.mem_of_getElem? (i := 5) rfl
  have tu__law_summed := uniq ndT tm__law_summed
  have c_shared := k_shared (P := P) (w := w) (base := base) (T := T) (Df := D_shared) (bf := b_shared)
  have c_part := k_part (P := P) (w := w) (base := base) (T := T) (Df := D_part) (bf := b_part) (c_shared := c_shared)
  have c_plus := k_plus (P := P) (w := w) (base := base) (T := T) (Df := D_plus) (bf := b_plus) (c_part := c_part)
  have c_minus := k_minus (P := P) (w := w) (base := base) (T := T) (Df := D_minus) (bf := b_minus) (c_part := c_part)
  have c_times := k_times (P := P) (w := w) (base := base) (T := T) (Df := D_times) (bf := b_times) (c_part := c_part)
  have c_other_way := k_other_way (P := P) (w := w) (base := base) (T := T) (Df := D_other_way) (bf := b_other_way) (g_ONE := G_ONE) (hO := hO) (c_minus := c_minus)
  have c_check_chance := k_check_chance (P := P) (w := w) (base := base) (T := T) (Df := D_check_chance) (bf := b_check_chance) (c_part := c_part)
  have m_Spread := m_Spread (P := P) (w := w) (base := base) (T := T) (M := mk_Spread) (hm := G_Spread) (Fi := toFun F_Spread_init) (bf := b_Spread_init) (cl := cl_Spread) (aw := na_Spread_weights) (ah := na_Spread_whole) (c_shared := c_shared)
  have mt_Spread_chance := mt_Spread_chance (P := P) (w := w) (base := base) (CS := He.ga K "Spread") (cl := cl_Spread) (me := me_Spread_chance) (F := toFun F_Spread_chance) (bf := b_Spread_chance) (aw := na_Spread_weights) (ah := na_Spread_whole) (c_part := c_part)
  have mt_Spread_chance_of := mt_Spread_chance_of (P := P) (w := w) (base := base) (T9 := T9 K) (CS := He.ga K "Spread") (T := T) (TB := toG TL_Spread_chance_of) (hTm := tm_Spread_chance_of) (hTu := tu_Spread_chance_of) (cl := cl_Spread) (me := me_Spread_chance_of) (F := toFunC F_Spread_chance_of) (bf := b_Spread_chance_of) (aw := na_Spread_weights) (ah := na_Spread_whole) (c_part := c_part)
  have mt_Spread_shown := mt_Spread_shown (P := P) (w := w) (base := base) (CS := He.ga K "Spread") (T := T) (cl := cl_Spread) (me := me_Spread_shown) (F := toFun F_Spread_shown) (bf := b_Spread_shown) (aw := na_Spread_weights) (ah := na_Spread_whole)
  have c_sure := k_sure (P := P) (w := w) (base := base) (CS := He.ga K "Spread") (T := T) (Df := D_sure) (bf := b_sure) (m_Spread := m_Spread)
  have c_even := k_even (P := P) (w := w) (base := base) (CS := He.ga K "Spread") (T := T) (Df := D_even) (bf := b_even) (m_Spread := m_Spread)
  have c_together := k_together (P := P) (w := w) (base := base) (T9 := T9 K) (CS := He.ga K "Spread") (T := T) (Df := D_together) (bf := b_together) (cl := cl_Spread) (aw := na_Spread_weights) (m_Spread := m_Spread)
  have c_added := k_added (P := P) (w := w) (base := base) (T9 := T9 K) (CS := He.ga K "Spread") (Df := toFunC F_added) (hm := G_added) (kp := F_added.kp) (bf := b_added) (TL := TL_added) (hTm := tm_added) (hTu := tu_added) (c_together := c_together)
  have c_added_often := k_often (P := P) (w := w) (base := base) (T9 := T9 K) (CS := He.ga K "Spread") (T := T) (Df := D_added_often) (bf := b_added_often) (c_sure := c_sure) (c_added := c_added)
  have c_die := k_die (P := P) (w := w) (base := base) (CS := He.ga K "Spread") (T := T) (Df := D_die) (bf := b_die) (c_even := c_even)
  have c_rolls := k_rolls (P := P) (w := w) (base := base) (T9 := T9 K) (CS := He.ga K "Spread") (T := T) (Df := D_rolls) (bf := b_rolls) (c_die := c_die) (c_added_often := c_added_often)
  have c_ways := k_ways (P := P) (w := w) (base := base) (T := T) (Df := D_ways) (bf := b_ways)
  have c_check_count := k_check_count (P := P) (w := w) (base := base) (T := T) (Df := D_check_count) (bf := b_check_count)
  have c_check_many := k_check_many (P := P) (w := w) (base := base) (T := T) (Df := D_check_many) (bf := b_check_many)
  have c_factorial := k_factorial (P := P) (w := w) (base := base) (T := T) (Df := D_factorial) (bf := b_factorial) (c_check_count := c_check_count)
  have c_choose := k_choose (P := P) (w := w) (base := base) (T := T) (Df := D_choose) (bf := b_choose) (c_check_count := c_check_count)
  have c_none_home := k_none_home (P := P) (w := w) (base := base) (T := T) (Df := D_none_home) (bf := b_none_home) (c_check_count := c_check_count)
  have c_raised := k_raised (P := P) (w := w) (base := base) (T := T) (Df := D_raised) (bf := b_raised)
  have c_onto := k_onto (P := P) (w := w) (base := base) (T := T) (Df := D_onto) (bf := b_onto) (c_check_count := c_check_count) (c_choose := c_choose) (c_raised := c_raised)
  have c_at_home := k_at_home (P := P) (w := w) (base := base) (CS := He.ga K "Spread") (T := T) (Df := D_at_home) (bf := b_at_home) (c_check_many := c_check_many) (c_choose := c_choose) (c_none_home := c_none_home) (m_Spread := m_Spread)
  have c_bare_lots := k_bare_lots (P := P) (w := w) (base := base) (CS := He.ga K "Spread") (T := T) (Df := D_bare_lots) (bf := b_bare_lots) (c_choose := c_choose) (c_onto := c_onto) (m_Spread := m_Spread)
  have c_all_found := k_all_found (P := P) (w := w) (base := base) (T := T) (Df := D_all_found) (bf := b_all_found) (c_check_many := c_check_many) (c_choose := c_choose) (c_factorial := c_factorial) (c_part := c_part)
  have c_check_urn := k_check_urn (P := P) (w := w) (base := base) (T := T) (Df := D_check_urn) (bf := b_check_urn)
  have c_kept_out := k_kept_out (P := P) (w := w) (base := base) (CS := He.ga K "Spread") (T := T) (Df := D_kept_out) (bf := b_kept_out) (c_check_urn := c_check_urn) (c_choose := c_choose) (m_Spread := m_Spread)
  have c_from_chances := k_from_chances (P := P) (w := w) (base := base) (CS := He.ga K "Spread") (T := T) (Df := D_from_chances) (bf := b_from_chances) (c_shared := c_shared) (c_plus := c_plus) (m_Spread := m_Spread)
  have c_total := k_total (P := P) (w := w) (base := base) (Df := D_total) (bf := b_total) (g_NOUGHT := G_NOUGHT) (hN := hN) (c_plus := c_plus)
  have c_how_many := k_how_many (P := P) (w := w) (base := base) (CS := He.ga K "Spread") (T := T) (Df := D_how_many) (bf := b_how_many) (c_check_chance := c_check_chance) (c_plus := c_plus) (c_minus := c_minus) (c_times := c_times) (c_from_chances := c_from_chances)
  have c_overlaps_of := k_overlaps_of (P := P) (w := w) (base := base) (CS := He.ga K "Spread") (T := T) (Df := D_overlaps_of) (bf := b_overlaps_of) (cl := cl_Spread) (aw := na_Spread_weights) (ah := na_Spread_whole) (c_plus := c_plus) (c_part := c_part)
  have c_from_overlaps := k_from_overlaps (P := P) (w := w) (base := base) (T := T) (Df := D_from_overlaps) (bf := b_from_overlaps) (c_plus := c_plus) (c_minus := c_minus) (c_times := c_times)
  have c_race := k_race (P := P) (w := w) (base := base) (T := T) (Df := D_race) (bf := b_race) (c_check_chance := c_check_chance) (c_plus := c_plus) (c_times := c_times) (c_other_way := c_other_way)
  have c_step := k_step (P := P) (w := w) (base := base) (T := T) (Df := D_step) (bf := b_step) (c_times := c_times) (c_total := c_total)
  have c_check_rows := k_check_rows (P := P) (w := w) (base := base) (T9 := T9 K) (T := T) (TB := toG TL_check_rows) (hTm := tm_check_rows) (hTu := tu_check_rows) (F := toFunC F_check_rows) (hmg := G_check_rows) (kp := F_check_rows.kp) (bf := b_check_rows) (c_part := c_part) (c_total := c_total)
  have m_Walk := m_Walk (P := P) (w := w) (base := base) (T9 := T9 K) (T := T) (M := mk_Walk) (hm := G_Walk) (Fi := toFun F_Walk_init) (bf := b_Walk_init) (cl := cl_Walk) (aw := na_Walk_rows) (ah := na_Walk_many) (c_check_rows := c_check_rows)
  have mt_Walk_after := mt_Walk_after (P := P) (w := w) (base := base) (T := T) (cl := cl_Walk) (me := me_Walk_after) (F := toFun F_Walk_after) (bf := b_Walk_after) (aw := na_Walk_rows) (ah := na_Walk_many) (c_step := c_step)
  have m_Hidden := m_Hidden (P := P) (w := w) (base := base) (T9 := T9 K) (T := T) (TB := toG TL_Hidden_init) (hTm := tm_Hidden_init) (hTu := tu_Hidden_init) (M := mk_Hidden) (hmg := G_Hidden) (F := toFunC F_Hidden_init) (bf := b_Hidden_init) (cl := cl_Hidden) (n1 := na_Hidden_first) (n2 := na_Hidden_rows) (n3 := na_Hidden_letters) (n4 := na_Hidden_signs) (c_check_chance := c_check_chance) (c_total := c_total) (c_check_rows := c_check_rows)
  have mt_Hidden_size := mt_Hidden_size' (P := P) (w := w) (base := base) (T := T) (cl := cl_Hidden) (me := me_Hidden_size) (F := toFun F_Hidden_size) (bf := b_Hidden_size) (n2 := na_Hidden_rows)
  have mt_Hidden_sign := mt_Hidden_sign' (P := P) (w := w) (base := base) (T := T) (cl := cl_Hidden) (me := me_Hidden_sign) (F := toFun F_Hidden_sign) (bf := b_Hidden_sign) (n3 := na_Hidden_letters) (n4 := na_Hidden_signs)
  have mt_Hidden_ahead := mt_Hidden_ahead' (P := P) (w := w) (base := base) (T := T) (cl := cl_Hidden) (me := me_Hidden_ahead) (F := toFun F_Hidden_ahead) (bf := b_Hidden_ahead) (n1 := na_Hidden_first) (n2 := na_Hidden_rows) (c_times := c_times) (c_total := c_total) (mt_Hidden_size := mt_Hidden_size) (mt_Hidden_sign := mt_Hidden_sign)
  have mt_Hidden_chance := mt_Hidden_chance' (P := P) (w := w) (base := base) (T := T) (cl := cl_Hidden) (me := me_Hidden_chance) (F := toFun F_Hidden_chance) (bf := b_Hidden_chance) (c_total := c_total) (mt_Hidden_ahead := mt_Hidden_ahead)
  have c_sums_of := k_sums_of (P := P) (w := w) (base := base) (CS := He.ga K "Spread") (T := T) (Df := D_sums_of) (bf := b_sums_of) (m_Spread := m_Spread)
  have c_two_lots := k_two_lots (P := P) (w := w) (base := base) (T9 := T9 K) (T := T) (Df := toFunC F_two_lots) (hm := G_two_lots) (kp := F_two_lots.kp) (bf := b_two_lots) (TL := TL_two_lots) (hTm := tm_two_lots) (hTu := tu_two_lots) (c_sums_of := c_sums_of) (m_chance_of := mt_Spread_chance_of)
  have c_laid := k_laid (P := P) (w := w) (base := base) (T := T) (Df := D_laid) (bf := b_laid) (c_ways := c_ways)
  have c_kept := k_kept (P := P) (w := w) (base := base) (CS := He.ga K "Spread") (T := T) (Df := D_kept) (bf := b_kept) (dv := v_kept) (c_laid := c_laid) (m_Spread := m_Spread)
  have c__law_ways := k__law_ways (P := P) (w := w) (base := base) (T := T) (Df := D__law_ways) (bf := b__law_ways)
  have c__law_roll := k__law_roll (P := P) (w := w) (base := base) (T := T) (Df := D__law_roll) (bf := b__law_roll)
  have c__law_dice := k__law_dice (P := P) (w := w) (base := base) (T := T) (Df := D__law_dice) (bf := b__law_dice)
  have c__law_rounds := k__law_rounds (P := P) (w := w) (base := base) (T := T) (Df := D__law_rounds) (bf := b__law_rounds) (c__law_dice := c__law_dice)
  have c__law_rolls := k__law_rolls (P := P) (w := w) (base := base) (T := T) (Df := D__law_rolls) (bf := b__law_rolls)
  have c__law_same := k__law_same (P := P) (w := w) (base := base) (CS := He.ga K "Spread") (T := T) (Df := D__law_same) (bf := b__law_same) (mt_Spread_shown := mt_Spread_shown) (m_Spread := m_Spread)
  have c__law_kept := k__law_kept (P := P) (w := w) (base := base) (T := T) (Df := D__law_kept) (bf := b__law_kept) (c__law_ways := c__law_ways)
  have c__law_thrown := k__law_thrown (P := P) (w := w) (base := base) (T9 := T9 K) (T := T) (Df := D__law_thrown) (bf := b__law_thrown) (c__law_roll := c__law_roll) (c__law_same := c__law_same) (c_rolls := c_rolls) (c__law_rolls := c__law_rolls) (c_kept := c_kept) (c__law_kept := c__law_kept) (c__law_ways := c__law_ways) (c_kept_out := c_kept_out)
  have c__law_orders := k__law_orders (P := P) (w := w) (base := base) (T9 := T9 K) (T := T) (Df := D__law_orders) (bf := b__law_orders) (c__law_roll := c__law_roll) (c__law_same := c__law_same) (c_all_found := c_all_found) (c_part := c_part) (c_at_home := c_at_home) (c__law_ways := c__law_ways)
  have c__law_raced := k__law_raced (P := P) (w := w) (base := base) (T9 := T9 K) (T := T) (Df := D__law_raced) (bf := b__law_raced) (c__law_roll := c__law_roll) (c__law_same := c__law_same) (c_part := c_part) (c_plus := c_plus) (c_times := c_times) (c_race := c_race) (c_bare_lots := c_bare_lots)
  have c__law_summed := k__law_summed (P := P) (w := w) (base := base) (T9 := T9 K) (T := T) (Df := toFunC F__law_summed) (hmg := G__law_summed) (kp := F__law_summed.kp) (bf := b__law_summed) (TL := TL__law_summed) (hTm := tm__law_summed) (hTu := tu__law_summed) (c__law_roll := c__law_roll) (c_part := c_part) (c_plus := c_plus) (c_times := c_times) (c_how_many := c_how_many) (mt_Spread_chance := mt_Spread_chance) (c_from_overlaps := c_from_overlaps) (c_overlaps_of := c_overlaps_of) (c_two_lots := c_two_lots) (c__law_ways := c__law_ways)
  have c__law_walked := k__law_walked (P := P) (w := w) (base := base) (T9 := T9 K) (T := T) (Df := D__law_walked) (bf := b__law_walked) (c__law_roll := c__law_roll) (c_part := c_part) (c_plus := c_plus) (c_times := c_times) (m_Walk := m_Walk) (m_Hidden := m_Hidden) (mt_Walk_after := mt_Walk_after) (mt_Hidden_ahead := mt_Hidden_ahead) (mt_Hidden_chance := mt_Hidden_chance)
  exact k_law (P := P) (w := w) (base := base) (T9 := T9 K) (T := T) (Df := D_law) (bf := b_law) (c__law_rounds := c__law_rounds) (c__law_thrown := c__law_thrown) (c__law_orders := c__law_orders) (c__law_raced := c__law_raced) (c__law_summed := c__law_summed) (c__law_walked := c__law_walked)
end HD
end
/-! HR -/
section
set_option Elab.async false
set_option linter.all false
set_option maxRecDepth 100000
set_option maxHeartbeats 0
namespace HD
open PySem PySem.Spec PyProof.Rows L2 KK
theorem run (w : World) : HandSHeadRun.RunEq R qv hk ob 16000 nm w := by
  intro os
  kernel_rfl
end HD
end
/-! HZ -/
set_option Elab.async false
set_option linter.all false
set_option maxRecDepth 100000
set_option maxHeartbeats 0
namespace HD
open PySem PySem.Spec PyProof.Rows L2 KK
theorem tabs_ok {K : PySem.W.Frag} {H : Hp} (h : ∀ p ∈ tf.map (He.cT K), H p.2 = some (.tbl #[])) : LX.Tbs (T9 K) H := by
  intro p hp
  have hm : p.1 ∈ tf.map fun q => (He.cT K q).2 := (List.of_mem_zip hp).1
  obtain ⟨q, hq, e⟩ := List.mem_map.mp hm
  have e2 := h (He.cT K q) (List.mem_map.mpr ⟨q, hq, rfl⟩)
  rw [e] at e2
  obtain ⟨a, z⟩ := p
  cases z with
  | none => exact (show GxR.TabG H a from ⟨#[], e2, trivial⟩)
  | some s => exact (show LamX.TabS H a s from ⟨#[], e2, trivial, fun pos cv hc => by cases hc⟩)
theorem lawAt {w : World} {mg : Str → Option Value} {fa : Addr} {h : Heap} (Y : hk.says w h) (G : h.Ns mainGlobals mg) (hm : mg "law" = some (.ref fa)) :
    ∃ K : PySem.W.Frag, K.In h ∧ LamX.LawAtS PySem.Challenge.rw_luckwright_k63_whole_counting_at_any_siz w K C8.CX0 14 63 "script" mg fa h := by
  obtain ⟨K, KX, c⟩ := Y
  obtain ⟨fd, hb, hl, hF⟩ := facts (P := (PySem.Challenge.rw_luckwright_k63_whole_counting_at_any_siz).prog) (w := w) KX G c
  have e : He.ga K "law" = fa := Value.ref.inj (Option.some.inj (hl.symm.trans hm))
  have each : ∀ {p : Addr × Addr}, p ∈ tf.map (He.cT K) → ∃ q ∈ tf, p = He.cT K q := fun hp => by
    obtain ⟨q, hq, e⟩ := List.mem_map.mp hp
    exact ⟨q, hq, e.symm⟩
  refine ⟨K, KX, fd, tf.map (He.cT K), spTop K (T9 K), fun p hp => ?_, fun p hp => ?_, fun p hp => ?_, hb, fun H a ns _ _ hT hS => ⟨a, ns, rfl, hS, tabs_ok hT, fun _ => rfl⟩, fun base _ _ TB => ?_⟩
  · obtain ⟨q, hq, rfl⟩ := each hp
    exact c.empty q hq
  · obtain ⟨q, hq, rfl⟩ := each hp
    exact c.out q hq
  · obtain ⟨q, hq, rfl⟩ := each hp
    exact PySem.W.codeHd_of_K KX (c.hd q hq)
  · rw [← e]
    exact hF base TB
end HD
open PySem PySem.W PySem.Calls PyProof.Rows
theorem PySem.Challenge.cw_luckwright_k63_whole_counting_at_any_siz_holds : PySem.Challenge.rw_luckwright_k63_whole_counting_at_any_siz.Holds := by
  w_on; o_law
  refine HandSHeadRun.head_any (r := OpenLaw.row PySem.Challenge.rw_luckwright_k63_whole_counting_at_any_siz) (q := HD.qv) (H := HD.hk) (ob := HD.ob) (M := 16000) (loose := HD.nm) (d := HandSHeadRun.topDef (OpenLaw.row PySem.Challenge.rw_luckwright_k63_whole_counting_at_any_siz).prog 76) (kwd := []) HD.ob_eq
    (by kernel_rfl) (fun s => by kernel_rfl) HD.run (by kernel_rfl) (by kernel_rfl) (by kernel_rfl) (by rfl) (by first | assumption | decide +kernel) (by decide +kernel) ⟨rfl, rfl, rfl, rfl, rfl, by decide +kernel⟩ ?hw ?hc
  case hw => w_witness2
  case hc =>
    refine LamX.walk_ofTsE (l := PySem.Challenge.rw_luckwright_k63_whole_counting_at_any_siz) (n := 63) (k := 14) (x := "script") (CX := fun _ => C8.CX0) rfl (by decide) (by kernel_rfl) ⟨rfl, by decide, by decide⟩ ?F (fun _ _ _ _ _ z => z)
    intro w mg fa h Y G hmg0
    have hmg : mg ("law" : PySem.Str) = some (.ref fa) := by
      have e : (HandSHeadRun.topDef (OpenLaw.row PySem.Challenge.rw_luckwright_k63_whole_counting_at_any_siz).prog 76).name = ("law" : PySem.Str) := by kernel_rfl
      rw [← e]
      exact hmg0
    exact HD.lawAt Y G hmg

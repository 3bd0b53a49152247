import PyProof.Rows.All
import Wide.All
import OpenK.AllK
import Wide.FinOn
import HandS.ForMost
import HandS.ForExc
import HandS.Conv
import KE.SortData
import KE.KDictSum
import HandS.DictComp
import HandS.DictTup
import KE.KDictDisplayH
import PyProof.StrOps2
import PyProof.ListStr
import HandS.ExcInit
import HandS.ExcField
import KE.KExcSuper
import HandS.Codes
import HandS.Wide
import HandS.Replace
import HandS.IsInst
import HandS.Iter
import HandS.Style
import KE.KStateDown
import HandS.Head0
import HandS.Head1
import HandS.Head2
import HandS.HeadEnd
import HandS.HeadHook1
import HandS.HeadHook2
import HandS.HeadNt
import PySem.Challenge.RW_boxedroots_k46_whole_polynomials_read_in
set_option Elab.async false
set_option linter.all false
set_option maxRecDepth 100000
set_option maxHeartbeats 0
/-! # Plain polynomials: sorted lists of (powers, count) -/
namespace K46

abbrev Mon := Int × Int × Int × Int
abbrev Poly := List (Mon × Int)

def mlt (a b : Mon) : Bool :=
  decide (a.1 < b.1) || (decide (a.1 = b.1) && (decide (a.2.1 < b.2.1) || (decide (a.2.1 = b.2.1) && (decide (a.2.2.1 < b.2.2.1) || (decide (a.2.2.1 = b.2.2.1) && decide (a.2.2.2 < b.2.2.2))))))

theorem mlt_iff (a b : Mon) : mlt a b = true ↔ (a.1 < b.1 ∨ (a.1 = b.1 ∧ (a.2.1 < b.2.1 ∨ (a.2.1 = b.2.1 ∧ (a.2.2.1 < b.2.2.1 ∨ (a.2.2.1 = b.2.2.1 ∧ a.2.2.2 < b.2.2.2)))))) := by
  simp [mlt]
theorem mon_ext {a b : Mon} (h1 : a.1 = b.1) (h2 : a.2.1 = b.2.1) (h3 : a.2.2.1 = b.2.2.1) (h4 : a.2.2.2 = b.2.2.2) : a = b := by
  obtain ⟨a1, a2, a3, a4⟩ := a
  obtain ⟨b1, b2, b3, b4⟩ := b
  simp at h1 h2 h3 h4
  subst h1 h2 h3 h4
  rfl
theorem mlt_irr (a : Mon) : mlt a a = false := by
  cases h : mlt a a with
  | false => rfl
  | true => rw [mlt_iff] at h; omega
theorem mlt_trans {a b c : Mon} (h1 : mlt a b = true) (h2 : mlt b c = true) : mlt a c = true := by
  rw [mlt_iff] at *
  omega
theorem mlt_asymm {a b : Mon} (h1 : mlt a b = true) : mlt b a = false := by
  cases h : mlt b a with
  | false => rfl
  | true =>
    have := mlt_trans h1 h
    rw [mlt_irr] at this; cases this
theorem mlt_tri {a b : Mon} (h1 : mlt a b = false) (h2 : mlt b a = false) : a = b := by
  have n1 : ¬ (mlt a b = true) := by rw [h1]; decide
  have n2 : ¬ (mlt b a = true) := by rw [h2]; decide
  rw [mlt_iff] at n1 n2
  apply mon_ext <;> omega
theorem mlt_ne {a b : Mon} (h : mlt a b = true) : a ≠ b := fun e => by
  subst e; rw [mlt_irr] at h; cases h

def madd (a b : Mon) : Mon := (a.1 + b.1, a.2.1 + b.2.1, a.2.2.1 + b.2.2.1, a.2.2.2 + b.2.2.2)
theorem mlt_madd (a b m : Mon) : mlt (madd a m) (madd b m) = mlt a b := by
  rw [Bool.eq_iff_iff, mlt_iff, mlt_iff]
  simp only [madd]
  omega
theorem madd_inj {a b m : Mon} (h : madd a m = madd b m) : a = b := by
  unfold madd at h
  simp only [Prod.mk.injEq] at h
  apply mon_ext <;> omega
theorem madd_zero (a : Mon) : madd (0, 0, 0, 0) a = a := by
  obtain ⟨a1, a2, a3, a4⟩ := a
  simp [madd]

/-! ### counts -/
def coef : Poly → Mon → Int
  | [], _ => 0
  | p :: r, m => (if p.1 = m then p.2 else 0) + coef r m
theorem coef_nil (m : Mon) : coef [] m = 0 := rfl
theorem coef_cons (p : Mon × Int) (r : Poly) (m : Mon) : coef (p :: r) m = (if p.1 = m then p.2 else 0) + coef r m := rfl
theorem coef_append (a b : Poly) (m : Mon) : coef (a ++ b) m = coef a m + coef b m := by
  induction a with
  | nil => simp [coef]
  | cons p r ih => rw [List.cons_append, coef_cons, coef_cons, ih]; omega
theorem coef_none {l : Poly} {m : Mon} (h : ∀ p ∈ l, p.1 ≠ m) : coef l m = 0 := by
  induction l with
  | nil => rfl
  | cons p r ih =>
    rw [coef_cons, if_neg (h p (List.mem_cons_self ..)), ih fun q hq => h q (List.mem_cons_of_mem _ hq)]
    rfl
theorem coef_perm {a b : Poly} (h : a.Perm b) (m : Mon) : coef a m = coef b m := by
  induction h with
  | nil => rfl
  | cons x _ ih => rw [coef_cons, coef_cons, ih]
  | swap x y l => simp only [coef_cons]; omega
  | trans _ _ ih1 ih2 => rw [ih1, ih2]

structure Canon (t : Poly) : Prop where
  srt : t.Pairwise fun a b => mlt a.1 b.1 = true
  nz : ∀ p ∈ t, p.2 ≠ 0
theorem Canon.nil : Canon [] := ⟨List.Pairwise.nil, fun _ h => absurd h (by simp)⟩
theorem Canon.tail {p : Mon × Int} {t : Poly} (h : Canon (p :: t)) : Canon t :=
  ⟨(List.pairwise_cons.mp h.srt).2, fun q hq => h.nz q (List.mem_cons_of_mem _ hq)⟩
theorem Canon.lt {p : Mon × Int} {t : Poly} (h : Canon (p :: t)) : ∀ q ∈ t, mlt p.1 q.1 = true := (List.pairwise_cons.mp h.srt).1
theorem Canon.cons {p : Mon × Int} {t : Poly} (h : Canon t) (hp : p.2 ≠ 0) (hl : ∀ q ∈ t, mlt p.1 q.1 = true) : Canon (p :: t) :=
  ⟨List.pairwise_cons.mpr ⟨hl, h.srt⟩, fun q hq => by
    rcases List.mem_cons.mp hq with e | hq
    · rw [e]; exact hp
    · exact h.nz q hq⟩
theorem Canon.one (m : Mon) {c : Int} (h : c ≠ 0) : Canon [(m, c)] := Canon.nil.cons h fun _ hq => absurd hq (by simp)

theorem coef_head {p : Mon × Int} {t : Poly} (h : Canon (p :: t)) : coef (p :: t) p.1 = p.2 := by
  rw [coef_cons, if_pos rfl, coef_none fun q hq => (mlt_ne (h.lt q hq)).symm]
  omega
theorem coef_below {p : Mon × Int} {t : Poly} {m : Mon} (h : Canon (p :: t)) (hm : mlt m p.1 = true) : coef (p :: t) m = 0 := by
  refine coef_none fun q hq => ?_
  rcases List.mem_cons.mp hq with e | hq
  · rw [e]; exact (mlt_ne hm).symm
  · exact (mlt_ne (mlt_trans hm (h.lt q hq))).symm
/-- a polynomial is told by its counts -/
theorem canon_ext : ∀ {a b : Poly}, Canon a → Canon b → (∀ m, coef a m = coef b m) → a = b
  | [], [], _, _, _ => rfl
  | [], q :: b, _, hb, h => by
    have e := h q.1
    rw [coef_head hb] at e
    exact absurd e.symm (hb.nz q (List.mem_cons_self ..))
  | p :: a, [], ha, _, h => by
    have e := h p.1
    rw [coef_head ha] at e
    exact absurd e (ha.nz p (List.mem_cons_self ..))
  | p :: a, q :: b, ha, hb, h => by
    have hk : p.1 = q.1 := by
      refine mlt_tri ?_ ?_
      · cases e : mlt p.1 q.1 with
        | false => rfl
        | true =>
          have z := h p.1
          rw [coef_head ha, coef_below hb e] at z
          exact absurd z (ha.nz p (List.mem_cons_self ..))
      · cases e : mlt q.1 p.1 with
        | false => rfl
        | true =>
          have z := h q.1
          rw [coef_head hb, coef_below ha e] at z
          exact absurd z.symm (hb.nz q (List.mem_cons_self ..))
    have hc : p.2 = q.2 := by
      have z := h p.1
      rw [coef_head ha, hk, coef_head hb] at z
      exact z
    have hpq : p = q := Prod.ext hk hc
    subst hpq
    rw [canon_ext ha.tail hb.tail fun m => by
      have z := h m
      rw [coef_cons, coef_cons] at z
      omega]

/-! ### sums -/
def mrgA (x : Mon × Int) (f : Poly → Poly) : Poly → Poly
  | [] => x :: f []
  | y :: ys => if mlt y.1 x.1 then y :: mrgA x f ys else if x.1 = y.1 then (if x.2 + y.2 = 0 then f ys else (x.1, x.2 + y.2) :: f ys) else x :: f (y :: ys)
def mrg : Poly → Poly → Poly
  | [] => fun ys => ys
  | x :: xs => mrgA x (mrg xs)
theorem mrgA_nil (x : Mon × Int) (f : Poly → Poly) : mrgA x f [] = x :: f [] := rfl
theorem mrgA_cons (x y : Mon × Int) (f : Poly → Poly) (ys : Poly) : mrgA x f (y :: ys) = if mlt y.1 x.1 then y :: mrgA x f ys else if x.1 = y.1 then (if x.2 + y.2 = 0 then f ys else (x.1, x.2 + y.2) :: f ys) else x :: f (y :: ys) := rfl
theorem mrg_nil (ys : Poly) : mrg [] ys = ys := rfl
theorem mrg_cons (x : Mon × Int) (xs ys : Poly) : mrg (x :: xs) ys = mrgA x (mrg xs) ys := rfl
theorem mrg_right_nil : ∀ xs : Poly, mrg xs [] = xs
  | [] => rfl
  | x :: xs => by rw [mrg_cons, mrgA_nil, mrg_right_nil xs]

theorem coef_mrgA (x : Mon × Int) (f : Poly → Poly) (g : Mon → Int) (m : Mon) (hf : ∀ ys, coef (f ys) m = g m + coef ys m) : ∀ ys, coef (mrgA x f ys) m = (if x.1 = m then x.2 else 0) + g m + coef ys m
  | [] => by rw [mrgA_nil, coef_cons, hf]; omega
  | y :: ys => by
    rw [mrgA_cons, coef_cons]
    split
    · rw [coef_cons, coef_mrgA x f g m hf ys]; omega
    · split
      · rename_i e
        split
        · rename_i z
          rw [hf, e]
          split <;> omega
        · rw [coef_cons, hf]
          rw [e]
          by_cases hm : y.1 = m
          · simp only [hm, if_true]; omega
          · simp only [hm, if_false]; omega
      · rw [coef_cons, hf, coef_cons]; omega
theorem coef_mrg : ∀ (xs ys : Poly) (m : Mon), coef (mrg xs ys) m = coef xs m + coef ys m
  | [], ys, m => by rw [mrg_nil, coef_nil]; omega
  | x :: xs, ys, m => by rw [mrg_cons, coef_mrgA x (mrg xs) (coef xs) m (fun ys => coef_mrg xs ys m), coef_cons]

theorem mem_mrgA (x : Mon × Int) (f : Poly → Poly) (S : Mon → Prop) (hf : ∀ ys p, p ∈ f ys → S p.1 ∨ ∃ q ∈ ys, q.1 = p.1) : ∀ ys p, p ∈ mrgA x f ys → p.1 = x.1 ∨ S p.1 ∨ ∃ q ∈ ys, q.1 = p.1
  | [], p, h => by
    rw [mrgA_nil] at h
    rcases List.mem_cons.mp h with e | h
    · exact .inl (by rw [e])
    · exact .inr (hf _ _ h)
  | y :: ys, p, h => by
    rw [mrgA_cons] at h
    have up : (p.1 = x.1 ∨ S p.1 ∨ ∃ q ∈ ys, q.1 = p.1) → (p.1 = x.1 ∨ S p.1 ∨ ∃ q ∈ y :: ys, q.1 = p.1) := fun z => by
      rcases z with z | z | ⟨q, hq, e⟩
      · exact .inl z
      · exact .inr (.inl z)
      · exact .inr (.inr ⟨q, List.mem_cons_of_mem _ hq, e⟩)
    split at h
    · rcases List.mem_cons.mp h with e | h
      · exact .inr (.inr ⟨y, List.mem_cons_self .., by rw [e]⟩)
      · exact up (mem_mrgA x f S hf ys p h)
    · split at h
      · split at h
        · exact up (.inr (hf _ _ h))
        · rcases List.mem_cons.mp h with e | h
          · exact .inl (by rw [e])
          · exact up (.inr (hf _ _ h))
      · rcases List.mem_cons.mp h with e | h
        · exact .inl (by rw [e])
        · exact .inr (hf _ _ h)
theorem mem_mrg : ∀ (xs ys : Poly) (p : Mon × Int), p ∈ mrg xs ys → (∃ q ∈ xs, q.1 = p.1) ∨ ∃ q ∈ ys, q.1 = p.1
  | [], ys, p, h => .inr ⟨p, h, rfl⟩
  | x :: xs, ys, p, h => by
    rcases mem_mrgA x (mrg xs) (fun m => ∃ q ∈ xs, q.1 = m) (fun ys p h => mem_mrg xs ys p h) ys p h with e | ⟨q, hq, e⟩ | z
    · exact .inl ⟨x, List.mem_cons_self .., e.symm⟩
    · exact .inl ⟨q, List.mem_cons_of_mem _ hq, e⟩
    · exact .inr z

theorem canon_mrgA (x : Mon × Int) (hx : x.2 ≠ 0) (f : Poly → Poly) (S : Mon → Prop) (hS : ∀ m, S m → mlt x.1 m = true) (hf : ∀ ys, Canon ys → Canon (f ys)) (hm : ∀ ys p, p ∈ f ys → S p.1 ∨ ∃ q ∈ ys, q.1 = p.1) :
    ∀ ys, Canon ys → Canon (mrgA x f ys)
  | [], h => by
    rw [mrgA_nil]
    refine (hf _ h).cons hx fun q hq => ?_
    rcases hm _ _ hq with z | ⟨r, hr, _⟩
    · exact hS _ z
    · exact absurd hr (by simp)
  | y :: ys, h => by
    rw [mrgA_cons]
    have above : ∀ {zs : Poly}, (∀ q ∈ zs, mlt x.1 q.1 = true) → ∀ q ∈ f zs, mlt x.1 q.1 = true := fun {zs} hz q hq => by
      rcases hm _ _ hq with z | ⟨r, hr, e⟩
      · exact hS _ z
      · rw [← e]; exact hz r hr
    split
    · rename_i hlt
      refine (canon_mrgA x hx f S hS hf hm ys h.tail).cons (h.nz y (List.mem_cons_self ..)) fun q hq => ?_
      rcases mem_mrgA x f S hm ys q hq with e | z | ⟨r, hr, e⟩
      · rw [e]; exact hlt
      · exact mlt_trans hlt (hS _ z)
      · rw [← e]; exact h.lt r hr
    · rename_i hnl
      split
      · rename_i e
        have hz : ∀ q ∈ ys, mlt x.1 q.1 = true := fun q hq => by rw [e]; exact h.lt q hq
        split
        · exact hf _ h.tail
        · rename_i hne
          exact (hf _ h.tail).cons hne (above hz)
      · rename_i hne
        have hxy : mlt x.1 y.1 = true := by
          cases e : mlt x.1 y.1 with
          | true => rfl
          | false => exact absurd (mlt_tri e (by simpa using hnl)) hne
        refine (hf _ h).cons hx (above fun q hq => ?_)
        rcases List.mem_cons.mp hq with e | hq
        · rw [e]; exact hxy
        · exact mlt_trans hxy (h.lt q hq)
theorem canon_mrg : ∀ {xs ys : Poly}, Canon xs → Canon ys → Canon (mrg xs ys)
  | [], _, _, h => h
  | x :: xs, ys, hx, hy => canon_mrgA x (hx.nz x (List.mem_cons_self ..)) (mrg xs) (fun m => ∃ q ∈ xs, q.1 = m) (fun m ⟨q, hq, e⟩ => by rw [← e]; exact hx.lt q hq) (fun ys h => canon_mrg hx.tail h) (fun ys p h => mem_mrg xs ys p h) ys hy

theorem length_mrgA (x : Mon × Int) (f : Poly → Poly) (n : Nat) (hf : ∀ ys, (f ys).length ≤ n + ys.length) : ∀ ys, (mrgA x f ys).length ≤ n + 1 + ys.length
  | [] => by rw [mrgA_nil, List.length_cons]; have := hf []; simp at this ⊢; omega
  | y :: ys => by
    rw [mrgA_cons, List.length_cons]
    have h1 := hf ys
    have h2 := hf (y :: ys)
    rw [List.length_cons] at h2
    split
    · rw [List.length_cons]; have := length_mrgA x f n hf ys; omega
    · split
      · split
        · omega
        · rw [List.length_cons]; omega
      · rw [List.length_cons]; omega
theorem length_mrg : ∀ xs ys : Poly, (mrg xs ys).length ≤ xs.length + ys.length
  | [], ys => by rw [mrg_nil]; simp
  | x :: xs, ys => by rw [mrg_cons, List.length_cons]; exact length_mrgA x (mrg xs) xs.length (fun ys => length_mrg xs ys) ys

def pneg (t : Poly) : Poly := t.map fun p => (p.1, -p.2)
theorem coef_pneg : ∀ (t : Poly) (m : Mon), coef (pneg t) m = -coef t m
  | [], _ => rfl
  | p :: t, m => by
    show coef ((p.1, -p.2) :: pneg t) m = _
    rw [coef_cons, coef_cons, coef_pneg t m]
    split <;> omega
theorem canon_pneg {t : Poly} (h : Canon t) : Canon (pneg t) := by
  refine ⟨?_, fun q hq => ?_⟩
  · unfold pneg
    rw [List.pairwise_map]
    exact h.srt
  · obtain ⟨p, hp, rfl⟩ := List.mem_map.mp hq
    have := h.nz p hp
    show -p.2 ≠ 0
    omega
theorem length_pneg (t : Poly) : (pneg t).length = t.length := List.length_map _

/-! ### products -/
def psh (m : Mon) (c : Int) (t : Poly) : Poly := t.map fun p => (madd p.1 m, p.2 * c)
theorem canon_psh {t : Poly} (h : Canon t) (m : Mon) {c : Int} (hc : c ≠ 0) : Canon (psh m c t) := by
  refine ⟨?_, fun q hq => ?_⟩
  · unfold psh
    rw [List.pairwise_map]
    exact h.srt.imp fun {a b} z => by
      show mlt (madd a.1 m) (madd b.1 m) = true
      rw [mlt_madd]; exact z
  · obtain ⟨p, hp, rfl⟩ := List.mem_map.mp hq
    exact Int.mul_ne_zero (h.nz p hp) hc
def pmul (a b : Poly) : Poly := b.foldl (fun acc q => mrg acc (psh q.1 q.2 a)) []
def raw (a b : Poly) : Poly := a.flatMap fun p => b.map fun q => (madd p.1 q.1, p.2 * q.2)

theorem canon_fold {a : Poly} (ha : Canon a) : ∀ (b acc : Poly), (∀ q ∈ b, q.2 ≠ 0) → Canon acc → Canon (b.foldl (fun acc q => mrg acc (psh q.1 q.2 a)) acc)
  | [], _, _, h => h
  | q :: b, acc, hb, h => canon_fold ha b _ (fun r hr => hb r (List.mem_cons_of_mem _ hr)) (canon_mrg h (canon_psh ha q.1 (hb q (List.mem_cons_self ..))))
theorem canon_pmul {a b : Poly} (ha : Canon a) (hb : Canon b) : Canon (pmul a b) := canon_fold ha b [] hb.nz Canon.nil

/-- sums over lists -/
def lsum {α : Type} (f : α → Int) : List α → Int
  | [] => 0
  | x :: r => f x + lsum f r
theorem lsum_add {α : Type} (f g : α → Int) : ∀ l : List α, lsum (fun x => f x + g x) l = lsum f l + lsum g l
  | [] => rfl
  | x :: r => by simp only [lsum]; rw [lsum_add f g r]; omega
theorem lsum_zero {α : Type} : ∀ l : List α, lsum (fun _ => (0 : Int)) l = 0
  | [] => rfl
  | x :: r => by simp only [lsum]; rw [lsum_zero r]; rfl
theorem lsum_swap {α β : Type} (g : α → β → Int) (b : List β) : ∀ a : List α, lsum (fun q => lsum (fun p => g p q) a) b = lsum (fun p => lsum (fun q => g p q) b) a
  | [] => lsum_zero b
  | p :: a => by
    show lsum (fun q => g p q + lsum (fun p => g p q) a) b = lsum (fun q => g p q) b + lsum (fun p => lsum (fun q => g p q) b) a
    rw [lsum_add, lsum_swap g b a]
theorem lsum_perm {α : Type} (f : α → Int) {a b : List α} (h : a.Perm b) : lsum f a = lsum f b := by
  induction h with
  | nil => rfl
  | cons x _ ih => simp only [lsum]; rw [ih]
  | swap x y l => simp only [lsum]; omega
  | trans _ _ ih1 ih2 => rw [ih1, ih2]
theorem lsum_congr {α : Type} {f g : α → Int} : ∀ {l : List α}, (∀ x ∈ l, f x = g x) → lsum f l = lsum g l
  | [], _ => rfl
  | x :: r, h => by
    simp only [lsum]
    rw [h x (List.mem_cons_self ..), lsum_congr fun y hy => h y (List.mem_cons_of_mem _ hy)]

def gg (m : Mon) (p q : Mon × Int) : Int := if madd p.1 q.1 = m then p.2 * q.2 else 0
theorem coef_psh (q : Mon × Int) (m : Mon) : ∀ a : Poly, coef (psh q.1 q.2 a) m = lsum (fun p => gg m p q) a
  | [] => rfl
  | p :: a => by
    show coef ((madd p.1 q.1, p.2 * q.2) :: psh q.1 q.2 a) m = gg m p q + lsum (fun p => gg m p q) a
    rw [coef_cons, coef_psh q m a]
    rfl
theorem coef_row (p : Mon × Int) (m : Mon) : ∀ b : Poly, coef (b.map fun q => (madd p.1 q.1, p.2 * q.2)) m = lsum (fun q => gg m p q) b
  | [] => rfl
  | q :: b => by
    rw [List.map_cons, coef_cons, coef_row p m b]
    rfl
theorem coef_raw (b : Poly) (m : Mon) : ∀ a : Poly, coef (raw a b) m = lsum (fun p => lsum (fun q => gg m p q) b) a
  | [] => rfl
  | p :: a => by
    show coef ((b.map fun q => (madd p.1 q.1, p.2 * q.2)) ++ raw a b) m = lsum (fun q => gg m p q) b + lsum (fun p => lsum (fun q => gg m p q) b) a
    rw [coef_append, coef_row, coef_raw b m a]
theorem coef_fold (a : Poly) (m : Mon) : ∀ (b acc : Poly), coef (b.foldl (fun acc q => mrg acc (psh q.1 q.2 a)) acc) m = coef acc m + lsum (fun q => lsum (fun p => gg m p q) a) b
  | [], acc => by show coef acc m = coef acc m + 0; omega
  | q :: b, acc => by
    rw [List.foldl_cons, coef_fold a m b, coef_mrg, coef_psh]
    simp only [lsum]; omega
theorem coef_pmul (a b : Poly) (m : Mon) : coef (pmul a b) m = coef (raw a b) m := by
  unfold pmul
  rw [coef_fold, coef_raw, coef_nil, lsum_swap]
  omega
theorem raw_perm {a a' b b' : Poly} (ha : a.Perm a') (hb : b.Perm b') (m : Mon) : coef (raw a b) m = coef (raw a' b') m := by
  rw [coef_raw, coef_raw, lsum_perm _ ha]
  exact lsum_congr fun p _ => lsum_perm _ hb

theorem length_psh (m : Mon) (c : Int) (t : Poly) : (psh m c t).length = t.length := List.length_map _
theorem length_fold (a : Poly) : ∀ (b acc : Poly), (b.foldl (fun acc q => mrg acc (psh q.1 q.2 a)) acc).length ≤ acc.length + b.length * a.length
  | [], acc => by simp
  | q :: b, acc => by
    rw [List.foldl_cons]
    have h1 := length_fold a b (mrg acc (psh q.1 q.2 a))
    have h2 := length_mrg acc (psh q.1 q.2 a)
    rw [length_psh] at h2
    rw [List.length_cons, Nat.succ_mul]
    omega
theorem length_pmul (a b : Poly) : (pmul a b).length ≤ a.length * b.length := by
  have := length_fold a b []
  unfold pmul
  rw [Nat.mul_comm]
  simpa using this

/-! ### small ones -/
def pconst (n : Int) : Poly := if n = 0 then [] else [((0, 0, 0, 0), n)]
def unit (k : Nat) (n : Int) : Mon := (if k = 0 then n else 0, if k = 1 then n else 0, if k = 2 then n else 0, if k = 3 then n else 0)
def pvar (k : Nat) : Poly := [(unit k 1, 1)]
theorem canon_pconst (n : Int) : Canon (pconst n) := by
  unfold pconst
  split
  · exact Canon.nil
  · rename_i h
    exact Canon.one _ h
theorem canon_pvar (k : Nat) : Canon (pvar k) := Canon.one _ (by decide)
theorem coef_pconst (n : Int) (m : Mon) : coef (pconst n) m = if (0, 0, 0, 0) = m then n else 0 := by
  unfold pconst
  split
  · rename_i h; subst h; simp [coef]
  · rw [coef_cons, coef_nil]
    show (if (0, 0, 0, 0) = m then n else 0) + 0 = _
    omega
theorem length_pconst (n : Int) : (pconst n).length ≤ 1 := by
  unfold pconst
  split <;> simp

def padd (a b : Poly) : Poly := mrg a b
def psub (a b : Poly) : Poly := mrg a (pneg b)
theorem canon_padd {a b : Poly} (ha : Canon a) (hb : Canon b) : Canon (padd a b) := canon_mrg ha hb
theorem canon_psub {a b : Poly} (ha : Canon a) (hb : Canon b) : Canon (psub a b) := canon_mrg ha (canon_pneg hb)
theorem coef_padd (a b : Poly) (m : Mon) : coef (padd a b) m = coef a m + coef b m := coef_mrg a b m
theorem coef_psub (a b : Poly) (m : Mon) : coef (psub a b) m = coef a m - coef b m := by
  unfold psub
  rw [coef_mrg, coef_pneg]; omega
theorem length_padd (a b : Poly) : (padd a b).length ≤ a.length + b.length := length_mrg a b
theorem length_psub (a b : Poly) : (psub a b).length ≤ a.length + b.length := by
  have := length_mrg a (pneg b)
  rw [length_pneg] at this
  exact this
theorem padd_nil_left (a : Poly) : padd [] a = a := rfl
theorem neg_add {a b : Poly} (ha : Canon a) (hb : Canon b) : padd (psub [] a) b = psub b a := by
  refine canon_ext (canon_padd (canon_psub Canon.nil ha) hb) (canon_psub hb ha) fun m => ?_
  rw [coef_padd, coef_psub, coef_psub, coef_nil]; omega

/-! ### dicts: any order of the terms -/
def NodupK (l : Poly) : Prop := (l.map (·.1)).Nodup
theorem Canon.nodup {t : Poly} (h : Canon t) : NodupK t := by
  unfold NodupK List.Nodup
  rw [List.pairwise_map]
  exact h.srt.imp fun {a b} z => mlt_ne z
theorem coef_mem : ∀ {l : Poly}, NodupK l → ∀ {p : Mon × Int}, p ∈ l → coef l p.1 = p.2
  | [], _, _, h => absurd h (by simp)
  | q :: l, hn, p, h => by
    unfold NodupK at hn
    rw [List.map_cons, List.nodup_cons] at hn
    rcases List.mem_cons.mp h with e | h
    · subst e
      rw [coef_cons, if_pos rfl, coef_none]
      · omega
      · intro r hr e
        exact hn.1 (e ▸ List.mem_map_of_mem hr)
    · have hne : q.1 ≠ p.1 := fun e => hn.1 (e ▸ List.mem_map_of_mem h)
      rw [coef_cons, if_neg hne, coef_mem hn.2 h]; omega
theorem mem_coef : ∀ {l : Poly} {m : Mon}, coef l m ≠ 0 → ∃ p ∈ l, p.1 = m
  | [], _, h => absurd rfl h
  | q :: l, m, h => by
    by_cases e : q.1 = m
    · exact ⟨q, List.mem_cons_self .., e⟩
    · rw [coef_cons, if_neg e] at h
      obtain ⟨p, hp, e⟩ := mem_coef (l := l) (m := m) (by omega)
      exact ⟨p, List.mem_cons_of_mem _ hp, e⟩
theorem NodupK.nodup {l : Poly} (h : NodupK l) : l.Nodup := by
  unfold NodupK List.Nodup at h
  rw [List.pairwise_map] at h
  exact h.imp fun {a b} z e => z (by rw [e])
theorem perm_of_coef {l t : Poly} (hl : NodupK l) (nl : ∀ p ∈ l, p.2 ≠ 0) (ht : NodupK t) (nt : ∀ p ∈ t, p.2 ≠ 0) (h : ∀ m, coef l m = coef t m) : l.Perm t := by
  refine (List.perm_ext_iff_of_nodup hl.nodup ht.nodup).mpr fun p => ⟨fun hp => ?_, fun hp => ?_⟩
  · have e := coef_mem hl hp
    rw [h] at e
    obtain ⟨q, hq, hk⟩ := mem_coef (l := t) (m := p.1) (by rw [e]; exact nl p hp)
    have e2 := coef_mem ht hq
    rw [hk, e] at e2
    have : q = p := Prod.ext hk e2.symm
    rw [← this]; exact hq
  · have e := coef_mem ht hp
    rw [← h] at e
    obtain ⟨q, hq, hk⟩ := mem_coef (l := l) (m := p.1) (by rw [e]; exact nt p hp)
    have e2 := coef_mem hl hq
    rw [hk, e] at e2
    have : q = p := Prod.ext hk e2.symm
    rw [← this]; exact hq
end K46

/-! # Dicts from powers to counts, in plain lists -/
namespace K46
def keysOf (l : Poly) : List Mon := l.map (·.1)
def hasK (l : Poly) (m : Mon) : Bool := l.any fun kv => decide (kv.1 = m)
theorem hasK_iff {l : Poly} {m : Mon} : hasK l m = true ↔ m ∈ keysOf l := by
  unfold hasK keysOf
  rw [List.any_eq_true, List.mem_map]
  constructor
  · rintro ⟨p, hp, e⟩
    exact ⟨p, hp, of_decide_eq_true e⟩
  · rintro ⟨p, hp, e⟩
    exact ⟨p, hp, decide_eq_true e⟩
theorem coef_out {l : Poly} {m : Mon} (h : m ∉ keysOf l) : coef l m = 0 := coef_none fun p hp e => h (e ▸ List.mem_map_of_mem hp)
def dput (l : Poly) (m : Mon) (c : Int) : Poly := if hasK l m then l.map (fun kv => if kv.1 = m then (kv.1, c) else kv) else l ++ [(m, c)]
def ddrop (l : Poly) (m : Mon) : Poly := l.filter fun kv => decide (kv.1 ≠ m)
theorem keys_repl (m : Mon) (c : Int) : ∀ l : Poly, keysOf (l.map fun kv => if kv.1 = m then (kv.1, c) else kv) = keysOf l
  | [] => rfl
  | p :: l => by
    show (if p.1 = m then (p.1, c) else p).1 :: keysOf (l.map fun kv => if kv.1 = m then (kv.1, c) else kv) = p.1 :: keysOf l
    rw [keys_repl m c l]
    split <;> rfl
theorem coef_repl {m : Mon} (c : Int) (q : Mon) : ∀ {l : Poly}, NodupK l → m ∈ keysOf l → coef (l.map fun kv => if kv.1 = m then (kv.1, c) else kv) q = if q = m then c else coef l q
  | [], _, h => absurd h (by simp [keysOf])
  | p :: l, hn, h => by
    unfold NodupK at hn
    rw [List.map_cons, List.nodup_cons] at hn
    rw [List.map_cons, coef_cons, coef_cons]
    by_cases e : p.1 = m
    · have hno : m ∉ keysOf l := by rw [← e]; exact hn.1
      have hid : (l.map fun kv => if kv.1 = m then (kv.1, c) else kv) = l := by
        have : ∀ kv ∈ l, (if kv.1 = m then (kv.1, c) else kv) = kv := fun kv hkv => if_neg (show ¬ kv.1 = m from fun z => hno (by rw [← z]; exact List.mem_map_of_mem hkv))
        rw [List.map_congr_left this, List.map_id']
      rw [hid, if_pos e]
      show (if p.1 = q then c else 0) + coef l q = _
      by_cases hq : q = m
      · rw [if_pos hq, if_pos (e.trans hq.symm), hq, coef_out hno]; omega
      · rw [if_neg hq, if_neg (fun z => hq (z.symm.trans e)), if_neg (fun z => hq (z.symm.trans e))]
    · rw [if_neg e]
      have hm : m ∈ keysOf l := by
        rcases List.mem_cons.mp h with z | z
        · exact absurd z.symm e
        · exact z
      rw [coef_repl c q hn.2 hm]
      by_cases hq : q = m
      · rw [if_pos hq, if_pos hq, if_neg (fun z => e (z.trans hq))]; omega
      · rw [if_neg hq, if_neg hq]
theorem coef_dput {l : Poly} (hn : NodupK l) (m : Mon) (c : Int) (q : Mon) : coef (dput l m c) q = if q = m then c else coef l q := by
  unfold dput
  split
  · rename_i h
    exact coef_repl c q hn (hasK_iff.mp h)
  · rename_i h
    have hno : m ∉ keysOf l := fun z => h (hasK_iff.mpr z)
    rw [coef_append, coef_cons, coef_nil]
    by_cases hq : q = m
    · rw [if_pos hq, hq, coef_out hno, if_pos rfl]; omega
    · rw [if_neg hq, if_neg (fun z => hq z.symm)]; omega
theorem nodup_dput {l : Poly} (hn : NodupK l) (m : Mon) (c : Int) : NodupK (dput l m c) := by
  unfold dput
  split
  · show (keysOf _).Nodup
    rw [keys_repl]
    exact hn
  · rename_i h
    have hno : m ∉ keysOf l := fun z => h (hasK_iff.mpr z)
    show ((l ++ [(m, c)]).map (·.1)).Nodup
    rw [List.map_append, List.nodup_append]
    refine ⟨hn, by simp, fun a ha b hb e => ?_⟩
    have : b = m := by simpa using hb
    rw [e, this] at ha
    exact hno ha
theorem length_dput (l : Poly) (m : Mon) (c : Int) : (dput l m c).length ≤ l.length + 1 := by
  unfold dput
  split
  · rw [List.length_map]; omega
  · rw [List.length_append]; simp
theorem nz_dput {l : Poly} {m : Mon} {c : Int} (hl : ∀ p ∈ l, p.2 ≠ 0) (hc : c ≠ 0) : ∀ p ∈ dput l m c, p.2 ≠ 0 := by
  intro p hp
  unfold dput at hp
  split at hp
  · obtain ⟨q, hq, rfl⟩ := List.mem_map.mp hp
    split
    · exact hc
    · exact hl q hq
  · rcases List.mem_append.mp hp with h | h
    · exact hl p h
    · have : p = (m, c) := by simpa using h
      rw [this]; exact hc
theorem dput_other {l : Poly} {m : Mon} {c : Int} (p : Mon × Int) (hp : p ∈ dput l m c) (hm : p.1 ≠ m) : p ∈ l := by
  unfold dput at hp
  split at hp
  · obtain ⟨q, hq, e⟩ := List.mem_map.mp hp
    split at e
    · rename_i z
      rw [← e] at hm
      exact absurd z hm
    · rw [← e]; exact hq
  · rcases List.mem_append.mp hp with h | h
    · exact h
    · have : p = (m, c) := by simpa using h
      rw [this] at hm
      exact absurd rfl hm
theorem nodup_ddrop {l : Poly} (hn : NodupK l) (m : Mon) : NodupK (ddrop l m) := List.Nodup.sublist (List.Sublist.map _ List.filter_sublist) hn
theorem coef_ddrop (m q : Mon) : ∀ l : Poly, coef (ddrop l m) q = if q = m then 0 else coef l q
  | [] => by
    show 0 = _
    split <;> rfl
  | p :: l => by
    unfold ddrop
    rw [List.filter_cons]
    have ih := coef_ddrop m q l
    unfold ddrop at ih
    by_cases e : p.1 = m
    · rw [if_neg (by simpa using e), ih, coef_cons]
      by_cases hq : q = m
      · rw [if_pos hq, if_pos hq]
      · rw [if_neg hq, if_neg hq, if_neg (fun z => hq (z.symm.trans e))]; omega
    · rw [if_pos (by simpa using e), coef_cons, ih, coef_cons]
      by_cases hq : q = m
      · rw [if_pos hq, if_pos hq, if_neg (fun z => e (z.trans hq))]; omega
      · rw [if_neg hq, if_neg hq]
theorem nz_ddrop {l : Poly} {m : Mon} (hl : ∀ p ∈ l, p.1 ≠ m → p.2 ≠ 0) : ∀ p ∈ ddrop l m, p.2 ≠ 0 := fun p hp => by
  obtain ⟨h1, h2⟩ := List.mem_filter.mp hp
  exact hl p h1 (of_decide_eq_true h2)
theorem length_ddrop (l : Poly) (m : Mon) : (ddrop l m).length ≤ l.length := List.length_filter_le _ _

/-! ### the sorted terms of a dict -/
def nzf (l : Poly) : Poly := l.filter fun p => decide (p.2 ≠ 0)
theorem coef_nzf (m : Mon) : ∀ l : Poly, coef (nzf l) m = coef l m
  | [] => rfl
  | p :: l => by
    have ih := coef_nzf m l
    unfold nzf at *
    rw [List.filter_cons]
    by_cases e : p.2 = 0
    · rw [if_neg (by simpa using e), ih, coef_cons, e]
      split <;> omega
    · rw [if_pos (by simpa using e), coef_cons, coef_cons, ih]
theorem self_coefs {l : Poly} (hn : NodupK l) : (keysOf l).map (fun m => (m, coef l m)) = l := by
  have : ∀ p ∈ l, (p.1, coef l p.1) = p := fun p hp => by rw [coef_mem hn hp]
  unfold keysOf
  rw [List.map_map]
  have e : l.map ((fun m => (m, coef l m)) ∘ fun x => x.1) = l.map id := List.map_congr_left fun p hp => this p hp
  rw [e, List.map_id]
def termsOf (l : Poly) (ks : List Mon) : Poly := nzf (ks.map fun m => (m, coef l m))
theorem canon_termsOf {l : Poly} {ks : List Mon} (hn : NodupK l) (hp : ks.Perm (keysOf l)) (hs : ks.Pairwise fun a b => mlt b a = false) : Canon (termsOf l ks) := by
  have nd : ks.Nodup := hp.symm.nodup hn
  have lt : ks.Pairwise fun a b => mlt a b = true := by
    refine (hs.and nd).imp fun {a b} h => ?_
    cases e : mlt a b with
    | true => rfl
    | false => exact absurd (mlt_tri e h.1) h.2
  refine ⟨?_, fun p hp => of_decide_eq_true (List.mem_filter.mp hp).2⟩
  refine List.Pairwise.sublist List.filter_sublist ?_
  rw [List.pairwise_map]
  exact lt
theorem coef_termsOf {l : Poly} {ks : List Mon} (hn : NodupK l) (hp : ks.Perm (keysOf l)) (m : Mon) : coef (termsOf l ks) m = coef l m := by
  unfold termsOf
  rw [coef_nzf, coef_perm (hp.map _), self_coefs hn]
/-- .. is the one polynomial with these counts -/
theorem termsOf_is {l t : Poly} {ks : List Mon} (hn : NodupK l) (hp : ks.Perm (keysOf l)) (hs : ks.Pairwise fun a b => mlt b a = false) (ht : Canon t) (h : ∀ m, coef l m = coef t m) : termsOf l ks = t :=
  canon_ext (canon_termsOf hn hp hs) ht fun m => by rw [coef_termsOf hn hp, h]
theorem nzf_all {l : Poly} (h : ∀ p ∈ l, p.2 ≠ 0) : nzf l = l := List.filter_eq_self.mpr fun p hp => decide_eq_true (h p hp)
/-- a dict of a canonical polynomial: its terms in any order -/
structure DictOfP (l t : Poly) : Prop where
  nd : NodupK l
  nz : ∀ p ∈ l, p.2 ≠ 0
  co : ∀ m, coef l m = coef t m
  ca : Canon t
theorem DictOfP.perm {l t : Poly} (h : DictOfP l t) : l.Perm t := perm_of_coef h.nd h.nz h.ca.nodup h.ca.nz h.co
theorem DictOfP.len {l t : Poly} (h : DictOfP l t) : l.length = t.length := h.perm.length_eq
theorem DictOfP.terms {l t : Poly} (h : DictOfP l t) {ks : List Mon} (hp : ks.Perm (keysOf l)) (hs : ks.Pairwise fun a b => mlt b a = false) : ks.map (fun m => (m, coef l m)) = t := by
  rw [← termsOf_is h.nd hp hs h.ca h.co]
  unfold termsOf
  refine (nzf_all fun p hp' => ?_).symm
  obtain ⟨m, hm, rfl⟩ := List.mem_map.mp hp'
  have hk := hp.mem_iff.mp hm
  unfold keysOf at hk
  obtain ⟨q, hq, rfl⟩ := List.mem_map.mp hk
  show coef l q.1 ≠ 0
  rw [coef_mem h.nd hq]
  exact h.nz q hq
end K46

/-! # What is great; powers; sizes -/
namespace K46
def pw (k : Nat) (m : Mon) : Int := if k = 0 then m.1 else if k = 1 then m.2.1 else if k = 2 then m.2.2.1 else m.2.2.2
def bigM (m : Mon) : Bool := decide (60 < m.1) || (decide (60 < m.2.1) || (decide (60 < m.2.2.1) || decide (60 < m.2.2.2)))
def isGreat (t : Poly) : Bool := decide (300 < t.length) || t.any fun p => bigM p.1
theorem bigM_iff (m : Mon) : bigM m = true ↔ ∃ k, k < 4 ∧ 60 < pw k m := by
  unfold bigM
  simp only [Bool.or_eq_true, decide_eq_true_eq]
  constructor
  · rintro (h | h | h | h)
    · exact ⟨0, by omega, h⟩
    · exact ⟨1, by omega, h⟩
    · exact ⟨2, by omega, h⟩
    · exact ⟨3, by omega, h⟩
  · rintro ⟨k, hk, h⟩
    rcases (show k = 0 ∨ k = 1 ∨ k = 2 ∨ k = 3 by omega) with e | e | e | e <;> subst e
    · exact .inl h
    · exact .inr (.inl h)
    · exact .inr (.inr (.inl h))
    · exact .inr (.inr (.inr h))
/-- n is the degree of t by the unknown k -/
structure IsDeg (k : Nat) (t : Poly) (n : Int) : Prop where
  nn : 0 ≤ n
  up : ∀ p ∈ t, pw k p.1 ≤ n
  at_ : n = 0 ∨ ∃ p ∈ t, pw k p.1 = n
theorem IsDeg.big {k : Nat} {t : Poly} {n : Int} (h : IsDeg k t n) : 60 < n ↔ ∃ p ∈ t, 60 < pw k p.1 := by
  constructor
  · intro hn
    rcases h.at_ with e | ⟨p, hp, e⟩
    · omega
    · exact ⟨p, hp, by omega⟩
  · rintro ⟨p, hp, e⟩
    have := h.up p hp
    omega
theorem isGreat_iff (t : Poly) : isGreat t = true ↔ 300 < t.length ∨ ∃ k, k < 4 ∧ ∃ p ∈ t, 60 < pw k p.1 := by
  unfold isGreat
  rw [Bool.or_eq_true, decide_eq_true_eq, List.any_eq_true]
  constructor
  · rintro (h | ⟨p, hp, h⟩)
    · exact .inl h
    · obtain ⟨k, hk, h⟩ := (bigM_iff _).mp h
      exact .inr ⟨k, hk, p, hp, h⟩
  · rintro (h | ⟨k, hk, p, hp, h⟩)
    · exact .inl h
    · exact .inr ⟨p, hp, (bigM_iff _).mpr ⟨k, hk, h⟩⟩
/-- none: great -/
def chk (t : Poly) : Option Poly := if isGreat t then none else some t
theorem chk_some {t p : Poly} (h : chk t = some p) : p = t ∧ isGreat t = false := by
  unfold chk at h
  split at h
  · cases h
  · rename_i g
    cases h
    exact ⟨rfl, by simpa using g⟩
theorem chk_ok {t : Poly} (h : isGreat t = false) : chk t = some t := by unfold chk; rw [h]; rfl
/-- a power, factor by factor -/
def ppow (p : Poly) : Nat → Option Poly
  | 0 => some (pconst 1)
  | n + 1 => (ppow p n).bind fun q => chk (pmul q p)
/-- .. whatever its size -/
def lpow (p : Poly) : Nat → Poly
  | 0 => pconst 1
  | n + 1 => pmul (lpow p n) p
theorem canon_lpow {p : Poly} (h : Canon p) : ∀ n, Canon (lpow p n)
  | 0 => canon_pconst 1
  | n + 1 => canon_pmul (canon_lpow h n) h
theorem ppow_lpow {p : Poly} : ∀ {n : Nat} {q : Poly}, ppow p n = some q → q = lpow p n
  | 0, q, h => (Option.some.inj h).symm
  | n + 1, q, h => by
    unfold ppow at h
    obtain ⟨r, hr, h⟩ := Option.bind_eq_some_iff.mp h
    rw [ppow_lpow hr] at h
    exact (chk_some h).1

/-! ### sizes of counts -/
def norm1 : Poly → Nat
  | [] => 0
  | p :: r => p.2.natAbs + norm1 r
theorem norm1_mem : ∀ {t : Poly} {p : Mon × Int}, p ∈ t → p.2.natAbs ≤ norm1 t
  | [], _, h => absurd h (by simp)
  | q :: t, p, h => by
    show p.2.natAbs ≤ q.2.natAbs + norm1 t
    rcases List.mem_cons.mp h with e | h
    · rw [e]; omega
    · have := norm1_mem h; omega
theorem norm1_append : ∀ a b : Poly, norm1 (a ++ b) = norm1 a + norm1 b
  | [], b => by simp [norm1]
  | p :: a, b => by
    show p.2.natAbs + norm1 (a ++ b) = p.2.natAbs + norm1 a + norm1 b
    rw [norm1_append a b]; omega
theorem norm1_mrgA (x : Mon × Int) (f : Poly → Poly) (n : Nat) (hf : ∀ ys, norm1 (f ys) ≤ n + norm1 ys) : ∀ ys, norm1 (mrgA x f ys) ≤ x.2.natAbs + n + norm1 ys
  | [] => by
    rw [mrgA_nil]
    have := hf []
    show x.2.natAbs + norm1 (f []) ≤ _
    omega
  | y :: ys => by
    rw [mrgA_cons]
    have h1 := hf ys
    have h2 := hf (y :: ys)
    have e : norm1 (y :: ys) = y.2.natAbs + norm1 ys := rfl
    split
    · have := norm1_mrgA x f n hf ys
      show y.2.natAbs + norm1 (mrgA x f ys) ≤ _
      omega
    · split
      · split
        · omega
        · show (x.2 + y.2).natAbs + norm1 (f ys) ≤ _
          have := Int.natAbs_add_le x.2 y.2
          omega
      · show x.2.natAbs + norm1 (f (y :: ys)) ≤ _
        omega
theorem norm1_mrg : ∀ xs ys : Poly, norm1 (mrg xs ys) ≤ norm1 xs + norm1 ys
  | [], ys => by rw [mrg_nil]; show _ ≤ 0 + _; omega
  | x :: xs, ys => by rw [mrg_cons]; exact norm1_mrgA x (mrg xs) (norm1 xs) (fun ys => norm1_mrg xs ys) ys
theorem norm1_pneg : ∀ t : Poly, norm1 (pneg t) = norm1 t
  | [] => rfl
  | p :: t => by
    show (-p.2).natAbs + norm1 (pneg t) = p.2.natAbs + norm1 t
    rw [norm1_pneg t, Int.natAbs_neg]
theorem norm1_psh (m : Mon) (c : Int) : ∀ t : Poly, norm1 (psh m c t) = norm1 t * c.natAbs
  | [] => by show 0 = 0 * c.natAbs; rw [Nat.zero_mul]
  | p :: t => by
    show (p.2 * c).natAbs + norm1 (psh m c t) = (p.2.natAbs + norm1 t) * c.natAbs
    rw [norm1_psh m c t, Int.natAbs_mul, Nat.add_mul]
theorem norm1_fold (a : Poly) : ∀ (b acc : Poly), norm1 (b.foldl (fun acc q => mrg acc (psh q.1 q.2 a)) acc) ≤ norm1 acc + norm1 a * norm1 b
  | [], acc => by show norm1 acc ≤ norm1 acc + norm1 a * 0; omega
  | q :: b, acc => by
    rw [List.foldl_cons]
    have h1 := norm1_fold a b (mrg acc (psh q.1 q.2 a))
    have h2 := norm1_mrg acc (psh q.1 q.2 a)
    rw [norm1_psh] at h2
    show _ ≤ norm1 acc + norm1 a * (q.2.natAbs + norm1 b)
    rw [Nat.mul_add]
    omega
theorem norm1_pmul (a b : Poly) : norm1 (pmul a b) ≤ norm1 a * norm1 b := by
  have := norm1_fold a b []
  have e : norm1 [] = 0 := rfl
  unfold pmul
  omega
theorem norm1_pconst (n : Int) : norm1 (pconst n) = n.natAbs := by
  unfold pconst
  split
  · rename_i h; rw [h]; rfl
  · show n.natAbs + 0 = _
    omega
/-- the counts, all together, have fewer than b bits -/
def Fits (b : Nat) (t : Poly) : Prop := norm1 t < 2 ^ b
theorem Fits.mono {a b : Nat} {t : Poly} (h : Fits a t) (hab : a ≤ b) : Fits b t := Nat.lt_of_lt_of_le h (Nat.pow_le_pow_right (by decide) hab)
theorem Fits.mem {b : Nat} {t : Poly} (h : Fits b t) {p : Mon × Int} (hp : p ∈ t) : p.2.natAbs < 2 ^ b := Nat.lt_of_le_of_lt (norm1_mem hp) h
theorem Fits.mul {a b : Nat} {s t : Poly} (hs : Fits a s) (ht : Fits b t) : Fits (a + b) (pmul s t) := by
  unfold Fits at *
  rw [Nat.pow_add]
  refine Nat.lt_of_le_of_lt (norm1_pmul s t) ?_
  exact Nat.mul_lt_mul'' hs ht
theorem two_pow_dbl (a : Nat) : 2 ^ a + 2 ^ a = 2 ^ (a + 1) := by rw [Nat.pow_succ]; omega
theorem Fits.add {a b : Nat} {s t : Poly} (hs : Fits a s) (ht : Fits b t) : Fits (max a b + 1) (padd s t) := by
  have h1 := hs.mono (Nat.le_max_left a b)
  have h2 := ht.mono (Nat.le_max_right a b)
  unfold Fits at *
  have := norm1_mrg s t
  rw [← two_pow_dbl]
  unfold padd
  omega
theorem Fits.sub {a b : Nat} {s t : Poly} (hs : Fits a s) (ht : Fits b t) : Fits (max a b + 1) (psub s t) := by
  have h1 := hs.mono (Nat.le_max_left a b)
  have h2 := ht.mono (Nat.le_max_right a b)
  unfold Fits at *
  have := norm1_mrg s (pneg t)
  rw [norm1_pneg] at this
  rw [← two_pow_dbl]
  unfold psub
  omega
theorem Fits.pow {a : Nat} {t : Poly} (h : Fits a t) : ∀ n, Fits (a * n + 1) (lpow t n)
  | 0 => by
    show norm1 (pconst 1) < _
    rw [norm1_pconst]
    exact Nat.lt_of_lt_of_le (by decide : (1 : Int).natAbs < 2 ^ 1) (Nat.pow_le_pow_right (by decide) (by omega))
  | n + 1 => by
    have := (Fits.pow h n).mul h
    refine this.mono ?_
    rw [Nat.mul_succ]; omega
theorem fits_pvar (k : Nat) : Fits 1 (pvar k) := by show 1 + 0 < 2 ^ 1; decide

/-! ### degrees -/
def Low (d : Nat) (t : Poly) : Prop := ∀ p ∈ t, p.1.1 ≤ d ∧ p.1.2.1 ≤ d ∧ p.1.2.2.1 ≤ d ∧ p.1.2.2.2 ≤ d
theorem Low.mono {a b : Nat} {t : Poly} (h : Low a t) (hab : a ≤ b) : Low b t := fun p hp => by
  obtain ⟨h1, h2, h3, h4⟩ := h p hp
  omega
theorem Low.mrg {a b : Nat} {s t : Poly} (hs : Low a s) (ht : Low b t) : Low (max a b) (mrg s t) := fun p hp => by
  rcases mem_mrg s t p hp with ⟨q, hq, e⟩ | ⟨q, hq, e⟩
  · obtain ⟨h1, h2, h3, h4⟩ := hs q hq
    rw [e] at h1 h2 h3 h4
    omega
  · obtain ⟨h1, h2, h3, h4⟩ := ht q hq
    rw [e] at h1 h2 h3 h4
    omega
theorem Low.pneg {a : Nat} {t : Poly} (h : Low a t) : Low a (pneg t) := fun p hp => by
  obtain ⟨q, hq, rfl⟩ := List.mem_map.mp hp
  exact h q hq
theorem Low.psh {a b : Nat} {t : Poly} {m : Mon} (c : Int) (h : Low a t) (hm : m.1 ≤ b ∧ m.2.1 ≤ b ∧ m.2.2.1 ≤ b ∧ m.2.2.2 ≤ b) : Low (a + b) (psh m c t) := fun p hp => by
  obtain ⟨q, hq, rfl⟩ := List.mem_map.mp hp
  have := h q hq
  show q.1.1 + m.1 ≤ _ ∧ q.1.2.1 + m.2.1 ≤ _ ∧ q.1.2.2.1 + m.2.2.1 ≤ _ ∧ q.1.2.2.2 + m.2.2.2 ≤ _
  omega
theorem low_fold {d : Nat} (a : Poly) : ∀ (b acc : Poly), (∀ q ∈ b, Low d (psh q.1 q.2 a)) → Low d acc → Low d (b.foldl (fun acc q => mrg acc (psh q.1 q.2 a)) acc)
  | [], _, _, h => h
  | q :: b, acc, hb, h => low_fold a b _ (fun r hr => hb r (List.mem_cons_of_mem _ hr)) ((Low.mrg h (hb q (List.mem_cons_self ..))).mono (by omega))
theorem Low.mul {a b : Nat} {s t : Poly} (hs : Low a s) (ht : Low b t) : Low (a + b) (pmul s t) := low_fold s t [] (fun q hq => hs.psh q.2 (ht q hq)) fun _ h => absurd h (by simp)
theorem Low.add {a b : Nat} {s t : Poly} (hs : Low a s) (ht : Low b t) : Low (max a b) (padd s t) := Low.mrg hs ht
theorem Low.sub {a b : Nat} {s t : Poly} (hs : Low a s) (ht : Low b t) : Low (max a b) (psub s t) := Low.mrg hs ht.pneg
theorem low_pconst (n : Int) (d : Nat) : Low d (pconst n) := fun p hp => by
  unfold pconst at hp
  split at hp
  · exact absurd hp (by simp)
  · have : p = ((0, 0, 0, 0), n) := by simpa using hp
    rw [this]
    show (0 : Int) ≤ d ∧ (0 : Int) ≤ d ∧ (0 : Int) ≤ d ∧ (0 : Int) ≤ d
    omega
theorem low_pvar (k : Nat) : Low 1 (pvar k) := fun p hp => by
  have : p = (unit k 1, 1) := by simpa [pvar] using hp
  rw [this]
  unfold unit
  dsimp only
  refine ⟨?_, ?_, ?_, ?_⟩ <;> split <;> decide
theorem Low.pow {a : Nat} {t : Poly} (h : Low a t) : ∀ n, Low (a * n) (lpow t n)
  | 0 => low_pconst 1 _
  | n + 1 => ((Low.pow h n).mul h).mono (by rw [Nat.mul_succ]; omega)
theorem length_lpow (t : Poly) : ∀ n, (lpow t n).length ≤ t.length ^ n
  | 0 => by
    show (pconst 1).length ≤ t.length ^ 0
    rw [Nat.pow_zero]
    exact length_pconst 1
  | n + 1 => by
    have h1 := length_pmul (lpow t n) t
    have h2 := length_lpow t n
    rw [Nat.pow_succ]
    exact Nat.le_trans h1 (Nat.mul_le_mul_right _ h2)
theorem not_great {t : Poly} (hl : t.length ≤ 300) (hd : Low 60 t) : isGreat t = false := by
  cases e : isGreat t with
  | false => rfl
  | true =>
    rcases (isGreat_iff t).mp e with h | ⟨k, hk, p, hp, h⟩
    · omega
    · obtain ⟨h1, h2, h3, h4⟩ := hd p hp
      rcases (show k = 0 ∨ k = 1 ∨ k = 2 ∨ k = 3 by omega) with e | e | e | e <;> subst e <;> simp [pw] at h <;> omega
/-- all the partial powers are small -/
theorem ppow_small {t : Poly} {n : Nat} (h : ∀ j, 1 ≤ j → j ≤ n → isGreat (lpow t j) = false) : ppow t n = some (lpow t n) := by
  induction n with
  | zero => rfl
  | succ n ih =>
    unfold ppow
    rw [ih fun j h1 h2 => h j h1 (by omega)]
    show chk (pmul (lpow t n) t) = _
    exact chk_ok (h (n + 1) (by omega) (Nat.le_refl _))
end K46

/-! # Further rules: sorted of a dict whose keys are powers -/
namespace K46
open PySem PySem.Spec PyProof.Rows L2
def mkey (m : Mon) : List Key := [.inl m.1, .inl m.2.1, .inl m.2.2.1, .inl m.2.2.2]
def mints (m : Mon) : List Int := [m.1, m.2.1, m.2.2.1, m.2.2.2]
def mtup (m : Mon) : List V := [.int m.1, .int m.2.1, .int m.2.2.1, .int m.2.2.2]
def ent (p : Mon × Int) : List Key × V := (mkey p.1, .int p.2)
theorem mkey_kV (m : Mon) : (mkey m).map kV = mtup m := rfl
theorem mkey_inj {a b : Mon} (h : mkey a = mkey b) : a = b := by
  unfold mkey at h
  simp only [List.cons.injEq, Sum.inl.injEq, and_true] at h
  exact mon_ext h.1 h.2.1 h.2.2.1 h.2.2.2
theorem mtup_ints (m : Mon) : mtup m = (mints m).map V.int := rfl
theorem mtup_inj {a b : Mon} (h : mtup a = mtup b) : a = b := by
  unfold mtup at h
  simp only [List.cons.injEq, V.int.injEq, and_true] at h
  exact mon_ext h.1 h.2.1 h.2.2.1 h.2.2.2
theorem mints_lt (a b : Mon) : decide (mints a < mints b) = mlt a b := by
  rw [Bool.eq_iff_iff, mlt_iff, decide_eq_true_iff]
  unfold mints
  simp only [List.cons_lt_cons_iff, List.not_lt_nil, or_false, and_false]
def menc (b : Addr × Mon) : PyData := .tuple ((mints b.2).map .int)
theorem menc_le : PySem.W.dataLe false menc = fun a b => !mlt b.2 a.2 := by
  funext a b
  show (!PySem.W.dataLt (menc b) (menc a)) = _
  unfold menc
  rw [PySem.W.dataLt_tuple]
  show (!PySem.W.rowLt ((mints b.2).map .int) ((mints a.2).map .int)) = _
  rw [PySem.W.dataLt_ints, mints_lt]
theorem menc_alike (b b' : Addr × Mon) : PySem.W.alike (menc b) (menc b') = true := by
  unfold menc
  rw [PySem.W.alike]
  exact PySem.W.alike_ints _ _
theorem menc_depth (b : Addr × Mon) : (menc b).depth ≤ 1 := by
  unfold menc
  rw [PyData.depth, PySem.W.depth_ints]
  exact Nat.le_refl _
theorem sorted_order (bs : List (Addr × Mon)) : (bs.mergeSort (fun a b => !mlt b.2 a.2)).Pairwise fun a b => mlt b.2 a.2 = false := by
  have h := List.pairwise_mergeSort (le := fun (a b : Addr × Mon) => !mlt b.2 a.2) (fun a b c h1 h2 => ?_) (fun a b => ?_) bs
  · exact h.imp fun {a b} z => by simpa using z
  · simp only [Bool.not_eq_true'] at *
    cases e : mlt c.2 a.2 with
    | false => rfl
    | true =>
      cases e1 : mlt b.2 c.2 with
      | true =>
        have := mlt_trans e1 e
        rw [h1] at this; cases this
      | false =>
        have := mlt_tri h2 e1
        rw [this] at e
        rw [e] at h1; cases h1
  · cases e : mlt b.2 a.2 with
    | false => rfl
    | true => rw [mlt_asymm e]; rfl

section
open PySem.W PySem.Calls PyProof.V
variable {prog : Program} {w : World} {A : Around} {E : Value → Shared → Prop} {s : Shared} {T : String} {r d : Addr} {n : Nat} {Pw : Nat → Value → Prop} {OK : Heap → Prop} {Q : Value → Shared → Prop}
theorem sorted_src (K : KdlSrc prog w T r d n Pw OK) (hh : A.handled = none) (hok : OK s.heap) (hn : n ≤ sizeLine)
    (h : ∀ (h' : Heap) (tk : Nat) (vs : List Value), (∀ b o, s.heap.get? b = some o → h'.get? b = some o) → vs.length = n → (∀ (j : Nat) (v : Value), vs[j]? = some v → Pw j v) →
      wpAny (model prog w) A.in1 (call (.builtin "list.sort") [.ref h'.objs.size]) (fun _ s' => Q (.ref h'.objs.size) s') E { s with heap := h'.push { cls := .type "list", data := .seq vs.toArray }, toks := tk }) :
    wpAny (model prog w) A (call (.builtin "sorted") [.ref r]) Q E s := by
  refine call_function_entry kind_sorted plain_sorted entry_sorted (args_sorted1 _) ?_
  unfold Builtin.«sorted»
  refine wpAny_bind (m := checkCount "sorted" 1 1 _) (wpAny_pure ?_)
  refine wpAny_bind (kdu_collect (A := A.in1) K hh hok hn fun h' tk acc hk hacc => ?_)
  have hl : acc.toList.length = n := by rw [Array.length_toList]; exact hacc.1
  refine wpAny_bind (wpAny_newList ?_ (by rw [hl]; exact hn))
  have hg := h h' tk acc.toList hk hl (fun j v e => hacc.2 j v (by rw [← Array.getElem?_toList]; exact e))
  refine wpAny_bind (wpAny_holding (wpAny_mono hg (fun _ s' x => ?_) fun _ _ e => e))
  exact wpAny_pure ⟨_, rfl, x⟩
end

/-- the entries of a dict by its key tuples' addresses -/
theorem each_of_refs : ∀ bs : List (Addr × Mon), PySem.W.EachIs (fun (v : Value) (b : Addr × Mon) => v = .ref b.1) (bs.map fun b => Value.ref b.1) bs
  | [] => .nil
  | _ :: r => .cons rfl (each_of_refs r)
theorem refs_of_each : ∀ {out : List Value} {bs : List (Addr × Mon)}, PySem.W.EachIs (fun (v : Value) (b : Addr × Mon) => v = .ref b.1) out bs → out = bs.map fun b => Value.ref b.1
  | _, _, .nil => rfl
  | _, _, .cons h t => by rw [h, refs_of_each t]; rfl
theorem vals_refs2 : ∀ bs : List (Addr × Mon), Vals (bs.map fun b => V.ref b.1) (bs.map fun b => Value.ref b.1)
  | [] => .nil
  | _ :: r => .cons rfl (vals_refs2 r)

def KeysAt (H : Hp) (bs : List (Addr × Mon)) : Prop := ∀ b ∈ bs, H b.1 = some (.tup (mtup b.2))

theorem tup_reads {P : Program} {w : World} {H : Hp} {h : Heap} {b : Addr × Mon} (ok : HOk P w H h) (e : H b.1 = some (.tup (mtup b.2))) : Reads h (.ref b.1) (menc b) [] := by
  obtain ⟨_, its, r, o, ho, hc, n, hd⟩ := ok _ _ e
  refine .tuple (o := o) (vs := its.toArray) ho hc hd ?_
  have : ∀ {xs : List Int} {us : List Value}, Vals (xs.map V.int) us → ReadsAll h us (xs.map PyData.int) [] := by
    intro xs
    induction xs with
    | nil =>
      intro us r
      cases r
      exact .nil
    | cons x xs ih =>
      intro us r
      cases r with
      | cons r1 r2 =>
        obtain ⟨t, rfl⟩ := r1
        exact ReadsAll.cons (as := []) (bs := []) (.int x t) (ih r2)
  exact this r

def rSortedM : List V → Hp → VK → Prop := fun xs H Q => ∃ (d : Addr) (kvs : List (Mon × Int)), xs = [.ref d] ∧ Rd H d (.dT (kvs.map ent)) ∧
  ∀ (p : Addr) (bs : List (Addr × Mon)), H p = none → (bs.map (·.2)).Perm (kvs.map (·.1)) → (bs.Pairwise fun a b => mlt b.2 a.2 = false) → KeysAt H bs → Q (.ref p) (upd H p (.lst (bs.map fun b => .ref b.1)))
theorem ents_of {H : Hp} : ∀ {kvs : List (Mon × Int)} {xs : List (List Key × Addr × Value)}, KT H (kvs.map ent) xs → ∃ bs : List (Addr × Mon), xs.map (fun x => x.2.1) = bs.map (·.1) ∧ bs.map (·.2) = kvs.map (·.1) ∧ KeysAt H bs
  | [], _, r => by
    cases r
    exact ⟨[], rfl, rfl, fun _ h => absurd h (by simp)⟩
  | p :: kvs, _, r => by
    cases r with
    | @cons _ x _ xs h t =>
      obtain ⟨bs, e1, e2, e3⟩ := ents_of t
      refine ⟨(x.2.1, p.1) :: bs, ?_, ?_, fun b hb => ?_⟩
      · rw [List.map_cons, List.map_cons, e1]
      · rw [List.map_cons, List.map_cons, e2]
      · rcases List.mem_cons.mp hb with e | hb
        · rw [e]; exact h.2.1
        · exact e3 b hb
theorem cr_sortedM {X : Cx} {k : Nat} (hc : X.calm = true) (hr : Room k X.A) : CallR X (.builtin "sorted") rSortedM := by
  intro pins s σ H xs us Q I r h
  obtain ⟨d, kvs, rfl, hd, q⟩ := h
  obtain ⟨u, rfl, rx⟩ := r.one
  cases rx
  obtain ⟨z, hs, ks, pr, o, es, ep, ho, hx, hdt, he, hn⟩ := (show ObjOk X.prog X.w H s.heap d (.dT (kvs.map ent)) from hd.ok I.hok)
  have l1 : es.size = ks.length := size_of_entries he
  have l2 : (kvs.map ent).length = ks.length := Paired.length pr
  obtain ⟨bs, b1, b2, b3⟩ := ents_of pr
  have lb : bs.length = ks.length := by
    have := congrArg List.length b1
    rw [List.length_map, List.length_map] at this
    exact this.symm
  refine sorted_src (kdl_raw hs hx hdt) (I.ok.hd hc) ho (by omega) fun h' tk vs kp hl hv => ?_
  have ev : vs = bs.map fun b => Value.ref b.1 := by
    have e0 : vs = (ks.map fun x => x.2.1).map Value.ref := by
      apply List.ext_getElem?
      intro j
      rw [List.getElem?_map, List.getElem?_map]
      cases hj : vs[j]? with
      | none =>
        have h1 := List.getElem?_eq_none_iff.mp hj
        rw [List.getElem?_eq_none (by omega)]
        rfl
      | some v =>
        obtain ⟨en, hen, hve⟩ := hv j v hj
        have qe := entry_at he j
        rw [hen] at qe
        cases hb : ks[j]? with
        | none =>
          rw [hb] at qe
          exact nomatch (show some en = none from qe)
        | some b =>
          rw [hb] at qe
          have e2 : en = entryOfKey (tupleKind (mixKind X.prog X.w)) b := Option.some.inj qe
          rw [hve, e2]
          rfl
    rw [e0, b1, List.map_map]
    rfl
  subst ev
  have k2 : ∀ b o, s.heap.get? b = some o → (h'.push { cls := .type "list", data := .seq (bs.map fun b => Value.ref b.1).toArray }).get? b = some o := fun b o e => Heap.get?_push_of_some _ (kp b o e)
  have hp : (h'.push { cls := .type "list", data := .seq (bs.map fun b => Value.ref b.1).toArray }).get? h'.objs.size = some (seqObj "list" (bs.map fun b => Value.ref b.1).toArray 0) := Heap.get?_push_size _ rfl
  have hok' : HOk X.prog X.w H (h'.push { cls := .type "list", data := .seq (bs.map fun b => Value.ref b.1).toArray }) := I.hok.kept k2
  have hun := hr.un
  refine PySem.W.list_sort_data (s := { s with heap := h'.push { cls := .type "list", data := .seq (bs.map fun b => Value.ref b.1).toArray }, toks := tk }) (R := fun (v : Value) (b : Addr × Mon) => v = .ref b.1) (enc := menc) (bs := bs) hp (each_of_refs bs) ?er
    (PySem.W.AllAlike.of menc_alike) (PySem.W.Sortable.tuples fun b => ⟨_, _, rfl⟩) (by omega) (fun b _ => ?hu) fun out hlo heo => ?_
  case hu =>
    have := menc_depth b
    show X.A.units + 1 + 1 + (menc b).depth < cLine
    omega
  case er =>
    have : ∀ l : List (Addr × Mon), (∀ b ∈ l, b ∈ bs) → PySem.W.EachIs (fun (v : Value) (b : Addr × Mon) => ∃ as, Reads (h'.push { cls := .type "list", data := .seq (bs.map fun b => Value.ref b.1).toArray }) v (menc b) as ∧ h'.objs.size ∉ as) (l.map fun b => Value.ref b.1) l := by
      intro l
      induction l with
      | nil => intro _; exact .nil
      | cons b l ih => exact fun hm => .cons ⟨[], tup_reads hok' (b3 b (hm b (List.mem_cons_self ..))), by simp⟩ (ih fun c hc => hm c (List.mem_cons_of_mem _ hc))
    exact this bs fun _ h => h
  have eo := refs_of_each heo
  subst eo
  rw [menc_le]
  have I' : Inv X pins σ H { s with heap := h', toks := tk } := I.kept kp
  have k3 : ∀ b o, h'.get? b = some o → (PyProof.Rows.sortedHeap (h'.push { cls := .type "list", data := .seq (bs.map fun b => Value.ref b.1).toArray }) h'.objs.size (bs.map fun b => Value.ref b.1) ((bs.mergeSort fun a b => !mlt b.2 a.2).map fun b => Value.ref b.1).toArray).get? b = some o := fun b o e => by
    have lt := Heap.lt_size e
    rw [PyProof.Rows.sortedHeap_old (Nat.ne_of_lt lt) (by rw [Heap.size_push]; exact Nat.lt_succ_of_lt lt)]
    exact Heap.get?_push_of_some _ e
  obtain ⟨e1, he1⟩ := PyProof.Rows.sortedHeap_at (out := ((bs.mergeSort fun a b => !mlt b.2 a.2).map fun b => Value.ref b.1).toArray) hp
  have hpm := List.mergeSort_perm bs (fun a b => !mlt b.2 a.2)
  refine ⟨.ref h'.objs.size, _, I'.laid (t' := tk) (a := h'.objs.size) (o := .lst ((bs.mergeSort fun a b => !mlt b.2 a.2).map fun b => .ref b.1)) k3 (Nat.le_refl _) ?_, rfl,
    q h'.objs.size _ (I'.hok.fresh (Nat.le_refl _)) ((hpm.map _).trans (List.Perm.of_eq b2)) (sorted_order bs) fun b hb => b3 b (hpm.mem_iff.mp hb)⟩
  refine ⟨?_, _, e1, vals_refs2 _, he1⟩
  rw [List.length_map, List.length_mergeSort]
  omega
end K46

/-! # Further rules: dicts whose keys are tuples: a display of one pair, a comprehension, pop; a text many times -/
namespace K46
open PySem PySem.Spec PyProof.Rows L2

/-! ### {k: v}, k a tuple -/
def tOneT (tk tv : TE) : TE := fun σ H Q => ∀ p, H p = none → tk σ (upd H p (.dT [])) fun y H1 => tv σ H1 fun z H2 =>
  ∃ (b : Addr) (key : List Key), y = .ref b ∧ H2 p = some (.dT []) ∧ H2 b = some (.tup (key.map kV)) ∧ Q (.ref p) (upd H2 p (.dT [(key, z)]))
theorem pe_oneT {X : Cx} {k v : Expr} {tk tv : TE} {pos : Pos} {j : Nat} (hr : Room j X.A) (hk : PE X k tk) (hv : PE X v tv) : PE X (.Dict [some k] [v] pos) (tOneT tk tv) := by
  refine ⟨fun pins s σ H Q I q => ?_⟩
  have hn := I.hok.fresh (Nat.le_refl s.heap.objs.size)
  have I1 := I.laid (a := s.heap.objs.size) (o := .dT []) (h' := s.heap.push { cls := .type "dict", data := .dict #[] }) (t' := s.toks) (fun _ _ z => Heap.get?_push_of_some _ z) (Nat.le_refl _) (dt_empty s.heap I.big)
  have hu := hr.un
  have ln : (pairTrees [some k] [v] X.env pos).length = 1 := rfl
  rw [arm_eval_Dict, zip_pairTrees [some k] [v] X.env pos rfl rfl, dictDisplay_pairs (pairTrees [some k] [v] X.env pos) (fun z => by rw [z] at ln; cases ln) (by rw [ln]; exact (by decide : 1 < 17))]
  refine wpAny_bind (wpAny_standAt (wpAny_bind ?_))
  have room : (tupleKind (mixKind X.prog X.w)).room X.A := (show X.A.units < cLine by omega)
  refine wpAny_subDictH (knd := tupleKind (mixKind X.prog X.w)) room (by rw [ln]; exact (by decide : 1 ≤ 15)) ?_
  refine pairTrees_cons_walk (thn (hk.run pins _ σ _ _ I1 (q _ hn)) fun u s1 ⟨y, H1, J1, r1, q1⟩ => thn (hv.run pins s1 σ H1 _ J1 q1) fun u2 s2 ⟨z, H2, J2, r2, b, key, ey, eD, eb, q2⟩ => pairTrees_nil_walk ?_)
  subst ey
  obtain rfl : u = Value.ref b := r1
  obtain ⟨z0, hd, xs, rel, dd⟩ := dt_of J2.hok eD
  cases rel
  refine ⟨[(key, b, u2)], ⟨rfl, rfl, key_of J2.hok eb, trivial⟩, dd, fun h' tk dd' hs => wpAny_pure ⟨.ref s.heap.objs.size, _, ?_, rfl, q2⟩⟩
  obtain ⟨o, es, ep, hq, h2, h3, h4, _, h5⟩ := dd'
  have ne : b ≠ s.heap.objs.size := fun e => by
    rw [e, eD] at eb
    cases eb
  refine d_write J2 (by rw [eD]; exact True.intro) hs ⟨o, hq⟩ ⟨by rw [sizeLine_eq]; exact (by decide : 1 ≤ 16777216), hd, [(key, b, u2)], .cons ⟨rfl, ?_, r2⟩ .nil, o, es, ep, hq, h2, h3, h4, h5⟩
  rw [upd_ne ne]
  exact eb

/-! ### d.pop(k), k a tuple that is there -/
section
open Builtin Builtin.Dict
variable {prog : Program} {w : World} {Kt : Type} [DecidableEq Kt] {knd : HeapKind prog w Kt}
theorem meets_pop1 {d b : Addr} {k : Kt} :
    MeetsIn prog w (Builtin.«dict.pop» ⟨[.ref d, .ref b], []⟩) (fun A R s => ∃ xs p, knd.room A.in1 ∧ knd.is s.heap k b ∧ s.heap.DictOfH knd d xs ∧ xs.length ≤ sizeLine ∧ atKey xs k = some p ∧
      ∀ h' tk, h'.DictOfH knd d (DT.dropH xs k) → Heap.SameBut d s.heap h' → R (.ok (.ret p.2)) { s with heap := h', toks := tk }) :=
  .of_wp fun A R s ⟨xs, p, hu, hkey, hm, hsz, hp, hsome⟩ => by
    obtain ⟨o, es, ep, ho, hc, hdat, he, his, hn⟩ := id hm
    have hpart : (keyPart (Value.ref b)).isSome = false := rfl
    have hem : es.isEmpty = false := by
      cases q : es.isEmpty with
      | false => rfl
      | true =>
        have z : es.size = 0 := by simpa using q
        have l := size_of_entries he
        have e0 : xs = [] := List.length_eq_zero_iff.mp (by omega)
        rw [e0] at hp
        cases hp
    unfold Builtin.«dict.pop»
    refine wpAny_bind ?_
    unfold Builtin.Dict.keyAndDefault
    refine wpAny_bind (wpAny_notOrdered_dict hm.typeIs ?_)
    show wpAny _ _ (pure (d, Value.ref b, none)) _ _ s
    refine wpAny_pure ?_
    simp only [hpart, Bool.false_eq_true, if_false]
    refine wpAny_bind (wpAny_dictEntries ho hdat (wpAny_bind (wpAny_pure ?_)))
    simp only [hem, Bool.false_eq_true, if_false]
    refine wpAny_bind (DT.takeH hu hkey hm hsz (fun hno => by rw [hno] at hp; cases hp) fun p2 e hp2 hev h' hm' hs' => ?_)
    have ep2 : p = p2 := Option.some.inj (hp.symm.trans hp2)
    subst ep2
    simp only [Option.isNone_some, Bool.false_eq_true, if_false]
    exact wpAny_bind (wpAny_letGo (wpAny_pure ⟨e.val, rfl, by rw [hev]; exact hsome h' _ hm' hs'⟩))
end
def rPop1 : V → List V → Hp → VK → Prop := fun x xs H Q => ∃ (a : Addr) (kvs : List (List L2.Key × V)) (k : List L2.Key) (b : Addr) (v : V), x = .ref a ∧ xs = [.ref b] ∧ H a = some (.dT kvs) ∧ H b = some (.tup (k.map kV)) ∧
  valV kvs k = some v ∧ Q v (upd H a (.dT (dropK kvs k)))
theorem mt_pop1 {X : Cx} {j : Nat} (hr : Room j X.A) : MtR X "dict.pop" rPop1 := by
  intro pins s σ H x xs v us Q I rx rxs h
  obtain ⟨a, kvs, k, b, vv, rfl, rfl, ha, hb, hv, q1⟩ := h
  cases rx
  obtain ⟨u1, rfl, r1⟩ := vals1 rxs
  cases r1
  have hu := hr.un
  obtain ⟨z, hd, xs', rel, dd⟩ := dt_of I.hok ha
  have hz : xs'.length ≤ sizeLine := by rw [← Paired.length rel]; exact z
  have r := rel.val k
  rw [hv] at r
  obtain ⟨p, hp⟩ : ∃ p, atKey xs' k = some p := by
    cases e : atKey xs' k with
    | some p => exact ⟨p, rfl⟩
    | none => rw [e] at r; exact (show False from r).elim
  rw [hp] at r
  refine call_meetsIn PySem.F.slot_dict_pop dd.typeIs PySem.F.entry_dict_pop (PySem.F.args_dict_pop_2 _ _) (meets_pop1 (knd := tupleKind (mixKind X.prog X.w)) (k := k))
    ⟨xs', p, tupleKind_room_in1 (by omega), key_of I.hok hb, dd, hz, hp, fun h' tk dd' hs => ?_⟩
  obtain ⟨o, es, ep, hq, h2, h3, h4, _, h5⟩ := dd'
  have J : Inv X pins σ (upd H a (.dT (dropK kvs k))) { s with heap := h', toks := tk } := d_write I (by rw [ha]; exact True.intro) hs ⟨o, hq⟩
    ⟨Nat.le_trans (dropK_le kvs k) z, hd, _, (L2.DX.KT_drop k rel).keeps (fun c ys ec => (by rw [upd_ne (ne_of ec ha (fun z => nomatch z))]; exact ec)), o, es, ep, hq, h2, h3, h4, h5⟩
  show EP X pins σ Q p.2 _
  exact ⟨vv, _, J, r, q1⟩

/-! ### a text of one sign, so many times -/
theorem many_cps (c : Nat) : ∀ (n : Nat) (a : Array Nat), (List.replicate n (#[c] : Array Nat)).foldl (· ++ ·) a = a ++ (List.replicate n c).toArray
  | 0, a => by simp
  | n + 1, a => by
    rw [List.replicate_succ, List.foldl_cons, many_cps c n, List.replicate_succ]
    apply Array.toList_inj.mp
    simp
theorem op_mulS {X : Cx} : OpR X (binaryOp .Mult) (fun x y H Q => ∃ (c : Nat) (n : Int), x = .str ⟨#[c]⟩ ∧ y = .int n ∧ 2 ≤ n ∧ n ≤ 1000 ∧ Q (.str ⟨(List.replicate n.toNat c).toArray⟩) H) := by
  intro pins s σ H x y v u Q I rx ry h
  obtain ⟨c, n, rfl, rfl, h2, h1000, q⟩ := h
  obtain ⟨t, rfl⟩ := rx
  obtain ⟨t', rfl⟩ := ry
  have e1 : (n == 1 || (⟨#[c]⟩ : Str).length == 0) = false := by
    have : (n == 1) = false := by
      rw [beq_eq_false_iff_ne]; omega
    rw [this]; rfl
  refine P.mul_str ?_ (fun _ _ => ?_) (fun _ _ => ?_) ?_
  · rw [decide_eq_false (by omega), decide_eq_false (by omega)]; rfl
  · show ¬ ((1 : Int) > (2 ^ 63 - 1) / n)
    have : (1 : Int) ≤ (2 ^ 63 - 1) / n := Int.le_ediv_of_mul_le (by omega) (by omega)
    omega
  · show decide ((1 : Nat) * n.toNat > sizeLine) = false
    have e0 := sizeLine_eq
    exact decide_eq_false (by omega)
  · rw [if_neg (by omega), e1, if_neg Bool.false_ne_true, many_cps]
    have e2 : (⟨#[] ++ (List.replicate n.toNat c).toArray⟩ : Str) = ⟨(List.replicate n.toNat c).toArray⟩ := by simp
    rw [e2]
    refine ⟨?_, ⟨.str ⟨(List.replicate n.toNat c).toArray⟩, H, I.tok _, ⟨_, rfl⟩, q⟩⟩
    have e0 := sizeLine_eq
    show (List.replicate n.toNat c).toArray.size ≤ sizeLine
    rw [List.size_toArray, List.length_replicate]
    omega

end K46

/-! # What is said of defs, of the heap -/
namespace K46
open PySem PySem.Spec PyProof.Rows L2

/-! ### defs that keep a promise -/
/-- the module's def x keeps sp -/
def Can (P : Program) (w : World) (K : PySem.W.Frag) (mg : Str → Option Value) (base : Heap) (CX : CXT) (k : Nat) (x : Str) (ps : List Str) (sp : Sp) : Prop :=
  ∃ (f : Addr) (fd : FuncData), mg x = some (.ref f) ∧ PySem.W.keepIn K (.ref f) = true ∧ Binds K fd ps [] ∧ FnOk P w K mg base CX k f fd ps sp
/-- the method m of the class at C -/
def CanM (P : Program) (w : World) (K : PySem.W.Frag) (mg : Str → Option Value) (base : Heap) (CX : CXT) (k : Nat) (C : Addr) (m : Str) (ps : List Str) (sp : Sp) : Prop :=
  ∃ (f : Addr) (fd : FuncData), Meth K C m f ∧ Binds K fd ps [] ∧ FnOk P w K mg base CX k f fd ps sp
/-- where the module's def x stands -/
structure Has (K : PySem.W.Frag) (mg : Str → Option Value) (x : Str) (st : Stmt) (ps : List Str) : Prop where
  ex : ∃ (f : Addr) (fd : FuncData), mg x = some (.ref f) ∧ Fun K x x st f fd ∧ Binds K fd ps []
/-- where a method stands -/
structure HasM (K : PySem.W.Frag) (C : Addr) (m qual : Str) (st : Stmt) (ps : List Str) : Prop where
  ex : ∃ (f : Addr) (fd : FuncData), Meth K C m f ∧ Fun K m qual st f fd ∧ Binds K fd ps []
/-- where a class's __init__ stands -/
structure HasI (K : PySem.W.Frag) (mg : Str → Option Value) (x : Str) (C : Addr) (qual : Str) (st : Stmt) (ps : List Str) : Prop where
  ex : ∃ (f : Addr) (fd : FuncData), mg x = some (.ref C) ∧ Mk K C f ∧ Fun K "__init__" qual st f fd ∧ Binds K fd ps []
def CanI (P : Program) (w : World) (K : PySem.W.Frag) (mg : Str → Option Value) (base : Heap) (CX : CXT) (k : Nat) (x : Str) (C : Addr) (ps : List Str) (sp : Sp) : Prop :=
  ∃ (f : Addr) (fd : FuncData), mg x = some (.ref C) ∧ Mk K C f ∧ Binds K fd ps [] ∧ FnOk P w K mg base CX k f fd ps sp

section
variable {X : Cx} {CX : CXT} {k k' : Nat} {x m : Str} {ps : List Str} {sp : Sp} {E : XK} {e o : Expr} {es : List Expr} {t : TA} {ta : TE} {p pos apos : Pos} {C : Addr}
theorem pe_can (G : Can X.prog X.w X.K X.mg X.base CX k x ps sp) (hr : Room k' X.A) (hx : Passes CX X E) (ha : PA X (e :: es) t) (hk : k ≤ k' := by decide) (hg : Gl X x := by rfl)
    (hdb : (x == ("__debug__" : Str)) = false := by decide) (he : starEach (e :: es) X.env = (false, eval e X.env) :: starEach es X.env := by rfl) (hpl : (backTo pos (starEach es X.env)).any (·.1) = false := by rfl) :
    PE X (.Call (.Name x p) (e :: es) [] pos) (tCall sp [] E t) := by
  obtain ⟨f, fd, g, kp, b, F⟩ := G
  exact pe_call F (hr.mono hk) hg g kp b .nil hx ha hdb he hpl
theorem pe_canM {pl : Sem Bool} (G : CanM X.prog X.w X.K X.mg X.base CX k C m ps sp) (c : Cls X.K C) (hr : Room k' X.A) (hx : Passes CX X E) (ho : PE X o ta) (ha : PA X (e :: es) t) (hk : k ≤ k' := by decide)
    (hst : starEach (e :: es) X.env = (false, eval e X.env) :: starEach es X.env := by rfl) (hpl : (backTo pos (starEach es X.env)).any (·.1) = false := by rfl)
    (ht : eval (.Call (.Attribute o m apos) (e :: es) [] pos) X.env = (do
      let ov ← eval o X.env
      standAt apos.atName
      let (f, first) ← holding [ov] (getMethod ov m pl)
      callWith pos f first (backTo pos (starEach (e :: es) X.env)) (backToKw pos (keywordEach [] X.env))) := by rfl) :
    PE X (.Call (.Attribute o m apos) (e :: es) [] pos) (tMeth C m sp [] E ta t) := by
  obtain ⟨f, fd, mm, b, F⟩ := G
  exact pe_meth ho c mm F (hr.mono hk) b .nil hx ha hst hpl ht
theorem pe_canM0 {pl : Sem Bool} (G : CanM X.prog X.w X.K X.mg X.base CX k C m ps sp) (c : Cls X.K C) (hr : Room k' X.A) (hx : Passes CX X E) (ho : PE X o ta) (hk : k ≤ k' := by decide)
    (ht : eval (.Call (.Attribute o m apos) [] [] pos) X.env = (do
      let ov ← eval o X.env
      standAt apos.atName
      let (f, first) ← holding [ov] (getMethod ov m pl)
      callWith pos f first (backTo pos (starEach [] X.env)) (backToKw pos (keywordEach [] X.env))) := by rfl) :
    PE X (.Call (.Attribute o m apos) [] [] pos) (tMeth C m sp [] E ta tNil) := by
  obtain ⟨f, fd, mm, b, F⟩ := G
  exact pe_meth0 ho c mm F (hr.mono hk) b .nil hx ht
theorem pe_canI (G : CanI X.prog X.w X.K X.mg X.base CX k x C ps sp) (hr : Room k' X.A) (hx : Passes CX X E) (ha : PA X (e :: es) t) (hk : k + 1 ≤ k' := by decide) (hg : Gl X x := by rfl)
    (hdb : (x == ("__debug__" : Str)) = false := by decide) (he : starEach (e :: es) X.env = (false, eval e X.env) :: starEach es X.env := by rfl) (hpl : (backTo pos (starEach es X.env)).any (·.1) = false := by rfl) :
    PE X (.Call (.Name x p) (e :: es) [] pos) (tMake C sp [] E t) := by
  obtain ⟨f, fd, g, M, b, F⟩ := G
  exact pe_make M F (hr.mono hk) hg g b .nil hx ha hdb he hpl
theorem pe_canI0 (G : CanI X.prog X.w X.K X.mg X.base CX k x C ps sp) (hr : Room k' X.A) (hx : Passes CX X E) (hk : k + 1 ≤ k' := by decide) (hg : Gl X x := by rfl)
    (hdb : (x == ("__debug__" : Str)) = false := by decide) :
    PE X (.Call (.Name x p) [] [] pos) (tMake C sp [] E tNil) := by
  obtain ⟨f, fd, g, M, b, F⟩ := G
  exact pe_make0 M F (hr.mono hk) hg g b .nil hx hdb
end

/-! ### the heap -/
theorem same_new {H : Hp} {p : Addr} (h : H p = none) (o : HO) : Same H (upd H p o) := fun b u q => by rw [upd_ne (ne_of_none q h)]; exact q
theorem Same.upd_new {H H' : Hp} {p : Addr} (s : Same H H') (h : H p = none) (o : HO) : Same H (upd H' p o) := fun b u q => by rw [upd_ne (ne_of_none q h)]; exact s b u q
theorem seqT_of {K : PySem.W.Frag} {H H' : Hp} {a : Addr} {xs : List V} (s : Same H H') (h : SqT K H a xs) : SqT K H' a xs := by
  rcases h with (h | ⟨o, h⟩) | h
  · exact .inl (.inl (s _ _ h))
  · exact .inl (.inr ⟨o, s _ _ h⟩)
  · exact .inr h
/-- a term (powers, count); the powers' tuple may be the module's own -/
def TermAt (K : PySem.W.Frag) (H : Hp) (v : V) (p : Mon × Int) : Prop := ∃ a b : Addr, v = .ref a ∧ H a = some (.tup [.ref b, .int p.2]) ∧ SqT K H b (mtup p.1)
def TermsAt (K : PySem.W.Frag) (H : Hp) (t : Addr) (ts : Poly) : Prop := ∃ vs : List V, H t = some (.tup vs) ∧ Paired (TermAt K H) vs ts
def PolyAt (K : PySem.W.Frag) (C : Addr) (H : Hp) (v : V) (ts : Poly) : Prop := ∃ a dx t : Addr, v = .ref a ∧ H a = some (.ins C dx [("terms", .ref t)]) ∧ TermsAt K H t ts
section
variable {K : PySem.W.Frag}
theorem TermAt.mono {H H' : Hp} {v : V} {p : Mon × Int} (h : TermAt K H v p) (s : Same H H') : TermAt K H' v p := by
  obtain ⟨a, b, e, h1, h2⟩ := h
  exact ⟨a, b, e, s _ _ h1, seqT_of s h2⟩
theorem TermsAt.mono {H H' : Hp} {t : Addr} {ts : Poly} (h : TermsAt K H t ts) (s : Same H H') : TermsAt K H' t ts := by
  obtain ⟨vs, h1, h2⟩ := h
  exact ⟨vs, s _ _ h1, Paired.mapP h2 fun _ _ z => TermAt.mono z s⟩
theorem PolyAt.mono {C : Addr} {H H' : Hp} {v : V} {ts : Poly} (h : PolyAt K C H v ts) (s : Same H H') : PolyAt K C H' v ts := by
  obtain ⟨a, dx, t, e, h1, h2⟩ := h
  exact ⟨a, dx, t, e, s _ _ h1, h2.mono s⟩
end
/-- what is neither a list, a dict, a set nor an instance stays when one such thing is written -/
theorem seqT_upd {K : PySem.W.Frag} {H : Hp} {a d : Addr} {xs : List V} {o u : HO} (h : SqT K H a xs) (hd : H d = some u) (hu : Mut (some u)) : SqT K (upd H d o) a xs := by
  have ne : ∀ b v, H b = some v → ¬ Mut (some v) → b ≠ d := fun b v e n z => by
    rw [z, hd] at e
    cases e
    exact n hu
  rcases h with (h | ⟨ob, h⟩) | h
  · exact .inl (.inl (by rw [upd_ne (ne _ _ h fun z => z)]; exact h))
  · exact .inl (.inr ⟨ob, by rw [upd_ne (ne _ _ h fun z => z)]; exact h⟩)
  · exact .inr h
theorem TermAt.upd {K : PySem.W.Frag} {H : Hp} {v : V} {p : Mon × Int} {d : Addr} {o u : HO} (h : TermAt K H v p) (hd : H d = some u) (hu : Mut (some u)) : TermAt K (upd H d o) v p := by
  obtain ⟨a, b, e, h1, h2⟩ := h
  refine ⟨a, b, e, ?_, seqT_upd h2 hd hu⟩
  have na : a ≠ d := fun z => by
    rw [z, hd] at h1
    cases h1
    exact hu
  rw [upd_ne na]
  exact h1
theorem pair_get {α β : Type} {F : α → β → Prop} : ∀ {xs : List α} {ys : List β} {i : Nat} {x : α}, Paired F xs ys → xs[i]? = some x → ∃ y, ys[i]? = some y ∧ F x y
  | _, _, i, x, .nil, h => by simp at h
  | _, _, 0, x, .cons f _, h => by
    simp only [List.getElem?_cons_zero] at h
    cases h
    exact ⟨_, rfl, f⟩
  | _, _, i + 1, x, .cons _ t, h => by
    simp only [List.getElem?_cons_succ] at h
    obtain ⟨y, h1, h2⟩ := pair_get (i := i) t h
    exact ⟨y, h1, h2⟩
theorem take_snoc {α : Type} {l : List α} {i : Nat} {x : α} (h : l[i]? = some x) : l.take (i + 1) = l.take i ++ [x] := by
  rw [List.take_add_one, h]; rfl
theorem lt_line {n : Nat} (h : n < 16777216) : n < sizeLine := by rw [sizeLine_eq]; exact h
theorem le_line {n : Nat} (h : n ≤ 16777216) : n ≤ sizeLine := by rw [sizeLine_eq]; exact h

/-! ### a dict from powers to counts -/
theorem ent_key {p : Mon × Int} {m : Mon} : (ent p).1 = mkey m ↔ p.1 = m := ⟨fun h => mkey_inj h, fun h => by rw [← h]; rfl⟩
theorem valV_ent {m : Mon} : ∀ {kvs : Poly}, NodupK kvs → valV (kvs.map ent) (mkey m) = if hasK kvs m then some (.int (coef kvs m)) else none
  | [], _ => rfl
  | p :: l, hn => by
    have hn2 := hn
    unfold NodupK at hn
    rw [List.map_cons, List.nodup_cons] at hn
    have ih := valV_ent (m := m) (kvs := l) hn.2
    rw [List.map_cons]
    by_cases e : p.1 = m
    · rw [valV_pos (ent_key.mpr e)]
      have : hasK (p :: l) m = true := hasK_iff.mpr (by rw [← e]; exact List.mem_cons_self ..)
      rw [if_pos this, ← e, coef_mem hn2 (List.mem_cons_self ..)]
      rfl
    · rw [valV_neg (fun z => e (ent_key.mp z)), ih, coef_cons, if_neg e]
      have : hasK (p :: l) m = hasK l m := by
        show (decide (p.1 = m) || hasK l m) = _
        rw [decide_eq_false e, Bool.false_or]
      rw [this, Int.zero_add]
theorem any_ent (m : Mon) (kvs : Poly) : ((kvs.map ent).any fun kv => decide (kv.1 = mkey m)) = hasK kvs m := by
  unfold hasK
  rw [List.any_map]
  congr 1
  funext p
  show decide ((ent p).1 = mkey m) = decide (p.1 = m)
  exact decide_eq_decide.mpr ent_key
theorem putK_ent (kvs : Poly) (m : Mon) (c : Int) : putK (kvs.map ent) (mkey m) (.int c) = (dput kvs m c).map ent := by
  unfold putK dput
  rw [any_ent]
  split
  · rw [List.map_map, List.map_map]
    refine List.map_congr_left fun p _ => ?_
    show (if (ent p).1 = mkey m then ((ent p).1, V.int c) else ent p) = ent (if p.1 = m then (p.1, c) else p)
    by_cases e : p.1 = m
    · rw [if_pos (ent_key.mpr e), if_pos e]; rfl
    · rw [if_neg (fun z => e (ent_key.mp z)), if_neg e]
  · rw [List.map_append]; rfl
theorem dropK_ent (kvs : Poly) (m : Mon) : dropK (kvs.map ent) (mkey m) = (ddrop kvs m).map ent := by
  unfold dropK ddrop
  rw [List.filter_map]
  congr 1
  refine List.filter_congr fun p _ => ?_
  show decide ((ent p).1 ≠ mkey m) = decide (p.1 ≠ m)
  exact decide_eq_decide.mpr (not_congr ent_key)

/-! ### list(text) -/
theorem vals_signs : ∀ (cs : List Nat) (us : List Value), us.length = cs.length → (∀ (j : Nat) (u : Value), us[j]? = some u → ∃ (c : Nat) (t : Tok), cs[j]? = some c ∧ u = .str ⟨#[c]⟩ t) → Vals (cs.map fun c => V.str ⟨#[c]⟩) us
  | [], us, hl, _ => by
    have : us = [] := List.length_eq_zero_iff.mp hl
    subst this; exact .nil
  | c :: cs, [], hl, _ => by simp at hl
  | c :: cs, u :: us, hl, h => by
    refine .cons ?_ (vals_signs cs us (by simpa using hl) fun j v e => by simpa using h (j + 1) v (by simpa using e))
    obtain ⟨d, t, e1, e2⟩ := h 0 u rfl
    simp only [List.getElem?_cons_zero] at e1
    cases e1
    exact ⟨t, e2⟩
theorem cr_listS {X : Cx} (hc : X.calm = true) : CallR X (.type "list") (fun xs H Q => ∃ z : Str, xs = [.str z] ∧ z.cps.size ≤ sizeLine ∧ ∀ p, H p = none → Q (.ref p) (upd H p (.lst (z.cps.toList.map fun c => V.str ⟨#[c]⟩)))) := by
  intro pins s σ H xs us Q I r h
  obtain ⟨z, rfl, hz, q⟩ := h
  obtain ⟨u, rfl, rx⟩ := r.one
  obtain ⟨t, rfl⟩ := rx
  refine call_list_str (I.ok.hd hc) z t (fun h' tk acc c' k e it => ?_) hz
  have rv : Vals (z.cps.toList.map fun c => V.str ⟨#[c]⟩) acc.toList := vals_signs _ _ (by rw [Array.length_toList, it.1, Array.length_toList]) fun j v hv => by
    obtain ⟨c, u, h1, h2⟩ := it.2 j v (by rw [← Array.getElem?_toList]; exact hv)
    exact ⟨c, u, by rw [Array.getElem?_toList]; exact h1, h2⟩
  refine ⟨.ref s.heap.objs.size, _, I.laid (t' := tk) (o := .lst (z.cps.toList.map fun c => V.str ⟨#[c]⟩)) k (Nat.le_refl _) ?_, rfl, q _ (I.hok.fresh (Nat.le_refl _))⟩
  refine ⟨?_, acc.toList, c', rv, by rw [Array.toArray_toList]; exact e⟩
  rw [List.length_map, Array.length_toList]
  exact hz
end K46

/-! # Dicts whose keys are tuples of four ints, made in the run or written by the module's top -/
namespace K46
open PySem PySem.Spec PyProof.Rows L2
/-- an entry: the key tuple's address, the powers, the count -/
abbrev ME := Addr × Mon × Int
def pol (es : List ME) : Poly := es.map (·.2)
abbrev XE := List Key × Addr × Value
def EMatch (e : ME) (x : XE) : Prop := x.1 = mkey e.2.1 ∧ x.2.1 = e.1 ∧ RelV (.int e.2.2) x.2.2
def EntM (P : Program) (w : World) (d : Addr) (es : List ME) (h : Heap) : Prop :=
  es.length ≤ sizeLine ∧ (d == sysModules) = false ∧ ∃ xs : List XE, Paired EMatch es xs ∧ ∃ o ds ep, h.get? d = some o ∧ o.ExactDict ∧ o.data = .dict ds ep ∧ ds.toList = xs.map (entryOfKey (tupleKind (mixKind P w))) ∧ (xs.map (·.1)).Nodup
def dM (P : Program) (w : World) (d : Addr) (es : List ME) : HO := .ext (EntM P w d es)
/-- the keys stand -/
def KeysM (K : PySem.W.Frag) (H : Hp) (es : List ME) : Prop := ∀ e ∈ es, SqT K H e.1 (mtup e.2.1)
theorem EntM.ok {P : Program} {w : World} {d : Addr} {es : List ME} {h : Heap} {H : Hp} (x : EntM P w d es h) : ObjOk P w H h d (dM P w d es) := by
  refine ⟨x, ?_, fun h1 h2 y k => ?_⟩
  · obtain ⟨_, _, _, _, o, _, _, e, _⟩ := x
    exact ⟨o, e⟩
  · obtain ⟨a, b, xs, r, o, ds, ep, e, c⟩ := y
    exact ⟨a, b, xs, r, o, ds, ep, k o e, c⟩
theorem EntM.of {P : Program} {w : World} {d : Addr} {es : List ME} {h : Heap} {H : Hp} (ok : HOk P w H h) (e : H d = some (dM P w d es)) : EntM P w d es h := by
  have x : ObjOk P w H h d (.ext (EntM P w d es)) := ok _ _ e
  exact x.1
theorem seqT_same {K : PySem.W.Frag} {H H' : Hp} {a : Addr} {xs : List V} (s : ∀ b o, (∃ ys, o = HO.tup ys) ∨ (∃ ob u, o = HO.frz ob u) → H b = some o → H' b = some o) (h : SqT K H a xs) : SqT K H' a xs := by
  rcases h with (h | ⟨o, h⟩) | h
  · exact .inl (.inl (s _ _ (.inl ⟨_, rfl⟩) h))
  · exact .inl (.inr ⟨o, s _ _ (.inr ⟨_, _, rfl⟩) h⟩)
  · exact .inr h
theorem same_seqT {K : PySem.W.Frag} {H H' : Hp} {a : Addr} {xs : List V} (s : Same H H') (h : SqT K H a xs) : SqT K H' a xs := seqT_same (fun b o _ e => s b o e) h
theorem SqT.upd {K : PySem.W.Frag} {H : Hp} {a d : Addr} {xs : List V} {φ : Heap → Prop} {o : HO} (h : SqT K H a xs) (hd : H d = some (.ext φ)) : SqT K (upd H d o) a xs :=
  seqT_same (fun b u z e => by
    have ne : b ≠ d := fun q => by
      rw [q, hd] at e
      rcases z with ⟨ys, z⟩ | ⟨ob, v, z⟩ <;> (rw [z] at e; cases e)
    rw [upd_ne ne]; exact e) h
section
variable {X : Cx} {pins : List (Addr × Obj)} {σ : L2.St} {H : Hp} {s : Shared}
theorem keyM (I : Inv X pins σ H s) {b : Addr} {m : Mon} (h : SqT X.K H b (mtup m)) : (tupleKind (mixKind X.prog X.w)).is s.heap (mkey m) b := by
  obtain ⟨its, r, ⟨o, h1, h2, n, h3⟩, _⟩ := I.tuple h
  exact ⟨o, its.toArray, n, h1, h2, h3, by simpa using items_are (P := X.prog) (w := X.w) (ks := mkey m) r⟩
theorem dictM (I : Inv X pins σ H s) {d : Addr} {es : List ME} (e : H d = some (dM X.prog X.w d es)) (hk : KeysM X.K H es) :
    es.length ≤ sizeLine ∧ (d == sysModules) = false ∧ ∃ xs : List XE, Paired EMatch es xs ∧ s.heap.DictOfH (tupleKind (mixKind X.prog X.w)) d xs := by
  obtain ⟨a, b, xs, r, o, ds, ep, h1, h2, h3, h4, h5⟩ := EntM.of I.hok e
  refine ⟨a, b, xs, r, o, ds, ep, h1, h2, h3, h4, fun x hx => ?_, h5⟩
  have all : ∀ {l : List ME} {m : List XE}, Paired EMatch l m → (∀ e ∈ l, SqT X.K H e.1 (mtup e.2.1)) → ∀ x ∈ m, (tupleKind (mixKind X.prog X.w)).is s.heap x.1 x.2.1 := by
    intro l m q
    induction q with
    | nil => intro _ x hx; exact nomatch hx
    | @cons p q ps qs hq t ih =>
      intro hk x hx
      rcases List.mem_cons.mp hx with z | hx
      · subst z
        rw [hq.1, hq.2.1]
        exact keyM I (hk p (List.mem_cons_self ..))
      · exact ih (fun e he => hk e (List.mem_cons_of_mem _ he)) x hx
  exact all r hk x hx
end
/-! ### an entry found, put -/
theorem match_at {m : Mon} : ∀ {es : List ME} {xs : List XE}, Paired EMatch es xs → NodupK (pol es) → RelO (if hasK (pol es) m then some (.int (coef (pol es) m)) else none) ((atKey xs (mkey m)).map (·.2))
  | _, _, .nil, _ => trivial
  | _, _, .cons (a := e) (b := x) (l₁ := es) (l₂ := xs) h t, hn => by
    have hn2 := hn
    unfold NodupK pol at hn
    rw [List.map_cons, List.map_cons, List.nodup_cons] at hn
    have ih := match_at (m := m) t (show NodupK (pol es) from hn.2)
    by_cases q : e.2.1 = m
    · have qx : x.1 = mkey m := by rw [h.1, q]
      have b : atKey (x :: xs) (mkey m) = some x.2 := by simp [atKey, List.find?_cons, qx]
      have c : hasK (pol (e :: es)) m = true := hasK_iff.mpr (by rw [← q]; exact List.mem_cons_self ..)
      have v : coef (pol (e :: es)) m = e.2.2 := by rw [← q]; exact coef_mem hn2 (List.mem_cons_self ..)
      rw [b, if_pos c, v]
      exact h.2.2
    · have qx : ¬ x.1 = mkey m := fun z => q (mkey_inj (h.1.symm.trans z))
      have b : atKey (x :: xs) (mkey m) = atKey xs (mkey m) := by simp [atKey, List.find?_cons, qx]
      have c : hasK (pol (e :: es)) m = hasK (pol es) m := by
        show (decide (e.2.1 = m) || hasK (pol es) m) = _
        rw [decide_eq_false q, Bool.false_or]
      have v : coef (pol (e :: es)) m = coef (pol es) m := by
        show (if e.2.1 = m then e.2.2 else 0) + coef (pol es) m = _
        rw [if_neg q]; omega
      rw [b, c, v]
      exact ih
/-- es with the count c at the powers m (put behind, with the key at b, where there are none) -/
def mput (es : List ME) (b : Addr) (m : Mon) (c : Int) : List ME := if hasK (pol es) m then es.map (fun e => if e.2.1 = m then (e.1, e.2.1, c) else e) else es ++ [(b, m, c)]
theorem pol_mput (es : List ME) (b : Addr) (m : Mon) (c : Int) : pol (mput es b m c) = dput (pol es) m c := by
  unfold mput dput
  split
  · unfold pol
    rw [List.map_map, List.map_map]
    refine List.map_congr_left fun e _ => ?_
    show (if e.2.1 = m then (e.1, e.2.1, c) else e).2 = if e.2.1 = m then (e.2.1, c) else e.2
    split <;> rfl
  · unfold pol
    rw [List.map_append]; rfl
theorem length_mput (es : List ME) (b : Addr) (m : Mon) (c : Int) : (mput es b m c).length ≤ es.length + 1 := by
  unfold mput
  split
  · rw [List.length_map]; omega
  · rw [List.length_append]; simp
theorem keys_mput {K : PySem.W.Frag} {H : Hp} {es : List ME} {b : Addr} {m : Mon} {c : Int} (h : KeysM K H es) (hb : SqT K H b (mtup m)) : KeysM K H (mput es b m c) := by
  intro e he
  unfold mput at he
  split at he
  · obtain ⟨q, hq, rfl⟩ := List.mem_map.mp he
    have := h q hq
    split <;> exact this
  · rcases List.mem_append.mp he with he | he
    · exact h e he
    · have : e = (b, m, c) := by simpa using he
      rw [this]; exact hb
theorem match_put {b : Addr} {m : Mon} {c : Int} {u : Value} (ru : RelV (.int c) u) {es : List ME} {xs : List XE} (r : Paired EMatch es xs) (hn : NodupK (pol es)) : Paired EMatch (mput es b m c) (storedH xs (mkey m) b u) := by
  have q := match_at (m := m) r hn
  have eq : hasK (pol es) m = (atKey xs (mkey m)).isSome := by
    cases c1 : hasK (pol es) m with
    | true =>
      rw [c1, if_pos rfl] at q
      cases a : atKey xs (mkey m) with
      | some p => rfl
      | none => rw [a] at q; exact (show False from q).elim
    | false =>
      rw [c1, if_neg Bool.false_ne_true] at q
      cases a : atKey xs (mkey m) with
      | none => rfl
      | some p => rw [a] at q; exact (show False from q).elim
  unfold mput storedH
  rw [eq]
  split
  · rename_i hh
    clear hh eq q hn
    induction r with
    | nil => exact .nil
    | @cons e x es xs h t ih =>
      rw [List.map_cons, List.map_cons]
      refine .cons ?_ ih
      unfold putAt
      by_cases z : e.2.1 = m
      · rw [if_pos z, if_pos (show x.1 = mkey m by rw [h.1, z])]
        exact ⟨h.1, h.2.1, ru⟩
      · rw [if_neg z, if_neg (show ¬ x.1 = mkey m from fun y => z (mkey_inj (h.1.symm.trans y)))]
        exact h
  · exact Paired.snoc r ⟨rfl, rfl, ru⟩
section
variable {X : Cx} {pins : List (Addr × Obj)} {σ : L2.St} {H : Hp} {s : Shared} {d b : Addr} {es : List ME} {m : Mon} {c : Int} {A : Around} {E : Value → Shared → Prop}
/-- the written dict -/
theorem wroteM {h' : Heap} {tk : Nat} {u : Value} {xs : List XE} (I : Inv X pins σ H s) (e : H d = some (dM X.prog X.w d es)) (hd : (d == sysModules) = false) (hn : NodupK (pol es)) (r : Paired EMatch es xs) (hl : es.length < sizeLine) (ru : RelV (.int c) u)
    (dd : h'.DictOfH (tupleKind (mixKind X.prog X.w)) d (storedH xs (mkey m) b u)) (hs : Heap.SameBut d s.heap h') : Inv X pins σ (upd H d (dM X.prog X.w d (mput es b m c))) { s with heap := h', toks := tk } := by
  obtain ⟨q, ds, ep, hq, h2, h3, h4, _, h5⟩ := dd
  refine d_write I (by rw [e]; exact True.intro) hs ⟨q, hq⟩ (EntM.ok ⟨?_, hd, _, match_put ru r hn, q, ds, ep, hq, h2, h3, h4, h5⟩)
  have := length_mput es b m c
  omega
theorem m_set {r : Value} {Q : Unit → Shared → Prop} (hu : A.units + 1 < cLine) (I : Inv X pins σ H s) (e : H d = some (dM X.prog X.w d es)) (hk : KeysM X.K H es) (hb : SqT X.K H b (mtup m)) (hn : NodupK (pol es)) (hl : es.length < sizeLine) (ru : RelV (.int c) r)
    (h : ∀ s', Inv X pins σ (upd H d (dM X.prog X.w d (mput es b m c))) s' → Q () s') : wpAny (model X.prog X.w) A (setItem (.ref d) (.ref b) r) Q E s := by
  obtain ⟨z, hd, xs, rel, dd⟩ := dictM I e hk
  have hz : xs.length ≤ sizeLine := by rw [← Paired.length rel]; exact z
  exact wpAny_setItem_heap (hsz := hz) (tupleKind_room_in1 hu) (keyM I hb) dd fun h' dd' hs => h _ (wroteM I e hd hn rel hl ru dd' hs)
theorem m_dictSet {r : Value} {Q : Unit → Shared → Prop} (hu : A.units < cLine) (I : Inv X pins σ H s) (e : H d = some (dM X.prog X.w d es)) (hk : KeysM X.K H es) (hb : SqT X.K H b (mtup m)) (hn : NodupK (pol es)) (hl : es.length < sizeLine) (ru : RelV (.int c) r)
    (h : ∀ s', Inv X pins σ (upd H d (dM X.prog X.w d (mput es b m c))) s' → Q () s') : wpAny (model X.prog X.w) A (dictSet d (.ref b) r) Q E s := by
  obtain ⟨z, hd, xs, rel, dd⟩ := dictM I e hk
  have hz : xs.length ≤ sizeLine := by rw [← Paired.length rel]; exact z
  exact wpAny_dictSet_heap (knd := tupleKind (mixKind X.prog X.w)) (hsz := hz) hu (keyM I hb) dd fun h' dd' hs => h _ (wroteM I e hd hn rel hl ru dd' hs)
theorem m_item {Q : Value → Shared → Prop} (hu : A.units + 1 < cLine) (I : Inv X pins σ H s) (e : H d = some (dM X.prog X.w d es)) (hk : KeysM X.K H es) (hb : SqT X.K H b (mtup m)) (hn : NodupK (pol es)) (hm : hasK (pol es) m = true)
    (h : ∀ w' s', Inv X pins σ H s' → RelV (.int (coef (pol es) m)) w' → Q w' s') : wpAny (model X.prog X.w) A (getItem (.ref d) (.ref b)) Q E s := by
  obtain ⟨z, hd, xs, rel, dd⟩ := dictM I e hk
  have q := match_at (m := m) rel hn
  rw [if_pos hm] at q
  obtain ⟨w', hw, rw'⟩ := RelO.some_of q
  obtain ⟨p, hp, hp2⟩ := Option.map_eq_some_iff.mp hw
  refine wpAny_getItem_heap (tupleKind_room_in1 hu) (keyM I hb) dd hp ?_
  rw [hp2]
  exact h w' _ (I.tok _) rw'
theorem m_get {r : Value} {n : Int} {Q : Value → Shared → Prop} (hu : A.units + 1 < cLine) (I : Inv X pins σ H s) (e : H d = some (dM X.prog X.w d es)) (hk : KeysM X.K H es) (hb : SqT X.K H b (mtup m)) (hn : NodupK (pol es)) (hr : RelV (.int 0) r)
    (h : ∀ w' s', Inv X pins σ H s' → RelV (.int (coef (pol es) m)) w' → Q w' s') : wpAny (model X.prog X.w) A (call (.builtin "dict.get") [.ref d, .ref b, r]) Q E s := by
  obtain ⟨z, hd, xs, rel, dd⟩ := dictM I e hk
  have q := match_at (m := m) rel hn
  refine call_meetsIn PySem.F.slot_dict_get dd.typeIs PySem.F.entry_dict_get (PySem.F.args_dict_get_3 _ _ _) (meetsH_dict_get_default (tupleKind (mixKind X.prog X.w)) d b hd r) ⟨tupleKind_room_in1 hu, mkey m, xs, keyM I hb, dd, h _ _ (I.tok _) ?_⟩
  cases c1 : hasK (pol es) m with
  | true =>
    rw [c1, if_pos rfl] at q
    obtain ⟨w', hw, rw'⟩ := RelO.some_of q
    rw [hw]; exact rw'
  | false =>
    rw [c1, if_neg Bool.false_ne_true] at q
    have hw := RelO.none_of q
    have c0 : coef (pol es) m = 0 := coef_out fun z => by rw [hasK_iff.mpr z] at c1; cases c1
    rw [hw, c0]; exact hr
end
theorem emptyM {P : Program} {w : World} (h : Heap) (hb : sysModules < h.objs.size) : EntM P w h.objs.size [] (h.push { cls := .type "dict", data := .dict #[] }) :=
  ⟨Nat.zero_le _, beq_eq_false_iff_ne.mpr (Ne.symm (Nat.ne_of_lt hb)), [], .nil, _, #[], 0, Heap.get?_push_size _ rfl, ⟨rfl, rfl, rfl⟩, rfl, rfl, List.nodup_nil⟩
/-! ### readings and rules -/
/-- what is asked of the dict at d, of the key -/
structure AtM (P : Program) (w : World) (K : PySem.W.Frag) (H : Hp) (d : Addr) (es : List ME) (y : V) (b : Addr) (m : Mon) : Prop where
  dict : H d = some (dM P w d es)
  keys : KeysM K H es
  nd : NodupK (pol es)
  y : y = .ref b
  key : SqT K H b (mtup m)
def tNewM (P : Program) (w : World) : TE := fun _ H Q => ∀ p, H p = none → Q (.ref p) (upd H p (dM P w p []))
def tOneM (P : Program) (w : World) (K : PySem.W.Frag) (tk tv : TE) : TE := fun σ H Q => ∀ p, H p = none → tk σ (upd H p (dM P w p [])) fun y H1 => tv σ H1 fun z H2 =>
  ∃ (b : Addr) (m : Mon) (c : Int), y = .ref b ∧ z = .int c ∧ H2 p = some (dM P w p []) ∧ SqT K H2 b (mtup m) ∧ Q (.ref p) (upd H2 p (dM P w p [(b, m, c)]))
def tItemM (P : Program) (w : World) (K : PySem.W.Frag) (td ty : TE) : TE := fun σ H Q => td σ H fun x H1 => ty σ H1 fun y H2 => ∃ (d : Addr) (es : List ME) (b : Addr) (m : Mon), x = .ref d ∧ AtM P w K H2 d es y b m ∧ hasK (pol es) m = true ∧ Q (.int (coef (pol es) m)) H2
def tGetM (P : Program) (w : World) (K : PySem.W.Frag) (td ty tx : TE) : TE := fun σ H Q => td σ H fun x H1 => ∃ d : Addr, x = .ref d ∧ (∃ es, H1 d = some (dM P w d es) ∧ KeysM K H1 es) ∧ ty σ H1 fun y H2 => tx σ H2 fun z H3 =>
  ∃ (es : List ME) (b : Addr) (m : Mon), z = .int 0 ∧ AtM P w K H3 d es y b m ∧ Q (.int (coef (pol es) m)) H3
def sPutM (P : Program) (w : World) (K : PySem.W.Frag) (td ty tv : TE) : TS := fun D σ H => tv σ H fun v H1 => td σ H1 fun x H2 => ty σ H2 fun y H3 => ∃ (d : Addr) (es : List ME) (b : Addr) (m : Mon) (c : Int), x = .ref d ∧ v = .int c ∧ AtM P w K H3 d es y b m ∧ es.length < sizeLine ∧
  D.nx σ (upd H3 d (dM P w d (mput es b m c)))
section
variable {X : Cx} {P : Program} {w : World} {K : PySem.W.Frag} {j : Nat} {o i e f value k v : Expr} {pos pos' apos cpos : Pos} {td ty tv tk tx : TE}
theorem pe_newM (hP : X.prog = P := by rfl) (hW : X.w = w := by rfl) : PE X (.Dict [] [] pos) (tNewM P w) := by
  subst hP hW
  exact ⟨fun pins s σ H Q I h =>
  wpAny_Dict_empty ⟨.ref s.heap.objs.size, _, I.laid (a := s.heap.objs.size) (o := dM X.prog X.w s.heap.objs.size []) (t' := s.toks) (fun _ _ q => Heap.get?_push_of_some _ q) (Nat.le_refl _) (emptyM s.heap I.big).ok, rfl, h _ (I.hok.fresh (Nat.le_refl _))⟩⟩
theorem pe_oneM (hr : Room j X.A) (hk : PE X k tk) (hv : PE X v tv) (hP : X.prog = P := by rfl) (hW : X.w = w := by rfl) (hK : X.K = K := by rfl) : PE X (.Dict [some k] [v] pos) (tOneM P w K tk tv) := by
  subst hP hW hK
  refine ⟨fun pins s σ H Q I q => ?_⟩
  have hn := I.hok.fresh (Nat.le_refl s.heap.objs.size)
  have I1 := I.laid (a := s.heap.objs.size) (o := dM X.prog X.w s.heap.objs.size []) (h' := s.heap.push { cls := .type "dict", data := .dict #[] }) (t' := s.toks) (fun _ _ z => Heap.get?_push_of_some _ z) (Nat.le_refl _) (emptyM s.heap I.big).ok
  have hu := hr.un
  have ln : (pairTrees [some k] [v] X.env pos).length = 1 := rfl
  rw [arm_eval_Dict, zip_pairTrees [some k] [v] X.env pos rfl rfl, dictDisplay_pairs (pairTrees [some k] [v] X.env pos) (fun z => by rw [z] at ln; cases ln) (by rw [ln]; exact (by decide : 1 < 17))]
  refine wpAny_bind (wpAny_standAt (wpAny_bind ?_))
  have room : (tupleKind (mixKind X.prog X.w)).room X.A := (show X.A.units < cLine by omega)
  refine wpAny_subDictH (knd := tupleKind (mixKind X.prog X.w)) room (by rw [ln]; exact (by decide : 1 ≤ 15)) ?_
  refine pairTrees_cons_walk (thn (hk.run pins _ σ _ _ I1 (q _ hn)) fun u s1 ⟨y, H1, J1, r1, q1⟩ => thn (hv.run pins s1 σ H1 _ J1 q1) fun u2 s2 ⟨z, H2, J2, r2, b, m, c, ey, ez, eD, eb, q2⟩ => pairTrees_nil_walk ?_)
  subst ey ez
  obtain rfl : u = Value.ref b := r1
  obtain ⟨z0, hd, xs, rel, dd⟩ := dictM J2 eD (fun e he => absurd he (by simp))
  cases rel
  refine ⟨[(mkey m, b, u2)], ⟨rfl, rfl, keyM J2 eb, trivial⟩, dd, fun h' tk dd' hs => wpAny_pure ⟨.ref s.heap.objs.size, _, ?_, rfl, q2⟩⟩
  exact wroteM (es := []) (b := b) (m := m) (c := c) (xs := []) J2 eD hd (by unfold NodupK pol; exact List.nodup_nil) .nil (lt_line (by decide)) r2 dd' hs
theorem pe_itemM (hr : Room j X.A) (ho : PE X o td) (hi : PE X i ty) (hs : NoSl i) (hP : X.prog = P := by rfl) (hW : X.w = w := by rfl) (hK : X.K = K := by rfl) : PE X (.Subscript o i pos) (tItemM P w K td ty) := by
  subst hP hW hK
  refine ⟨fun pins s σ H Q I h => ?_⟩
  refine subD_of PySem.F.slot_dict_getitem.lookup hs (thn (ho.run pins s σ H _ I h) fun u s1 ⟨x, H1, I1, rx, q1⟩ => thn (hi.run pins s1 σ H1 _ I1 q1) fun iv s2 ⟨y, H2, I2, ry, d, es, b, m, ex, M, hm, q2⟩ => ?_)
  subst ex
  have ey := M.y
  subst ey
  obtain rfl : u = Value.ref d := rx
  obtain rfl : iv = Value.ref b := ry
  obtain ⟨_, _, xs, _, dd⟩ := dictM I2 M.dict M.keys
  exact ⟨dd.typeIs, m_item (hu_of hr) I2 M.dict M.keys M.key M.nd hm fun w' s3 I3 rw' => ⟨_, H2, I3, rw', q2⟩⟩
theorem pe_getM (hr : Room j X.A) (ho : PE X o td) (he : PE X e ty) (hf : PE X f tx) (m2 : M2 X o "get" apos e f cpos) (hP : X.prog = P := by rfl) (hW : X.w = w := by rfl) (hK : X.K = K := by rfl) : PE X (.Call (.Attribute o "get" apos) [e, f] [] cpos) (tGetM P w K td ty tx) := by
  subst hP hW hK
  refine ⟨fun pins s σ H Q I h => ?_⟩
  refine wpAny_Call_method m2.base m2.few m2.line PySem.F.plainAttrs_dict PySem.F.slot_dict_get PySem.F.type_dict_get (thn (ho.run pins s σ H _ I h) fun u s1 ⟨x, H1, I1, rx, d, ex, ⟨es1, hd1, hk1⟩, q1⟩ => ?_)
  subst ex
  obtain rfl : u = Value.ref d := rx
  obtain ⟨_, _, xs1, _, dd1⟩ := dictM I1 hd1 hk1
  refine ⟨dd1.typeIs, fun b q => ?_, ?_⟩
  · cases q
    obtain ⟨ob, _, _, e1, e2, _⟩ := dd1
    exact ⟨ob, e1, e2.2.1⟩
  rw [m2.trees]
  refine Calls.callWith_builtin rfl (Calls.evalArgs_plain (Calls.spliced_cons (thn (he.run pins s1 σ H1 _ I1 q1) fun iv s2 ⟨y, H2, I2, ry, q2⟩ =>
    Calls.spliced_cons (thn (hf.run pins s2 σ H2 _ I2 q2) fun fv s3 ⟨z, H3, I3, rz, es, b, m, ez, M, q3⟩ => Calls.spliced_nil ?_))))
  subst ez
  have ey := M.y
  subst ey
  obtain rfl : iv = Value.ref b := ry
  exact m_get (n := 0) (hu_of hr) I3 M.dict M.keys M.key M.nd rz fun w' s4 I4 rw' => ⟨_, H3, I4, rw', q3⟩
theorem ps_putM (hr : Room j X.A) (ho : PE X o td) (hi : PE X i ty) (hv : PE X value tv) (hs : swapsWith value (some (.Subscript o i pos')) pos.line X.env = pure false) (hP : X.prog = P := by rfl) (hW : X.w = w := by rfl) (hK : X.K = K := by rfl) :
    PS X (.Assign [.Subscript o i pos'] value pos) (sPutM P w K td ty tv) := by
  subst hP hW hK
  refine ⟨fun pins s σ H D I h => ?_⟩
  refine wpAny_Assign_Subscript (thn (hv.run pins s σ H _ I h) fun r s1 ⟨v, H1, I1, rv, q1⟩ => thn (ho.run pins s1 σ H1 _ I1 q1) fun u s2 ⟨x, H2, I2, rx, q2⟩ => thn (hi.run pins s2 σ H2 _ I2 q2) fun iv s3 ⟨y, H3, I3, ry, d, es, b, m, c, ex, ev, M, hl, q3⟩ => ?_) hs
  subst ex ev
  have ey := M.y
  subst ey
  obtain rfl : u = Value.ref d := rx
  obtain rfl : iv = Value.ref b := ry
  exact m_set (hu_of hr) I3 M.dict M.keys M.key M.nd hl rv fun s4 I4 => ⟨σ, _, I4, q3⟩
end

/-! ### {k: v for .. in a tuple} -/
section
variable {X : Cx}
/-- the reading: every item is taken; D is the new dict -/
def tDcM (P : Program) (w : World) (K : PySem.W.Frag) (wi : TI) (g : TG) (tk tv : TE) (vs : List Nat) : TE := fun σ H Q => wi σ H fun J H1 => ∀ D, H1 D = none → ∃ W : Nat → Nat → Hp → Prop, (∃ m, W 0 m (upd H1 D (dM P w D []))) ∧
  ∀ i m H, W i m H → (J.stop i H ∧ Q (.ref D) H) ∨ (J.go i H ∧ ∃ Nx : Hp → Prop, (∀ H', Nx H' → ∃ m', m' < m ∧ W (i + 1) m' H') ∧
    ∀ x H', J.yld i H x H' → g x (wipe σ vs) H' fun σ2 H2 => wipe σ2 vs = wipe σ vs ∧
      tk σ2 H2 fun y H4 => tv σ2 H4 fun z H5 => ∃ (es : List ME) (b : Addr) (m : Mon) (c : Int), z = .int c ∧ AtM P w K H5 D es y b m ∧ es.length < sizeLine ∧ Nx (upd H5 D (dM P w D (mput es b m c))))
theorem dcM_core {P : Program} {w : World} {K : PySem.W.Frag} {jr : Nat} {kx vx tg iter : Expr} {scope : Scope} {own : List (Str × Nat)} {pos : Pos} {wi : TI} {g : TG} {tk tv : TE} {pins : List (Addr × Obj)} {s : Shared} {σ : L2.St} {H : Hp} {Q : VK} {pos' : Pos} {use : Option (Value → Sem Unit)} {Qf : Value → Shared → Prop} (hr : Room jr X.A) (hc : X.calm = true) (hN : X.N.Nodup) (hi : PI X tg iter wi) (ok : BlkOk X.N X.env.scope scope own)
    (hg : ∀ (s : Shared) (H : Hp) (C : Addr) (cl : List (Str × Addr)) (fp : List Addr), PG (X.blk s H scope (compEnvC scope cl C X.env) fp) tg g)
    (hk : ∀ (s : Shared) (H : Hp) (C : Addr) (cl : List (Str × Addr)) (fp : List Addr), PE (X.blk s H scope (compEnvC scope cl C X.env) fp) kx tk)
    (he : ∀ (s : Shared) (H : Hp) (C : Addr) (cl : List (Str × Addr)) (fp : List Addr), PE (X.blk s H scope (compEnvC scope cl C X.env) fp) vx tv)
    (hs : ∀ x, foldedSetIterable iter X.env x = pure x := by intro _; rfl) (hP : X.prog = P := by rfl) (hW : X.w = w := by rfl) (hK : X.K = K := by rfl)
    (I : Inv X pins σ H s) (h : tDcM P w K wi g tk tv (own.map (·.2)) σ H Q)
    (hEnd : ∀ D C s' m H', Inv X pins σ H' s' → Q (.ref D) H' → s'.heap.Ns C m → FpOk X pins H' C → compPost (model X.prog X.w) X.A X.xe use Qf (.ref D) C (.ok .next) s') :
    wpAny (model X.prog X.w) X.A (comprehension (.DictComp kx vx [⟨tg, iter, [], 0⟩] scope pos) scope X.env pos' newDict false (eval iter X.env) use) Qf X.xe s := by
  subst hP hW hK
  have hfree : ∀ y ∈ scope.names, y.2 = .free → ∃ c, X.env.cells.lookup y.1 = some c := fun y hy e => (ok.free y hy e).elim (fun k => I.ok.has _ (.inl k)) fun k => I.ok.has _ (.inr k)
  refine wpAny_comprehension_free (use := use) rfl hs (closure_ok hfree) ok.kind (fun y hy e => by rw [ok.uniq y hy, e]) (thn (hi.run pins s σ H _ I h) fun xv s1 hx => thn hx fun itv s2 h2 => ?_)
  obtain ⟨it, fp, tn, J, H2, ei, I2, T, st2, f2, q⟩ := h2
  subst ei
  refine wpAny_newObj_type (newEnv_comp ?_)
  generalize hD : s2.heap.objs.size = D
  obtain ⟨W, ⟨m0, w0⟩, turn⟩ := q D (I2.hok.fresh (Nat.le_of_eq hD))
  -- the new dict
  generalize hs3 : ({ s2 with heap := s2.heap.push { cls := .type "dict", data := .dict #[] } } : Shared) = s3
  have h3 : s3.heap = s2.heap.push { cls := .type "dict", data := .dict #[] } := by rw [← hs3]
  have I3 : Inv X pins σ (upd H2 D (dM X.prog X.w D [])) s3 := by
    have z : ObjOk X.prog X.w (upd H2 D (dM X.prog X.w D [])) (s2.heap.push { cls := .type "dict", data := .dict #[] }) D (dM X.prog X.w D []) := by rw [← hD]; exact (emptyM s2.heap I2.big).ok
    rw [← hs3]
    exact I2.laid (t' := s2.toks) (fun b o e => Heap.get?_push_of_some _ e) (Nat.le_of_eq hD) z
  have small : ∀ b ∈ fp, b < s2.heap.objs.size := fun b hb => let ⟨o, e, _⟩ := T.obj _ _ st2 b hb; Heap.lt_size e
  have f3 : ∀ b ∈ fp, FpOk X pins (upd H2 D (dM X.prog X.w D [])) b ∧ b < s3.heap.objs.size := fun b hb => by
    have lt := small b hb
    have ne : b ≠ D := by rw [← hD]; exact Nat.ne_of_lt lt
    exact ⟨⟨(upd_ne ne).trans (f2 b hb).1, (f2 b hb).2⟩, by rw [h3, Heap.size_push]; exact Nat.lt_succ_of_lt lt⟩
  have st3 : tn 0 s3.heap := T.keep _ _ _ st2 fun b _ o e => by rw [h3]; exact Heap.get?_push_of_some _ e
  have I4 := block_start I3 ok hN f3
  have pg := hg s3 (upd H2 D (dM X.prog X.w D [])) s3.heap.objs.size (cellsFrom (s3.heap.objs.size + 1) scope.names (cloFrom X.env.cells scope.names [])) fp
  have pk := hk s3 (upd H2 D (dM X.prog X.w D [])) s3.heap.objs.size (cellsFrom (s3.heap.objs.size + 1) scope.names (cloFrom X.env.cells scope.names [])) fp
  have pe := he s3 (upd H2 D (dM X.prog X.w D [])) s3.heap.objs.size (cellsFrom (s3.heap.objs.size + 1) scope.names (cloFrom X.env.cells scope.names [])) fp
  have nfp : ∀ b ∈ fp, (upd H2 D (dM X.prog X.w D [])) b = none := fun b hb => (f3 b hb).1.1
  show codeAny _ _ (.compStart (.DictComp kx vx [⟨tg, iter, [], 0⟩] scope pos) 0 (.ref it) (.ref D) (compEnvC scope (cellsFrom (s3.heap.objs.size + 1) scope.names (cloFrom X.env.cells scope.names [])) s3.heap.objs.size X.env))
    (compPost (model X.prog X.w) X.A X.xe use Qf (.ref D) s3.heap.objs.size) { s3 with heap := pushCells (s3.heap.push { cls := .type "dict", data := .dict #[] }) scope.names }
  generalize hce : compEnvC scope (cellsFrom (s3.heap.objs.size + 1) scope.names (cloFrom X.env.cells scope.names [])) s3.heap.objs.size X.env = ce at I4 pg pk pe ⊢
  have cL : ce.locals = s3.heap.objs.size := by subst hce; rfl
  generalize hH3 : upd H2 D (dM X.prog X.w D []) = H3 at I3 I4 pg pk pe w0 nfp f3
  generalize hs4 : ({ s3 with heap := pushCells (s3.heap.push { cls := .type "dict", data := .dict #[] }) scope.names } : Shared) = s4 at I4 ⊢
  have st4 : tn 0 s4.heap := T.keep _ _ _ st3 fun b _ o e => by rw [← hs4]; exact pushCells_keeps _ _ _ _ (Heap.get?_push_of_some _ e)
  have still : ∀ {σ' : L2.St} {H' : Hp} {s' : Shared}, Inv (X.blk s3 H3 scope ce fp) [] σ' H' s' → (∀ b ∈ fp, H' b = none) → ∀ b ∈ fp, FpOk (X.blk s3 H3 scope ce fp) [] H' b := fun {σ' H' s'} I' hn b hb =>
    ⟨hn b hb, (I'.ok.exf b hb).1, I'.ok.exfs b hb, .inl hb, fun x c e => (I'.ok.exf b hb).2 x c e, fun p hp => absurd hp (by simp)⟩
  have roomB : Room jr (X.blk s3 H3 scope ce fp).A := hr
  have loop : codeAny (model X.prog X.w) X.A (.compLoop (.DictComp kx vx [⟨tg, iter, [], 0⟩] scope pos) 0 (.ref it) (.ref D) ce) (compPost (model X.prog X.w) X.A X.xe use Qf (.ref D) s3.heap.objs.size) s4 := by
    refine compLoop_anyD (fun n s' => ∃ i H', Inv (X.blk s3 H3 scope ce fp) [] (wipe σ (own.map (·.2))) H' s' ∧ tn i s'.heap ∧ (∀ b ∈ fp, H' b = none) ∧ W i n H') ?_ m0 ⟨0, H3, I4, st4, nfp, w0⟩
    rintro n s5 ⟨i, H5, I5, st5, n5, w5⟩
    rcases turn i n H5 w5 with ⟨stop, qq⟩ | ⟨go, Nx, hNx, step⟩
    · refine thnF (T.done (X.blk s3 H3 scope ce fp) rfl rfl rfl hc i [] s5 _ H5 (fun _ _ => False) I5 (still I5 n5) st5 stop) fun r s6 ⟨hr6, I6⟩ => ?_
      subst hr6
      have I7 : Inv X pins σ H5 s6 := I3.call' (ch := fp) I6.os I6.base I6.hok I6.bare fun b hb => ⟨(f3 b hb).1.2.2.2.1, (f3 b hb).1.2.1, (f3 b hb).1.2.2.2.2.1, (f3 b hb).1.2.2.2.2.2⟩
      have nC : H5 s3.heap.objs.size = none := by rw [← cL]; exact I6.free
      obtain ⟨m, hn, _⟩ := I6.loc
      have hn : s6.heap.Ns s3.heap.objs.size m := by rw [← cL]; exact hn
      exact hEnd D s3.heap.objs.size s6 m H5 I7 qq hn (I3.fpOk (Nat.le_refl _) nC)
    · refine thnF (T.item (X.blk s3 H3 scope ce fp) rfl rfl rfl hc i [] s5 _ H5 (fun _ _ => False) I5 (still I5 n5) st5 go) fun r s6 ⟨u, hr6, h6⟩ => ?_
      subst hr6
      refine thnF h6 fun _ s7 ⟨x, H7, I7, r7, y7, st7, n7⟩ => ?_
      have P7 := I7.pinned (still I7 n7) (T.obj _ _ st7)
      refine thnF (pg.run _ s7 _ H7 x u _ P7 r7 (step x H7 y7)) fun _ s8 ⟨σ8, H8, I8, hw8, q8⟩ => ?_
      refine wpAny_tests_nil ?_
      simp only [if_true]
      refine thnF (pk.run _ s8 σ8 H8 _ I8 q8) fun z s10 ⟨yk, H10, I10, r10, q10⟩ => ?_
      refine thnF (pe.run _ s10 σ8 H10 _ I10 q10) fun z2 s11 ⟨yv, H11, I11, r11, es, b, mm, c, ez, M, hz11, nx⟩ => ?_
      subst ez
      have ek : yk = .ref b := M.y
      rw [ek] at r10
      obtain rfl : z = Value.ref b := r10
      have hub := roomB.un
      refine m_dictSet (X := X.blk s3 H3 scope ce fp) (by show (X.blk s3 H3 scope ce fp).A.units < cLine; omega) I11 M.dict M.keys M.key M.nd hz11 r11 fun s12 I12 => ?_
      obtain ⟨m', hm, w'⟩ := hNx _ nx
      have pin' : ∀ b' ∈ fp, ∀ o, s7.heap.get? b' = some o → s12.heap.get? b' = some o ∧ (upd H11 D (dM X.prog X.w D (mput es b mm c))) b' = none := fun b' hb o e =>
        let y := I12.pin (b', o) (List.mem_append_right _ (List.mem_append_right _ (mem_pinsAt hb e)))
        ⟨y.1, y.2.1⟩
      have hl : (wipe σ (own.map (·.2))).length = σ8.length := by rw [← hw8, wipe_length]
      exact ⟨m', hm, i + 1, _, (I12.unpinned (pins := [])).weak hl (fun j v e => (wipe_some (by rw [hw8]; exact e)).1), T.keep _ _ _ st7 fun b hb o e => (pin' b hb o e).1,
        fun b hb => let ⟨o, e, _⟩ := T.obj _ _ st7 b hb; (pin' b hb o e).2, w'⟩
  exact codeAny_compStart_dict loop (T.self X.A 0 _ _ _ st4 loop)
/-- name = {k: v for .. in a tuple} on one line -/
theorem ps_setDcM {P : Program} {w : World} {K : PySem.W.Frag} {jr i : Nat} {y : Str} {py spos : Pos} {kx vx tg iter : Expr} {scope : Scope} {own : List (Str × Nat)} {pos : Pos} {wi : TI} {g : TG} {tk tv : TE} (hr : Room jr X.A) (hc : X.calm = true) (hN : X.N.Nodup)
    (hy : X.N[i]? = some y) (hyl : X.env.scope.names.lookup y = some .local) (hsw : swapsWith (.DictComp kx vx [⟨tg, iter, [], 0⟩] scope pos) (some (.Name y py)) spos.line X.env = pure true) (hi : PI X tg iter wi) (ok : BlkOk X.N X.env.scope scope own)
    (hg : ∀ (s : Shared) (H : Hp) (C : Addr) (cl : List (Str × Addr)) (fp : List Addr), PG (X.blk s H scope (compEnvC scope cl C X.env) fp) tg g)
    (hk : ∀ (s : Shared) (H : Hp) (C : Addr) (cl : List (Str × Addr)) (fp : List Addr), PE (X.blk s H scope (compEnvC scope cl C X.env) fp) kx tk)
    (he : ∀ (s : Shared) (H : Hp) (C : Addr) (cl : List (Str × Addr)) (fp : List Addr), PE (X.blk s H scope (compEnvC scope cl C X.env) fp) vx tv)
    (hs : ∀ x, foldedSetIterable iter X.env x = pure x := by intro _; rfl) (hP : X.prog = P := by rfl) (hW : X.w = w := by rfl) (hK : X.K = K := by rfl) :
    PS X (.Assign [.Name y py] (.DictComp kx vx [⟨tg, iter, [], 0⟩] scope pos) spos) (tAsg (tDcM P w K wi g tk tv (own.map (·.2))) (gName i)) := by
  refine ⟨fun pins s σ H D I h => ?_⟩
  rw [exec_Assign_Name_used _ _ _ _ hsw]
  refine wpAny_bind (wpAny_standAt (wpAny_bind ?_))
  show wpAny _ X.A (do let _ ← comprehension (.DictComp kx vx [⟨tg, iter, [], 0⟩] scope pos) scope X.env (firstIterPos [⟨tg, iter, [], 0⟩] pos) newDict false (eval iter X.env) (some (assign (.Name y py) X.env))) _ _ s
  refine wpAny_bind (thn (dcM_core (Q := fun x H1 => gName i x σ H1 D.nx) (Qf := fun _ s' => SP X pins D .next s') hr hc hN hi ok hg hk he hs hP hW hK I h fun L C s' m H' I' q hn f => ?_) fun _ s' hq => wpAny_pure (wpAny_pure hq))
  show wpAny _ _ (assign (.Name y py) X.env (.ref L)) _ _ _
  refine wpAny_assign_Name (store_ok2 (v := V.ref L) I' hN hy (.inl hyl) rfl (fun s2 I2 ⟨a, sb, ha⟩ => ?_) (.inr hyl))
  have haC : C ≠ a := by
    rcases ha with z | z
    · rw [z]; exact f.2.1
    · exact fun e => f.2.2.2.2.1 y a z e.symm
  exact ⟨m, hn.sameBut sb haC, fun h3 sb3 => ⟨_, H', I2.turned (t' := s2.toks) (fun b o hb e => (sb3.2 b hb).trans e) f.1 f.2.1 f.2.2.2.1 f.2.2.2.2.1 f.2.2.2.2.2, q⟩⟩
theorem sw_trueD {kx vx : Expr} {gs : List Comprehension} {scope : Scope} {pos py : Pos} {y : Str} {l : Nat} {env : Env} (hk : env.scope.kind = .function) (hy : env.scope.names.lookup y = some .local) (hl : (py.line == pos.line) = true)
    (ha : (scope.names.any fun (n, k) => n == y && (k == .local || k == .cell)) = false) : swapsWith (.DictComp kx vx gs scope pos) (some (.Name y py)) l env = pure true := by
  have ky : env.kindOf y = some .local := hy
  have hb : env.blockKind = .function := by unfold Env.blockKind; rw [hk]; rfl
  unfold swapsWith
  simp only [hb, ky, ha, Expr.pos, hl]
  rfl
end
/-- over a tuple that stays -/
theorem dcM_tup {P : Program} {w : World} {K : PySem.W.Frag} {a : Addr} {xs : List V} {g : TG} {tk tv : TE} {vs : List Nat} {σ : L2.St} {H1 : Hp} {D : Addr} {Qd : Hp → Prop} (Pv : Nat → Hp → Prop) (h0 : Pv 0 (upd H1 D (dM P w D []))) (hl : ∀ i H, i ≤ xs.length → Pv i H → SqT K H a xs)
    (hs : ∀ i x H, xs[i]? = some x → Pv i H → g x (wipe σ vs) H fun σ2 H2 => wipe σ2 vs = wipe σ vs ∧
      tk σ2 H2 fun y H4 => tv σ2 H4 fun z H5 => ∃ (es : List ME) (b : Addr) (m : Mon) (c : Int), z = .int c ∧ AtM P w K H5 D es y b m ∧ es.length < sizeLine ∧ Pv (i + 1) (upd H5 D (dM P w D (mput es b m c)))) (hd : ∀ H, Pv xs.length H → Qd H) :
    ∃ W : Nat → Nat → Hp → Prop, (∃ m, W 0 m (upd H1 D (dM P w D []))) ∧
      ∀ i m H, W i m H → ((Itt K a).stop i H ∧ Qd H) ∨ ((Itt K a).go i H ∧ ∃ Nx : Hp → Prop, (∀ H', Nx H' → ∃ m', m' < m ∧ W (i + 1) m' H') ∧
        ∀ x H', (Itt K a).yld i H x H' → g x (wipe σ vs) H' fun σ2 H2 => wipe σ2 vs = wipe σ vs ∧
          tk σ2 H2 fun y H4 => tv σ2 H4 fun z H5 => ∃ (es : List ME) (b : Addr) (m : Mon) (c : Int), z = .int c ∧ AtM P w K H5 D es y b m ∧ es.length < sizeLine ∧ Nx (upd H5 D (dM P w D (mput es b m c)))) := by
  refine ⟨fun i m H => m = xs.length - i ∧ i ≤ xs.length ∧ Pv i H, ⟨xs.length, by simp, Nat.zero_le _, h0⟩, fun i m H h => ?_⟩
  obtain ⟨rfl, hi, p⟩ := h
  have q := hl i H hi p
  rcases Nat.lt_or_ge i xs.length with lt | ge
  · exact .inr ⟨⟨xs, xs[i], q, by simp [lt]⟩, Pv (i + 1), fun H' p' => ⟨xs.length - (i + 1), by omega, rfl, lt, p'⟩, fun x H' y => by
      obtain ⟨e, y⟩ := y
      subst e
      exact hs i x _ (y xs q) p⟩
  · have e : i = xs.length := by omega
    subst e
    exact .inl ⟨⟨xs, q, Nat.le_refl _⟩, hd H p⟩
/-! ### sorted(d) -/
def rSortedMM (P : Program) (w : World) (K : PySem.W.Frag) : List V → Hp → VK → Prop := fun xs H Q => ∃ (d : Addr) (es : List ME), xs = [.ref d] ∧ H d = some (dM P w d es) ∧ KeysM K H es ∧
  ∀ (p : Addr) (bs : List (Addr × Mon)), H p = none → (bs.map (·.2)).Perm (keysOf (pol es)) → (bs.Pairwise fun a b => mlt b.2 a.2 = false) → (∀ b ∈ bs, SqT K H b.1 (mtup b.2)) → Q (.ref p) (upd H p (.lst (bs.map fun b => .ref b.1)))
theorem reads_M {X : Cx} {pins : List (Addr × Obj)} {σ : L2.St} {H : Hp} {s : Shared} (I : Inv X pins σ H s) {b : Addr × Mon} (e : SqT X.K H b.1 (mtup b.2)) : Reads s.heap (.ref b.1) (menc b) [] := by
  obtain ⟨its, r, ⟨o, ho, hc, n, hd⟩, _⟩ := I.tuple e
  refine .tuple (o := o) (vs := its.toArray) ho hc hd ?_
  have : ∀ {xs : List Int} {us : List Value}, Vals (xs.map V.int) us → ReadsAll s.heap us (xs.map PyData.int) [] := by
    intro xs
    induction xs with
    | nil =>
      intro us r
      cases r
      exact .nil
    | cons x xs ih =>
      intro us r
      cases r with
      | cons r1 r2 =>
        obtain ⟨t, rfl⟩ := r1
        exact ReadsAll.cons (as := []) (bs := []) (.int x t) (ih r2)
  exact this r
theorem entriesM {K : PySem.W.Frag} {H : Hp} : ∀ {es : List ME} {xs : List XE}, Paired EMatch es xs → KeysM K H es → ∃ bs : List (Addr × Mon), xs.map (fun x => x.2.1) = bs.map (·.1) ∧ bs.map (·.2) = keysOf (pol es) ∧ (∀ b ∈ bs, SqT K H b.1 (mtup b.2))
  | _, _, .nil, _ => ⟨[], rfl, rfl, fun _ h => absurd h (by simp)⟩
  | _, _, .cons (a := e) (b := x) (l₁ := es) (l₂ := xs) h t, hk => by
    obtain ⟨bs, e1, e2, e3⟩ := entriesM t fun q hq => hk q (List.mem_cons_of_mem _ hq)
    refine ⟨(e.1, e.2.1) :: bs, ?_, ?_, fun b hb => ?_⟩
    · rw [List.map_cons, List.map_cons, e1, h.2.1]
    · rw [List.map_cons, e2]; rfl
    · rcases List.mem_cons.mp hb with z | hb
      · rw [z]; exact hk e (List.mem_cons_self ..)
      · exact e3 b hb
theorem cr_sortedMM {X : Cx} {P : Program} {w : World} {K : PySem.W.Frag} {k : Nat} (hc : X.calm = true) (hr : Room k X.A) (hP : X.prog = P := by rfl) (hW : X.w = w := by rfl) (hK : X.K = K := by rfl) : CallR X (.builtin "sorted") (rSortedMM P w K) := by
  subst hP hW hK
  intro pins s σ H xs us Q I r h
  obtain ⟨d, es, rfl, hd, hk, q⟩ := h
  obtain ⟨u, rfl, rx⟩ := r.one
  cases rx
  obtain ⟨z, hs, ks, pr, o, ds, ep, ho, hx, hdt, he, hn⟩ := EntM.of I.hok hd
  have l1 : ds.size = ks.length := size_of_entries he
  have l2 : es.length = ks.length := Paired.length pr
  obtain ⟨bs, b1, b2, b3⟩ := entriesM pr hk
  have lb : bs.length = ks.length := by
    have := congrArg List.length b1
    rw [List.length_map, List.length_map] at this
    exact this.symm
  refine sorted_src (kdl_raw hs hx hdt) (I.ok.hd hc) ho (by omega) fun h' tk vs kp hl hv => ?_
  have ev : vs = bs.map fun b => Value.ref b.1 := by
    have e0 : vs = (ks.map fun x => x.2.1).map Value.ref := by
      apply List.ext_getElem?
      intro j
      rw [List.getElem?_map, List.getElem?_map]
      cases hj : vs[j]? with
      | none =>
        have h1 := List.getElem?_eq_none_iff.mp hj
        rw [List.getElem?_eq_none (by omega)]
        rfl
      | some v =>
        obtain ⟨en, hen, hve⟩ := hv j v hj
        have qe := entry_at he j
        rw [hen] at qe
        cases hb : ks[j]? with
        | none =>
          rw [hb] at qe
          exact nomatch (show some en = none from qe)
        | some b =>
          rw [hb] at qe
          have e2 : en = entryOfKey (tupleKind (mixKind X.prog X.w)) b := Option.some.inj qe
          rw [hve, e2]
          rfl
    rw [e0, b1, List.map_map]
    rfl
  subst ev
  have k2 : ∀ b o, s.heap.get? b = some o → (h'.push { cls := .type "list", data := .seq (bs.map fun b => Value.ref b.1).toArray }).get? b = some o := fun b o e => Heap.get?_push_of_some _ (kp b o e)
  have hp : (h'.push { cls := .type "list", data := .seq (bs.map fun b => Value.ref b.1).toArray }).get? h'.objs.size = some (seqObj "list" (bs.map fun b => Value.ref b.1).toArray 0) := Heap.get?_push_size _ rfl
  have I2 : Inv X pins σ H { s with heap := h'.push { cls := .type "list", data := .seq (bs.map fun b => Value.ref b.1).toArray }, toks := tk } := I.kept k2
  have hun := hr.un
  refine PySem.W.list_sort_data (s := { s with heap := h'.push { cls := .type "list", data := .seq (bs.map fun b => Value.ref b.1).toArray }, toks := tk }) (R := fun (v : Value) (b : Addr × Mon) => v = .ref b.1) (enc := menc) (bs := bs) hp (each_of_refs bs) ?er
    (PySem.W.AllAlike.of menc_alike) (PySem.W.Sortable.tuples fun b => ⟨_, _, rfl⟩) (by omega) (fun b _ => ?hu) fun out hlo heo => ?_
  case hu =>
    have := menc_depth b
    show X.A.units + 1 + 1 + (menc b).depth < cLine
    omega
  case er =>
    have : ∀ l : List (Addr × Mon), (∀ b ∈ l, b ∈ bs) → PySem.W.EachIs (fun (v : Value) (b : Addr × Mon) => ∃ as, Reads (h'.push { cls := .type "list", data := .seq (bs.map fun b => Value.ref b.1).toArray }) v (menc b) as ∧ h'.objs.size ∉ as) (l.map fun b => Value.ref b.1) l := by
      intro l
      induction l with
      | nil => intro _; exact .nil
      | cons b l ih => exact fun hm => .cons ⟨[], reads_M I2 (b3 b (hm b (List.mem_cons_self ..))), by simp⟩ (ih fun c hc => hm c (List.mem_cons_of_mem _ hc))
    exact this bs fun _ h => h
  have eo := refs_of_each heo
  subst eo
  rw [menc_le]
  have I' : Inv X pins σ H { s with heap := h', toks := tk } := I.kept kp
  have k3 : ∀ b o, h'.get? b = some o → (PyProof.Rows.sortedHeap (h'.push { cls := .type "list", data := .seq (bs.map fun b => Value.ref b.1).toArray }) h'.objs.size (bs.map fun b => Value.ref b.1) ((bs.mergeSort fun a b => !mlt b.2 a.2).map fun b => Value.ref b.1).toArray).get? b = some o := fun b o e => by
    have lt := Heap.lt_size e
    rw [PyProof.Rows.sortedHeap_old (Nat.ne_of_lt lt) (by rw [Heap.size_push]; exact Nat.lt_succ_of_lt lt)]
    exact Heap.get?_push_of_some _ e
  obtain ⟨e1, he1⟩ := PyProof.Rows.sortedHeap_at (out := ((bs.mergeSort fun a b => !mlt b.2 a.2).map fun b => Value.ref b.1).toArray) hp
  have hpm := List.mergeSort_perm bs (fun a b => !mlt b.2 a.2)
  refine ⟨.ref h'.objs.size, _, I'.laid (t' := tk) (a := h'.objs.size) (o := .lst ((bs.mergeSort fun a b => !mlt b.2 a.2).map fun b => .ref b.1)) k3 (Nat.le_refl _) ?_, rfl,
    q h'.objs.size _ (I'.hok.fresh (Nat.le_refl _)) ((hpm.map _).trans (List.Perm.of_eq b2)) (sorted_order bs) fun b hb => b3 b (hpm.mem_iff.mp hb)⟩
  refine ⟨?_, _, e1, vals_refs2 _, he1⟩
  rw [List.length_map, List.length_mergeSort]
  omega
end K46

/-! # BadText(at): an own error over an own error over ValueError, whose __init__ calls super().__init__(at) and stores at -/
namespace PySem
namespace BadX
open PySem.W PySem.Calls PyProof.Rows PySem.HandSPX
def top (i : Nat) : Stmt := PySem.Challenge.pw_boxedroots_k46_whole_polynomials_read_in.main.body.getD i (.Pass ⟨0, 0, 0, 0⟩)
abbrev sBad : Stmt := L2.inClass (top 3) 0
abbrev iA : Arguments := L2.defArgs sBad
abbrev iB : List Stmt := L2.defBody sBad
abbrev iS : Scope := L2.defScope sBad
/-- what the written part says of the class at C and of its __init__ at fI -/
structure BadTxt (P : Program) (K : Frag) (C fI : Addr) : Prop where
  o : L2.OexC K C
  iC : findIn K (.ref C) "__init__" = some (some (.ref fI))
  tI : typeIn K (.ref fI) = some (.type "function")
  noA : findIn K (.ref C) "at" = some none
  sup : ks_superIn K C C "__init__" = some (some (.builtin "ValueError.__init__"))
  sub : mroIn K C (.ref C) = some true
  subV : subIn K (.ref C) (.type "ValueError") = some true
  thd : nsIn K cStatics "thirdparty.any" = some none
  fn : ∃ (oc : Value) (od : Option Addr) (dV kV doc pm : Value) (an : Option Addr) (cda : Addr) (ct : Value) (cc : Addr) (osl : Array (Option Value)),
    K.lookup fI = some ⟨oc, od, .func (ksFn "__init__" "BadText.__init__" iA iB iS .none kV doc pm an (.ref cda) ct cc), osl⟩ ∧ codeIn K (.ref cda) "BadText.__init__" = true ∧
    (∃ (ccl : Value) (cdd : Option Addr) (vs : Array Value) (ccs : Array (Option Value)) (file : Str) (tf : Tok), K.lookup cda = some ⟨ccl, cdd, .fields vs, ccs⟩ ∧ vs[2]? = some (.str file tf) ∧ ((P.main.file : Str) == file) = true) ∧
    (∃ (cl : Value) (cld : Option Addr) (csl : Array (Option Value)), K.lookup cc = some ⟨cl, cld, .cell (some (.ref C)), csl⟩)
  top : (P.main.scope.names.lookup ("super" : Str)).isSome = false

theorem one_fits (v : Value) : [v].length ≤ sizeLine := by
  rw [sizeLine_eq]
  exact (by decide : 1 ≤ 16777216)
/-- what __init__ leaves of a fresh error at x -/
structure InitEnd (h h' : Heap) (x C dx : Addr) (v : Value) : Prop where
  keep : ∀ b o, b ≠ x → h.get? b = some o → h'.get? b = some o
  obj : ∃ t1 : Addr, h'.get? x = some { cls := .ref C, dict := some dx, data := .fields #[.ref t1, .none, .none, .none, .bool false, .none] }
  dbig : h.objs.size ≤ dx
  dne : dx ≠ x
  ns : h'.Ns1 dx (fun y => if y = "at" then some v else none)
theorem local_two (v : Value) (x : Addr) : ∀ y ∈ [((PySem.Str.ofString "self"), Value.ref x), (PySem.Str.ofString "at", v)], iS.names.lookup y.1 = some .local := by
  intro y hy
  rcases List.mem_cons.mp hy with e | hy
  · rw [e]; exact (show iS.names.lookup (PySem.Str.ofString "self") = some .local by decide +kernel)
  · rcases List.mem_cons.mp hy with e | hy
    · rw [e]; exact (show iS.names.lookup (PySem.Str.ofString "self") = some .local by decide +kernel)
    · exact absurd hy (by simp)
section
variable {prog : Program} {w : World} {A : Around} {E : Value → Shared → Prop} {R : Result → Shared → Prop} {s : Shared} {K : Frag} {mg mb : Str → Option Value} {C fI : Addr}
theorem bad_init (T : BadTxt prog K C fI) {x t0 : Addr} {v : Value} (X : K.In s.heap) (hlim : s.heap.NoLimit) (hG : s.heap.Ns mainGlobals mg) (hsm : mg "super" = none) (hB : s.heap.Ns builtinsNs mb) (hbb : mb "super" = bootBuiltins "super")
    (hx : s.heap.get? x = some (excO C t0)) (hxK : K.lookup x = none) (hroom : A.depth < recursionLimit)
    (hq : ∀ h' tk dx, InitEnd s.heap h' x C dx v → R (.ok (.ret .none)) { s with heap := h', toks := tk }) :
    codeAny (model prog w) A (.call (.ref fI) ⟨[.ref x, v], []⟩) R s := by
  obtain ⟨oc, od, dV, kV, doc, pm, an, cda, ct, cc, osl, ho, hcd, ⟨ccl, cdd, vs, ccs, file, tf, hcda, hvs, hfile⟩, ⟨cl, cld, csl, hcc⟩⟩ := T.fn
  obtain ⟨nm, q, N, bs, bm, sn, sub, ab, col, dd, k0, k1, k2, k3, k5, hC, hbm⟩ := T.o.cls
  have hcl : clsIn K C = some { name := nm, bases := bs, mro := .ref C :: bm, ns := N, qualname := q, hasDict := true, slotNames := sn, subclasses := sub, abstract := ab, collection := col, hasDel := false } := by unfold clsIn; rw [hC] <;> rfl
  refine ks_codeAny_call_defAt (fd := ksFn "__init__" "BadText.__init__" iA iB iS .none kV doc pm an (.ref cda) ct cc) (body := iB) (binds := [("self", .ref x), ("at", v)])
    hroom (X _ _ ho) rfl hlim (codeRec_of X hcd) rfl (BindsTo.of_eq (by first | rfl | with_unfolding_all rfl)) (by show ∀ x ∈ iS.names, x.2 ≠ .cell; decide +kernel) (local_two v x) (fun h1 hn hk => ?_) rfl rfl rfl
  have X1 : K.In h1 := X.keeps hk
  have hx1 := hk _ _ hx
  have hnx : x ≠ s.heap.objs.size := Nat.ne_of_lt (Heap.lt_size hx)
  -- super().__init__(at)
  refine ks_wpAt_execs_cons ?_
  refine ks_wpAt_Expr_any ?_ rfl (by rfl)
  refine ks_wpAt_MethodCall ?_ (by rfl)
  refine ks_wpAt_super_base (f := fI) (cc := cda) (of := ⟨oc, od, .func (ksFn "__init__" "BadText.__init__" iA iB iS .none kV doc pm an (.ref cda) ct cc), osl⟩)
    (by rfl) (by rfl) (by decide) (by rfl) (X1 _ _ ho) rfl (by rfl) (by rfl) (X1 _ _ hcda) rfl hvs hfile T.top ?_
  refine ks_loadName_global (by rfl) (by rfl) (loadGlobal_builtin (hG.keeps hk) hsm (hB.keeps hk) (hbb.trans (by decide +kernel)) ⟨rfl, ?_⟩)
  refine wpAny_loadName_free (by rfl) (by rfl) (by rfl) ⟨_, X1 _ _ hcc, rfl⟩ ?_
  refine wpAny_loadName_local (by rfl) (by rfl) hn (v := .ref x) (by first | rfl | with_unfolding_all rfl | kernel_rfl) ?_
  have hD1 := X1 _ _ hC
  refine ks_wpAny_isType_cls hD1 rfl ⟨rfl, ?_⟩
  refine ks_wpAny_call_super hD1 rfl hx1 rfl (fun c e => by cases e) (looks_mroIn X1 T.sub) (fun h2 e2 k2 => ?_)
  have X2 : K.In h2 := X1.keeps k2
  have hx2 := k2 _ _ hx1
  have hsz1 : x < h1.objs.size := Heap.lt_size hx1
  have hm : alongIn K "__init__" (((Value.ref C :: bm).dropWhile (· != .ref C)).drop 1) = some (some (.builtin "ValueError.__init__")) := by
    have z := T.sup
    unfold ks_superIn at z
    rw [hcl] at z
    exact z
  have hxC : x ≠ C := fun e => by
    rw [e] at hx1
    rw [hD1] at hx1
    cases hx1
  refine kxs_getMethod kxs_ValueError e2 (looks_opaque X2 T.thd) (l₀ := .ref C :: bm) (fun A Q E s k q => wpAny_bind ((looks_clsIn X2 hcl) A _ E s k (wpAny_pure q))) rfl X2 hm
    (InstAt.type (⟨hx2, rfl, rfl, trivial⟩ : InstAt h2 x (excO C t0) C none) |>.andThen (looks_subIn X2 T.subV)) hxC (by decide) ?_
  refine kxs_callWith (i := "ValueError.__init__") (x := x) (by rfl) ?_
  refine evalArgs_plain ?_
  have k3 : ∀ b o, h2.get? b = some o → (h2.push (kxs_mw "ValueError.__init__" x)).get? b = some o := fun b o e => Heap.get?_push_of_some _ e
  have nL : h1.Ns s.heap.objs.size (fun y => [(PySem.Str.ofString "self", Value.ref x), (PySem.Str.ofString "at", v)].reverse.lookup y) := hn
  have nL3 := (nL.keeps k2).keeps k3
  refine spliced_cons ?_
  refine wpAny_Name (wpAny_loadName_local (by rfl) (by rfl) nL3 (v := v) (by first | rfl | with_unfolding_all rfl | kernel_rfl) ?_) (by decide)
  refine spliced_nil ?_
  refine ⟨Heap.get?_push_at rfl rfl, ?_⟩
  refine wpAny_call (codeAny_of_tree ?_)
  show wpAny _ _ (callAny (.ref h2.objs.size) _) _ _ _
  simp only [callAny]
  refine wpAny_bind (wpAny_load (Heap.get?_push_at rfl rfl) ?_)
  simp only [kxs_mw, show (Value.type "method-wrapper" == Value.type "method" || Value.type "method-wrapper" == Value.type "builtin_function_or_method" || Value.type "method-wrapper" == Value.type "method-wrapper") = true by decide, if_true]
  refine KFB.if_so (by decide) ?_
  have hC3 := k3 _ _ (k2 _ _ hD1)
  have hx3 := k3 _ _ hx2
  refine wpAny_bind (check_bound_init F.excBase_ValueError.toExcCallFacts hC3 hx3 rfl ?_)
  refine wpAny_bind (wpAny_pure (wpAny_pure ?_))
  refine ⟨plainId_quiet F.excBase_ValueError.init.plain _, codeAny_builtin F.excBase_ValueError.initEntry ?_⟩
  refine exc_init_tree (cls := .ref C) (t0 := t0) (dv := none) (c2 := .none) (c3 := .none) (b4 := .bool false) hx3 (one_fits v) fun h4 k4 e4 _ => ?_
  -- self.at = at
  have hLs : ∀ {b : Addr} {o : Obj}, h1.get? b = some o → h2.get? b = some o := fun {b o} e => k2 b o e
  have nx : s.heap.objs.size ≠ x := fun e => hnx e.symm
  have n4 : h4.Ns s.heap.objs.size (fun y => [(PySem.Str.ofString "self", Value.ref x), (PySem.Str.ofString "at", v)].reverse.lookup y) := by
    obtain ⟨o, es, ep, e, r⟩ := nL3
    exact ⟨o, es, ep, k4 _ _ nx e, r⟩
  have X4 : K.In h4 := fun a o e => k4 a o (fun z => by rw [z, hxK] at e; cases e) (X2.keeps k3 a o e)
  show wpAt _ _ _ (execs (_ :: _) _) _ _ _
  refine ks_wpAt_execs_cons ?_
  refine ks_wpAt_Assign_Attr ?_ (by rfl)
  refine wpAt_of_wpAny (wpAny_Name (wpAny_loadName_local (by rfl) (by rfl) n4 (v := v) (by first | rfl | with_unfolding_all rfl | kernel_rfl) ?_) (by decide))
  refine wpAny_Name (wpAny_loadName_local (by rfl) (by rfl) n4 (v := .ref x) (by first | rfl | with_unfolding_all rfl | kernel_rfl) ?_) (by decide)
  refine set_plain X4 (ox := excRec (Value.ref C) (h2.push (kxs_mw "ValueError.__init__" x)).objs.size none Value.none Value.none (Value.bool false)) (od := none) ⟨e4, rfl, rfl, trivial⟩ T.o.sa ?_
  refine exc_osa X4 e4 hcl (show refsVE (.ref C :: bm) = true from hbm) rfl T.noA (fun h5 tk5 dx k5' dn dne hx5 hn5 => ?_)
  show wpAt _ _ _ (execs [] _) _ _ _
  refine wpAt_of_wpAny (wpAny_execs_nil ?_)
  refine hq h5 tk5 dx ⟨fun b o hb e => k5' b o hb (k4 b o hb (k3 b o (k2 b o (hk b o e)))), ⟨_, hx5⟩, ?_, dne, hn5⟩
  have l1 : s.heap.objs.size ≤ h4.objs.size := by
    obtain ⟨o, es, ep, e, r⟩ := n4
    exact Nat.le_of_lt (Heap.lt_size e)
  exact Nat.le_trans l1 dn
/-- a made BadText -/
structure BadMade (h h' : Heap) (e C d : Addr) (v : Value) : Prop where
  keep : ∀ b o, h.get? b = some o → h'.get? b = some o
  new : h.objs.size ≤ e
  obj : ∃ oe vs, h'.get? e = some oe ∧ oe.cls = .ref C ∧ oe.dict = some d ∧ oe.data = .fields vs ∧ vs[1]? = some .none
  dbig : h.objs.size ≤ d
  dne : d ≠ e
  ns : h'.Ns1 d (fun y => if y = "at" then some v else none)
theorem bad_made (T : BadTxt prog K C fI) {v : Value} (X : K.In s.heap) (hlim : s.heap.NoLimit) (hG : s.heap.Ns mainGlobals mg) (hsm : mg "super" = none) (hB : s.heap.Ns builtinsNs mb) (hbb : mb "super" = bootBuiltins "super") (hroom : A.depth + 1 < recursionLimit)
    (hq : ∀ h' tk e d, BadMade s.heap h' e C d v → R (.ok (.ret (.ref e))) { s with heap := h', toks := tk }) :
    codeAny (model prog w) A (.call (.ref C) ⟨[v], []⟩) R s := by
  obtain ⟨nm, q, N, bs, bm, sn, sub, ab, col, dd, k0, k1, k2, k3, k5, hC, hbm⟩ := T.o.cls
  obtain ⟨hp, g, dr, tk, os⟩ := s
  have k : ∀ b o, hp.get? b = some o → ((hp.push (kdv_tup [v])).push (excO C hp.objs.size)).get? b = some o := fun b o e => Heap.get?_push_of_some _ (Heap.get?_push_of_some _ e)
  have hget : ((hp.push (kdv_tup [v])).push (excO C hp.objs.size)).get? (hp.objs.size + 1) = some (excO C hp.objs.size) := by heap_get
  have hnx : K.lookup (hp.objs.size + 1) = none := by
    cases e : K.lookup (hp.objs.size + 1) with
    | none => rfl
    | some o =>
      have z : hp.get? (hp.objs.size + 1) = some o := X _ _ e
      exact absurd (Nat.lt_of_succ_lt (Heap.lt_size z)) (Nat.lt_irrefl _)
  refine call_own F.excBase_ValueError (fun X => refsVE_contains X bm hbm) (X _ _ hC) (looks_findIn X T.iC) (fun self => bind_fn X self T.tI) (one_fits v) ?_
  refine bad_init (s := ⟨(hp.push (kdv_tup [v])).push (excO C hp.objs.size), g, dr, tk, os⟩) T (X.keeps k) (hlim.keeps k) (hG.keeps k) hsm (hB.keeps k) hbb hget hnx ?_ fun h' tk' dx ⟨k', hx, dn, dne, hns⟩ => ?_
  · show A.depth + 1 < recursionLimit
    exact hroom
  · have old : ∀ b o, hp.get? b = some o → h'.get? b = some o := fun b o e => k' b o (Nat.ne_of_lt (Nat.lt_succ_of_lt (Heap.lt_size e))) (k b o e)
    have z : hp.objs.size + 1 + 1 ≤ dx := by
      first
        | (simpa only [Heap.size_push] using dn)
        | exact dn
        | (have q := dn; rw [Heap.size_push, Heap.size_push] at q; exact q)
    obtain ⟨t1, hx⟩ := hx
    exact ⟨rfl, hq h' tk' (hp.objs.size + 1) dx ⟨old, Nat.le_succ _, ⟨_, _, hx, rfl, rfl, rfl, rfl⟩, Nat.le_trans (Nat.le_trans (Nat.le_succ _) (Nat.le_succ _)) z, dne, hns⟩⟩
end
end BadX
end PySem
namespace L2
open PySem PySem.Spec PyProof.Rows
theorem relO_at {v : V} {v' : Value} (r : RelV v v') (f : Str) : RelO (List.lookup f [(("at" : Str), v)]) (if f = "at" then some v' else none) := by
  by_cases hw : f = "at"
  · subst hw
    rw [if_pos rfl]
    have q : List.lookup ("at" : Str) [(("at" : Str), v)] = some v := by simp [List.lookup]
    rw [q]
    exact r
  · rw [if_neg hw]
    have qw : (f == ("at" : Str)) = false := by simpa using hw
    have q2 : List.lookup f [(("at" : Str), v)] = none := by simp [List.lookup, qw]
    rw [q2]
    trivial
section
variable {X : Cx} {C fI : Addr}
/-- BadText(e) -/
def tMkBad (C : Addr) (ta : TA) : St → Hp → XK → Prop := fun σ H Q => ta σ H fun vs H1 => ∃ v, vs = [v] ∧ ∀ d, H1 d = none → Q (.ref C) (some d) (upd H1 d (.xd [(("at" : Str), v)]))
theorem pmk_bad {a : Expr} {ta : TA} {p pos : Pos} {k : Nat} (T : PySem.BadX.BadTxt X.prog X.K C fI) (gC : X.mg "BadText" = some (.ref C)) (gS : X.mg "super" = none) (hr : Room k X.A) (ha : PA X [a] ta) (hg : Gl X "BadText" := by rfl)
    (he : starEach (a :: []) X.env = (false, eval a X.env) :: starEach [] X.env := by rfl) (hpl : (backTo pos (starEach [] X.env)).any (·.1) = false := by rfl) :
    PMk X (.Call (.Name "BadText" p) [a] [] pos) (tMkBad C ta) := by
  intro pins s σ H Q I h
  refine wpAny_Call_Name_kw (ld_glob I hg gC ?_)
  refine PySem.W.callWith_K (h₀ := X.base) I.ok.mod.kin T.o.kC (thn (ha.run pos pins s σ H _ I h) fun us s1 hh => ?_) he hpl
  obtain ⟨vs, H1, I1, r1, v, ev, q1⟩ := hh
  subst ev
  refine ⟨I1.kIn, ?_⟩
  cases r1 with
  | cons rv rn =>
    rename_i v' us'
    cases rn
    show wpAny _ _ (call (.ref C) [v']) _ _ _
    have hlim := I1.nolimit
    obtain ⟨mb, hB, hbb⟩ := I1.mod.blt
    have hG' := I1.mod.glob.keeps I1.bk
    have hB' := hB.keeps I1.bk
    have kI := I1.kIn
    obtain ⟨hp, g, dr, tk, os⟩ := s1
    refine wpAny_call (PySem.BadX.bad_made T kI hlim hG' gS hB' (hbb _ (by decide +kernel)) (by have := hr.dp; omega) fun h' tk' e d M => ?_)
    show MkP X pins σ Q (.ref e) ⟨h', g, dr, tk', os⟩
    obtain ⟨oe, fv, hoe, hc, hd, hdat, h1⟩ := M.obj
    have hns := M.ns
    obtain ⟨G', g1, g2⟩ := restrict h' fun b => decide (b ≠ e)
    have gk : ∀ b, b ≠ e → G'.get? b = h'.get? b := fun b hb => g1 b (decide_eq_true hb)
    have ge : G'.get? e = none := g2 e (by simp)
    have old : ∀ b o, hp.get? b = some o → G'.get? b = some o := fun b o q => (gk b (Nat.ne_of_lt (Nat.lt_of_lt_of_le (Heap.lt_size q) M.new))).trans (M.keep b o q)
    have ob : ObjOk X.prog X.w (upd H1 d (.xd [(("at" : Str), v)])) G' d (.xd [(("at" : Str), v)]) :=
      ⟨_, hns.at (fun o q => (gk d M.dne).trans q), fun f => relO_at rv f⟩
    have J : Inv X pins σ (upd H1 d (.xd [(("at" : Str), v)])) ⟨G', g, dr, tk', os⟩ := I1.laid (t' := tk') old M.dbig ob
    refine ⟨e, oe, fv, ⟨G', g, dr, tk', os⟩, _, .ref C, some d, rfl, J, fun b o q => ?_, ge, hoe, ⟨hc, hd⟩, hdat, h1, ?_, rfl, I1.bare, raises_own T.o.exC T.o.tyC, q1 d (I1.hok.fresh M.dbig)⟩
    · by_cases hb : b = e
      · have q' : G'.get? b = some o := q
        rw [hb, ge] at q'; cases q'
      · exact (gk b hb).symm.trans q
    · rw [upd_ne (Ne.symm M.dne)]
      exact I1.hok.fresh M.new
/-- raise BadText(e) -/
def tRaiseBad (C : Addr) (W : WX) (ta : TA) : TS := fun _ σ H => tMkBad C ta σ H fun cls d H' => W cls d σ H'
theorem ps_raiseBad {a : Expr} {ta : TA} {W : WX} {p pos pos2 : Pos} {k : Nat} (hc : X.calm = true) (T : PySem.BadX.BadTxt X.prog X.K C fI) (gC : X.mg "BadText" = some (.ref C)) (gS : X.mg "super" = none) (hr : Room k X.A) (tk : Takes X W) (ha : PA X [a] ta) (hg : Gl X "BadText" := by rfl)
    (he : starEach (a :: []) X.env = (false, eval a X.env) :: starEach [] X.env := by rfl) (hpl : (backTo pos (starEach [] X.env)).any (·.1) = false := by rfl) :
    PS X (.Raise (some (.Call (.Name "BadText" p) [a] [] pos)) none pos2) (tRaiseBad C W ta) := ps_raise hc tk (pmk_bad T gC gS hr ha hg he hpl)
end
end L2

/-! # Words of a text, in plain Lean -/
namespace K46
open PySem PySem.Spec PyProof.Rows L2
abbrev Word := List Nat
def isDig (c : Nat) : Bool := decide (48 ≤ c) && decide (c ≤ 57)
theorem isDig_iff {c : Nat} : isDig c = true ↔ 48 ≤ c ∧ c ≤ 57 := by unfold isDig; simp
/-- digits that stand ahead -/
def digs (cs : List Nat) : Nat := (cs.takeWhile isDig).length
def IsNum (w : Word) : Prop := w ≠ [] ∧ NumText.AllDigits w
theorem IsNum.dig {w : Word} (h : IsNum w) : ∀ c ∈ w, isDig c = true := fun c hc => isDig_iff.mpr (h.2 c hc)
/-- the first is no digit -/
def NoDig (cs : List Nat) : Prop := ∀ c, cs.head? = some c → isDig c = false
theorem digs_app : ∀ {w r : List Nat}, (∀ c ∈ w, isDig c = true) → NoDig r → digs (w ++ r) = w.length
  | [], r, _, h => by
    unfold digs
    cases r with
    | nil => rfl
    | cons c r =>
      rw [List.nil_append, List.takeWhile_cons, if_neg (by rw [h c rfl]; exact Bool.false_ne_true)]
      try rfl
  | c :: w, r, hw, h => by
    have ih := digs_app (w := w) (r := r) (fun d hd => hw d (List.mem_cons_of_mem _ hd)) h
    unfold digs at *
    rw [List.cons_append, List.takeWhile_cons, if_pos (hw c (List.mem_cons_self ..)), List.length_cons, ih]
    rfl
/-- the words of the text cs, which begins at place p -/
inductive TokR : List Nat → Nat → List (Word × Nat) → Prop
  | nil (p : Nat) : TokR [] p []
  | blank {cs : List Nat} {p : Nat} {ws : List (Word × Nat)} : TokR cs (p + 1) ws → TokR (32 :: cs) p ws
  | sign {c : Nat} {cs : List Nat} {p : Nat} {ws : List (Word × Nat)} : isDig c = false → c ≠ 32 → TokR cs (p + 1) ws → TokR (c :: cs) p (([c], p) :: ws)
  | num {w cs : List Nat} {p : Nat} {ws : List (Word × Nat)} : IsNum w → NoDig cs → TokR cs (p + w.length) ws → TokR (w ++ cs) p ((w, p) :: ws)
/-- how many signs the next step takes -/
def stepLen (cs : List Nat) : Nat := if digs cs = 0 then 1 else digs cs
theorem tok_step {c : Nat} {r : List Nat} {p : Nat} {ws : List (Word × Nat)} (h : TokR (c :: r) p ws) :
    stepLen (c :: r) ≤ r.length + 1 ∧ (c = 32 → TokR ((c :: r).drop (stepLen (c :: r))) (p + stepLen (c :: r)) ws) ∧
    (c ≠ 32 → ∃ ws', ws = ((c :: r).take (stepLen (c :: r)), p) :: ws' ∧ TokR ((c :: r).drop (stepLen (c :: r))) (p + stepLen (c :: r)) ws') := by
  generalize e : c :: r = cs at h
  cases h with
  | nil => cases e
  | blank t =>
    cases e
    have d0 : digs (32 :: r) = 0 := by unfold digs; rw [List.takeWhile_cons, if_neg (by decide)]; rfl
    unfold stepLen
    rw [if_pos d0]
    exact ⟨by omega, fun _ => t, fun z => absurd rfl z⟩
  | sign h1 h2 t =>
    cases e
    have d0 : digs (c :: r) = 0 := by unfold digs; rw [List.takeWhile_cons, if_neg (by rw [h1]; decide)]; rfl
    unfold stepLen
    rw [if_pos d0]
    exact ⟨by omega, fun z => absurd z h2, fun _ => ⟨_, rfl, t⟩⟩
  | @num w cs' p' ws' h1 h2 t =>
    have d1 : digs (w ++ cs') = w.length := digs_app h1.dig h2
    have ne : w.length ≠ 0 := fun z => h1.1 (List.length_eq_zero_iff.mp z)
    unfold stepLen
    rw [d1, if_neg ne]
    have hc : isDig c = true := by
      cases w with
      | nil => exact absurd rfl h1.1
      | cons d w =>
        cases e
        exact h1.dig _ (List.mem_cons_self ..)
    refine ⟨?_, fun z => ?_, fun _ => ⟨ws', ?_, ?_⟩⟩
    · have := congrArg List.length e
      rw [List.length_cons, List.length_append] at this
      omega
    · rw [z] at hc; exact absurd hc (by decide)
    · rw [List.take_left]
    · rw [List.drop_left]; exact t
/-! ### words with blanks ahead of them -/
def IsWord (w : Word) : Prop := (∃ c, w = [c] ∧ isDig c = false ∧ c ≠ 32) ∨ IsNum w
abbrev flat (ps : List (Nat × Word)) : List Nat := ps.flatMap fun q => List.replicate q.1 32 ++ q.2
/-- a word's last sign, first sign: digits -/
def endsDig (w : Word) : Bool := w.any isDig
/-- d: a digit stands ahead -/
def OkP : Bool → List (Nat × Word) → Prop
  | _, [] => True
  | d, q :: r => IsWord q.2 ∧ (d = true → endsDig q.2 = true → 0 < q.1) ∧ OkP (endsDig q.2) r
theorem IsNum.ends {w : Word} (h : IsNum w) : endsDig w = true := by
  obtain ⟨h1, h2⟩ := h
  cases w with
  | nil => exact absurd rfl h1
  | cons c w =>
    show (isDig c || w.any isDig) = true
    rw [isDig_iff.mpr (h2 c (List.mem_cons_self ..))]; rfl
theorem tok_blanks {cs : List Nat} {ws : List (Word × Nat)} : ∀ (k p : Nat), TokR cs (p + k) ws → TokR (List.replicate k 32 ++ cs) p ws
  | 0, p, h => h
  | k + 1, p, h => by
    rw [List.replicate_succ, List.cons_append]
    exact .blank (tok_blanks k (p + 1) (by rw [show p + 1 + k = p + (k + 1) by omega]; exact h))
theorem flat_noDig {ps : List (Nat × Word)} {d : Bool} (h : OkP d ps) (hd : d = true) : NoDig (flat ps) := by
  cases ps with
  | nil => intro c e; cases e
  | cons q r =>
    obtain ⟨h1, h2, h3⟩ := h
    intro c e
    obtain ⟨k, w⟩ := q
    by_cases hk : k = 0
    · subst hk
      have e2 : endsDig w = false := by
        cases z : endsDig w with
        | false => rfl
        | true => exact absurd (h2 hd z) (Nat.lt_irrefl _)
      rcases h1 with ⟨x, hx, h4, h5⟩ | hn
      · have hx' : w = [x] := hx
        subst hx'
        have : x = c := by simpa using e
        rw [← this]; exact h4
      · rw [hn.ends] at e2; cases e2
    · obtain ⟨j, rfl⟩ : ∃ j, k = j + 1 := ⟨k - 1, by omega⟩
      have : 32 = c := by
        rw [flat, List.flatMap_cons, List.replicate_succ] at e
        simpa using e
      rw [← this]; decide
theorem tok_flat : ∀ {ps : List (Nat × Word)} {d : Bool} (p : Nat), OkP d ps → ∃ ws, TokR (flat ps) p ws ∧ ws.map (·.1) = ps.map (·.2)
  | [], _, p, _ => ⟨[], .nil p, rfl⟩
  | (k, w) :: r, d, p, h => by
    obtain ⟨h1, h2, h3⟩ := h
    obtain ⟨ws, t, e⟩ := tok_flat (ps := r) (p + k + w.length) h3
    refine ⟨(w, p + k) :: ws, ?_, by rw [List.map_cons, List.map_cons, e]⟩
    rw [flat, List.flatMap_cons, List.append_assoc]
    refine tok_blanks k p ?_
    rcases h1 with ⟨x, hx, h4, h5⟩ | hn
    · have hx' : w = [x] := hx
      subst hx'
      exact .sign h4 h5 t
    · exact .num hn (flat_noDig h3 hn.ends) t
theorem okP_snoc {k : Nat} {w : Word} : ∀ {ps : List (Nat × Word)} {d : Bool}, OkP d ps → IsWord w → ((ps.getLast?.map fun q => endsDig q.2).getD d = true → endsDig w = true → 0 < k) → OkP d (ps ++ [(k, w)])
  | [], d, _, hw, hk => ⟨hw, hk, trivial⟩
  | q :: r, d, h, hw, hk => by
    obtain ⟨h1, h2, h3⟩ := h
    refine ⟨h1, h2, okP_snoc h3 hw fun z => hk ?_⟩
    cases r with
    | nil => exact z
    | cons q2 r2 =>
      rw [List.getLast?_cons_cons]
      cases hl : (q2 :: r2).getLast? with
      | none => rw [List.getLast?_eq_none_iff] at hl; cases hl
      | some u => rw [hl] at z; exact z
end K46

/-! # The order of words, in plain Lean -/
namespace K46
open PySem PySem.Spec PyProof.Rows L2
open SX (S)
/-- the text w stands in x -/
def inS (x w : List Nat) : Bool := !(Builtin.Str.occurrences (S x) (S w) 0 (S x).length 1).isEmpty
theorem inS_num {x w : List Nat} (hx : ∀ c ∈ x, isDig c = false) (hw : IsNum w) : inS x w = false := by
  unfold inS
  cases e : (!(Builtin.Str.occurrences (S x) (S w) 0 (S x).length 1).isEmpty) with
  | false => rfl
  | true =>
    obtain ⟨i, hi, hs⟩ := (StrLaws.found_iff (S x) (S w)).mp e
    have h1 : (S x).cps.extract i (i + (S w).length) = (S w).cps := eq_of_beq hs
    have h2 := congrArg Array.toList h1
    obtain ⟨n1, n2⟩ := hw
    cases w with
    | nil => exact absurd rfl n1
    | cons c r =>
      have hc : c ∈ (x.toArray.extract i (i + (S (c :: r)).length)).toList := by rw [h2]; exact List.mem_cons_self ..
      have hm : c ∈ x := by
        rw [Array.toList_extract] at hc
        have := List.mem_of_mem_take hc
        exact List.mem_of_mem_drop this
      have := hx c hm
      rw [isDig_iff.mpr (n2 c (List.mem_cons_self ..))] at this
      cases this
inductive Wish | beg | fac | pow | beh | rai
  deriving DecidableEq
def Wish.str : Wish → Str
  | .beg => "begin"
  | .fac => "factor"
  | .pow => "power"
  | .beh => "behind"
  | .rai => "raised"
theorem wish_eq (s t : Wish) : decide (V.str s.str = V.str t.str) = decide (s = t) := by cases s <;> cases t <;> decide +kernel
abbrev plusMinus : List Nat := [43, 45]
abbrev letters : List Nat := [120, 121, 122, 119]
def tkF (s : Wish) (d : Int) (w : Word) : Bool × Wish × Int :=
  if inS plusMinus w = true then (decide (s = .beg), .fac, d) else if w = [40] then (true, .beg, d + 1) else (isDig (w.headD 0) || inS letters w, .beh, d)
def tkB (s : Wish) (d : Int) (w : Word) : Bool × Wish × Int :=
  if w = [94] then (decide (s = .beh), .pow, d) else if w = [41] then (decide (0 ≤ d - 1), .beh, d - 1) else (decide (w = [42]) || inS plusMinus w, .fac, d)
def tk (s : Wish) (d : Int) (w : Word) : Bool × Wish × Int := match s with
  | .pow => (isDig (w.headD 0), .rai, d)
  | .beg => tkF .beg d w
  | .fac => tkF .fac d w
  | .beh => tkB .beh d w
  | .rai => tkB .rai d w
/-- the words in order; the greatest depth -/
def orun (s : Wish) (d mx : Int) : List Word → Option (Wish × Int × Int)
  | [] => some (s, d, mx)
  | w :: r => if (tk s d w).1 = true then orun (tk s d w).2.1 (tk s d w).2.2 (if (tk s d w).2.2 > mx then (tk s d w).2.2 else mx) r else none
theorem orun_cons (s : Wish) (d mx : Int) (w : Word) (r : List Word) : orun s d mx (w :: r) = if (tk s d w).1 = true then orun (tk s d w).2.1 (tk s d w).2.2 (if (tk s d w).2.2 > mx then (tk s d w).2.2 else mx) r else none := rfl
theorem orun_app : ∀ (a b : List Word) (s : Wish) (d mx : Int), orun s d mx (a ++ b) = (orun s d mx a).bind fun r => orun r.1 r.2.1 r.2.2 b
  | [], b, s, d, mx => rfl
  | w :: a, b, s, d, mx => by
    rw [List.cons_append, orun_cons, orun_cons]
    by_cases h : (tk s d w).1 = true
    · rw [if_pos h, if_pos h, orun_app a b]
    · rw [if_neg h, if_neg h]; rfl
end K46

/-! # What words mean, in plain Lean -/
namespace K46
open PySem PySem.Spec PyProof.Rows L2
inductive Cat | base | fac | prod | sum
  deriving DecidableEq
abbrev numVal (w : Word) : Nat := NumText.digitsVal w
def vnum (w : Word) : Option Poly := if 30 < w.length then none else some (pconst (numVal w))
def vpow (v : Option Poly) (w : Word) : Option Poly := v.bind fun t => if 30 < w.length then none else if 60 < numVal w then none else ppow t (numVal w)
def vmul (v u : Option Poly) : Option Poly := v.bind fun t => u.bind fun s => chk (pmul t s)
def vadd (v u : Option Poly) : Option Poly := v.bind fun t => u.bind fun s => chk (padd t s)
def vsub (v u : Option Poly) : Option Poly := v.bind fun t => u.bind fun s => chk (psub t s)
def vstep (s : Bool) (v u : Option Poly) : Option Poly := if s then vsub v u else vadd v u
/-- the words ws say v; n: how deep its brackets are; b: how many bits its counts have -/
inductive Rd : Cat → Nat → List Word → Option Poly → Nat → Prop
  | num {w : Word} : IsNum w → Rd .base 0 [w] (vnum w) 100
  | var {k : Nat} : k < 4 → Rd .base 0 [[letters.getD k 0]] (some (pvar k)) 1
  | par {n : Nat} {ws : List Word} {v : Option Poly} {b : Nat} : Rd .sum n ws v b → Rd .base (n + 1) ([40] :: (ws ++ [[41]])) v b
  | fac {n : Nat} {ws : List Word} {v : Option Poly} {b : Nat} : Rd .base n ws v b → Rd .fac n ws v b
  | pow {n : Nat} {ws : List Word} {v : Option Poly} {b : Nat} {w : Word} : Rd .base n ws v b → IsNum w → Rd .fac n (ws ++ [[94], w]) (vpow v w) (b * (min (numVal w) 60 + 1) + 1)
  | prod {n : Nat} {ws : List Word} {v : Option Poly} {b : Nat} : Rd .fac n ws v b → Rd .prod n ws v b
  | mul {n m : Nat} {ws us : List Word} {v u : Option Poly} {b c : Nat} : Rd .prod n ws v b → Rd .fac m us u c → Rd .prod (max n m) (ws ++ [42] :: us) (vmul v u) (b + c)
  | sum {n : Nat} {ws : List Word} {v : Option Poly} {b : Nat} : Rd .prod n ws v b → Rd .sum n ws v (b + 1)
  | neg {n : Nat} {ws : List Word} {v : Option Poly} {b : Nat} : Rd .prod n ws v b → Rd .sum n ([45] :: ws) (vsub (some []) v) (b + 1)
  | add {n m : Nat} {ws us : List Word} {v u : Option Poly} {b c : Nat} : Rd .sum n ws v b → Rd .prod m us u c → Rd .sum (max n m) (ws ++ [43] :: us) (vadd v u) (b + c + 1)
  | sub {n m : Nat} {ws us : List Word} {v u : Option Poly} {b c : Nat} : Rd .sum n ws v b → Rd .prod m us u c → Rd .sum (max n m) (ws ++ [45] :: us) (vsub v u) (b + c + 1)
/-! ### values -/
structure GoodP (b : Nat) (t : Poly) : Prop where
  ca : Canon t
  ok : isGreat t = false
  fi : Fits b t
theorem GoodP.mono {a b : Nat} {t : Poly} (h : GoodP a t) (k : a ≤ b) : GoodP b t := ⟨h.ca, h.ok, h.fi.mono k⟩
theorem GoodP.len {b : Nat} {t : Poly} (h : GoodP b t) : t.length ≤ 300 := by
  by_cases z : 300 < t.length
  · have := h.ok
    rw [(isGreat_iff t).mpr (.inl z)] at this; cases this
  · omega
theorem fold_lt : ∀ (w : List Nat) (a : Nat), NumText.AllDigits w → w.foldl (fun acc c => acc * 10 + (c - 48)) a < (a + 1) * 10 ^ w.length
  | [], a, _ => by simp
  | c :: w, a, h => by
    have hc := h.head
    have ih := fold_lt w (a * 10 + (c - 48)) h.tail
    rw [List.foldl_cons, List.length_cons, Nat.pow_succ]
    have e : (a * 10 + (c - 48) + 1) * 10 ^ w.length ≤ ((a + 1) * 10) * 10 ^ w.length := Nat.mul_le_mul_right _ (by omega)
    have e2 : (a + 1) * 10 * 10 ^ w.length = (a + 1) * (10 ^ w.length * 10) := by rw [Nat.mul_assoc, Nat.mul_comm 10]
    omega
theorem numVal_lt {w : Word} (h : NumText.AllDigits w) : numVal w < 10 ^ w.length := by
  have := fold_lt w 0 h
  rw [Nat.zero_add, Nat.one_mul] at this
  exact this
theorem good_pconst {n : Int} {b : Nat} (h : n.natAbs < 2 ^ b) : GoodP b (pconst n) :=
  ⟨canon_pconst n, not_great (Nat.le_trans (length_pconst n) (by decide)) (low_pconst n 60), by unfold Fits; rw [norm1_pconst]; exact h⟩
theorem good_pvar (k : Nat) : GoodP 1 (pvar k) := ⟨canon_pvar k, not_great (by show 1 ≤ 300; decide) ((low_pvar k).mono (by decide)), fits_pvar k⟩
theorem good_nil (b : Nat) : GoodP b [] := ⟨Canon.nil, rfl, by unfold Fits; exact Nat.pos_of_ne_zero (by show 2 ^ b ≠ 0; exact Nat.pos_iff_ne_zero.mp (Nat.pow_pos (by decide)))⟩
theorem good_ppow {b : Nat} {t q : Poly} {n : Nat} (h : GoodP b t) (e : ppow t n = some q) : GoodP (b * n + 1) q := by
  have el := ppow_lpow e
  refine ⟨by rw [el]; exact canon_lpow h.ca n, ?_, by rw [el]; exact h.fi.pow n⟩
  cases n with
  | zero =>
    cases e
    exact (good_pconst (n := 1) (b := 2) (by decide)).ok
  | succ n =>
    unfold ppow at e
    obtain ⟨r, _, e2⟩ := Option.bind_eq_some_iff.mp e
    obtain ⟨e3, g⟩ := chk_some e2
    rw [e3]; exact g
theorem good_vmul {b c : Nat} {v u : Option Poly} {q : Poly} (hv : ∀ t, v = some t → GoodP b t) (hu : ∀ t, u = some t → GoodP c t) (e : vmul v u = some q) : GoodP (b + c) q := by
  unfold vmul at e
  obtain ⟨t, e1, e2⟩ := Option.bind_eq_some_iff.mp e
  obtain ⟨s, e3, e4⟩ := Option.bind_eq_some_iff.mp e2
  obtain ⟨e5, g⟩ := chk_some e4
  subst e5
  exact ⟨canon_pmul (hv t e1).ca (hu s e3).ca, g, (hv t e1).fi.mul (hu s e3).fi⟩
theorem good_vstep {b c : Nat} {v u : Option Poly} {q : Poly} (s : Bool) (hv : ∀ t, v = some t → GoodP b t) (hu : ∀ t, u = some t → GoodP c t) (e : vstep s v u = some q) : GoodP (max b c + 1) q := by
  unfold vstep at e
  cases s with
  | true =>
    rw [if_pos rfl] at e
    unfold vsub at e
    obtain ⟨t, e1, e2⟩ := Option.bind_eq_some_iff.mp e
    obtain ⟨s, e3, e4⟩ := Option.bind_eq_some_iff.mp e2
    obtain ⟨e5, g⟩ := chk_some e4
    subst e5
    exact ⟨canon_psub (hv t e1).ca (hu s e3).ca, g, (hv t e1).fi.sub (hu s e3).fi⟩
  | false =>
    rw [if_neg Bool.false_ne_true] at e
    unfold vadd at e
    obtain ⟨t, e1, e2⟩ := Option.bind_eq_some_iff.mp e
    obtain ⟨s, e3, e4⟩ := Option.bind_eq_some_iff.mp e2
    obtain ⟨e5, g⟩ := chk_some e4
    subst e5
    exact ⟨canon_padd (hv t e1).ca (hu s e3).ca, g, (hv t e1).fi.add (hu s e3).fi⟩
theorem Rd.good {c : Cat} {n : Nat} {ws : List Word} {v : Option Poly} {b : Nat} (h : Rd c n ws v b) : ∀ t, v = some t → GoodP b t := by
  induction h with
  | @num w hw =>
    intro t e
    unfold vnum at e
    split at e
    · cases e
    · rename_i hl
      cases e
      refine good_pconst ?_
      have h1 := numVal_lt hw.2
      have h2 : 10 ^ w.length ≤ 10 ^ 30 := Nat.pow_le_pow_right (by decide) (by omega)
      have h3 : (10 : Nat) ^ 30 < 2 ^ 100 := by decide
      rw [Int.natAbs_natCast]
      omega
  | var hk => intro t e; cases e; exact good_pvar _
  | par _ ih => exact ih
  | fac _ ih => exact ih
  | @pow n ws v b w _ hw ih =>
    intro t e
    unfold vpow at e
    obtain ⟨s, e1, e2⟩ := Option.bind_eq_some_iff.mp e
    split at e2
    · cases e2
    · split at e2
      · cases e2
      · rename_i h60
        refine (good_ppow (ih s e1) e2).mono ?_
        have : min (numVal w) 60 = numVal w := by omega
        rw [this]
        have := Nat.mul_le_mul_left b (show numVal w ≤ numVal w + 1 by omega)
        omega
  | prod _ ih => exact ih
  | mul _ _ ih1 ih2 => exact fun t e => good_vmul ih1 ih2 e
  | sum _ ih => exact fun t e => (ih t e).mono (by omega)
  | @neg n ws v b _ ih => exact fun t e => (good_vstep true (v := some []) (b := 0) (fun t e => by cases e; exact good_nil 0) ih e).mono (by omega)
  | add _ _ ih1 ih2 => exact fun t e => (good_vstep false ih1 ih2 e).mono (by omega)
  | sub _ _ ih1 ih2 => exact fun t e => (good_vstep true ih1 ih2 e).mono (by omega)
end K46

/-! # Words that mean something stand in order -/
namespace K46
open PySem PySem.Spec PyProof.Rows L2
theorem letters_dig : ∀ c ∈ letters, isDig c = false := by decide
theorem plusMinus_dig : ∀ c ∈ plusMinus, isDig c = false := by decide
theorem num_ne {w : Word} {c : Nat} (h : IsNum w) (hc : isDig c = false) : w ≠ [c] := fun e => by
  have := h.dig c (by rw [e]; exact List.mem_cons_self ..)
  rw [hc] at this; cases this
theorem num_head {w : Word} (h : IsNum w) : isDig (w.headD 0) = true := by
  cases w with
  | nil => exact absurd rfl h.1
  | cons c w => exact h.dig c (List.mem_cons_self ..)
/-- begin, factor: a sign may begin, a number, a letter, a bracket may stand -/
def IsStart (s : Wish) : Prop := s = .beg ∨ s = .fac
def IsEnd (s : Wish) : Prop := s = .beh ∨ s = .rai
theorem tk_num {s : Wish} {d : Int} {w : Word} (hs : IsStart s) (hw : IsNum w) : tk s d w = (true, .beh, d) := by
  have e : ∀ z, tkF z d w = (true, .beh, d) := fun z => by
    unfold tkF
    rw [inS_num plusMinus_dig hw, if_neg Bool.false_ne_true, if_neg (num_ne hw (by decide)), num_head hw]; rfl
  rcases hs with h | h <;> subst h <;> exact e _
theorem tk_let {s : Wish} {d : Int} {k : Nat} (hs : IsStart s) (hk : k < 4) : tk s d [letters.getD k 0] = (true, .beh, d) := by
  have e : ∀ z, tkF z d [letters.getD k 0] = (true, .beh, d) := fun z => by
    unfold tkF
    rcases (show k = 0 ∨ k = 1 ∨ k = 2 ∨ k = 3 by omega) with e | e | e | e <;> subst e
    · rw [show inS plusMinus [letters.getD 0 0] = false by decide +kernel, if_neg Bool.false_ne_true, if_neg (by decide), show inS letters [letters.getD 0 0] = true by decide +kernel, Bool.or_true]
    · rw [show inS plusMinus [letters.getD 1 0] = false by decide +kernel, if_neg Bool.false_ne_true, if_neg (by decide), show inS letters [letters.getD 1 0] = true by decide +kernel, Bool.or_true]
    · rw [show inS plusMinus [letters.getD 2 0] = false by decide +kernel, if_neg Bool.false_ne_true, if_neg (by decide), show inS letters [letters.getD 2 0] = true by decide +kernel, Bool.or_true]
    · rw [show inS plusMinus [letters.getD 3 0] = false by decide +kernel, if_neg Bool.false_ne_true, if_neg (by decide), show inS letters [letters.getD 3 0] = true by decide +kernel, Bool.or_true]
  rcases hs with h | h <;> subst h <;> exact e _
theorem tk_open {s : Wish} {d : Int} (hs : IsStart s) : tk s d [40] = (true, .beg, d + 1) := by
  have e : ∀ z, tkF z d [40] = (true, .beg, d + 1) := fun z => by
    unfold tkF
    rw [show inS plusMinus [40] = false by decide +kernel, if_neg Bool.false_ne_true, if_pos rfl]
  rcases hs with h | h <;> subst h <;> exact e _
theorem tk_sign0 {d : Int} {c : Nat} (hc : c = 43 ∨ c = 45) : tk .beg d [c] = (true, .fac, d) := by
  show tkF .beg d [c] = _
  unfold tkF
  have : inS plusMinus [c] = true := by rcases hc with h | h <;> subst h <;> decide +kernel
  rw [this, if_pos rfl]; rfl
theorem tk_hat {d : Int} : tk .beh d [94] = (true, .pow, d) := rfl
theorem tk_pow {d : Int} {w : Word} (hw : IsNum w) : tk .pow d w = (true, .rai, d) := by
  show (isDig (w.headD 0), Wish.rai, d) = _
  rw [num_head hw]
theorem tk_close {s : Wish} {d : Int} (hs : IsEnd s) (hd : 0 < d) : tk s d [41] = (true, .beh, d - 1) := by
  have e : ∀ z, tkB z d [41] = (true, .beh, d - 1) := fun z => by
    unfold tkB
    rw [if_neg (by decide), if_pos rfl, decide_eq_true (by omega)]
  rcases hs with h | h <;> subst h <;> exact e _
theorem tk_star {s : Wish} {d : Int} (hs : IsEnd s) : tk s d [42] = (true, .fac, d) := by
  rcases hs with h | h <;> subst h <;> rfl
theorem tk_sign {s : Wish} {d : Int} {c : Nat} (hs : IsEnd s) (hc : c = 43 ∨ c = 45) : tk s d [c] = (true, .fac, d) := by
  have this : inS plusMinus [c] = true := by rcases hc with h | h <;> subst h <;> decide +kernel
  have e : ∀ z, tkB z d [c] = (true, .fac, d) := fun z => by
    unfold tkB
    have n1 : ¬ ([c] : List Nat) = [94] := fun z => by injection z with z; omega
    have n2 : ¬ ([c] : List Nat) = [41] := fun z => by injection z with z; omega
    rw [if_neg n1, if_neg n2, this, Bool.or_true]
  rcases hs with h | h <;> subst h <;> exact e _
theorem orun_ok {s s' : Wish} {d d' mx : Int} {w : Word} {r : List Word} (h : tk s d w = (true, s', d')) : orun s d mx (w :: r) = orun s' d' (max mx d') r := by
  rw [orun_cons, h, if_pos rfl]
  congr 1
  show (if d' > mx then d' else mx) = _
  split <;> omega
/-- where a part may begin, where it ends -/
def Cat.starts : Cat → Wish → Prop
  | .sum, s => s = .beg
  | _, s => IsStart s
def Cat.ends : Cat → Wish → Prop
  | .base, s => s = .beh
  | _, s => IsEnd s
theorem Rd.order {c : Cat} {n : Nat} {ws : List Word} {v : Option Poly} {b : Nat} (h : Rd c n ws v b) : ∀ (s : Wish) (d mx : Int) (r : List Word), c.starts s → 0 ≤ d → d ≤ mx → ∃ s', c.ends s' ∧ orun s d mx (ws ++ r) = orun s' d (max mx (d + n)) r := by
  induction h with
  | @num w hw =>
    intro s d mx r hs h0 hm
    refine ⟨.beh, rfl, ?_⟩
    rw [List.cons_append, List.nil_append, orun_ok (tk_num hs hw)]
    congr 1; omega
  | var hk =>
    intro s d mx r hs h0 hm
    refine ⟨.beh, rfl, ?_⟩
    rw [List.cons_append, List.nil_append, orun_ok (tk_let hs hk)]
    congr 1; omega
  | @par n ws v b _ ih =>
    intro s d mx r hs h0 hm
    refine ⟨.beh, rfl, ?_⟩
    rw [List.cons_append, orun_ok (tk_open hs), List.append_assoc]
    obtain ⟨s', he, e⟩ := ih .beg (d + 1) (max mx (d + 1)) ([[41]] ++ r) rfl (by omega) (by omega)
    rw [e, List.cons_append, List.nil_append, orun_ok (tk_close he (by omega))]
    congr 1 <;> omega
  | fac _ ih =>
    intro s d mx r hs h0 hm
    obtain ⟨s', he, e⟩ := ih s d mx r hs h0 hm
    exact ⟨s', .inl he, e⟩
  | @pow n ws v b w _ hw ih =>
    intro s d mx r hs h0 hm
    rw [List.append_assoc]
    obtain ⟨s', he, e⟩ := ih s d mx ([[94], w] ++ r) hs h0 hm
    have he' : s' = .beh := he
    subst he'
    refine ⟨.rai, .inr rfl, ?_⟩
    rw [e, List.cons_append, List.cons_append, List.nil_append, orun_ok tk_hat, orun_ok (tk_pow hw)]
    congr 1; omega
  | prod _ ih => exact ih
  | @mul n m ws us v u b c _ _ ih1 ih2 =>
    intro s d mx r hs h0 hm
    rw [List.append_assoc, List.cons_append]
    obtain ⟨s1, he1, e1⟩ := ih1 s d mx ([42] :: (us ++ r)) hs h0 hm
    rw [e1, orun_ok (tk_star he1)]
    obtain ⟨s2, he2, e2⟩ := ih2 .fac d (max (max mx (d + n)) d) r (.inr rfl) h0 (by omega)
    refine ⟨s2, he2, ?_⟩
    rw [e2]
    congr 1; omega
  | sum _ ih =>
    intro s d mx r hs h0 hm
    have hs' : s = .beg := hs
    subst hs'
    exact ih .beg d mx r (.inl rfl) h0 hm
  | neg _ ih =>
    intro s d mx r hs h0 hm
    have hs' : s = .beg := hs
    subst hs'
    rw [List.cons_append, orun_ok (tk_sign0 (.inr rfl))]
    obtain ⟨s2, he2, e2⟩ := ih .fac d (max mx d) r (.inr rfl) h0 (by omega)
    refine ⟨s2, he2, ?_⟩
    rw [e2]
    congr 1; omega
  | @add n m ws us v u b c _ _ ih1 ih2 =>
    intro s d mx r hs h0 hm
    rw [List.append_assoc, List.cons_append]
    obtain ⟨s1, he1, e1⟩ := ih1 s d mx ([43] :: (us ++ r)) hs h0 hm
    rw [e1, orun_ok (tk_sign he1 (.inl rfl))]
    obtain ⟨s2, he2, e2⟩ := ih2 .fac d (max (max mx (d + n)) d) r (.inr rfl) h0 (by omega)
    refine ⟨s2, he2, ?_⟩
    rw [e2]
    congr 1; omega
  | @sub n m ws us v u b c _ _ ih1 ih2 =>
    intro s d mx r hs h0 hm
    rw [List.append_assoc, List.cons_append]
    obtain ⟨s1, he1, e1⟩ := ih1 s d mx ([45] :: (us ++ r)) hs h0 hm
    rw [e1, orun_ok (tk_sign he1 (.inr rfl))]
    obtain ⟨s2, he2, e2⟩ := ih2 .fac d (max (max mx (d + n)) d) r (.inr rfl) h0 (by omega)
    refine ⟨s2, he2, ?_⟩
    rw [e2]
    congr 1; omega
theorem Rd.orun {n : Nat} {ws : List Word} {v : Option Poly} {b : Nat} (h : Rd .sum n ws v b) : ∃ s, (s = .beh ∨ s = .rai) ∧ orun .beg 0 0 ws = some (s, 0, (n : Int)) := by
  obtain ⟨s, he, e⟩ := h.order .beg 0 0 [] rfl (by omega) (by omega)
  rw [List.append_nil] at e
  refine ⟨s, he, ?_⟩
  rw [e]
  show some (s, (0 : Int), max 0 (0 + (n : Int))) = _
  congr 3; omega
/-! ### how a product, a sum begins -/
def StartWord (w : Word) : Prop := IsNum w ∨ (∃ k, k < 4 ∧ w = [letters.getD k 0]) ∨ w = [40]
theorem Rd.head {c : Cat} {n : Nat} {ws : List Word} {v : Option Poly} {b : Nat} (h : Rd c n ws v b) : c ≠ .sum → ∃ w r, ws = w :: r ∧ StartWord w := by
  induction h with
  | num hw => exact fun _ => ⟨_, _, rfl, .inl hw⟩
  | var hk => exact fun _ => ⟨_, _, rfl, .inr (.inl ⟨_, hk, rfl⟩)⟩
  | par _ _ => exact fun _ => ⟨_, _, rfl, .inr (.inr rfl)⟩
  | fac _ ih => exact fun _ => ih (by decide)
  | pow _ _ ih =>
    intro _
    obtain ⟨w, r, e, h⟩ := ih (by decide)
    exact ⟨w, _, by rw [e]; rfl, h⟩
  | prod _ ih => exact fun _ => ih (by decide)
  | mul _ _ ih _ =>
    intro _
    obtain ⟨w, r, e, h⟩ := ih (by decide)
    exact ⟨w, _, by rw [e]; rfl, h⟩
  | sum _ _ => exact fun h => absurd rfl h
  | neg _ _ => exact fun h => absurd rfl h
  | add _ _ _ _ => exact fun h => absurd rfl h
  | sub _ _ _ _ => exact fun h => absurd rfl h
/-! ### a product's factors, a sum's terms -/
structure It where
  n : Nat
  ws : List Word
  v : Option Poly
  b : Nat
abbrev It.Is (c : Cat) (N : Nat) (x : It) : Prop := Rd c x.n x.ws x.v x.b ∧ x.n ≤ N
theorem It.Is.mono {c : Cat} {N M : Nat} {x : It} (h : x.Is c N) (k : N ≤ M) : x.Is c M := ⟨h.1, Nat.le_trans h.2 k⟩
abbrev facWords (r : List It) : List Word := r.flatMap fun x => [42] :: x.ws
abbrev facVal (v : Option Poly) (r : List It) : Option Poly := r.foldl (fun a x => vmul a x.v) v
def bitSum (r : List It) : Nat := (r.map (·.b)).sum
theorem Rd.factors {c : Cat} {n : Nat} {ws : List Word} {v : Option Poly} {b : Nat} (h : Rd c n ws v b) : c = .prod → ∃ (f : It) (r : List It), f.Is .fac n ∧ (∀ x ∈ r, x.Is .fac n) ∧ ws = f.ws ++ facWords r ∧ v = facVal f.v r ∧ f.b + bitSum r ≤ b := by
  induction h with
  | num _ => exact fun h => absurd h (by decide)
  | var _ => exact fun h => absurd h (by decide)
  | par _ _ => exact fun h => absurd h (by decide)
  | fac _ _ => exact fun h => absurd h (by decide)
  | pow _ _ _ => exact fun h => absurd h (by decide)
  | @prod n ws v b h _ => exact fun _ => ⟨⟨n, ws, v, b⟩, [], ⟨h, Nat.le_refl _⟩, fun _ h => absurd h (by simp), by simp, rfl, Nat.le_refl _⟩
  | @mul n m ws us v u b c h1 h2 ih _ =>
    intro _
    obtain ⟨f, r, hf, hr, e1, e2, e3⟩ := ih rfl
    refine ⟨f, r ++ [⟨m, us, u, c⟩], hf.mono (by omega), fun x hx => ?_, ?_, ?_, ?_⟩
    · rcases List.mem_append.mp hx with hx | hx
      · exact (hr x hx).mono (by omega)
      · have : x = ⟨m, us, u, c⟩ := by simpa using hx
        subst this
        exact ⟨h2, Nat.le_max_right _ _⟩
    · have z : facWords (r ++ [⟨m, us, u, c⟩]) = facWords r ++ [42] :: us := by
        unfold facWords
        rw [List.flatMap_append]
        simp
      rw [e1, z, List.append_assoc]
    · rw [facVal, List.foldl_append, e2]; rfl
    · unfold bitSum at *
      rw [List.map_append, List.sum_append]
      simp
      omega
  | sum _ _ => exact fun h => absurd h (by decide)
  | neg _ _ => exact fun h => absurd h (by decide)
  | add _ _ _ _ => exact fun h => absurd h (by decide)
  | sub _ _ _ _ => exact fun h => absurd h (by decide)
abbrev Tm := Bool × It
def sgn (s : Bool) : Word := if s then [45] else [43]
/-- the words of a sum's terms; first: no sign need stand ahead -/
def tmWords : Bool → List Tm → List Word
  | _, [] => []
  | first, x :: r => (if first && !x.1 then x.2.ws else sgn x.1 :: x.2.ws) ++ tmWords false r
abbrev tmVal (v : Option Poly) (r : List Tm) : Option Poly := r.foldl (fun a x => vstep x.1 a x.2.v) v
def tmBits (r : List Tm) : Nat := (r.map fun x => x.2.b + 1).sum
theorem tmWords_snoc (x : Tm) : ∀ (r : List Tm) (first : Bool), r ≠ [] → tmWords first (r ++ [x]) = tmWords first r ++ sgn x.1 :: x.2.ws
  | [], _, h => absurd rfl h
  | [y], first, _ => by
    show _ ++ ((if false && !x.1 then x.2.ws else sgn x.1 :: x.2.ws) ++ []) = (_ ++ []) ++ _
    rw [Bool.false_and, if_neg Bool.false_ne_true, List.append_nil, List.append_nil]
  | y :: z :: r, first, _ => by
    show _ ++ tmWords false ((z :: r) ++ [x]) = (_ ++ tmWords false (z :: r)) ++ _
    rw [tmWords_snoc x (z :: r) false (by simp), List.append_assoc]
theorem vadd_nil {v : Option Poly} (h : ∀ t, v = some t → isGreat t = false) : vadd (some []) v = v := by
  cases v with
  | none => rfl
  | some t =>
    show chk (padd [] t) = _
    rw [padd_nil_left, chk_ok (h t rfl)]
theorem Rd.terms {c : Cat} {n : Nat} {ws : List Word} {v : Option Poly} {b : Nat} (h : Rd c n ws v b) : c = .sum → ∃ (r : List Tm), r ≠ [] ∧ (∀ x ∈ r, x.2.Is .prod n) ∧ ws = tmWords true r ∧ v = tmVal (some []) r ∧ tmBits r ≤ b := by
  induction h with
  | num _ => exact fun h => absurd h (by decide)
  | var _ => exact fun h => absurd h (by decide)
  | par _ _ => exact fun h => absurd h (by decide)
  | fac _ _ => exact fun h => absurd h (by decide)
  | pow _ _ _ => exact fun h => absurd h (by decide)
  | prod _ _ => exact fun h => absurd h (by decide)
  | mul _ _ _ _ => exact fun h => absurd h (by decide)
  | @sum n ws v b h _ =>
    intro _
    refine ⟨[(false, ⟨n, ws, v, b⟩)], by simp, fun x hx => ?_, ?_, ?_, ?_⟩
    · have : x = (false, ⟨n, ws, v, b⟩) := by simpa using hx
      subst this; exact ⟨h, Nat.le_refl _⟩
    · show ws = ws ++ []
      rw [List.append_nil]
    · show v = vadd (some []) v
      rw [vadd_nil fun t e => (h.good t e).ok]
    · show b + 1 + 0 ≤ b + 1
      omega
  | @neg n ws v b h _ =>
    intro _
    refine ⟨[(true, ⟨n, ws, v, b⟩)], by simp, fun x hx => ?_, ?_, ?_, ?_⟩
    · have : x = (true, ⟨n, ws, v, b⟩) := by simpa using hx
      subst this; exact ⟨h, Nat.le_refl _⟩
    · show [45] :: ws = ([45] :: ws) ++ []
      rw [List.append_nil]
    · rfl
    · show b + 1 + 0 ≤ b + 1
      omega
  | @add n m ws us v u b c h1 h2 ih _ =>
    intro _
    obtain ⟨r, hne, hr, e1, e2, e3⟩ := ih rfl
    refine ⟨r ++ [(false, ⟨m, us, u, c⟩)], by simp, fun x hx => ?_, ?_, ?_, ?_⟩
    · rcases List.mem_append.mp hx with hx | hx
      · exact (hr x hx).mono (by omega)
      · have : x = (false, ⟨m, us, u, c⟩) := by simpa using hx
        subst this
        exact ⟨h2, Nat.le_max_right _ _⟩
    · rw [tmWords_snoc _ r true hne, e1]; rfl
    · rw [tmVal, List.foldl_append, e2]; rfl
    · unfold tmBits at *
      rw [List.map_append, List.sum_append]
      simp
      omega
  | @sub n m ws us v u b c h1 h2 ih _ =>
    intro _
    obtain ⟨r, hne, hr, e1, e2, e3⟩ := ih rfl
    refine ⟨r ++ [(true, ⟨m, us, u, c⟩)], by simp, fun x hx => ?_, ?_, ?_, ?_⟩
    · rcases List.mem_append.mp hx with hx | hx
      · exact (hr x hx).mono (by omega)
      · have : x = (true, ⟨m, us, u, c⟩) := by simpa using hx
        subst this
        exact ⟨h2, Nat.le_max_right _ _⟩
    · rw [tmWords_snoc _ r true hne, e1]; rfl
    · rw [tmVal, List.foldl_append, e2]; rfl
    · unfold tmBits at *
      rw [List.map_append, List.sum_append]
      simp
      omega
end K46

/-! # The law's trees, in plain Lean -/
namespace K46
open PySem PySem.Spec PyProof.Rows L2
inductive TOp | add | sub | und
  deriving DecidableEq
inductive T
  | x (k : Nat)
  | n (v : Nat)
  | pow (t : T) (e : Nat)
  | mul (a b : T)
  | bin (o : TOp) (a b : T)
namespace T
def val : T → Poly
  | x k => pvar k
  | n v => pconst v
  | pow t e => lpow t.val e
  | mul a b => pmul a.val b.val
  | bin .add a b => padd a.val b.val
  | bin .sub a b => psub a.val b.val
  | bin .und a b => psub b.val a.val
def deg : T → Nat
  | x _ => 1
  | n _ => 1
  | pow t e => t.deg * max 1 e
  | mul a b => a.deg + b.deg
  | bin _ a b => max a.deg b.deg
def cnt : T → Nat
  | x _ => 1
  | n _ => 1
  | pow t e => t.cnt ^ max 1 e
  | mul a b => a.cnt * b.cnt
  | bin _ a b => a.cnt + b.cnt
/-- what is drawn -/
def Ok : T → Nat → Prop
  | x k, _ => k < 4
  | n v, _ => v < 100 ∨ v = 10 ^ 29
  | pow t e, h => e ≤ 3 ∧ ∃ g, h = g + 1 ∧ t.Ok g
  | mul a b, h => ∃ g, h = g + 1 ∧ a.Ok g ∧ b.Ok g
  | bin _ a b, h => ∃ g, h = g + 1 ∧ a.Ok g ∧ b.Ok g
theorem cnt_pos : ∀ t : T, 1 ≤ t.cnt
  | x _ => Nat.le_refl _
  | n _ => Nat.le_refl _
  | pow t e => Nat.pow_pos t.cnt_pos
  | mul a b => Nat.mul_le_mul a.cnt_pos b.cnt_pos
  | bin _ a b => Nat.le_trans a.cnt_pos (Nat.le_add_right _ _)
theorem deg_pos : ∀ t : T, 1 ≤ t.deg
  | x _ => Nat.le_refl _
  | n _ => Nat.le_refl _
  | pow t e => Nat.mul_le_mul t.deg_pos (Nat.le_max_left 1 e)
  | mul a b => Nat.le_trans a.deg_pos (Nat.le_add_right _ _)
  | bin _ a b => Nat.le_trans a.deg_pos (Nat.le_max_left _ _)
theorem val_ca : ∀ t : T, Canon t.val
  | x k => canon_pvar k
  | n v => canon_pconst v
  | pow t e => canon_lpow t.val_ca e
  | mul a b => canon_pmul a.val_ca b.val_ca
  | bin .add a b => canon_padd a.val_ca b.val_ca
  | bin .sub a b => canon_psub a.val_ca b.val_ca
  | bin .und a b => canon_psub b.val_ca a.val_ca
theorem lpow_len {p : Poly} {c : Nat} (h : p.length ≤ c) (hc : 1 ≤ c) {j e : Nat} (hj : j ≤ max 1 e) : (lpow p j).length ≤ c ^ max 1 e :=
  Nat.le_trans (length_lpow p j) (Nat.le_trans (Nat.pow_le_pow_left h j) (Nat.pow_le_pow_right hc hj))
theorem val_len : ∀ t : T, t.val.length ≤ t.cnt
  | x k => by show 1 ≤ 1; decide
  | n v => length_pconst v
  | pow t e => lpow_len t.val_len t.cnt_pos (Nat.le_max_right 1 e)
  | mul a b => Nat.le_trans (length_pmul _ _) (Nat.mul_le_mul a.val_len b.val_len)
  | bin .add a b => Nat.le_trans (length_padd _ _) (Nat.add_le_add a.val_len b.val_len)
  | bin .sub a b => Nat.le_trans (length_psub _ _) (Nat.add_le_add a.val_len b.val_len)
  | bin .und a b => by
    have := length_psub b.val a.val
    have := a.val_len
    have := b.val_len
    show _ ≤ a.cnt + b.cnt
    show (psub b.val a.val).length ≤ _
    omega
theorem val_low : ∀ t : T, Low t.deg t.val
  | x k => low_pvar k
  | n v => low_pconst v 1
  | pow t e => (t.val_low.pow e).mono (Nat.mul_le_mul_left _ (Nat.le_max_right 1 e))
  | mul a b => a.val_low.mul b.val_low
  | bin .add a b => a.val_low.add b.val_low
  | bin .sub a b => a.val_low.sub b.val_low
  | bin .und a b => (b.val_low.sub a.val_low).mono (by show max b.deg a.deg ≤ max a.deg b.deg; omega)
/-- small enough -/
def Small (t : T) : Prop := t.deg ≤ 60 ∧ t.cnt ≤ 300
theorem Small.ok {t : T} (h : t.Small) : isGreat t.val = false := not_great (Nat.le_trans t.val_len h.2) (t.val_low.mono h.1)
theorem Small.pow {t : T} {e : Nat} (h : (pow t e).Small) : t.Small := by
  have h1 : t.deg ≤ t.deg * max 1 e := Nat.le_mul_of_pos_right _ (by omega)
  have h2 : t.cnt ^ 1 ≤ t.cnt ^ max 1 e := Nat.pow_le_pow_right t.cnt_pos (Nat.le_max_left 1 e)
  rw [Nat.pow_one] at h2
  exact ⟨Nat.le_trans h1 h.1, Nat.le_trans h2 h.2⟩
theorem Small.mul {a b : T} (h : (mul a b).Small) : a.Small ∧ b.Small := by
  have h1 : a.deg + b.deg ≤ 60 := h.1
  have h2 : a.cnt * b.cnt ≤ 300 := h.2
  have h3 := Nat.le_mul_of_pos_right a.cnt b.cnt_pos
  have h4 := Nat.le_mul_of_pos_left b.cnt a.cnt_pos
  exact ⟨⟨by omega, by omega⟩, ⟨by omega, by omega⟩⟩
theorem Small.bin {o : TOp} {a b : T} (h : (bin o a b).Small) : a.Small ∧ b.Small := by
  have h1 : max a.deg b.deg ≤ 60 := h.1
  have h2 : a.cnt + b.cnt ≤ 300 := h.2
  exact ⟨⟨by omega, by omega⟩, ⟨by omega, by omega⟩⟩
theorem Small.ppow {t : T} {e : Nat} (h : (T.pow t e).Small) : ppow t.val e = some (lpow t.val e) := by
  refine ppow_small fun j h1 h2 => not_great ?_ ?_
  · exact Nat.le_trans (lpow_len t.val_len t.cnt_pos (by omega)) h.2
  · refine (t.val_low.pow j).mono (Nat.le_trans (Nat.mul_le_mul_left _ (by omega)) h.1)
theorem Small.lens {t : T} {e : Nat} (h : (T.pow t e).Small) : ∀ j, j ≤ e → (lpow t.val j).length ≤ 900 := fun j hj =>
  Nat.le_trans (lpow_len t.val_len t.cnt_pos (by omega)) (Nat.le_trans h.2 (by decide))
end T
/-! ### bits -/
def bdF : Nat → Nat
  | 0 => 102
  | h + 1 => 4 * bdF h + 4
theorem bdF_ge : ∀ h, 102 ≤ bdF h
  | 0 => Nat.le_refl _
  | h + 1 => by
    have := bdF_ge h
    show 102 ≤ 4 * bdF h + 4
    omega
def wcF : Nat → Nat
  | 0 => 3
  | h + 1 => 2 * wcF h + 4
theorem wcF_ge : ∀ h, 3 ≤ wcF h
  | 0 => Nat.le_refl _
  | h + 1 => by
    have := wcF_ge h
    show 3 ≤ 2 * wcF h + 4
    omega
theorem T.val_bits : ∀ (t : T) (h : Nat), t.Ok h → Fits (bdF h - 2) t.val
  | .x k, h, _ => (fits_pvar k).mono (by have := bdF_ge h; omega)
  | .n v, h, ok => by
    have hv : v < 2 ^ 100 := by
      rcases ok with e | e
      · exact Nat.lt_trans e (by decide)
      · rw [e]; decide
    have : Fits 100 (pconst (v : Int)) := by
      unfold Fits
      rw [norm1_pconst, Int.natAbs_natCast]; exact hv
    exact this.mono (by have := bdF_ge h; omega)
  | .pow t e, h, ⟨he, g, hg, ok⟩ => by
    subst hg
    have ih := t.val_bits g ok
    refine (ih.pow e).mono ?_
    have := Nat.mul_le_mul_left (bdF g - 2) he
    show _ ≤ 4 * bdF g + 4 - 2
    omega
  | .mul a b, h, ⟨g, hg, oa, ob⟩ => by
    subst hg
    refine ((a.val_bits g oa).mul (b.val_bits g ob)).mono ?_
    show _ ≤ 4 * bdF g + 4 - 2
    omega
  | .bin .add a b, h, ⟨g, hg, oa, ob⟩ => by
    subst hg
    refine ((a.val_bits g oa).add (b.val_bits g ob)).mono ?_
    show _ ≤ 4 * bdF g + 4 - 2
    omega
  | .bin .sub a b, h, ⟨g, hg, oa, ob⟩ => by
    subst hg
    refine ((a.val_bits g oa).sub (b.val_bits g ob)).mono ?_
    show _ ≤ 4 * bdF g + 4 - 2
    omega
  | .bin .und a b, h, ⟨g, hg, oa, ob⟩ => by
    subst hg
    refine ((b.val_bits g ob).sub (a.val_bits g oa)).mono ?_
    show _ ≤ 4 * bdF g + 4 - 2
    omega
/-! ### words that say a tree -/
def catOf : Nat → Cat
  | 0 => .sum
  | 1 => .prod
  | 2 => .fac
  | _ => .base
structure Own (k h : Nat) (ws : List Word) (p : Poly) : Prop where
  ex : ∃ n b, Rd (catOf k) n ws (some p) b ∧ n ≤ h ∧ b + 2 ≤ bdF h
  len : ws.length + 2 ≤ wcF h
  each : ∀ w ∈ ws, w.length ≤ 40
structure Says (k h : Nat) (ws : List Word) (p : Poly) : Prop where
  ex : ∃ n b, Rd (catOf k) n ws (some p) b ∧ n ≤ h + 1 ∧ b ≤ bdF h
  len : ws.length ≤ wcF h
  each : ∀ w ∈ ws, w.length ≤ 40
theorem Rd.lift {j n : Nat} {ws : List Word} {v : Option Poly} {b : Nat} (h : Rd (catOf j) n ws v b) (hj : j ≤ 3) {k : Nat} (hk : k ≤ j) : ∃ b', b' ≤ b + 1 ∧ Rd (catOf k) n ws v b' := by
  rcases (show j = 0 ∨ j = 1 ∨ j = 2 ∨ j = 3 by omega) with e | e | e | e <;> subst e
  · obtain rfl : k = 0 := by omega
    exact ⟨b, by omega, h⟩
  · rcases (show k = 0 ∨ k = 1 by omega) with e | e <;> subst e
    · exact ⟨b + 1, by omega, .sum h⟩
    · exact ⟨b, by omega, h⟩
  · rcases (show k = 0 ∨ k = 1 ∨ k = 2 by omega) with e | e | e <;> subst e
    · exact ⟨b + 1, by omega, .sum (.prod h)⟩
    · exact ⟨b, by omega, .prod h⟩
    · exact ⟨b, by omega, h⟩
  · rcases (show k = 0 ∨ k = 1 ∨ k = 2 ∨ k = 3 by omega) with e | e | e | e <;> subst e
    · exact ⟨b + 1, by omega, .sum (.prod (.fac h))⟩
    · exact ⟨b, by omega, .prod (.fac h)⟩
    · exact ⟨b, by omega, .fac h⟩
    · exact ⟨b, by omega, h⟩
theorem Own.says {k j h : Nat} {ws : List Word} {p : Poly} (o : Own j h ws p) (hj : j ≤ 3) (hk : k ≤ j) : Says k h ws p := by
  obtain ⟨n, b, r, hn, hb⟩ := o.ex
  obtain ⟨b', hb', r'⟩ := r.lift hj hk
  exact ⟨⟨n, b', r', by omega, by omega⟩, by have := o.len; omega, o.each⟩
theorem Own.par {k j h : Nat} {ws : List Word} {p : Poly} (o : Own j h ws p) (hj : j ≤ 3) (hk : k ≤ 3) : Says k h ([40] :: (ws ++ [[41]])) p := by
  obtain ⟨n, b, r, hn, hb⟩ := o.ex
  obtain ⟨b1, hb1, r1⟩ := r.lift hj (Nat.zero_le j)
  have r2 : Rd (catOf 3) (n + 1) ([40] :: (ws ++ [[41]])) (some p) b1 := .par r1
  obtain ⟨b2, hb2, r3⟩ := r2.lift (Nat.le_refl 3) hk
  refine ⟨⟨n + 1, b2, r3, by omega, by omega⟩, ?_, fun w hw => ?_⟩
  · have := o.len
    rw [List.length_cons, List.length_append]
    show ws.length + 1 + 1 ≤ _
    omega
  · rcases List.mem_cons.mp hw with e | hw
    · rw [e]; decide
    · rcases List.mem_append.mp hw with hw | hw
      · exact o.each w hw
      · have : w = [41] := by simpa using hw
        rw [this]; decide
theorem own_x (h : Nat) {k : Nat} (hk : k < 4) : Own 3 h [[letters.getD k 0]] (T.x k).val := by
  refine ⟨⟨0, 1, .var hk, Nat.zero_le _, ?_⟩, ?_, fun w hw => ?_⟩
  · have := bdF_ge h
    omega
  · have := wcF_ge h
    show 1 + 2 ≤ _
    omega
  · have e : w = [letters.getD k 0] := by simpa using hw
    rw [e]; exact (by decide : 1 ≤ 40)
theorem own_n (h : Nat) {v : Nat} {w : Word} (hw : IsNum w) (e : numVal w = v) (hl : w.length ≤ 30) : Own 3 h [w] (T.n v).val := by
  refine ⟨⟨0, 100, ?_, Nat.zero_le _, bdF_ge h⟩, wcF_ge h, fun u hu => ?_⟩
  · have : vnum w = some (T.n v).val := by
      unfold vnum
      rw [if_neg (by omega), e]; rfl
    rw [← this]
    exact .num hw
  · have : u = w := by simpa using hu
    rw [this]; omega
theorem own_pow {h : Nat} {t : T} {e : Nat} {ws : List Word} {w : Word} (sm : (T.pow t e).Small) (he : e ≤ 3) (s : Says 3 h ws t.val) (hw : IsNum w) (ew : numVal w = e) (hl : w.length ≤ 30) : Own 2 (h + 1) (ws ++ [[94], w]) (T.pow t e).val := by
  obtain ⟨n, b, r, hn, hb⟩ := s.ex
  have q : vpow (some t.val) w = some (T.pow t e).val := by
    show (if 30 < w.length then none else if 60 < numVal w then none else ppow t.val (numVal w)) = _
    rw [if_neg (by omega), ew, if_neg (by omega), sm.ppow]; rfl
  refine ⟨⟨n, _, by rw [← q]; exact .pow r hw, hn, ?_⟩, ?_, fun u hu => ?_⟩
  · rw [ew]
    have := Nat.mul_le_mul hb (show min e 60 + 1 ≤ 4 by omega)
    show _ ≤ 4 * bdF h + 4
    omega
  · have := s.len
    rw [List.length_append]
    show _ + 2 + 2 ≤ 2 * wcF h + 4
    omega
  · rcases List.mem_append.mp hu with hu | hu
    · exact s.each u hu
    · simp only [List.mem_cons, List.not_mem_nil, or_false] at hu
      rcases hu with e | e <;> rw [e]
      · decide
      · omega
theorem own_mul {h : Nat} {a b : T} {ws us : List Word} (sm : (T.mul a b).Small) (s : Says 1 h ws a.val) (u : Says 2 h us b.val) : Own 1 (h + 1) (ws ++ [[42]] ++ us) (T.mul a b).val := by
  obtain ⟨n, bb, r, hn, hb⟩ := s.ex
  obtain ⟨m, c, r2, hm, hc⟩ := u.ex
  have q : vmul (some a.val) (some b.val) = some (T.mul a b).val := chk_ok sm.ok
  refine ⟨⟨max n m, bb + c, by rw [← q, List.append_assoc]; exact .mul r r2, by omega, ?_⟩, ?_, fun x hx => ?_⟩
  · show _ ≤ 4 * bdF h + 4
    omega
  · have := s.len
    have := u.len
    rw [List.length_append, List.length_append]
    show _ + 1 + _ + 2 ≤ 2 * wcF h + 4
    omega
  · rcases List.mem_append.mp hx with hx | hx
    · rcases List.mem_append.mp hx with hx | hx
      · exact s.each x hx
      · have : x = [42] := by simpa using hx
        rw [this]; decide
    · exact u.each x hx
theorem neg_ok {t : Poly} (h : isGreat t = false) : isGreat (psub [] t) = false := by
  have e : psub [] t = pneg t := rfl
  rw [e]
  cases z : isGreat (pneg t) with
  | false => rfl
  | true =>
    have := (isGreat_iff _).mp z
    have : isGreat t = true := by
      rw [isGreat_iff]
      rcases this with q | ⟨k, hk, p, hp, h6⟩
      · rw [length_pneg] at q; exact .inl q
      · unfold pneg at hp
        obtain ⟨r, hr, rfl⟩ := List.mem_map.mp hp
        exact .inr ⟨k, hk, r, hr, h6⟩
    rw [h] at this; cases this
theorem each_bin {ws us : List Word} {c : Nat} (h1 : ∀ w ∈ ws, w.length ≤ 40) (h2 : ∀ w ∈ us, w.length ≤ 40) : ∀ w ∈ ws ++ [[c]] ++ us, w.length ≤ 40 := fun x hx => by
  rcases List.mem_append.mp hx with hx | hx
  · rcases List.mem_append.mp hx with hx | hx
    · exact h1 x hx
    · have : x = [c] := by simpa using hx
      rw [this]; exact (by decide : 1 ≤ 40)
  · exact h2 x hx
theorem own_add {h : Nat} {a b : T} {ws us : List Word} (sm : (T.bin .add a b).Small) (s : Says 0 h ws a.val) (u : Says 1 h us b.val) : Own 0 (h + 1) (ws ++ [[43]] ++ us) (T.bin .add a b).val := by
  obtain ⟨n, bb, r, hn, hb⟩ := s.ex
  obtain ⟨m, c, r2, hm, hc⟩ := u.ex
  have q : vadd (some a.val) (some b.val) = some (T.bin .add a b).val := chk_ok sm.ok
  refine ⟨⟨max n m, bb + c + 1, by rw [← q, List.append_assoc]; exact .add r r2, by omega, ?_⟩, ?_, each_bin s.each u.each⟩
  · show _ ≤ 4 * bdF h + 4
    omega
  · have := s.len
    have := u.len
    rw [List.length_append, List.length_append]
    show _ + 1 + _ + 2 ≤ 2 * wcF h + 4
    omega
theorem own_sub {h : Nat} {a b : T} {ws us : List Word} (sm : (T.bin .sub a b).Small) (s : Says 0 h ws a.val) (u : Says 1 h us b.val) : Own 0 (h + 1) (ws ++ [[45]] ++ us) (T.bin .sub a b).val := by
  obtain ⟨n, bb, r, hn, hb⟩ := s.ex
  obtain ⟨m, c, r2, hm, hc⟩ := u.ex
  have q : vsub (some a.val) (some b.val) = some (T.bin .sub a b).val := chk_ok sm.ok
  refine ⟨⟨max n m, bb + c + 1, by rw [← q, List.append_assoc]; exact .sub r r2, by omega, ?_⟩, ?_, each_bin s.each u.each⟩
  · show _ ≤ 4 * bdF h + 4
    omega
  · have := s.len
    have := u.len
    rw [List.length_append, List.length_append]
    show _ + 1 + _ + 2 ≤ 2 * wcF h + 4
    omega
theorem own_und {h : Nat} {a b : T} {ws us : List Word} (sm : (T.bin .und a b).Small) (s : Says 1 h ws a.val) (u : Says 1 h us b.val) : Own 0 (h + 1) ([[45]] ++ ws ++ [[43]] ++ us) (T.bin .und a b).val := by
  obtain ⟨n, bb, r, hn, hb⟩ := s.ex
  obtain ⟨m, c, r2, hm, hc⟩ := u.ex
  have q1 : vsub (some []) (some a.val) = some (psub [] a.val) := chk_ok (neg_ok sm.bin.1.ok)
  have e : padd (psub [] a.val) b.val = psub b.val a.val := neg_add a.val_ca b.val_ca
  have q : vadd (some (psub [] a.val)) (some b.val) = some (T.bin .und a b).val := by
    show chk (padd (psub [] a.val) b.val) = _
    rw [e]
    exact chk_ok sm.ok
  have r1 : Rd .sum n ([45] :: ws) (some (psub [] a.val)) (bb + 1) := by rw [← q1]; exact .neg r
  refine ⟨⟨max n m, bb + 1 + c + 1, by rw [← q, List.append_assoc]; exact .add r1 r2, by omega, ?_⟩, ?_, each_bin (fun w hw => ?_) u.each⟩
  · show _ ≤ 4 * bdF h + 4
    omega
  · have := s.len
    have := u.len
    rw [List.length_append, List.length_append, List.length_append]
    show 1 + _ + 1 + _ + 2 ≤ 2 * wcF h + 4
    omega
  · rcases List.mem_append.mp hw with hw | hw
    · have : w = [45] := by simpa using hw
      rw [this]; decide
    · exact s.each w hw
/-- brackets around a sum -/
theorem Rd.deep {n : Nat} {ws : List Word} {v : Option Poly} {b : Nat} (h : Rd .sum n ws v b) : ∀ k, Rd .sum (n + k) (List.replicate k [40] ++ ws ++ List.replicate k [41]) v (b + k)
  | 0 => by simpa using h
  | k + 1 => by
    have r := h.deep k
    have r2 : Rd .sum (n + k + 1) ([40] :: ((List.replicate k [40] ++ ws ++ List.replicate k [41]) ++ [[41]])) v (b + k + 1) := .sum (.prod (.fac (.par r)))
    have e : List.replicate (k + 1) ([40] : Word) ++ ws ++ List.replicate (k + 1) [41] = [40] :: ((List.replicate k [40] ++ ws ++ List.replicate k [41]) ++ [[41]]) := by
      rw [List.replicate_succ, List.replicate_succ', List.cons_append, List.cons_append, List.append_assoc, List.append_assoc, List.append_assoc]
    rw [e]; exact r2
/-- every word of what means something is a word -/
theorem Rd.words {c : Cat} {n : Nat} {ws : List Word} {v : Option Poly} {b : Nat} (h : Rd c n ws v b) : ∀ w ∈ ws, IsWord w := by
  have one : ∀ {c : Nat} {w : Word}, w = [c] → isDig c = false → c ≠ 32 → IsWord w := fun e h1 h2 => .inl ⟨_, e, h1, h2⟩
  induction h with
  | @num u hw =>
    intro w h
    have : w = u := by simpa using h
    rw [this]; exact .inr hw
  | @var k hk =>
    intro w h
    have e : w = [letters.getD k 0] := by simpa using h
    rcases (show k = 0 ∨ k = 1 ∨ k = 2 ∨ k = 3 by omega) with z | z | z | z <;> subst z <;> exact one e (by decide) (by decide)
  | par _ ih =>
    intro w h
    rcases List.mem_cons.mp h with e | h
    · exact one e (by decide) (by decide)
    · rcases List.mem_append.mp h with h | h
      · exact ih w h
      · exact one (by simpa using h) (by decide) (by decide)
  | fac _ ih => exact ih
  | pow _ hw ih =>
    intro w h
    rcases List.mem_append.mp h with h | h
    · exact ih w h
    · simp only [List.mem_cons, List.not_mem_nil, or_false] at h
      rcases h with e | e
      · exact one e (by decide) (by decide)
      · rw [e]; exact .inr hw
  | prod _ ih => exact ih
  | mul _ _ ih1 ih2 =>
    intro w h
    rcases List.mem_append.mp h with h | h
    · exact ih1 w h
    · rcases List.mem_cons.mp h with e | h
      · exact one e (by decide) (by decide)
      · exact ih2 w h
  | sum _ ih => exact ih
  | neg _ ih =>
    intro w h
    rcases List.mem_cons.mp h with e | h
    · exact one e (by decide) (by decide)
    · exact ih w h
  | add _ _ ih1 ih2 =>
    intro w h
    rcases List.mem_append.mp h with h | h
    · exact ih1 w h
    · rcases List.mem_cons.mp h with e | h
      · exact one e (by decide) (by decide)
      · exact ih2 w h
  | sub _ _ ih1 ih2 =>
    intro w h
    rcases List.mem_append.mp h with h | h
    · exact ih1 w h
    · rcases List.mem_cons.mp h with e | h
      · exact one e (by decide) (by decide)
      · exact ih2 w h
end K46

/-! # The great ones, in plain Lean -/
namespace K46
open PySem PySem.Spec PyProof.Rows L2
/-- the text cs says o -/
def GreatOk (cs : List Nat) (o : Option Poly) : Prop := cs.length ≤ 100000 ∧ ∃ (toks : List (Word × Nat)) (n : Nat) (v : Option Poly) (b : Nat), TokR cs 0 toks ∧ Rd .sum n (toks.map (·.1)) v b ∧ b ≤ 100000 ∧ (if 20 < n then none else v) = o
theorem great_of {ps : List (Nat × Word)} {n b : Nat} {v : Option Poly} (hok : OkP false ps) (rd : Rd .sum n (ps.map (·.2)) v b) (hb : b ≤ 100000) (hl : (flat ps).length ≤ 100000) : GreatOk (flat ps) (if 20 < n then none else v) := by
  obtain ⟨toks, t1, t2⟩ := tok_flat 0 hok
  exact ⟨hl, toks, n, v, b, t1, by rw [t2]; exact rd, hb, rfl⟩
theorem okP_sign {d : Bool} {k c : Nat} {r : List (Nat × Word)} (h1 : isDig c = false) (h2 : c ≠ 32) (h : OkP false r) : OkP d ((k, [c]) :: r) := by
  have e : endsDig [c] = false := by
    show (isDig c || false) = false
    rw [h1]; rfl
  refine ⟨.inl ⟨c, rfl, h1, h2⟩, fun _ z => ?_, ?_⟩
  · have z' : endsDig [c] = true := z
    rw [e] at z'; cases z'
  · show OkP (endsDig [c]) r
    rw [e]; exact h
theorem okP_num {k : Nat} {w : Word} {r : List (Nat × Word)} (hw : IsNum w) (h : OkP true r) : OkP false ((k, w) :: r) :=
  ⟨.inr hw, fun z => absurd z Bool.false_ne_true, by show OkP (endsDig w) r; rw [hw.ends]; exact h⟩
theorem okP_let {d : Bool} {k j : Nat} {r : List (Nat × Word)} (hk : k < 4) (h : OkP false r) : OkP d ((j, [letters.getD k 0]) :: r) := by
  rcases (show k = 0 ∨ k = 1 ∨ k = 2 ∨ k = 3 by omega) with e | e | e | e <;> subst e <;> exact okP_sign (by decide) (by decide) h
theorem isNum_numL (n : Nat) : IsNum (TL.numL n) := ⟨TL.numL_ne n, TL.numL_digits n⟩
theorem numVal_numL (n : Nat) : numVal (TL.numL n) = n := TL.numL_val n
theorem numL_len2 {n : Nat} (h : n < 100) : (TL.numL n).length ≤ 2 := TL.numL_len (by decide) (by show n < 10 ^ 2; omega)
theorem unit_zero (k : Nat) : unit k 0 = (0, 0, 0, 0) := by
  unfold unit
  simp
theorem unit_succ (k : Nat) (n : Nat) : madd (unit k n) (unit k 1) = unit k ((n + 1 : Nat) : Int) := by
  unfold unit madd
  refine mon_ext ?_ ?_ ?_ ?_ <;> (simp only []; split <;> omega)
theorem pmul_one (m m' : Mon) (c c' : Int) : pmul [(m, c)] [(m', c')] = [(madd m m', c * c')] := rfl
theorem lpow_pvar (k : Nat) : ∀ n : Nat, lpow (pvar k) n = [(unit k n, 1)]
  | 0 => by
    show pconst 1 = _
    rw [show ((0 : Nat) : Int) = 0 from rfl, unit_zero]; rfl
  | n + 1 => by
    show pmul (lpow (pvar k) n) (pvar k) = _
    rw [lpow_pvar k n]
    show [(madd (unit k n) (unit k 1), (1 : Int) * 1)] = _
    rw [unit_succ]; rfl
theorem ppow_pvar {k n : Nat} (h : n ≤ 60) : ppow (pvar k) n = some (lpow (pvar k) n) :=
  ppow_small fun j _ h2 => not_great (by rw [lpow_pvar]; show 1 ≤ 300; decide) (((low_pvar k).pow j).mono (by omega))
/-- a power of an unknown -/
theorem vpow_pvar {k n : Nat} (h : n < 100) : vpow (some (pvar k)) (TL.numL n) = if 60 < n then none else some (lpow (pvar k) n) := by
  have hl := numL_len2 h
  show (if 30 < (TL.numL n).length then none else if 60 < numVal (TL.numL n) then none else ppow (pvar k) (numVal (TL.numL n))) = _
  rw [if_neg (by omega), numVal_numL]
  by_cases c : 60 < n
  · rw [if_pos c, if_pos c]
  · rw [if_neg c, if_neg c, ppow_pvar (by omega)]
theorem rd_pow {k n : Nat} (hk : k < 4) (h : n < 100) : Rd .fac 0 [[letters.getD k 0], [94], TL.numL n] (if 60 < n then none else some (lpow (pvar k) n)) (1 * (min n 60 + 1) + 1) := by
  have := Rd.pow (.var hk) (isNum_numL n)
  rw [vpow_pvar h, numVal_numL] at this
  exact this
theorem rd_num (n : Nat) (h : n < 100) : Rd .base 0 [TL.numL n] (some (pconst n)) 100 := by
  have := Rd.num (isNum_numL n)
  have hl := numL_len2 h
  unfold vnum at this
  rw [if_neg (by omega), numVal_numL] at this
  exact this
/-! ### kind 0 -/
theorem great0 {k m : Nat} (hk : k < 4) (hm : m < 100) : GreatOk ([letters.getD k 0] ++ [94] ++ TL.numL m) (if 60 < m then none else some (lpow (pvar k) m)) := by
  have hl := numL_len2 hm
  have := great_of (ps := [(0, [letters.getD k 0]), (0, [94]), (0, TL.numL m)]) (okP_let hk (okP_sign (by decide) (by decide) (okP_num (isNum_numL m) trivial))) (.sum (.prod (rd_pow hk hm))) (by omega) (by simp [flat]; omega)
  have e : flat [(0, [letters.getD k 0]), (0, [94]), (0, TL.numL m)] = [letters.getD k 0] ++ [94] ++ TL.numL m := by simp [flat]
  rw [e] at this
  rw [if_neg (by decide)] at this
  exact this
/-! ### kind 1 -/
def tst1 (k m : Nat) : Bool := decide (vmul (some [(unit k ((m - 30 : Nat) : Int), 1)]) (vadd (some (pconst 1)) (some [(unit k 30, 1)])) = if 60 < m then none else some (padd [(unit k ((m - 30 : Nat) : Int), 1)] [(unit k (m : Nat), 1)]))
theorem kind1 : ∀ k, k < 4 → ∀ m, 58 ≤ m → m ≤ 63 → vmul (some (lpow (pvar k) (m - 30))) (vadd (some (pconst 1)) (some (lpow (pvar k) 30))) = if 60 < m then none else some (padd (lpow (pvar k) (m - 30)) (lpow (pvar k) m)) := by
  intro k hk m h1 h2
  have this : ∀ k ∈ [0, 1, 2, 3], ∀ m ∈ [58, 59, 60, 61, 62, 63], tst1 k m = true := by decide +kernel
  rw [lpow_pvar, lpow_pvar, lpow_pvar]
  exact of_decide_eq_true (this k (by simp; omega) m (by simp; omega))
theorem great1 {k m : Nat} (hk : k < 4) (h1 : 58 ≤ m) (h2 : m ≤ 63) : GreatOk ([letters.getD k 0] ++ [94] ++ TL.numL (m - 30) ++ [32, 42, 32, 40, 49, 32, 43, 32] ++ [letters.getD k 0] ++ [94, 51, 48, 41]) (if 60 < m then none else some (padd (lpow (pvar k) (m - 30)) (lpow (pvar k) m))) := by
  have hl := numL_len2 (show m - 30 < 100 by omega)
  have e49 : TL.numL 1 = [49] := by decide +kernel
  have e30 : TL.numL 30 = [51, 48] := by decide +kernel
  have r1 := rd_pow hk (show m - 30 < 100 by omega)
  rw [if_neg (by omega)] at r1
  have r2 := rd_pow hk (show 30 < 100 by omega)
  rw [if_neg (by omega), e30] at r2
  have r3 := rd_num 1 (by decide)
  rw [e49] at r3
  have r4 : Rd .sum (max (max 0 0) (max 0 (max 0 0) + 1)) _ _ _ := .sum (.mul (.prod r1) (.fac (.par (.add (.sum (.prod (.fac r3))) (.prod r2)))))
  rw [show ((1 : Nat) : Int) = 1 from rfl, kind1 k hk m h1 h2] at r4
  have := great_of (ps := [(0, [letters.getD k 0]), (0, [94]), (0, TL.numL (m - 30)), (1, [42]), (1, [40]), (0, [49]), (1, [43]), (1, [letters.getD k 0]), (0, [94]), (0, [51, 48]), (0, [41])])
    (okP_let hk (okP_sign (by decide) (by decide) (okP_num (isNum_numL _) (okP_sign (by decide) (by decide) (okP_sign (by decide) (by decide) (okP_num (e49 ▸ isNum_numL 1) (okP_sign (by decide) (by decide) (okP_let hk (okP_sign (by decide) (by decide) (okP_num (e30 ▸ isNum_numL 30) (okP_sign (by decide) (by decide) trivial))))))))))) r4 (by omega) (by simp [flat]; omega)
  have e : flat [(0, [letters.getD k 0]), (0, [94]), (0, TL.numL (m - 30)), (1, [42]), (1, [40]), (0, [49]), (1, [43]), (1, [letters.getD k 0]), (0, [94]), (0, [51, 48]), (0, [41])] = [letters.getD k 0] ++ [94] ++ TL.numL (m - 30) ++ [32, 42, 32, 40, 49, 32, 43, 32] ++ [letters.getD k 0] ++ [94, 51, 48, 41] := by simp [flat, List.replicate]
  rw [e] at this
  rw [if_neg (by decide)] at this
  exact this
/-! ### kind 2 -/
def lawLine : Poly := padd (padd (padd (padd (pconst 1) (pvar 0)) (pvar 1)) (pvar 2)) (pvar 3)
def tst2 (m : Nat) : Bool := decide (ppow lawLine m = if 6 < m then none else some (lpow lawLine m))
theorem kind2 : ∀ m ∈ [5, 6, 7], tst2 m = true := by decide +kernel
theorem kind2len : ∀ j ∈ [0, 1, 2, 3, 4, 5, 6], decide ((lpow lawLine j).length ≤ 900) = true := by decide +kernel
def tst2b : Bool := decide (vadd (vadd (vadd (vadd (some (pvar 0)) (some (pvar 1))) (some (pvar 2))) (some (pvar 3))) (some (pconst 1)) = some lawLine)
theorem kind2b : tst2b = true := by decide +kernel
theorem great2 {m : Nat} (h1 : 5 ≤ m) (h2 : m ≤ 7) : GreatOk ([40, 120, 32, 43, 32, 121, 32, 43, 32, 122, 32, 43, 32, 119, 32, 43, 32, 49, 41, 94] ++ TL.numL m) (if 6 < m then none else some (lpow lawLine m)) := by
  have hl := numL_len2 (show m < 100 by omega)
  have e49 : TL.numL 1 = [49] := by decide +kernel
  have r3 := rd_num 1 (by decide)
  rw [e49] at r3
  have rv : ∀ k, k < 4 → Rd .prod 0 [[letters.getD k 0]] (some (pvar k)) 1 := fun k hk => .prod (.fac (.var hk))
  have r4 := Rd.par (.add (.add (.add (.add (.sum (rv 0 (by decide))) (rv 1 (by decide))) (rv 2 (by decide))) (rv 3 (by decide))) (.prod (.fac r3)))
  rw [show ((1 : Nat) : Int) = 1 from rfl, of_decide_eq_true kind2b] at r4
  have r5 := Rd.sum (.prod (.pow r4 (isNum_numL m)))
  have ev : vpow (some lawLine) (TL.numL m) = if 6 < m then none else some (lpow lawLine m) := by
    show (if 30 < (TL.numL m).length then none else if 60 < numVal (TL.numL m) then none else ppow lawLine (numVal (TL.numL m))) = _
    rw [if_neg (by omega), numVal_numL, if_neg (by omega)]
    exact of_decide_eq_true (kind2 m (by simp; omega))
  rw [ev, numVal_numL] at r5
  have hok : OkP false [(0, [40]), (0, [120]), (1, [43]), (1, [121]), (1, [43]), (1, [122]), (1, [43]), (1, [119]), (1, [43]), (1, [49]), (0, [41]), (0, [94]), (0, TL.numL m)] :=
    okP_sign (by decide) (by decide) (okP_sign (by decide) (by decide) (okP_sign (by decide) (by decide) (okP_sign (by decide) (by decide) (okP_sign (by decide) (by decide) (okP_sign (by decide) (by decide) (okP_sign (by decide) (by decide) (okP_sign (by decide) (by decide) (okP_sign (by decide) (by decide)
      (okP_num (e49 ▸ isNum_numL 1) (okP_sign (by decide) (by decide) (okP_sign (by decide) (by decide) (okP_num (isNum_numL m) trivial))))))))))))
  have := great_of hok r5 (by omega) (by simp [flat]; omega)
  have e : flat [(0, [40]), (0, [120]), (1, [43]), (1, [121]), (1, [43]), (1, [122]), (1, [43]), (1, [119]), (1, [43]), (1, [49]), (0, [41]), (0, [94]), (0, TL.numL m)] = [40, 120, 32, 43, 32, 121, 32, 43, 32, 122, 32, 43, 32, 119, 32, 43, 32, 49, 41, 94] ++ TL.numL m := by simp [flat, List.replicate]
  rw [e] at this
  rw [if_neg (by decide)] at this
  exact this
/-! ### kind 4 -/
theorem great4 {k : Nat} {w : Word} (hk : k < 4) (hw : IsNum w) (hl : w.length ≤ 31) : GreatOk ([letters.getD k 0] ++ [32, 43, 32] ++ w) (if 30 < w.length then none else some (padd (pvar k) (pconst (numVal w)))) := by
  have r := Rd.add (.sum (.prod (.fac (.var hk)))) (.prod (.fac (.num hw)))
  have ev : vadd (some (pvar k)) (vnum w) = if 30 < w.length then none else some (padd (pvar k) (pconst (numVal w))) := by
    unfold vnum
    by_cases c : 30 < w.length
    · rw [if_pos c, if_pos c]; rfl
    · rw [if_neg c, if_neg c]
      refine chk_ok (not_great ?_ ?_)
      · have := length_padd (pvar k) (pconst (numVal w))
        have := length_pconst (numVal w : Int)
        have : (pvar k).length = 1 := rfl
        omega
      · exact ((low_pvar k).add (low_pconst _ 1)).mono (by decide)
  rw [ev] at r
  have := great_of (ps := [(0, [letters.getD k 0]), (1, [43]), (1, w)]) (okP_let hk (okP_sign (by decide) (by decide) (okP_num hw trivial))) r (by omega) (by simp [flat]; omega)
  have e : flat [(0, [letters.getD k 0]), (1, [43]), (1, w)] = [letters.getD k 0] ++ [32, 43, 32] ++ w := by simp [flat, List.replicate]
  rw [e] at this
  rw [if_neg (by decide)] at this
  exact this
/-! ### kind 5 -/
theorem flat_ones : ∀ l : List Nat, flat (l.map fun c => (0, [c])) = l
  | [] => rfl
  | c :: l => by
    rw [List.map_cons]
    show [] ++ [c] ++ flat (l.map fun c => (0, [c])) = _
    rw [flat_ones l]; rfl
theorem okP_ones : ∀ {l : List Nat} {d : Bool}, (∀ c ∈ l, isDig c = false ∧ c ≠ 32) → OkP d (l.map fun c => (0, [c]))
  | [], _, _ => trivial
  | c :: l, d, h => okP_sign (h c (List.mem_cons_self ..)).1 (h c (List.mem_cons_self ..)).2 (okP_ones fun e he => h e (List.mem_cons_of_mem _ he))
theorem great5 {k m : Nat} (hk : k < 4) (hm : m ≤ 100) : GreatOk (List.replicate m 40 ++ [letters.getD k 0] ++ List.replicate m 41) (if 20 < m then none else some (pvar k)) := by
  have r := (Rd.sum (.prod (.fac (.var hk)))).deep m
  have e1 : ((List.replicate m 40 ++ [letters.getD k 0] ++ List.replicate m 41).map fun c => ((0 : Nat), ([c] : Word))).map (fun q : Nat × Word => q.2) = List.replicate m [40] ++ [[letters.getD k 0]] ++ List.replicate m [41] := by
    rw [List.map_map, List.map_append, List.map_append, List.map_replicate, List.map_replicate]
    rfl
  have := great_of (ps := (List.replicate m 40 ++ [letters.getD k 0] ++ List.replicate m 41).map fun c => ((0 : Nat), ([c] : Word))) (okP_ones fun c hc => ?_) (by rw [e1]; exact r) (by omega) ?_
  · rw [flat_ones, Nat.zero_add] at this
    exact this
  · rcases List.mem_append.mp hc with hc | hc
    · rcases List.mem_append.mp hc with hc | hc
      · rw [List.eq_of_mem_replicate hc]; decide
      · have : c = letters.getD k 0 := by simpa using hc
        rw [this]
        rcases (show k = 0 ∨ k = 1 ∨ k = 2 ∨ k = 3 by omega) with e | e | e | e <;> subst e <;> decide
    · rw [List.eq_of_mem_replicate hc]; decide
  · rw [flat_ones, List.length_append, List.length_append, List.length_replicate, List.length_replicate]
    show m + 1 + m ≤ _
    omega
/-! ### kind 6 -/
def tst6 (k m : Nat) : Bool := decide (vmul (vmul (some [(unit k 40, 1)]) (some [(unit k ((m - 40 : Nat) : Int), 1)])) (some (pconst 0)) = if 60 < m then none else some [])
theorem kind6 : ∀ k ∈ [0, 1, 2, 3], ∀ m ∈ [58, 59, 60, 61, 62, 63], tst6 k m = true := by decide +kernel
theorem great6 {k m : Nat} (hk : k < 4) (h1 : 58 ≤ m) (h2 : m ≤ 63) : GreatOk ([letters.getD k 0] ++ [94, 52, 48, 32, 42, 32] ++ [letters.getD k 0] ++ [94] ++ TL.numL (m - 40) ++ [32, 42, 32, 48]) (if 60 < m then none else some []) := by
  have hl := numL_len2 (show m - 40 < 100 by omega)
  have e48 : TL.numL 0 = [48] := by decide +kernel
  have e40 : TL.numL 40 = [52, 48] := by decide +kernel
  have r1 := rd_pow hk (show 40 < 100 by decide)
  rw [if_neg (by decide), e40, lpow_pvar] at r1
  have r2 := rd_pow hk (show m - 40 < 100 by omega)
  rw [if_neg (by omega), lpow_pvar] at r2
  have r3 := rd_num 0 (by decide)
  rw [e48] at r3
  have r4 := Rd.sum (.mul (.mul (.prod r1) r2) (.fac r3))
  have ev := of_decide_eq_true (kind6 k (by simp; omega) m (by simp; omega))
  rw [show ((0 : Nat) : Int) = 0 from rfl, show (((40 : Nat)) : Int) = 40 from rfl, ev] at r4
  have := great_of (ps := [(0, [letters.getD k 0]), (0, [94]), (0, [52, 48]), (1, [42]), (1, [letters.getD k 0]), (0, [94]), (0, TL.numL (m - 40)), (1, [42]), (1, [48])])
    (okP_let hk (okP_sign (by decide) (by decide) (okP_num (e40 ▸ isNum_numL 40) (okP_sign (by decide) (by decide) (okP_let hk (okP_sign (by decide) (by decide) (okP_num (isNum_numL _) (okP_sign (by decide) (by decide) (okP_num (e48 ▸ isNum_numL 0) trivial))))))))) r4 (by omega) (by simp [flat]; omega)
  have e : flat [(0, [letters.getD k 0]), (0, [94]), (0, [52, 48]), (1, [42]), (1, [letters.getD k 0]), (0, [94]), (0, TL.numL (m - 40)), (1, [42]), (1, [48])] = [letters.getD k 0] ++ [94, 52, 48, 32, 42, 32] ++ [letters.getD k 0] ++ [94] ++ TL.numL (m - 40) ++ [32, 42, 32, 48] := by simp [flat, List.replicate]
  rw [e] at this
  rw [if_neg (by decide)] at this
  exact this
/-! ### kind 7 -/
def tst7 (k m : Nat) : Bool := decide (vpow (vsub (some [(unit k (m : Int), 1)]) (some [(unit k (m : Int), 1)])) [50] = some [])
theorem kind7 : ∀ k ∈ [0, 1, 2, 3], ∀ m ∈ [58, 59, 60], tst7 k m = true := by decide +kernel
theorem great7 {k m : Nat} (hk : k < 4) (h1 : 58 ≤ m) (h2 : m ≤ 63) : GreatOk ([40] ++ [letters.getD k 0] ++ [94] ++ TL.numL m ++ [32, 45, 32] ++ [letters.getD k 0] ++ [94] ++ TL.numL m ++ [41, 94, 50]) (if 60 < m then none else some []) := by
  have hl := numL_len2 (show m < 100 by omega)
  have e50 : TL.numL 2 = [50] := by decide +kernel
  have r1 := rd_pow hk (show m < 100 by omega)
  have r4 := Rd.sum (.prod (.pow (.par (.sub (.sum (.prod r1)) (.prod r1))) (e50 ▸ isNum_numL 2 : IsNum [50])))
  have ev : vpow (vsub (if 60 < m then none else some (lpow (pvar k) m)) (if 60 < m then none else some (lpow (pvar k) m))) [50] = if 60 < m then none else some [] := by
    by_cases c : 60 < m
    · rw [if_pos c, if_pos c]; rfl
    · rw [if_neg c, if_neg c, lpow_pvar]
      exact of_decide_eq_true (kind7 k (by simp; omega) m (by simp; omega))
  rw [ev] at r4
  have e2 : numVal [50] = 2 := by decide +kernel
  rw [e2] at r4
  have := great_of (ps := [(0, [40]), (0, [letters.getD k 0]), (0, [94]), (0, TL.numL m), (1, [45]), (1, [letters.getD k 0]), (0, [94]), (0, TL.numL m), (0, [41]), (0, [94]), (0, [50])])
    (okP_sign (by decide) (by decide) (okP_let hk (okP_sign (by decide) (by decide) (okP_num (isNum_numL m) (okP_sign (by decide) (by decide) (okP_let hk (okP_sign (by decide) (by decide) (okP_num (isNum_numL m) (okP_sign (by decide) (by decide) (okP_sign (by decide) (by decide) (okP_num (e50 ▸ isNum_numL 2) trivial))))))))))) r4 (by rw [show min 2 60 + 1 = 3 from rfl]; omega) (by simp [flat]; omega)
  have e : flat [(0, [40]), (0, [letters.getD k 0]), (0, [94]), (0, TL.numL m), (1, [45]), (1, [letters.getD k 0]), (0, [94]), (0, TL.numL m), (0, [41]), (0, [94]), (0, [50])] = [40] ++ [letters.getD k 0] ++ [94] ++ TL.numL m ++ [32, 45, 32] ++ [letters.getD k 0] ++ [94] ++ TL.numL m ++ [41, 94, 50] := by simp [flat, List.replicate]
  rw [e] at this
  rw [if_neg (by decide)] at this
  exact this
/-! ### kind 3 -/
def monI (i : Nat) : Mon := (((i / 60 : Nat) : Int), ((i % 60 : Nat) : Int), 0, 0)
def manyM (n : Nat) : Poly := (List.range n).map fun i => (monI i, 1)
theorem manyM_succ (n : Nat) : manyM (n + 1) = manyM n ++ [(monI n, 1)] := by
  unfold manyM
  rw [List.range_succ, List.map_append]; rfl
theorem monI_lt {i n : Nat} (h : i < n) : mlt (monI i) (monI n) = true := by
  rw [mlt_iff]
  unfold monI
  simp only []
  omega
theorem mrg_snoc {m : Mon} {c : Int} : ∀ (l : Poly), (∀ p ∈ l, mlt p.1 m = true) → mrg l [(m, c)] = l ++ [(m, c)]
  | [], _ => rfl
  | x :: xs, h => by
    have hx := h x (List.mem_cons_self ..)
    rw [mrg_cons, mrgA_cons]
    rw [if_neg (by rw [mlt_asymm hx]; exact Bool.false_ne_true), if_neg (fun e => mlt_ne hx e), mrg_snoc xs fun p hp => h p (List.mem_cons_of_mem _ hp)]
    rfl
theorem manyM_mem {n : Nat} {p : Mon × Int} (h : p ∈ manyM n) : ∃ i, i < n ∧ p = (monI i, 1) := by
  unfold manyM at h
  obtain ⟨i, hi, rfl⟩ := List.mem_map.mp h
  exact ⟨i, List.mem_range.mp hi, rfl⟩
theorem manyM_ca : ∀ n, Canon (manyM n)
  | 0 => Canon.nil
  | n + 1 => by
    refine ⟨?_, fun p hp => ?_⟩
    · rw [manyM_succ]
      refine List.pairwise_append.mpr ⟨(manyM_ca n).srt, List.pairwise_singleton _ _, fun a ha b hb => ?_⟩
      obtain ⟨i, hi, rfl⟩ := manyM_mem ha
      have : b = (monI n, 1) := by simpa using hb
      rw [this]
      exact monI_lt hi
    · obtain ⟨i, hi, rfl⟩ := manyM_mem hp
      exact (by decide : (1 : Int) ≠ 0)
theorem manyM_ok {n : Nat} (h : n ≤ 300) : isGreat (manyM n) = false := by
  refine not_great ?_ fun p hp => ?_
  · unfold manyM
    rw [List.length_map, List.length_range]; exact h
  · obtain ⟨i, hi, rfl⟩ := manyM_mem hp
    unfold monI
    simp only []
    omega
theorem manyM_great : isGreat (manyM 301) = true := (isGreat_iff _).mpr (.inl (by unfold manyM; rw [List.length_map, List.length_range]; decide))
def psI (n : Nat) : List (Nat × Word) := [(if n = 0 then 0 else 1, [120]), (0, [94]), (0, TL.numL (n / 60)), (0, [42]), (0, [121]), (0, [94]), (0, TL.numL (n % 60))]
def ps3 : Nat → List (Nat × Word)
  | 0 => []
  | n + 1 => ps3 n ++ ((if n = 0 then [] else [(1, [43])]) ++ psI n)
theorem okP_app {b : List (Nat × Word)} (hb : ∀ d, OkP d b) : ∀ {a : List (Nat × Word)} {d : Bool}, OkP d a → OkP d (a ++ b)
  | [], d, _ => hb d
  | _ :: _, _, ⟨h1, h2, h3⟩ => ⟨h1, h2, okP_app hb h3⟩
theorem okP_psI (n : Nat) (d : Bool) : OkP d (psI n) :=
  okP_sign (by decide) (by decide) (okP_sign (by decide) (by decide) (okP_num (isNum_numL _) (okP_sign (by decide) (by decide) (okP_sign (by decide) (by decide) (okP_sign (by decide) (by decide) (okP_num (isNum_numL _) trivial))))))
theorem okP_ps3 : ∀ n, OkP false (ps3 n)
  | 0 => trivial
  | n + 1 => okP_app (fun d => by
      by_cases e : n = 0
      · rw [if_pos e]; exact okP_psI n d
      · rw [if_neg e]; exact okP_sign (by decide) (by decide) (okP_psI n false)) (okP_ps3 n)
theorem rd_term {n : Nat} (hn : n < 1000) : ∃ b, b ≤ 124 ∧ Rd .prod 0 ((psI n).map (·.2)) (some [(monI n, 1)]) b := by
  have r1 := rd_pow (k := 0) (by decide) (show n / 60 < 100 by omega)
  rw [if_neg (by omega), lpow_pvar] at r1
  have r2 := rd_pow (k := 1) (by decide) (show n % 60 < 100 by omega)
  rw [if_neg (by omega), lpow_pvar] at r2
  have ev : vmul (some [(unit 0 ((n / 60 : Nat) : Int), 1)]) (some [(unit 1 ((n % 60 : Nat) : Int), 1)]) = some [(monI n, 1)] := by
    have e : pmul [(unit 0 ((n / 60 : Nat) : Int), 1)] [(unit 1 ((n % 60 : Nat) : Int), 1)] = [(monI n, 1)] := by
      rw [pmul_one]
      have e2 : madd (unit 0 ((n / 60 : Nat) : Int)) (unit 1 ((n % 60 : Nat) : Int)) = monI n := by
        unfold unit madd monI
        refine mon_ext ?_ ?_ ?_ ?_ <;> simp
      rw [e2]; rfl
    show chk (pmul _ _) = _
    rw [e]
    refine chk_ok (not_great (by show 1 ≤ 300; decide) fun p hp => ?_)
    have : p = (monI n, 1) := by simpa using hp
    rw [this]
    unfold monI
    simp only []
    omega
  have r3 := Rd.mul (.prod r1) r2
  rw [ev] at r3
  exact ⟨_, by omega, r3⟩
theorem chk_many (n : Nat) (h : n ≤ 301) : chk (manyM n) = if 300 < n then none else some (manyM n) := by
  by_cases c : 300 < n
  · obtain rfl : n = 301 := by omega
    rw [if_pos c]
    unfold chk
    rw [manyM_great]; rfl
  · rw [if_neg c]
    exact chk_ok (manyM_ok (by omega))
theorem rd_many : ∀ n, n < 301 → ∃ b, b ≤ 126 * (n + 1) ∧ Rd .sum 0 ((ps3 (n + 1)).map (·.2)) (if 300 < n + 1 then none else some (manyM (n + 1))) b
  | 0, _ => by
    obtain ⟨b, hb, r⟩ := rd_term (n := 0) (by decide)
    exact ⟨b + 1, by omega, .sum r⟩
  | n + 1, h => by
    obtain ⟨b, hb, r⟩ := rd_many n (by omega)
    obtain ⟨c, hc, r2⟩ := rd_term (n := n + 1) (by omega)
    rw [if_neg (by omega)] at r
    have ev : vadd (some (manyM (n + 1))) (some [(monI (n + 1), 1)]) = if 300 < n + 1 + 1 then none else some (manyM (n + 1 + 1)) := by
      rw [← chk_many (n + 1 + 1) (by omega)]
      show chk (padd _ _) = _
      rw [manyM_succ (n + 1)]
      unfold padd
      rw [mrg_snoc _ fun p hp => by
        obtain ⟨i, hi, rfl⟩ := manyM_mem hp
        exact monI_lt hi]
    have r3 := Rd.add r r2
    rw [ev] at r3
    refine ⟨b + c + 1, by omega, ?_⟩
    have e : (ps3 (n + 1 + 1)).map (fun q : Nat × Word => q.2) = (ps3 (n + 1)).map (fun q : Nat × Word => q.2) ++ [43] :: (psI (n + 1)).map (fun q : Nat × Word => q.2) := by
      show (ps3 (n + 1) ++ ((if n + 1 = 0 then [] else [(1, [43])]) ++ psI (n + 1))).map _ = _
      rw [if_neg (by omega), List.map_append]; rfl
    rw [e]
    exact r3
def partI (n : Nat) : List Nat := [120, 94] ++ TL.numL (n / 60) ++ [42, 121, 94] ++ TL.numL (n % 60)
theorem joinL_snoc (s p : List Nat) : ∀ (l : List (List Nat)), l ≠ [] → TL.joinL s (l ++ [p]) = TL.joinL s l ++ (s ++ p)
  | [], h => absurd rfl h
  | [q], _ => rfl
  | q :: r :: l, _ => by
    show q ++ (s ++ TL.joinL s ((r :: l) ++ [p])) = (q ++ (s ++ TL.joinL s (r :: l))) ++ _
    rw [joinL_snoc s p (r :: l) (by simp), List.append_assoc, List.append_assoc]
theorem flat_ps3 : ∀ n, flat (ps3 n) = TL.joinL [32, 43, 32] ((List.range n).map partI)
  | 0 => rfl
  | 1 => by decide +kernel
  | n + 2 => by
    rw [List.range_succ, List.map_append]
    show _ = TL.joinL [32, 43, 32] ((List.range (n + 1)).map partI ++ [partI (n + 1)])
    rw [joinL_snoc _ _ _ (by rw [List.range_succ]; simp), ← flat_ps3 (n + 1)]
    show flat (ps3 (n + 1) ++ ((if n + 1 = 0 then [] else [(1, [43])]) ++ psI (n + 1))) = _
    rw [if_neg (by omega)]
    unfold flat
    rw [List.flatMap_append]
    congr 1
    unfold psI partI
    rw [if_neg (by omega)]
    simp [List.replicate]
theorem partI_len {n : Nat} (h : n < 1000) : (partI n).length ≤ 9 := by
  have h1 := numL_len2 (show n / 60 < 100 by omega)
  have h2 := numL_len2 (show n % 60 < 100 by omega)
  unfold partI
  simp only [List.length_append, List.length_cons, List.length_nil]
  omega
theorem join_len (n : Nat) : n < 1000 → (TL.joinL [32, 43, 32] ((List.range n).map partI)).length ≤ 12 * n := by
  induction n with
  | zero => intro _; exact Nat.le_refl _
  | succ n ih =>
    intro h
    have ih := ih (by omega)
    have hp := partI_len (show n < 1000 by omega)
    rw [List.range_succ, List.map_append]
    by_cases e : n = 0
    · subst e
      show (partI 0).length ≤ _
      omega
    · show (TL.joinL [32, 43, 32] ((List.range n).map partI ++ [partI n])).length ≤ _
      rw [joinL_snoc _ _ _ (by
        obtain ⟨m, rfl⟩ : ∃ m, n = m + 1 := ⟨n - 1, by omega⟩
        rw [List.range_succ]; simp), List.length_append, List.length_append]
      show _ + (3 + _) ≤ _
      omega
theorem great3 {n : Nat} (h0 : 0 < n) (h : n ≤ 301) : GreatOk (TL.joinL [32, 43, 32] ((List.range n).map partI)) (if 300 < n then none else some (manyM n)) := by
  obtain ⟨m, rfl⟩ : ∃ m, n = m + 1 := ⟨n - 1, by omega⟩
  obtain ⟨b, hb, r⟩ := rd_many m (by omega)
  have := great_of (okP_ps3 (m + 1)) r (by omega) (by rw [flat_ps3]; have := join_len (m + 1) (by omega); omega)
  rw [flat_ps3] at this
  rw [if_neg (by decide)] at this
  exact this
end K46

/-! # The program's polynomials -/
namespace K46
open PySem PySem.Spec PyProof.Rows L2
abbrev top (i : Nat) : Stmt := PySem.BadX.top i

/-! ### RawPoly.__init__ -/
abbrev sRaw : Stmt := inClass (top 14) 0
/-- at a new instance x: it holds the terms -/
def spRaw (C : Addr) : Sp := fun vs H Q _ => ∃ (x dx t : Addr), vs = [.ref x, .ref t] ∧ H x = some (.ins C dx []) ∧ Q .non (upd H x (.ins C dx [("terms", .ref t)]))
section
variable {P : Program} {w : World} {K : PySem.W.Frag} {mg : Str → Option Value} {base : Heap} {C : Addr}
theorem scRaw : FnScope ["self", "terms"] ["self", "terms"] (defScope sRaw) := ⟨rfl, rfl, rfl, by decide +kernel, rfl, by decide +kernel, by decide +kernel⟩
theorem ok_raw (h : HasI K mg "RawPoly" C "RawPoly.__init__" sRaw ["self", "terms"]) (c : Cls K C) (nT : NoAttr K C "terms") : CanI P w K mg base CX0 1 "RawPoly" C ["self", "terms"] (spRaw C) := by
  obtain ⟨f, fd, g, M, F, b⟩ := h.ex
  refine ⟨f, fd, g, M, b, F.ok scRaw (fun vs H Q E h => ?_) (fun cdv A outer s H vs Q E hr h => ?_)⟩
  · obtain ⟨x, dx, t, rfl, _⟩ := h
    rfl
  · obtain ⟨x, dx, t, rfl, hx, k⟩ := h
    refine ⟨_, pss_one (ps_fld (pv 0) (pv 1) rfl), ?_⟩
    exact ⟨_, rfl, _, rfl, x, C, dx, _, rfl, hx, c, nT, (by show 0 < 1000; decide), k⟩

/-! ### poly_from(parts) -/
abbrev sFrom : Stmt := top 15
def spFrom (P : Program) (w : World) (K : PySem.W.Frag) (C : Addr) : Sp := fun vs H Q _ => ∃ (d : Addr) (es : List ME) (t : Poly), vs = [.ref d] ∧ H d = some (dM P w d es) ∧ KeysM K H es ∧ NodupK (pol es) ∧ es.length ≤ 1000000 ∧ Canon t ∧ (∀ m, coef (pol es) m = coef t m) ∧
  ∀ (v : V) (H' : Hp), Same H H' → PolyAt K C H' v t → Q v H'
theorem scFrom : FnScope ["parts", "powers"] ["parts"] (defScope sFrom) := ⟨rfl, rfl, rfl, by decide +kernel, rfl, by decide +kernel, by decide +kernel⟩
theorem ok_from (h : Has K mg "poly_from" sFrom ["parts"]) (CI : CanI P w K mg base CX0 1 "RawPoly" C ["self", "terms"] (spRaw C)) (mT : mg "tuple" = none) (mS : mg "sorted" = none) :
    Can P w K mg base CX0 3 "poly_from" ["parts"] (spFrom P w K C) := by
  obtain ⟨f, fd, g, F, b⟩ := h.ex
  refine ⟨f, fd, g, F.kp, b, F.ok scFrom (fun vs H Q E h => ?_) (fun cdv A outer s H vs Q E hr h => ?_)⟩
  · obtain ⟨d, es, t, rfl, _⟩ := h
    rfl
  · obtain ⟨d, es, t, rfl, hd, hk, hn, hl, hc, hco, k⟩ := h
    refine ⟨_, pss_one (ps_ret (pe_canI CI hr pass0 (pa_cons (pe_callTy call_tuple_of (by rfl) mT (by decide +kernel) (pa_cons
      (pe_lc (own := [("powers", 1)]) (g := gName 1) (tt := tTest (tOp rNe (tItemM P w K (tVar 0) (tVar 1)) (tC (.int 0)))) (by rfl) scFrom.nd (pi_list (pe_callB (cr_sortedMM (by rfl) hr) (by rfl) mS (by decide +kernel) (pa_cons (pv 0) pa_nil)))
        (blkOk_by (own := [("powers", 1)]) (N := ["parts", "powers"]) (sc := defScope sFrom) (by decide +kernel)) (fun _ _ _ _ _ => pg_name (i := 1) scFrom.nd rfl (Or.inl rfl))
        (fun _ _ _ _ _ => pts_one (pt_cmpR op_ne (by exact (pe_itemM (j := 2) hr (pv 0) (pv 1) (fun _ _ => rfl))) pe_int (nomark _)))
        (fun _ _ _ _ _ => pe_tup (pa_cons (pv 1) (pa_cons (by exact (pe_itemM (j := 2) hr (pv 0) (pv 1) (fun _ _ => rfl))) pa_nil)))) pa_nil)) pa_nil))), ?_⟩
    refine ⟨_, rfl, d, es, rfl, hd, hk, fun p bs np hperm hsrt hkeys => ?_⟩
    have s1 : Same H (upd H p (.lst (bs.map fun b => .ref b.1))) := same_new np _
    have lbs : bs.length = es.length := by
      have := hperm.length_eq
      unfold keysOf pol at this
      rw [List.length_map, List.length_map, List.length_map] at this
      exact this
    refine ⟨p, rfl, ⟨_, SqL.of upd_same⟩, fun D hD => ?_⟩
    refine lc_list (K := K) (a := p) (xs := bs.map fun b => V.ref b.1) (fun i H' => Same (upd H p (.lst (bs.map fun b => .ref b.1))) H' ∧ ∃ acc : List V, H' D = some (.lst acc) ∧ acc.length ≤ i ∧ Paired (TermAt K H') acc (nzf (((bs.take i).map (·.2)).map fun m => (m, coef (pol es) m))))
      ⟨same_new hD _, [], upd_same, Nat.zero_le _, .nil⟩ (fun i H' _ hI => SqL.of (hI.1 _ _ upd_same)) ?_ ?_
    · rintro i x H' hi ⟨s2, acc, hDa, hla, hpair⟩
      obtain ⟨b, hb, rfl⟩ : ∃ b, bs[i]? = some b ∧ x = V.ref b.1 := by
        rw [List.getElem?_map] at hi
        cases e : bs[i]? with
        | none => rw [e] at hi; cases hi
        | some b => rw [e] at hi; exact ⟨b, rfl, (Option.some.inj hi).symm⟩
      have hbm : b ∈ bs := List.mem_of_getElem? hb
      have hil : i < bs.length := (List.getElem?_eq_some_iff.mp hb).1
      have sH : Same H H' := s1.trans s2
      have hbH' : SqT K H' b.1 (mtup b.2) := seqT_of sH (hkeys b hbm)
      have hm : hasK (pol es) b.2 = true := hasK_iff.mpr (hperm.mem_iff.mp (List.mem_map_of_mem hbm))
      have M : AtM P w K H' d es (.ref b.1) b.1 b.2 := ⟨sH _ _ hd, fun e he => seqT_of sH (hk e he), hn, rfl, hbH'⟩
      have nx : nzf (((bs.take (i + 1)).map (·.2)).map fun m => (m, coef (pol es) m)) = nzf (((bs.take i).map (·.2)).map fun m => (m, coef (pol es) m)) ++ nzf [(b.2, coef (pol es) b.2)] := by
        rw [take_snoc hb, List.map_append, List.map_append]
        exact List.filter_append ..
      refine ⟨rfl, _, rfl, _, rfl, d, es, b.1, b.2, rfl, M, hm, rfl, _, rfl, ?_⟩
      refine ite2 (fun c => ?_) (fun c => ?_)
      · have c0 : coef (pol es) b.2 ≠ 0 := by simpa using c
        refine ⟨_, rfl, _, rfl, _, rfl, d, es, b.1, b.2, rfl, M, hm, by show 2 ≤ sizeLine; decide, fun q hq => ⟨acc, ?_, lt_line (by omega), ?_⟩⟩
        · rw [upd_ne (ne_of_none hDa hq)]; exact hDa
        · have nqD : q ≠ D := fun e => by rw [e, hDa] at hq; cases hq
          have hDq : upd H' q (.tup [.ref b.1, .int (coef (pol es) b.2)]) D = some (.lst acc) := by rw [upd_ne (Ne.symm nqD)]; exact hDa
          refine ⟨fun a o e => ?_, acc ++ [.ref q], upd_same, by rw [List.length_append]; simp; omega, ?_⟩
          · have naD : a ≠ D := ne_of_none e hD
            rw [upd_ne naD]
            exact (same_new hq _) _ _ (s2 _ _ e)
          · rw [nx]
            have e1 : nzf [(b.2, coef (pol es) b.2)] = [(b.2, coef (pol es) b.2)] := nzf_all fun p hp => by
              have : p = (b.2, coef (pol es) b.2) := by simpa using hp
              rw [this]; exact c0
            rw [e1]
            refine Paired.snoc (Paired.mapP hpair fun v p h => (TermAt.mono h (same_new hq _)).upd hDq trivial) ?_
            exact TermAt.upd (p := (b.2, coef (pol es) b.2)) ⟨q, b.1, rfl, upd_same, seqT_of (same_new hq _) hbH'⟩ hDq trivial
      · have c0 : coef (pol es) b.2 = 0 := by simpa using c
        refine ⟨s2, acc, hDa, by omega, ?_⟩
        rw [nx]
        have e1 : nzf [(b.2, coef (pol es) b.2)] = [] := by
          unfold nzf
          rw [List.filter_cons, if_neg (by simpa using c0)]; rfl
        rw [e1, List.append_nil]
        exact hpair
    · rintro H' ⟨s2, acc, hDa, hla, hpair⟩
      rw [List.length_map, List.take_length] at hpair
      have fin : nzf ((bs.map (·.2)).map fun m => (m, coef (pol es) m)) = t := termsOf_is hn hperm (List.pairwise_map.mpr hsrt) hc hco
      rw [fin] at hpair
      refine ⟨D, acc, rfl, .inl ⟨SqL.of hDa, fun l hl => ?_⟩⟩
      intro x dx nx ndx nex
      have s3 : Same H' (upd H' l (.tup acc)) := same_new hl _
      have up : Same (upd H' l (.tup acc)) (upd (upd (upd (upd H' l (.tup acc)) dx (.own x)) x (.ins C dx [])) x (.ins C dx [("terms", .ref l)])) := fun a o e => by
        rw [upd_ne (ne_of_none e nx), upd_ne (ne_of_none e nx), upd_ne (ne_of_none e ndx)]
        exact e
      refine ⟨x, dx, l, rfl, upd_same, rfl, k _ _ (s1.trans (s2.trans (s3.trans up))) ?_⟩
      exact ⟨x, dx, l, rfl, upd_same, acc, up _ _ upd_same, Paired.mapP hpair fun v p h => TermAt.mono (TermAt.mono h s3) up⟩

/-! ### constant(number) -/
abbrev sConst : Stmt := top 16
/-- a new polynomial t -/
abbrev NewPoly (K : PySem.W.Frag) (C : Addr) (H : Hp) (Q : VK) (t : Poly) : Prop := ∀ (v : V) (H' : Hp), Same H H' → PolyAt K C H' v t → Q v H'
def spConst (K : PySem.W.Frag) (C : Addr) : Sp := fun vs H Q _ => ∃ n : Int, vs = [.int n] ∧ NewPoly K C H Q (pconst n)
theorem scConst : FnScope ["number"] ["number"] (defScope sConst) := ⟨rfl, rfl, rfl, by decide +kernel, rfl, by decide +kernel, by decide +kernel⟩
theorem ok_const (h : Has K mg "constant" sConst ["number"]) (CF : Can P w K mg base CX0 3 "poly_from" ["parts"] (spFrom P w K C)) {z : Addr} (gZ : mg "NO_POWERS" = some (.ref z)) (hZ : ∀ H : Hp, SqT K H z (mtup (0, 0, 0, 0))) :
    Can P w K mg base CX0 4 "constant" ["number"] (spConst K C) := by
  obtain ⟨f, fd, g, F, b⟩ := h.ex
  refine ⟨f, fd, g, F.kp, b, F.ok scConst (fun vs H Q E h => ?_) (fun cdv A outer s H vs Q E hr h => ?_)⟩
  · obtain ⟨n, rfl, _⟩ := h
    rfl
  · obtain ⟨n, rfl, k⟩ := h
    refine ⟨_, pss_one (ps_ret (pe_can CF hr pass0 (pa_cons (pe_oneM hr (pe_glob (v := .ref z) (by rfl) gZ rfl) (pv 0)) pa_nil))), ?_⟩
    intro p hp
    refine ⟨_, rfl, z, (0, 0, 0, 0), n, rfl, rfl, upd_same, hZ _, p, [(z, (0, 0, 0, 0), n)], pconst n, rfl, upd_same, ?_, ?_, ?_, canon_pconst n, fun m => ?_, ?_⟩
    · intro e he
      have : e = (z, (0, 0, 0, 0), n) := by simpa using he
      rw [this]; exact hZ _
    · unfold NodupK pol; simp
    · exact (by decide : 1 ≤ 1000000)
    · rw [coef_pconst]
      show (if (0, 0, 0, 0) = m then n else 0) + 0 = _
      omega
    · intro v H' s1 hv
      refine k v H' (fun a o e => s1 _ _ ?_) hv
      rw [upd_ne (ne_of_none e hp), upd_ne (ne_of_none e hp)]; exact e

/-! ### powers_of(k, many), unknown_power(k, many) -/
abbrev sPow : Stmt := top 17
def spPow : Sp := fun vs H Q _ => ∃ (k : Nat) (n : Int), vs = [.int k, .int n] ∧ ∀ (a : Addr) (H' : Hp), Same H H' → H' a = some (.tup (mtup (unit k n))) → Q (.ref a) H'
theorem scPow : FnScope ["k", "many", "other"] ["k", "many"] (defScope sPow) := ⟨rfl, rfl, rfl, by decide +kernel, rfl, by decide +kernel, by decide +kernel⟩
theorem ok_pow (h : Has K mg "powers_of" sPow ["k", "many"]) (mT : mg "tuple" = none) (mR : mg "range" = none) {tk : Tok} (gU : mg "UNKNOWNS" = some (.int 4 tk)) : Can P w K mg base CX0 1 "powers_of" ["k", "many"] spPow := by
  obtain ⟨f, fd, g, F, b⟩ := h.ex
  refine ⟨f, fd, g, F.kp, b, F.ok scPow (fun vs H Q E h => ?_) (fun cdv A outer s H vs Q E hr h => ?_)⟩
  · obtain ⟨k, n, rfl, _⟩ := h
    rfl
  · obtain ⟨k, n, rfl, q⟩ := h
    refine ⟨_, pss_one (ps_ret (pe_callTy call_tuple_of (by rfl) mT (by decide +kernel) (pa_cons
      (pe_lc (own := [("other", 2)]) (g := gName 2) (tt := tYes) (by rfl) scPow.nd (pi_range1 (by rfl) mR (pa_cons (pe_glob (v := .int 4) (by rfl) gU ⟨_, rfl⟩) pa_nil))
        (blkOk_by (own := [("other", 2)]) (N := ["k", "many", "other"]) (sc := defScope sPow) (by decide +kernel)) (fun _ _ _ _ _ => pg_name (i := 2) scPow.nd rfl (Or.inl rfl)) (fun _ _ _ _ _ => pts_nil)
        (fun _ _ _ _ _ => pe_ifExp (pt_cmpR op_eq (pv 2) (pv 0) (nomark _)) (pv 1) pe_int)) pa_nil))), ?_⟩
    refine ⟨4, rfl, by decide, by decide, fun D hD => ?_⟩
    refine lc_range (lo := 0) (n := 4) (fun i H' => Same H H' ∧ H' D = some (.lst ((mtup (unit k n)).take i))) ⟨same_new hD _, upd_same⟩ ?_ ?_
    · rintro i H' hi ⟨s1, hDi⟩
      refine ⟨rfl, _, rfl, _, rfl, rfl, _, rfl, ?_⟩
      have fin : ∀ c : Int, (mtup (unit k n))[i]? = some (.int c) → Same H (upd H' D (.lst ((mtup (unit k n)).take i ++ [.int c]))) ∧ (upd H' D (.lst ((mtup (unit k n)).take i ++ [.int c]))) D = some (.lst ((mtup (unit k n)).take (i + 1))) := fun c hc =>
        ⟨fun a o e => by rw [upd_ne (ne_of_none e hD)]; exact s1 _ _ e, by rw [take_snoc hc]; exact upd_same⟩
      have at_ : (mtup (unit k n))[i]? = some (.int (if k = i then n else 0)) := by
        rcases (show i = 0 ∨ i = 1 ∨ i = 2 ∨ i = 3 by omega) with e | e | e | e <;> subst e <;> rfl
      have len : ((mtup (unit k n)).take i).length < sizeLine := lt_line (Nat.lt_of_le_of_lt (List.length_take_le _ _) (by omega))
      refine ite2 (fun c => ?_) (fun c => ?_)
      · have e : k = i := by
          have := of_decide_eq_true c
          simp at this
          omega
        refine ⟨_, rfl, _, hDi, len, fin n ?_⟩
        rw [at_, if_pos e]
      · have e : ¬ k = i := by
          intro e
          apply c
          apply decide_eq_true
          rw [e]
          simp
        refine ⟨_, hDi, len, fin 0 ?_⟩
        rw [at_, if_neg e]
    · rintro H' ⟨s1, hDi⟩
      refine ⟨D, _, rfl, .inl ⟨SqL.of hDi, fun l hl => q l _ (s1.trans (same_new hl _)) ?_⟩⟩
      rw [upd_same]; rfl
abbrev sUnk : Stmt := top 18
def spUnk (K : PySem.W.Frag) (C : Addr) : Sp := fun vs H Q _ => ∃ k : Nat, vs = [.int k, .int 1] ∧ NewPoly K C H Q (pvar k)
theorem scUnk : FnScope ["k", "many"] ["k", "many"] (defScope sUnk) := ⟨rfl, rfl, rfl, by decide +kernel, rfl, by decide +kernel, by decide +kernel⟩
theorem ok_unk (h : Has K mg "unknown_power" sUnk ["k", "many"]) (CF : Can P w K mg base CX0 3 "poly_from" ["parts"] (spFrom P w K C)) (CP : Can P w K mg base CX0 1 "powers_of" ["k", "many"] spPow) : Can P w K mg base CX0 4 "unknown_power" ["k", "many"] (spUnk K C) := by
  obtain ⟨f, fd, g, F, b⟩ := h.ex
  refine ⟨f, fd, g, F.kp, b, F.ok scUnk (fun vs H Q E h => ?_) (fun cdv A outer s H vs Q E hr h => ?_)⟩
  · obtain ⟨k, rfl, _⟩ := h
    rfl
  · obtain ⟨k, rfl, q⟩ := h
    refine ⟨_, pss_one (ps_ret (pe_can CF hr pass0 (pa_cons (pe_oneM hr (pe_can CP hr pass0 (pa_cons (pv 0) (pa_cons (pv 1) pa_nil))) pe_int) pa_nil))), ?_⟩
    intro p hp
    refine ⟨_, rfl, _, rfl, k, 1, rfl, fun a H1 s1 ha => ?_⟩
    have hp1 := s1 _ _ (upd_same (H := H) (a := p) (o := dM P w p []))
    refine ⟨a, unit k 1, 1, rfl, rfl, hp1, SqT.of ha, p, [(a, unit k 1, 1)], pvar k, rfl, upd_same, ?_, ?_, ?_, canon_pvar k, fun m => rfl, ?_⟩
    · intro e he
      have : e = (a, unit k 1, 1) := by simpa using he
      rw [this]; exact seqT_upd (SqT.of ha) hp1 trivial
    · unfold NodupK pol; simp
    · exact (by decide : 1 ≤ 1000000)
    · intro v H' s2 hv
      refine q v H' (fun c o e => s2 _ _ ?_) hv
      rw [upd_ne (ne_of_none e hp)]
      exact s1 _ _ (by rw [upd_ne (ne_of_none e hp)]; exact e)
end
end K46

/-! # Sums and products of the program's polynomials -/
namespace K46
open PySem PySem.Spec PyProof.Rows L2
theorem keysM_same {K : PySem.W.Frag} {H H' : Hp} {es : List ME} (h : KeysM K H es) (s : Same H H') : KeysM K H' es := fun e he => seqT_of s (h e he)
theorem keysM_upd {K : PySem.W.Frag} {H : Hp} {es : List ME} {d : Addr} {o : HO} (h : KeysM K H es) (hd : H d = none) : KeysM K (upd H d o) es := keysM_same h (same_new hd o)
theorem nodup_take {t : Poly} (h : NodupK t) (i : Nat) : NodupK (t.take i) := List.Nodup.sublist (List.Sublist.map _ (List.take_sublist i t)) h
theorem fresh_take {t : Poly} {i : Nat} {p : Mon × Int} (h : NodupK t) (hp : t[i]? = some p) : hasK (t.take i) p.1 = false := by
  cases e : hasK (t.take i) p.1 with
  | false => rfl
  | true =>
    have hm := hasK_iff.mp e
    have h2 := nodup_take h (i + 1)
    rw [take_snoc hp] at h2
    unfold NodupK at h2
    rw [List.map_append, List.nodup_append] at h2
    exact absurd rfl (h2.2.2 _ hm _ (by simp))
theorem mput_new {es : List ME} {b : Addr} {m : Mon} {c : Int} (h : hasK (pol es) m = false) : mput es b m c = es ++ [(b, m, c)] := by
  unfold mput
  rw [h]; rfl
section
variable {P : Program} {w : World} {K : PySem.W.Frag} {mg : Str → Option Value} {base : Heap} {C : Addr}
/-! ### sum_with(one, other, by) -/
abbrev sSumW : Stmt := top 19
def spSumW (K : PySem.W.Frag) (C : Addr) : Sp := fun vs H Q _ => ∃ (x y : V) (by_ : Int) (s t r : Poly), vs = [x, y, .int by_] ∧ PolyAt K C H x s ∧ PolyAt K C H y t ∧ (by_ = 1 ∨ by_ = -1) ∧ Canon s ∧ s.length ≤ 100000 ∧ t.length ≤ 100000 ∧
  Canon r ∧ (∀ m, coef r m = coef s m + by_ * coef t m) ∧ NewPoly K C H Q r
theorem scSumW : FnScope ["one", "other", "by", "parts", "powers", "count"] ["one", "other", "by"] (defScope sSumW) := ⟨rfl, rfl, rfl, by decide +kernel, rfl, by decide +kernel, by decide +kernel⟩
theorem ok_sumW (h : Has K mg "sum_with" sSumW ["one", "other", "by"]) (CF : Can P w K mg base CX0 3 "poly_from" ["parts"] (spFrom P w K C)) (c : Cls K C) (nT : NoAttr K C "terms") : Can P w K mg base CX0 4 "sum_with" ["one", "other", "by"] (spSumW K C) := by
  obtain ⟨f, fd, g, F, b⟩ := h.ex
  refine ⟨f, fd, g, F.kp, b, F.ok scSumW (fun vs H Q E h => ?_) (fun cdv A outer s H vs Q E hr h => ?_)⟩
  · obtain ⟨x, y, by_, s, t, r, rfl, _⟩ := h
    rfl
  · obtain ⟨x, y, by_, p1, p2, r, rfl, ⟨a1, dx1, t1, rfl, h1, vs1, ht1, hp1⟩, ⟨a2, dx2, t2, rfl, h2, vs2, ht2, hp2⟩, hby, hc1, hl1, hl2, hr1, hr2, k⟩ := h
    refine ⟨_, pss_cons (ps_setDcM (i := 3) (own := [("powers", 4), ("count", 5)]) (g := gTup K 2 (gCons (gName 4) (gCons (gName 5) gNil))) (tk := tVar 4) (tv := tVar 5) hr (by rfl) scSumW.nd rfl rfl (sw_trueD rfl rfl rfl (by decide +kernel)) (pi_tup (pe_fld (pv 0) rfl))
        (blkOk_by (own := [("powers", 4), ("count", 5)]) (N := ["one", "other", "by", "parts", "powers", "count"]) (sc := defScope sSumW) (by decide +kernel))
        (fun _ _ _ _ _ => pg_tup (by rfl) (pgs_cons (pg_name (i := 4) scSumW.nd rfl (Or.inl rfl)) (pgs_cons (pg_name (i := 5) scSumW.nd rfl (Or.inl rfl)) pgs_nil)))
        (fun _ _ _ _ _ => pv 4) (fun _ _ _ _ _ => pv 5))
      (pss_cons (ps_for PassesOwn.never rfl (pi_tup (pe_fld (pv 1) rfl)) (pg_tup (by rfl) (pgs_cons (pg_name (i := 4) scSumW.nd rfl (Or.inl rfl)) (pgs_cons (pg_name (i := 5) scSumW.nd rfl (Or.inl rfl)) pgs_nil)))
        (pss_one (ps_putM hr (pv 3) (pv 4) (pe_op op_add (pe_getM hr (pv 3) (pv 4) pe_int ⟨rfl, rfl, rfl, rfl⟩) (pe_op op_mul (pv 2) (pv 5))) rfl)))
      (pss_one (ps_ret (pe_can CF hr pass0 (pa_cons (pv 3) pa_nil))))), ?_⟩
    refine ⟨_, rfl, a1, C, dx1, _, _, rfl, h1, c, nT, rfl, t1, rfl, ⟨vs1, SqT.of ht1⟩, fun D hD => ?_⟩
    refine dcM_tup (xs := vs1) (fun i H' => ∃ es : List ME, H' = upd H D (dM P w D es) ∧ KeysM K H es ∧ pol es = p1.take i) ⟨[], rfl, fun e he => absurd he (by simp), rfl⟩
      (fun i H' _ ⟨es, e, _, _⟩ => by rw [e]; exact seqT_of (same_new hD _) (SqT.of ht1)) ?_ ?_
    · rintro i v H' hi ⟨es, rfl, hk, hpol⟩
      obtain ⟨p, hp, ⟨a, b, rfl, ha, hb⟩⟩ := pair_get hp1 hi
      have sD : Same H (upd H D (dM P w D es)) := same_new hD _
      have hn : NodupK (pol es) := by rw [hpol]; exact nodup_take hc1.nodup i
      have hno : hasK (pol es) p.1 = false := by rw [hpol]; exact fresh_take hc1.nodup hp
      have hes : es.length = (p1.take i).length := by rw [← hpol]; unfold pol; rw [List.length_map]
      refine ⟨a, _, rfl, SqT.of (sD _ _ ha), rfl, _, _, rfl, _, _, rfl, rfl, rfl, _, rfl, _, rfl, es, b, p.1, p.2, rfl, ⟨upd_same, keysM_same hk sD, hn, rfl, seqT_of sD hb⟩, ?_, es ++ [(b, p.1, p.2)], ?_, ?_, ?_⟩
      · refine lt_line ?_
        have := List.length_take_le i p1
        rw [List.length_take] at hes
        omega
      · rw [upd_upd, mput_new hno]; rfl
      · intro e he
        rcases List.mem_append.mp he with he | he
        · exact hk e he
        · have : e = (b, p.1, p.2) := by simpa using he
          rw [this]; exact hb
      · unfold pol at *
        rw [List.map_append, hpol, take_snoc hp]
        rfl
    · rintro H' ⟨es0, rfl, hk0, hpol0⟩
      have lv1 : vs1.length = p1.length := Paired.length hp1
      rw [lv1, List.take_length] at hpol0
      have sD : ∀ es, Same H (upd H D (dM P w D es)) := fun es => same_new hD _
      refine ⟨_, rfl, a2, C, dx2, _, _, rfl, sD _ _ _ h2, c, nT, rfl, t2, rfl, ⟨vs2, SqT.of (sD _ _ _ ht2)⟩, ?_⟩
      refine for_tup (xs := vs2) (fun i σ H' => ∃ (es : List ME) (u4 u5 : Option V), σ = [some (.ref a1), some (.ref a2), some (.int by_), some (.ref D), u4, u5] ∧ H' = upd H D (dM P w D es) ∧ KeysM K H es ∧ NodupK (pol es) ∧ es.length ≤ p1.length + i ∧
        ∀ m, coef (pol es) m = coef p1 m + by_ * coef (p2.take i) m) ⟨es0, none, none, rfl, rfl, hk0, by rw [hpol0]; exact hc1.nodup, ?_, fun m => ?_⟩ (fun i σ H' _ ⟨es, _, _, _, e, _⟩ => by rw [e]; exact seqT_of (sD _) (SqT.of ht2)) ?_ ?_
      · have : es0.length = (pol es0).length := by unfold pol; rw [List.length_map]
        rw [this, hpol0]; omega
      · rw [hpol0, List.take_zero, coef_nil]; omega
      · rintro i v σ H' hi ⟨es, u4, u5, rfl, rfl, hk, hn, hl, hco⟩
        obtain ⟨p, hp, ⟨a, b, rfl, ha, hb⟩⟩ := pair_get hp2 hi
        have hil : i < p2.length := (List.getElem?_eq_some_iff.mp hp).1
        have M : AtM P w K (upd H D (dM P w D es)) D es (.ref b) b p.1 := ⟨upd_same, keysM_same hk (sD _), hn, rfl, seqT_of (sD _) hb⟩
        refine ⟨a, _, rfl, SqT.of (sD _ _ _ ha), rfl, _, _, rfl, _, _, rfl, rfl, ?_⟩
        refine ⟨_, rfl, D, rfl, ⟨es, upd_same, keysM_same hk (sD _)⟩, _, rfl, es, b, p.1, rfl, M, _, rfl, _, rfl, _, _, rfl, rfl, ?_, _, _, rfl, rfl, ?_⟩
        · left
          rcases hby with e | e <;> rw [e] <;> constructor <;> decide
        refine ⟨_, rfl, _, rfl, D, es, b, p.1, _, rfl, rfl, M, lt_line (by omega), ?_⟩
        refine ⟨mput es b p.1 (coef (pol es) p.1 + by_ * p.2), _, _, rfl, by rw [upd_upd]; rfl, keys_mput hk hb, ?_, ?_, fun m => ?_⟩
        · rw [pol_mput]; exact nodup_dput hn _ _
        · have := length_mput es b p.1 (coef (pol es) p.1 + by_ * p.2)
          omega
        · rw [pol_mput, coef_dput hn, take_snoc hp, coef_append, coef_cons, coef_nil]
          by_cases e : m = p.1
          · subst e
            rw [if_pos rfl, if_pos rfl, hco]
            rw [Int.add_zero, Int.mul_add]; omega
          · rw [if_neg e, if_neg (fun z => e z.symm), hco, Int.add_zero, Int.add_zero]
      · rintro σ H' ⟨es, u4, u5, rfl, rfl, hk, hn, hl, hco⟩
        have lv2 : vs2.length = p2.length := Paired.length hp2
        rw [lv2, List.take_length] at hco
        rw [lv2] at hl
        refine ⟨_, rfl, D, es, r, rfl, upd_same, keysM_same hk (sD _), hn, by omega, hr1, fun m => by rw [hco, hr2], fun v H' s1 hv => k v H' ?_ hv⟩
        exact (sD es).trans s1
end
end K46

namespace K46
open PySem PySem.Spec PyProof.Rows L2
section
variable {P : Program} {w : World} {K : PySem.W.Frag} {mg : Str → Option Value} {base : Heap} {C : Addr}
/-! ### plus, minus -/
abbrev sPlus : Stmt := top 20
abbrev sMinus : Stmt := top 21
def spPlus (K : PySem.W.Frag) (C : Addr) : Sp := fun vs H Q _ => ∃ (x y : V) (s t : Poly), vs = [x, y] ∧ PolyAt K C H x s ∧ PolyAt K C H y t ∧ Canon s ∧ Canon t ∧ s.length ≤ 100000 ∧ t.length ≤ 100000 ∧ NewPoly K C H Q (padd s t)
def spMinus (K : PySem.W.Frag) (C : Addr) : Sp := fun vs H Q _ => ∃ (x y : V) (s t : Poly), vs = [x, y] ∧ PolyAt K C H x s ∧ PolyAt K C H y t ∧ Canon s ∧ Canon t ∧ s.length ≤ 100000 ∧ t.length ≤ 100000 ∧ NewPoly K C H Q (psub s t)
theorem scPlus : FnScope ["one", "other"] ["one", "other"] (defScope sPlus) := ⟨rfl, rfl, rfl, by decide +kernel, rfl, by decide +kernel, by decide +kernel⟩
theorem scMinus : FnScope ["one", "other"] ["one", "other"] (defScope sMinus) := ⟨rfl, rfl, rfl, by decide +kernel, rfl, by decide +kernel, by decide +kernel⟩
theorem ok_plus (h : Has K mg "plus" sPlus ["one", "other"]) (G : Can P w K mg base CX0 4 "sum_with" ["one", "other", "by"] (spSumW K C)) : Can P w K mg base CX0 5 "plus" ["one", "other"] (spPlus K C) := by
  obtain ⟨f, fd, g, F, b⟩ := h.ex
  refine ⟨f, fd, g, F.kp, b, F.ok scPlus (fun vs H Q E h => ?_) (fun cdv A outer s H vs Q E hr h => ?_)⟩
  · obtain ⟨x, y, s, t, rfl, _⟩ := h
    rfl
  · obtain ⟨x, y, p, q, rfl, h1, h2, c1, c2, l1, l2, k⟩ := h
    refine ⟨_, pss_one (ps_ret (pe_can G hr pass0 (pa_cons (pv 0) (pa_cons (pv 1) (pa_cons pe_int pa_nil))))), ?_⟩
    exact ⟨_, rfl, _, rfl, x, y, 1, p, q, padd p q, rfl, h1, h2, .inl rfl, c1, l1, l2, canon_padd c1 c2, fun m => by rw [coef_padd]; omega, k⟩
theorem ok_minus (h : Has K mg "minus" sMinus ["one", "other"]) (G : Can P w K mg base CX0 4 "sum_with" ["one", "other", "by"] (spSumW K C)) : Can P w K mg base CX0 5 "minus" ["one", "other"] (spMinus K C) := by
  obtain ⟨f, fd, g, F, b⟩ := h.ex
  refine ⟨f, fd, g, F.kp, b, F.ok scMinus (fun vs H Q E h => ?_) (fun cdv A outer s H vs Q E hr h => ?_)⟩
  · obtain ⟨x, y, s, t, rfl, _⟩ := h
    rfl
  · obtain ⟨x, y, p, q, rfl, h1, h2, c1, c2, l1, l2, k⟩ := h
    refine ⟨_, pss_one (ps_ret (pe_can G hr pass0 (pa_cons (pv 0) (pa_cons (pv 1) (pa_cons (pe_un un_neg pe_int) pa_nil))))), ?_⟩
    exact ⟨_, rfl, _, rfl, _, rfl, x, y, -1, p, q, psub p q, rfl, h1, h2, .inr rfl, c1, l1, l2, canon_psub c1 c2, fun m => by rw [coef_psub]; omega, k⟩
/-! ### times(one, other) -/
abbrev sTimes : Stmt := top 22
def spTimes (K : PySem.W.Frag) (C : Addr) : Sp := fun vs H Q _ => ∃ (x y : V) (s t : Poly), vs = [x, y] ∧ PolyAt K C H x s ∧ PolyAt K C H y t ∧ Canon s ∧ Canon t ∧ s.length ≤ 900 ∧ t.length ≤ 900 ∧ Fits 400000 s ∧ Fits 400000 t ∧ NewPoly K C H Q (pmul s t)
theorem scTimes : FnScope ["one", "other", "parts", "here", "count", "there", "many", "powers"] ["one", "other"] (defScope sTimes) := ⟨rfl, rfl, rfl, by decide +kernel, rfl, by decide +kernel, by decide +kernel⟩
theorem ok_times (h : Has K mg "times" sTimes ["one", "other"]) (CF : Can P w K mg base CX0 3 "poly_from" ["parts"] (spFrom P w K C)) (c : Cls K C) (nT : NoAttr K C "terms") : Can P w K mg base CX0 4 "times" ["one", "other"] (spTimes K C) := by
  obtain ⟨f, fd, g, F, b⟩ := h.ex
  refine ⟨f, fd, g, F.kp, b, F.ok scTimes (fun vs H Q E h => ?_) (fun cdv A outer s H vs Q E hr h => ?_)⟩
  · obtain ⟨x, y, s, t, rfl, _⟩ := h
    rfl
  · obtain ⟨x, y, p1, p2, rfl, ⟨a1, dx1, t1, rfl, h1, vs1, ht1, hp1⟩, ⟨a2, dx2, t2, rfl, h2, vs2, ht2, hp2⟩, hc1, hc2, hl1, hl2, hf1, hf2, k⟩ := h
    refine ⟨_, pss_cons (ps_set (i := 2) scTimes.nd rfl (Or.inl rfl) pe_newM)
      (pss_cons (ps_for PassesOwn.never rfl (pi_tup (pe_fld (pv 0) rfl)) (pg_tup (by rfl) (pgs_cons (pg_name (i := 3) scTimes.nd rfl (Or.inl rfl)) (pgs_cons (pg_name (i := 4) scTimes.nd rfl (Or.inl rfl)) pgs_nil)))
        (pss_one (ps_for PassesOwn.never rfl (pi_tup (pe_fld (pv 1) rfl)) (pg_tup (by rfl) (pgs_cons (pg_name (i := 5) scTimes.nd rfl (Or.inl rfl)) (pgs_cons (pg_name (i := 6) scTimes.nd rfl (Or.inl rfl)) pgs_nil)))
          (pss_cons (ps_set (i := 7) scTimes.nd rfl (Or.inl rfl) (pe_tup (pa_cons (pe_op op_add (pe_ix ix_tup (pv 3) pe_int (fun _ _ => rfl)) (pe_ix ix_tup (pv 5) pe_int (fun _ _ => rfl)))
            (pa_cons (pe_op op_add (pe_ix ix_tup (pv 3) pe_int (fun _ _ => rfl)) (pe_ix ix_tup (pv 5) pe_int (fun _ _ => rfl)))
            (pa_cons (pe_op op_add (pe_ix ix_tup (pv 3) pe_int (fun _ _ => rfl)) (pe_ix ix_tup (pv 5) pe_int (fun _ _ => rfl)))
            (pa_cons (pe_op op_add (pe_ix ix_tup (pv 3) pe_int (fun _ _ => rfl)) (pe_ix ix_tup (pv 5) pe_int (fun _ _ => rfl))) pa_nil))))))
          (pss_one (ps_putM hr (pv 2) (pv 7) (pe_op op_add (pe_getM hr (pv 2) (pv 7) pe_int ⟨rfl, rfl, rfl, rfl⟩) (pe_op op_mulW (pv 4) (pv 6))) rfl))))))
      (pss_one (ps_ret (pe_can CF hr pass0 (pa_cons (pv 2) pa_nil))))), ?_⟩
    intro D hD
    refine ⟨_, rfl, a1, C, dx1, _, _, rfl, Same.upd_new (fun _ _ e => e) hD _ _ _ h1, c, nT, rfl, t1, rfl, ⟨vs1, SqT.of (same_new hD _ _ _ ht1)⟩, ?_⟩
    have lv1 : vs1.length = p1.length := Paired.length hp1
    have lv2 : vs2.length = p2.length := Paired.length hp2
    refine for_tup (xs := vs1) (fun i σ H' => ∃ (es : List ME) (u3 u4 u5 u6 u7 : Option V), σ = [some (.ref a1), some (.ref a2), some (.ref D), u3, u4, u5, u6, u7] ∧ Same H H' ∧ H' D = some (dM P w D es) ∧ KeysM K H' es ∧ NodupK (pol es) ∧ es.length ≤ i * p2.length ∧
      ∀ m, coef (pol es) m = coef (raw (p1.take i) p2) m) ⟨[], none, none, none, none, none, rfl, same_new hD _, upd_same, fun e he => absurd he (by simp), List.nodup_nil, Nat.zero_le _, fun m => rfl⟩ (fun i σ H' _ ⟨es, _, _, _, _, _, _, s1, _⟩ => SqT.of (s1 _ _ ht1)) ?_ ?_
    · rintro i v σ H' hi ⟨es, u3, u4, u5, u6, u7, rfl, s1, hDe, hk, hn, hl, hco⟩
      obtain ⟨p, hp, ⟨a, b, rfl, ha, hb⟩⟩ := pair_get hp1 hi
      have hil : i < p1.length := (List.getElem?_eq_some_iff.mp hp).1
      refine ⟨a, _, rfl, SqT.of (s1 _ _ ha), rfl, _, _, rfl, _, _, rfl, rfl, ?_⟩
      refine ⟨_, rfl, a2, C, dx2, _, _, rfl, s1 _ _ h2, c, nT, rfl, t2, rfl, ⟨vs2, SqT.of (s1 _ _ ht2)⟩, ?_⟩
      refine for_tup (xs := vs2) (fun j σ H' => ∃ (es : List ME) (u5 u6 u7 : Option V), σ = [some (.ref a1), some (.ref a2), some (.ref D), some (.ref b), some (.int p.2), u5, u6, u7] ∧ Same H H' ∧ H' D = some (dM P w D es) ∧ KeysM K H' es ∧ NodupK (pol es) ∧ es.length ≤ i * p2.length + j ∧
        ∀ m, coef (pol es) m = coef (raw (p1.take i) p2) m + coef ((p2.take j).map fun q => (madd p.1 q.1, p.2 * q.2)) m) ⟨es, u5, u6, u7, rfl, s1, hDe, hk, hn, hl, fun m => by rw [hco]; exact (Int.add_zero _).symm⟩ (fun j σ H' _ ⟨es, _, _, _, _, s1, _⟩ => SqT.of (s1 _ _ ht2)) ?_ ?_
      · rintro j v σ H2 hj ⟨es, u5, u6, u7, rfl, s1, hDe, hk, hn, hl, hco⟩
        obtain ⟨q, hq, ⟨a', b', rfl, ha', hb'⟩⟩ := pair_get hp2 hj
        have hjl : j < p2.length := (List.getElem?_eq_some_iff.mp hq).1
        refine ⟨a', _, rfl, SqT.of (s1 _ _ ha'), rfl, _, _, rfl, _, _, rfl, rfl, ?_⟩
        have X := seqT_of s1 hb
        have Y := seqT_of s1 hb'
        refine ⟨_, rfl, b, _, 0, _, rfl, rfl, X, rfl, _, rfl, b', _, 0, _, rfl, rfl, Y, rfl, ?_⟩
        refine ⟨_, _, rfl, rfl, ?_⟩
        refine ⟨_, rfl, b, _, 1, _, rfl, rfl, X, rfl, _, rfl, b', _, 1, _, rfl, rfl, Y, rfl, ?_⟩
        refine ⟨_, _, rfl, rfl, ?_⟩
        refine ⟨_, rfl, b, _, 2, _, rfl, rfl, X, rfl, _, rfl, b', _, 2, _, rfl, rfl, Y, rfl, ?_⟩
        refine ⟨_, _, rfl, rfl, ?_⟩
        refine ⟨_, rfl, b, _, 3, _, rfl, rfl, X, rfl, _, rfl, b', _, 3, _, rfl, rfl, Y, rfl, ?_⟩
        refine ⟨_, _, rfl, rfl, ?_⟩
        refine ⟨(by decide : 4 ≤ sizeLine), fun n hnn => ?_⟩
        have sn : Same H2 (upd H2 n (.tup (mtup (madd p.1 q.1)))) := same_new hnn _
        have M : AtM P w K (upd H2 n (.tup (mtup (madd p.1 q.1)))) D es (.ref n) n (madd p.1 q.1) := ⟨sn _ _ hDe, keysM_same hk sn, hn, rfl, SqT.of upd_same⟩
        refine ⟨_, rfl, ?_⟩
        refine ⟨D, rfl, ⟨es, sn _ _ hDe, keysM_same hk sn⟩, _, rfl, es, n, madd p.1 q.1, rfl, M, _, rfl, _, rfl, _, _, rfl, rfl, ?_, _, _, rfl, rfl, ?_⟩
        · exact wide_mul (hf1.mem (List.mem_of_getElem? hp)) (hf2.mem (List.mem_of_getElem? hq)) (by decide) (by decide) (by decide)
        refine ⟨_, rfl, _, rfl, D, es, n, madd p.1 q.1, _, rfl, rfl, M, lt_line ?_, ?_⟩
        · have e1 : i * p2.length ≤ 900 * 900 := Nat.mul_le_mul (by omega) hl2
          omega
        have nD : n ≠ D := fun e => by rw [e, hDe] at hnn; cases hnn
        refine ⟨mput es n (madd p.1 q.1) (coef (pol es) (madd p.1 q.1) + p.2 * q.2), _, _, _, rfl, Same.upd_new (s1.trans sn) hD _, upd_same, ?_, ?_, ?_, fun m => ?_⟩
        · exact fun e he => SqT.upd (keys_mput (H := upd H2 n (.tup (mtup (madd p.1 q.1)))) (keysM_same hk sn) (SqT.of upd_same) e he) (sn _ _ hDe)
        · rw [pol_mput]; exact nodup_dput hn _ _
        · have := length_mput es n (madd p.1 q.1) (coef (pol es) (madd p.1 q.1) + p.2 * q.2)
          omega
        · rw [pol_mput, coef_dput hn, take_snoc hq, List.map_append, coef_append, hco, hco]
          show (if m = madd p.1 q.1 then _ else _) = _ + (_ + ((if madd p.1 q.1 = m then p.2 * q.2 else 0) + 0))
          by_cases e : m = madd p.1 q.1
          · subst e
            rw [if_pos rfl, if_pos rfl]
            omega
          · rw [if_neg e, if_neg (fun z => e z.symm)]
            omega
      · rintro σ H2 ⟨es, u5, u6, u7, rfl, s1, hDe, hk, hn, hl, hco⟩
        refine ⟨es, _, _, u5, u6, u7, rfl, s1, hDe, hk, hn, ?_, fun m => ?_⟩
        · rw [lv2] at hl
          rw [Nat.add_mul, Nat.one_mul]; exact hl
        · rw [hco, lv2, List.take_length, take_snoc hp]
          unfold raw
          rw [List.flatMap_append, coef_append]
          congr 1
          simp
    · rintro σ H' ⟨es, u3, u4, u5, u6, u7, rfl, s1, hDe, hk, hn, hl, hco⟩
      rw [lv1] at hl
      rw [lv1, List.take_length] at hco
      have : p1.length * p2.length ≤ 900 * 900 := Nat.mul_le_mul hl1 hl2
      refine ⟨_, rfl, D, es, pmul p1 p2, rfl, hDe, hk, hn, by omega, canon_pmul hc1 hc2, fun m => by rw [hco, coef_pmul], fun v H' s2 hv => k v H' (s1.trans s2) hv⟩
end
end K46

namespace K46
open PySem PySem.Spec PyProof.Rows L2
section
variable {P : Program} {w : World} {K : PySem.W.Frag} {mg : Str → Option Value} {base : Heap} {C : Addr}
/-! ### degree_by(poly, k) -/
abbrev sDeg : Stmt := top 23
def spDeg (K : PySem.W.Frag) (C : Addr) : Sp := fun vs H Q _ => ∃ (x : V) (k : Nat) (t : Poly), vs = [x, .int k] ∧ k < 4 ∧ PolyAt K C H x t ∧ t.length ≤ 1000000 ∧ ∀ (n : Int) (H' : Hp), Same H H' → IsDeg k t n → Q (.int n) H'
theorem scDeg : FnScope ["poly", "k", "powers", "count"] ["poly", "k"] (defScope sDeg) := ⟨rfl, rfl, rfl, by decide +kernel, rfl, by decide +kernel, by decide +kernel⟩
theorem atI_mtup {m : Mon} {k : Nat} (h : k < 4) : atI (mtup m) (k : Int) = some (.int (pw k m)) := by
  rcases (show k = 0 ∨ k = 1 ∨ k = 2 ∨ k = 3 by omega) with e | e | e | e <;> subst e <;> rfl
theorem ok_deg (h : Has K mg "degree_by" sDeg ["poly", "k"]) (mM : mg "max" = none) (c : Cls K C) (nT : NoAttr K C "terms") : Can P w K mg base CX0 1 "degree_by" ["poly", "k"] (spDeg K C) := by
  obtain ⟨f, fd, g, F, b⟩ := h.ex
  refine ⟨f, fd, g, F.kp, b, F.ok scDeg (fun vs H Q E h => ?_) (fun cdv A outer s H vs Q E hr h => ?_)⟩
  · obtain ⟨x, k, t, rfl, _⟩ := h
    rfl
  · obtain ⟨x, k, p1, rfl, hk, ⟨a1, dx1, t1, rfl, h1, vs1, ht1, hp1⟩, hl, q⟩ := h
    refine ⟨_, pss_one (ps_ret (pe_callB (cr_max (by rfl)) (by rfl) mM (by decide +kernel) (pa_cons (pe_op op_cat (pe_lst (pa_cons pe_int pa_nil))
      (pe_lc (own := [("powers", 2), ("count", 3)]) (g := gTup K 2 (gCons (gName 2) (gCons (gName 3) gNil))) (tt := tYes) (te := tOp (rIxT K) (tVar 2) (tVar 1)) (by rfl) scDeg.nd (pi_tup (pe_fld (pv 0) rfl))
        (blkOk_by (own := [("powers", 2), ("count", 3)]) (N := ["poly", "k", "powers", "count"]) (sc := defScope sDeg) (by decide +kernel))
        (fun _ _ _ _ _ => pg_tup (by rfl) (pgs_cons (pg_name (i := 2) scDeg.nd rfl (Or.inl rfl)) (pgs_cons (pg_name (i := 3) scDeg.nd rfl (Or.inl rfl)) pgs_nil)))
        (fun _ _ _ _ _ => pts_nil) (fun _ _ _ _ _ => by exact (pe_ix ix_tup (pv 2) (pv 1) (fun _ _ => rfl))))) pa_nil))), ?_⟩
    have lv1 : vs1.length = p1.length := Paired.length hp1
    refine ⟨(by decide : 1 ≤ sizeLine), fun Z hZ => ?_⟩
    have sZ : Same H (upd H Z (.lst [.int 0])) := same_new hZ _
    refine ⟨_, rfl, a1, C, dx1, _, _, rfl, sZ _ _ h1, c, nT, rfl, t1, rfl, ⟨vs1, SqT.of (sZ _ _ ht1)⟩, fun D hD => ?_⟩
    refine lc_tup (xs := vs1) (fun i H' => Same (upd H Z (.lst [.int 0])) H' ∧ H' D = some (.lst (((p1.take i).map fun p => pw k p.1).map V.int))) ⟨same_new hD _, upd_same⟩
      (fun i H' _ ⟨s1, _⟩ => SqT.of (s1 _ _ (sZ _ _ ht1))) ?_ ?_
    · rintro i v H' hi ⟨s1, hDi⟩
      obtain ⟨p, hp, ⟨a, b, rfl, ha, hb⟩⟩ := pair_get hp1 hi
      have hil : i < p1.length := (List.getElem?_eq_some_iff.mp hp).1
      refine ⟨a, _, rfl, SqT.of ((sZ.trans s1) _ _ ha), rfl, _, _, rfl, _, _, rfl, rfl, rfl, ?_⟩
      refine ⟨_, rfl, _, rfl, b, _, _, _, rfl, rfl, seqT_of (sZ.trans s1) hb, atI_mtup hk, _, hDi, ?_, ?_⟩
      · rw [List.length_map, List.length_map, List.length_take]
        exact lt_line (by omega)
      · refine ⟨fun a o e => ?_, ?_⟩
        · rw [upd_ne (ne_of_none e hD)]; exact s1 _ _ e
        · rw [take_snoc hp, List.map_append, List.map_append]; exact upd_same
    · rintro H' ⟨s1, hDe⟩
      rw [lv1, List.take_length] at hDe
      refine ⟨Z, D, [.int 0], _, rfl, rfl, s1 _ _ upd_same, hDe, ?_, fun p hp => ?_⟩
      · rw [List.length_map, List.length_map]; exact le_line (by show 1 + _ ≤ _; omega)
      refine ⟨p, 0 :: p1.map (fun p => pw k p.1), rfl, SqL.of upd_same, by simp, fun m hm hle => q m _ (sZ.trans (s1.trans (same_new hp _))) ⟨hle _ (by simp), fun p hp => hle _ (List.mem_cons_of_mem _ (List.mem_map_of_mem hp)), ?_⟩⟩
      rcases List.mem_cons.mp hm with e | hm
      · exact .inl e
      · obtain ⟨p, hp, e⟩ := List.mem_map.mp hm
        exact .inr ⟨p, hp, e⟩
/-! ### what may be great -/
abbrev Great (CB : Addr) (H : Hp) (E : XK) : Prop := ∀ (d : Addr) (H' : Hp), Same H H' → H' d = some (.xd [(("at" : Str), .str "great")]) → E (.ref CB) (some d) H'
/-- a new polynomial, or BadText("great") -/
def Gives (K : PySem.W.Frag) (C CB : Addr) (H : Hp) (Q : VK) (E : XK) : Option Poly → Prop
  | some t => NewPoly K C H Q t
  | none => Great CB H E
theorem Gives.mono {K : PySem.W.Frag} {C CB : Addr} {H H' : Hp} {Q : VK} {E : XK} {o : Option Poly} (h : Gives K C CB H Q E o) (s : Same H H') : Gives K C CB H' Q E o := by
  cases o with
  | some t => exact fun v H2 s2 hv => h v H2 (s.trans s2) hv
  | none => exact fun d H2 s2 hd => h d H2 (s.trans s2) hd
/-! ### check_great(poly) -/
abbrev sChk : Stmt := top 35
def spChk (K : PySem.W.Frag) (C CB : Addr) : Sp := fun vs H Q E => ∃ (x : V) (t : Poly), vs = [x] ∧ PolyAt K C H x t ∧ t.length ≤ 1000000 ∧ Gives K C CB H Q E (chk t)
theorem scChk : FnScope ["poly", "k"] ["poly"] (defScope sChk) := ⟨rfl, rfl, rfl, by decide +kernel, rfl, by decide +kernel, by decide +kernel⟩
/-- the module's names that check_great reads -/
structure GlChk (mg : Str → Option Value) : Prop where
  nany : mg "any" = none
  nlen : mg "len" = none
  nrange : mg "range" = none
  nsuper : mg "super" = none
  terms : ∃ t, mg "MOST_TERMS" = some (.int 300 t)
  power : ∃ t, mg "MOST_POWER" = some (.int 60 t)
  letters : ∃ t, mg "LETTERS" = some (.str "xyzw" t)
  great : ∃ t, mg "GREAT" = some (.str "great" t)
theorem ok_chk {CB fI : Addr} (h : Has K mg "check_great" sChk ["poly"]) (CD : Can P w K mg base CX0 1 "degree_by" ["poly", "k"] (spDeg K C)) (T : PySem.BadX.BadTxt P K CB fI) (gB : mg "BadText" = some (.ref CB)) (gl : GlChk mg) (c : Cls K C) (nT : NoAttr K C "terms") :
    Can P w K mg base (L2.CX P w) 2 "check_great" ["poly"] (spChk K C CB) := by
  obtain ⟨f, fd, g, F, b⟩ := h.ex
  obtain ⟨tk1, g1⟩ := gl.terms
  obtain ⟨tk2, g2⟩ := gl.power
  obtain ⟨tk3, g3⟩ := gl.letters
  obtain ⟨tk4, g4⟩ := gl.great
  refine ⟨f, fd, g, F.kp, b, F.okX scChk (fun vs H Q E h => ?_) (fun cdv A outer s H vs Q E hr h => ?_)⟩
  · obtain ⟨x, t, rfl, _⟩ := h
    rfl
  · obtain ⟨x, p1, rfl, ⟨a1, dx1, t1, rfl, h1, vs1, ht1, hp1⟩, hl, q⟩ := h
    refine ⟨_, pss_cons (ps_if (PW.pt (pw_or (pt_cmpR op_gt (pe_callB call_len_seq (by rfl) gl.nlen PySem.boot_len (pa_cons (pe_fld (pv 0) rfl) pa_nil)) (pe_glob (v := .int 300) (by rfl) g1 ⟨_, rfl⟩) (nomark _))
      (pw_or1 (pt_val (pe_callB (cr_any (by rfl)) (by rfl) gl.nany (by decide +kernel) (pa_cons
        (pe_lc (own := [("k", 1)]) (g := gName 1) (tt := tYes) (te := tOp (rI0 fun i j => .bl (decide (j < i))) (tCall (spDeg K C) [] L2.E0 (tCons (tVar 0) (tCons (tVar 1) tNil))) (tC (.int 60))) (by rfl) scChk.nd
          (pi_range1 (by rfl) gl.nrange (pa_cons (pe_callB call_len_str (by rfl) gl.nlen PySem.boot_len (pa_cons (pe_glob (v := .str "xyzw") (by rfl) g3 ⟨_, rfl⟩) pa_nil)) pa_nil))
          (blkOk_by (own := [("k", 1)]) (N := ["poly", "k"]) (sc := defScope sChk) (by decide +kernel)) (fun _ _ _ _ _ => pg_name (i := 1) scChk.nd rfl (Or.inl rfl)) (fun _ _ _ _ _ => pts_nil)
          (fun _ _ _ _ _ => by exact (pe_cmpR op_gt (pe_can (k' := 1) CD hr pass0 (pa_cons (pv 0) (pa_cons (pv 1) pa_nil))) (pe_glob (v := .int 60) (by rfl) g2 ⟨_, rfl⟩) (nomark _)))) pa_nil))))))
      (pss_one (ps_raiseBad rfl T gB gl.nsuper hr (takes_of rfl rfl rfl rfl) (pa_cons (pe_glob (v := .str "great") (by rfl) g4 ⟨_, rfl⟩) pa_nil))) pss_nil)
      (pss_one (ps_ret (pv 0))), ?_⟩
    have lv1 : vs1.length = p1.length := Paired.length hp1
    have hx : PolyAt K C H (.ref a1) p1 := ⟨a1, dx1, t1, rfl, h1, vs1, ht1, hp1⟩
    have cases_ : ∀ (H' : Hp), Same H H' → (isGreat p1 = true → ∀ d : Addr, H' d = none → E (.ref CB) (some d) (upd H' d (.xd [(("at" : Str), .str "great")]))) ∧ (isGreat p1 = false → Q (.ref a1) H') := fun H' s1 => by
      unfold chk at q
      refine ⟨fun hg d hd => ?_, fun hg => ?_⟩
      · rw [hg, if_pos rfl] at q
        exact q d _ (s1.trans (same_new hd _)) upd_same
      · rw [hg] at q
        exact q _ _ s1 (hx.mono s1)
    refine ⟨_, rfl, a1, C, dx1, _, _, rfl, h1, c, nT, rfl, t1, _, rfl, .inr (SqT.of ht1), _, _, rfl, rfl, ?_⟩
    refine ⟨_, rfl, ite2 (fun c => ?_) (fun c => ?_)⟩
    · have c0 : 300 < p1.length := by
        have := of_decide_eq_true c
        omega
      exact ⟨_, rfl, (cases_ H (fun _ _ e => e)).1 ((isGreat_iff p1).mpr (.inl c0))⟩
    · have c0 : ¬ 300 < p1.length := fun z => c (decide_eq_true (by omega))
      refine ⟨_, rfl, (by decide +kernel), 4, congrArg (fun n => [V.int n]) (by decide +kernel), by decide, by decide, fun D hD => ?_⟩
      refine lc_range (lo := 0) (n := 4) (fun i H' => Same H H' ∧ ∃ bs : List Bool, H' D = some (.lst (bs.map V.bl)) ∧ bs.length ≤ i ∧ (bs.any id = true ↔ ∃ k, k < i ∧ ∃ p ∈ p1, 60 < pw k p.1))
        ⟨same_new hD _, [], upd_same, Nat.le_refl _, by simp⟩ ?_ ?_
      · rintro i H' hi ⟨s1, bs, hDi, hli, hany⟩
        refine ⟨rfl, _, rfl, _, rfl, .ref a1, i, p1, (by rw [Int.zero_add]; rfl), hi, hx.mono s1, hl, fun n H2 s2 dg => ?_⟩
        refine ⟨_, _, rfl, rfl, _, s2 _ _ hDi, ?_, ?_⟩
        · rw [List.length_map]; exact lt_line (by omega)
        refine ⟨fun a o e => ?_, bs ++ [decide (60 < n)], ?_, ?_, ?_⟩
        · rw [upd_ne (ne_of_none e hD)]; exact s2 _ _ (s1 _ _ e)
        · rw [upd_same, List.map_append]; rfl
        · rw [List.length_append]; simp; omega
        · rw [List.any_append, Bool.or_eq_true, hany]
          have e1 : ([decide (60 < n)].any id = true) ↔ 60 < n := by simp
          rw [e1, dg.big]
          constructor
          · rintro (⟨k, hk, z⟩ | z)
            · exact ⟨k, by omega, z⟩
            · exact ⟨i, by omega, z⟩
          · rintro ⟨k, hk, z⟩
            by_cases e : k = i
            · subst e; exact .inr z
            · exact .inl ⟨k, by omega, z⟩
      · rintro H' ⟨s1, bs, hDi, hli, hany⟩
        refine ⟨D, bs, rfl, SqL.of hDi, _, rfl, ?_⟩
        refine ite2 (fun cc => ?_) (fun cc => ?_)
        · exact ⟨_, rfl, (cases_ H' s1).1 ((isGreat_iff p1).mpr (.inr (hany.mp cc)))⟩
        · refine ⟨_, rfl, (cases_ H' s1).2 ?_⟩
          rw [← Bool.not_eq_true, isGreat_iff]
          rintro (z | z)
          · exact c0 z
          · exact cc (hany.mpr z)
/-! ### power_told(poly, many) -/
abbrev sTold : Stmt := top 36
theorem ppow_none {t : Poly} : ∀ {n m : Nat}, ppow t n = none → n ≤ m → ppow t m = none
  | n, 0, h, hm => by
    have : n = 0 := by omega
    rw [this] at h; exact h
  | n, m + 1, h, hm => by
    by_cases e : n = m + 1
    · rw [e] at h; exact h
    · unfold ppow
      rw [ppow_none (m := m) h (by omega)]; rfl
theorem small_len {t : Poly} (h : isGreat t = false) : t.length ≤ 300 := by
  by_cases z : 300 < t.length
  · rw [(isGreat_iff t).mpr (.inl z)] at h; cases h
  · omega
theorem ppow_len {t : Poly} : ∀ {n : Nat} {r : Poly}, ppow t n = some r → r.length ≤ 300
  | 0, r, h => by
    cases h
    exact Nat.le_trans (length_pconst 1) (by decide)
  | n + 1, r, h => by
    unfold ppow at h
    obtain ⟨q, _, h2⟩ := Option.bind_eq_some_iff.mp h
    obtain ⟨e, g⟩ := chk_some h2
    subst e
    exact small_len g
def spTold (K : PySem.W.Frag) (C CB : Addr) : Sp := fun vs H Q E => ∃ (x : V) (n : Nat) (t : Poly) (b : Nat), vs = [x, .int n] ∧ n ≤ 60 ∧ PolyAt K C H x t ∧ Canon t ∧ t.length ≤ 300 ∧ Fits b t ∧ b * n + b + 1 ≤ 400000 ∧ Gives K C CB H Q E (ppow t n)
theorem scTold : FnScope ["poly", "many", "found", "turn"] ["poly", "many"] (defScope sTold) := ⟨rfl, rfl, rfl, by decide +kernel, rfl, by decide +kernel, by decide +kernel⟩
theorem ok_told {CB : Addr} (h : Has K mg "power_told" sTold ["poly", "many"]) (CC : Can P w K mg base CX0 4 "constant" ["number"] (spConst K C)) (CT : Can P w K mg base CX0 4 "times" ["one", "other"] (spTimes K C)) (CK : Can P w K mg base (L2.CX P w) 2 "check_great" ["poly"] (spChk K C CB)) (mR : mg "range" = none) :
    Can P w K mg base (L2.CX P w) 5 "power_told" ["poly", "many"] (spTold K C CB) := by
  obtain ⟨f, fd, g, F, b⟩ := h.ex
  refine ⟨f, fd, g, F.kp, b, F.okX scTold (fun vs H Q E h => ?_) (fun cdv A outer s H vs Q E hr h => ?_)⟩
  · obtain ⟨x, n, t, b, rfl, _⟩ := h
    rfl
  · obtain ⟨x, n, t, b, rfl, hn, hx, hc, hl, hf, hb, q⟩ := h
    refine ⟨_, pss_cons (ps_set (i := 2) scTold.nd rfl (Or.inl rfl) (pe_can CC hr pass0 (pa_cons pe_int pa_nil)))
      (pss_cons (ps_for (passes_of rfl) rfl (pi_range1 (by rfl) mR (pa_cons (pv 1) pa_nil)) (pg_name (i := 3) scTold.nd rfl (Or.inl rfl))
        (pss_one (ps_set (i := 2) scTold.nd rfl (Or.inl rfl) (pe_can CK hr (passes_call (takes_of rfl rfl rfl rfl) (fun _ _ _ _ h => h)) (pa_cons (pe_can CT hr pass0 (pa_cons (pv 2) (pa_cons (pv 0) pa_nil))) pa_nil)))))
      (pss_one (ps_ret (pv 2)))), ?_⟩
    refine ⟨1, rfl, fun v0 H0 s0 hv0 => ?_⟩
    refine ⟨_, rfl, n, rfl, by omega, by omega, ?_⟩
    refine for_range (lo := 0) (n := n) (fun i σ H' => ∃ (v : V) (r : Poly) (u3 : Option V), σ = [some x, some (.int n), some v, u3] ∧ Same H H' ∧ PolyAt K C H' v r ∧ ppow t i = some r) ⟨v0, pconst 1, none, rfl, s0, hv0, rfl⟩ ?_ ?_
    · rintro i σ H' hi ⟨v, r, u3, rfl, s1, hv, hp⟩
      have er := ppow_lpow hp
      have hcr : Canon r := by rw [er]; exact canon_lpow hc i
      have hfr : Fits 400000 r := by rw [er]; exact (hf.pow i).mono (by have := Nat.mul_le_mul_left b (show i ≤ n by omega); omega)
      refine ⟨_, rfl, _, rfl, v, x, r, t, rfl, hv, hx.mono s1, hcr, hc, Nat.le_trans (ppow_len hp) (by decide), Nat.le_trans hl (by decide), hfr, hf.mono (by omega), fun v2 H2 s2 hv2 => ?_⟩
      have nx : ppow t (i + 1) = chk (pmul r t) := by
        show (ppow t i).bind _ = _
        rw [hp]; rfl
      refine ⟨v2, pmul r t, rfl, hv2, ?_, ?_⟩
      · have z := length_pmul r t
        have z2 := Nat.mul_le_mul (ppow_len hp) hl
        omega
      · cases e : chk (pmul r t) with
        | none =>
          rw [e] at nx
          have e2 := ppow_none nx (show i + 1 ≤ n by omega)
          rw [e2] at q
          exact fun d H3 s3 hd => q d H3 (s1.trans (s2.trans s3)) hd
        | some r2 =>
          intro v3 H3 s3 hv3
          exact ⟨v3, r2, _, rfl, s1.trans (s2.trans s3), hv3, by rw [nx, e]⟩
    · rintro σ H' ⟨v, r, u3, rfl, s1, hv, hp⟩
      refine ⟨_, rfl, ?_⟩
      rw [hp] at q
      exact q v H' s1 hv
end
end K46

/-! # Words of a text, by the program -/
namespace K46
open PySem PySem.Spec PyProof.Rows L2
open SX (S)
abbrev tx (w : Word) : V := .str (S w)
theorem figures_mem (c : Nat) : decide (c ∈ (Str.ofString "0123456789").cps.toList) = isDig c := by
  have e : (Str.ofString "0123456789").cps.toList = [48, 49, 50, 51, 52, 53, 54, 55, 56, 57] := by decide +kernel
  rw [e]
  by_cases h : isDig c = true
  · rw [h]
    have := isDig_iff.mp h
    apply decide_eq_true
    simp only [List.mem_cons, List.not_mem_nil, or_false]
    omega
  · rw [Bool.not_eq_true] at h
    rw [h]
    apply decide_eq_false
    intro z
    have : isDig c = true := by
      rw [isDig_iff]
      simp only [List.mem_cons, List.not_mem_nil, or_false] at z
      omega
    rw [h] at this; cases this
theorem digs_drop {cs : List Nat} {i : Nat} {c : Nat} (h : cs[i]? = some c) : digs (cs.drop i) = if isDig c = true then digs (cs.drop (i + 1)) + 1 else 0 := by
  obtain ⟨hl, e⟩ := List.getElem?_eq_some_iff.mp h
  rw [List.drop_eq_getElem_cons hl, e]
  unfold digs
  rw [List.takeWhile_cons]
  split <;> rfl
theorem digs_le (cs : List Nat) : digs cs ≤ cs.length := by
  unfold digs
  exact (List.takeWhile_sublist _).length_le
section
variable {P : Program} {w : World} {K : PySem.W.Frag} {mg : Str → Option Value} {base : Heap} {C : Addr}
/-! ### figures_behind(text, at) -/
abbrev sFig : Stmt := top 31
def spFig : Sp := fun vs H Q _ => ∃ (cs : List Nat) (i : Nat), vs = [tx cs, .int i] ∧ cs.length ≤ 16777216 ∧ i ≤ cs.length ∧ Q (.int ((i + digs (cs.drop i) : Nat) : Int)) H
theorem scFig : FnScope ["text", "at"] ["text", "at"] (defScope sFig) := ⟨rfl, rfl, rfl, by decide +kernel, rfl, by decide +kernel, by decide +kernel⟩
theorem ok_fig (h : Has K mg "figures_behind" sFig ["text", "at"]) (mL : mg "len" = none) {tk : Tok} (gF : mg "FIGURES" = some (.str "0123456789" tk)) : Can P w K mg base CX0 1 "figures_behind" ["text", "at"] spFig := by
  obtain ⟨f, fd, g, F, b⟩ := h.ex
  refine ⟨f, fd, g, F.kp, b, F.ok scFig (fun vs H Q E h => ?_) (fun cdv A outer s H vs Q E hr h => ?_)⟩
  · obtain ⟨cs, i, rfl, _⟩ := h
    rfl
  · obtain ⟨cs, i, rfl, hl, hi, q⟩ := h
    refine ⟨_, pss_cons (ps_while PassesOwn.never (PW.pt (pw_and (pt_cmpR op_lt (pv 1) (pe_callB call_len_str (by rfl) mL PySem.boot_len (pa_cons (pv 0) pa_nil)) (nomark _))
        (pw_and1 (pt_cmpR op_in_sign (pe_ix ix_str (pv 0) (pv 1) (fun _ _ => rfl)) (pe_glob (v := .str "0123456789") (by rfl) gF ⟨_, rfl⟩) rfl))))
        (pss_one (ps_aug (i := 1) scFig.nd rfl (Or.inl rfl) pe_int ip_add)))
      (pss_one (ps_ret (pv 1))), ?_⟩
    let Wv : Nat → L2.St → Hp → Prop := fun m σ H' => H' = H ∧ ∃ j : Nat, m = cs.length - j ∧ σ = [some (tx cs), some (.int j)] ∧ j ≤ cs.length ∧ i + digs (cs.drop i) = j + digs (cs.drop j)
    refine ⟨Wv, ⟨_, rfl, i, rfl, rfl, hi, rfl⟩, ?_⟩
    rintro m σ H' ⟨rfl, j, rfl, rfl, hj, e⟩
    refine ⟨_, rfl, _, rfl, _, rfl, by rw [SX.S_len]; exact le_line hl, _, _, rfl, rfl, _, rfl, ?_⟩
    refine ite2 (fun c => ?_) (fun c => ?_)
    · have hlt : j < cs.length := by
        have := of_decide_eq_true c
        rw [SX.S_len] at this
        omega
      have hget : cs[j]? = some cs[j] := List.getElem?_eq_getElem hlt
      have hd := digs_drop hget
      refine ⟨_, rfl, _, rfl, _, _, _, rfl, rfl, by rw [SX.S_len]; exact le_line hl, atI_nat hget, _, _, rfl, rfl, _, rfl, ?_⟩
      rw [figures_mem]
      refine ite2 (fun c2 => ?_) (fun c2 => ?_)
      · rw [c2, if_pos rfl] at hd
        refine ⟨fun σ' H2 => ∃ m', m' < cs.length - j ∧ Wv m' σ' H2, fun _ _ z => z, ?_⟩
        refine ⟨_, rfl, _, _, rfl, rfl, cs.length - (j + 1), by omega, rfl, j + 1, rfl, rfl, by omega, by omega⟩
      · have c3 : isDig cs[j] = false := by simpa using c2
        rw [c3, if_neg Bool.false_ne_true] at hd
        refine ⟨_, rfl, ?_⟩
        rw [hd] at e
        rw [e] at q
        exact q
    · have hge : ¬ j < cs.length := fun z => c (decide_eq_true (by rw [SX.S_len]; omega))
      refine ⟨_, rfl, ?_⟩
      have z : digs (cs.drop j) = 0 := by rw [List.drop_eq_nil_of_le (by omega)]; rfl
      rw [z] at e
      rw [e] at q
      exact q
/-! ### words_of(text) -/
abbrev sWords : Stmt := top 32
def PairAt (H : Hp) (v : V) (q : Word × Nat) : Prop := ∃ a : Addr, v = .ref a ∧ H a = some (.tup [tx q.1, .int q.2])
theorem PairAt.mono {H H' : Hp} {v : V} {q : Word × Nat} (h : PairAt H v q) (s : Same H H') : PairAt H' v q := by
  obtain ⟨a, e, h1⟩ := h
  exact ⟨a, e, s _ _ h1⟩
theorem PairAt.upd {H : Hp} {v : V} {q : Word × Nat} {d : Addr} {o u : HO} (h : PairAt H v q) (hd : H d = some u) (hu : Mut (some u)) : PairAt (upd H d o) v q := by
  obtain ⟨a, e, h1⟩ := h
  refine ⟨a, e, ?_⟩
  rw [upd_ne (fun z => by rw [z, hd] at h1; cases h1; exact hu)]
  exact h1
/-- the list of a text's words -/
def WordsAt (H : Hp) (l : Addr) (ws : List (Word × Nat)) : Prop := ∃ vs : List V, H l = some (.lst vs) ∧ Paired (PairAt H) vs ws
def spWords : Sp := fun vs H Q _ => ∃ (cs : List Nat) (ws : List (Word × Nat)), vs = [tx cs] ∧ cs.length ≤ 1000000 ∧ TokR cs 0 ws ∧ ∀ (l : Addr) (H' : Hp), Same H H' → WordsAt H' l ws → Q (.ref l) H'
theorem scWords : FnScope ["text", "found", "at", "end"] ["text"] (defScope sWords) := ⟨rfl, rfl, rfl, by decide +kernel, rfl, by decide +kernel, by decide +kernel⟩
theorem stepLen_pos (cs : List Nat) : 0 < stepLen cs := by unfold stepLen; split <;> omega
theorem S_one (c : Nat) : (S [c] : Str) = ⟨#[c]⟩ := rfl
theorem cut_at (cs : List Nat) {i n : Nat} (h : i + n ≤ cs.length) : cutS (S cs) (some (i : Int)) (some ((i + n : Nat) : Int)) = S ((cs.drop i).take n) := by
  unfold cutS
  have e1 : HT.sIx (S cs).length 0 (some (i : Int)) = i := by
    rw [SX.S_len, HT.sIx_nat]; omega
  have e2 : HT.sIx (S cs).length (S cs).length (some ((i + n : Nat) : Int)) = i + n := by
    rw [SX.S_len, HT.sIx_nat]; omega
  rw [e1, e2]
  have : i + n - i = n := by omega
  rw [this]
theorem tok_nil {p : Nat} {ws : List (Word × Nat)} (h : TokR [] p ws) : ws = [] := by
  generalize e : ([] : List Nat) = cs at h
  cases h with
  | nil => rfl
  | blank t => cases e
  | sign _ _ t => cases e
  | num h1 _ _ => exact absurd (List.append_eq_nil_iff.mp e.symm).1 h1.1
theorem ok_words (h : Has K mg "words_of" sWords ["text"]) (CF : Can P w K mg base CX0 1 "figures_behind" ["text", "at"] spFig) (mL : mg "len" = none) : Can P w K mg base CX0 2 "words_of" ["text"] spWords := by
  obtain ⟨f, fd, g, F, b⟩ := h.ex
  refine ⟨f, fd, g, F.kp, b, F.ok scWords (fun vs H Q E h => ?_) (fun cdv A outer s H vs Q E hr h => ?_)⟩
  · obtain ⟨cs, ws, rfl, _⟩ := h
    rfl
  · obtain ⟨cs, ws, rfl, hl, ht, q⟩ := h
    refine ⟨_, pss_cons (ps_set (i := 1) scWords.nd rfl (Or.inl rfl) (pe_lst pa_nil))
      (pss_cons (ps_set (i := 2) scWords.nd rfl (Or.inl rfl) pe_int)
      (pss_cons (ps_while PassesOwn.never (pt_cmpR op_lt (pv 2) (pe_callB call_len_str (by rfl) mL PySem.boot_len (pa_cons (pv 0) pa_nil)) (nomark _))
        (pss_cons (ps_set (i := 3) scWords.nd rfl (Or.inl rfl) (pe_can CF hr pass0 (pa_cons (pv 0) (pa_cons (pv 2) pa_nil))))
        (C8.pss_cut (ps_if (pt_cmpR op_eq (pv 3) (pv 2) (nomark _)) (pss_one (ps_set (i := 3) scWords.nd rfl (Or.inl rfl) (pe_op op_add (pv 2) pe_int))) pss_nil)
        (C8.pss_cut (ps_if (pt_cmpR op_ne (pe_ix ix_str (pv 0) (pv 2) (fun _ _ => rfl)) pe_str (nomark _))
          (pss_one (ps_expr (pe_bm PySem.F.plainAttrs_list PySem.F.slot_list_append PySem.F.type_list_append mt_append (pv 1) (pa_cons (pe_tup (pa_cons (pe_slice sl_str (pv 0) (po_some (pv 2)) (po_some (pv 3))) (pa_cons (pv 2) pa_nil))) pa_nil)))) pss_nil)
        (pss_one (ps_set (i := 2) scWords.nd rfl (Or.inl rfl) (pv 3)))))))
      (pss_one (ps_ret (pv 1))))), ?_⟩
    refine ⟨by decide, fun L hL => ?_⟩
    let Wv : Nat → L2.St → Hp → Prop := fun m σ H' => ∃ (j : Nat) (acc : List V) (ws1 ws2 : List (Word × Nat)) (u3 : Option V), m = cs.length - j ∧ σ = [some (tx cs), some (.ref L), some (.int j), u3] ∧ j ≤ cs.length ∧ Same H H' ∧ H' L = some (.lst acc) ∧ acc.length ≤ j ∧
      Paired (PairAt H') acc ws1 ∧ ws = ws1 ++ ws2 ∧ TokR (cs.drop j) j ws2
    refine ⟨Wv, ⟨_, 0, [], [], ws, none, rfl, rfl, Nat.zero_le _, same_new hL _, upd_same, Nat.le_refl _, .nil, rfl, ht⟩, ?_⟩
    rintro m σ H' ⟨j, acc, ws1, ws2, u3, rfl, rfl, hj, s1, hL', hla, hp, hws, htk⟩
    refine ⟨_, rfl, _, rfl, _, rfl, by rw [SX.S_len]; exact le_line (by omega), _, _, rfl, rfl, _, rfl, ?_⟩
    refine ite2 (fun c => ?_) (fun c => ?_)
    · have hlt : j < cs.length := by
        have := of_decide_eq_true c
        rw [SX.S_len] at this
        omega
      refine ⟨fun σ' H2 => ∃ m', m' < cs.length - j ∧ Wv m' σ' H2, fun _ _ z => z, ?_⟩
      have hdc := List.drop_eq_getElem_cons hlt
      rw [hdc] at htk
      have st := tok_step htk
      rw [← hdc] at st
      have hsl : stepLen (cs.drop j) ≤ cs.length - j := by
        have := st.1
        rw [List.length_drop] at this
        omega
      have hpos := stepLen_pos (cs.drop j)
      refine ⟨_, rfl, _, rfl, cs, j, rfl, by omega, hj, ?_⟩
      refine ⟨fun σ' H2 => σ' = [some (tx cs), some (.ref L), some (.int j), some (.int ((j + stepLen (cs.drop j) : Nat) : Int))] ∧ H2 = H', ?_, ?_⟩
      · refine ⟨_, rfl, _, rfl, rfl, _, rfl, ite2 (fun c => ?_) (fun c => ?_)⟩
        · have e : digs (cs.drop j) = 0 := by
            have := of_decide_eq_true c
            injection this with h1
            omega
          refine ⟨_, rfl, _, _, rfl, rfl, ?_, rfl⟩
          unfold stepLen
          rw [if_pos e]; rfl
        · have e : ¬ digs (cs.drop j) = 0 := fun z => c (decide_eq_true (by rw [z]; rfl))
          refine ⟨?_, rfl⟩
          unfold stepLen
          rw [if_neg e]; rfl
      · rintro σ' H2 ⟨rfl, rfl⟩
        have hget : cs[j]? = some cs[j] := List.getElem?_eq_getElem hlt
        refine ⟨fun σ' H2 => σ' = [some (tx cs), some (.ref L), some (.int j), some (.int ((j + stepLen (cs.drop j) : Nat) : Int))] ∧ ∃ (acc : List V) (ws1 ws2 : List (Word × Nat)), Same H H2 ∧ H2 L = some (.lst acc) ∧ acc.length ≤ j + 1 ∧
          Paired (PairAt H2) acc ws1 ∧ ws = ws1 ++ ws2 ∧ TokR (cs.drop (j + stepLen (cs.drop j))) (j + stepLen (cs.drop j)) ws2, ?_, ?_⟩
        · refine ⟨_, rfl, _, rfl, _, _, _, rfl, rfl, by rw [SX.S_len]; exact le_line (by omega), atI_nat hget, rfl, _, rfl, ite2 (fun c => ?_) (fun c => ?_)⟩
          · have ne : cs[j] ≠ 32 := fun z => by
              rw [z] at c
              exact absurd c (by decide)
            obtain ⟨ws', e1, e2⟩ := st.2.2 ne
            refine ⟨_, rfl, .inl ⟨rfl, _, SqL.of hL'⟩, _, rfl, _, rfl, _, rfl, _, rfl, _, rfl, S cs, rfl, by rw [SX.S_len]; exact le_line (by omega), _, rfl, (by decide : 2 ≤ sizeLine), fun t ht' => ?_⟩
            rw [cut_at cs (by omega)]
            have nt : t ≠ L := fun z => by rw [z, hL'] at ht'; cases ht'
            have sT := same_new ht' (.tup [tx ((cs.drop j).take (stepLen (cs.drop j))), .int j])
            refine ⟨L, _, _, rfl, rfl, sT _ _ hL', lt_line (by omega), rfl, acc ++ [.ref t], ws1 ++ [((cs.drop j).take (stepLen (cs.drop j)), j)], ws', Same.upd_new (s1.trans sT) hL _, upd_same, by rw [List.length_append]; simp; omega, ?_, ?_, ?_⟩
            · refine Paired.snoc (Paired.mapP hp fun v p h => (PairAt.mono h sT).upd (sT _ _ hL') trivial) ?_
              exact PairAt.upd (q := ((cs.drop j).take (stepLen (cs.drop j)), j)) ⟨t, rfl, upd_same⟩ (sT _ _ hL') trivial
            · rw [hws, e1, List.append_assoc]; rfl
            · rw [List.drop_drop] at e2
              exact e2
          · have e : cs[j] = 32 := by
              have c2 : (V.str ⟨#[cs[j]]⟩ = V.str (Str.ofString " ")) := by simpa using c
              injection c2 with c3
              have c4 : (S [cs[j]] : Str) = S [32] := c3
              have c5 := SX.S_inj c4
              simpa using c5
            refine ⟨rfl, acc, ws1, ws2, s1, hL', by omega, hp, hws, ?_⟩
            have := st.2.1 e
            rw [List.drop_drop] at this
            exact this
        · rintro σ' H2 ⟨rfl, acc, ws1, ws2, s2, hL2, hla2, hp2, hws2, ht2⟩
          refine ⟨_, rfl, _, ?_, j + stepLen (cs.drop j), acc, ws1, ws2, _, rfl, rfl, by omega, s2, hL2, by omega, hp2, hws2, ht2⟩
          omega
    · have hge : ¬ j < cs.length := fun z => c (decide_eq_true (by rw [SX.S_len]; omega))
      refine ⟨_, rfl, q L H' s1 ⟨acc, hL', ?_⟩⟩
      rw [List.drop_eq_nil_of_le (by omega)] at htk
      rw [tok_nil htk, List.append_nil] at hws
      rw [hws]; exact hp
end
end K46

/-! # The order of words, by the program -/
namespace K46
open PySem PySem.Spec PyProof.Rows L2
open SX (S)
/-- an Order -/
abbrev ordF (d : Int) (s : Wish) : List (Str × V) := [(("kept_deep" : Str), .int d), (("kept_wish" : Str), .str s.str)]
abbrev ordO (CO dx : Addr) (d : Int) (s : Wish) : HO := .ins CO dx (ordF d s)
theorem put_deep (d e : Int) (s : Wish) : putF "kept_deep" (.int e) (ordF d s) = ordF e s := by
  unfold putF; rw [if_pos rfl]
theorem put_wish (d : Int) (s t : Wish) : putF "kept_wish" (.str t.str) (ordF d s) = ordF d t := by
  unfold putF; rw [if_neg (by decide +kernel)]; unfold putF; rw [if_pos rfl]
theorem look_deep (d : Int) (s : Wish) : List.lookup ("kept_deep" : Str) (ordF d s) = some (.int d) := by
  simp [List.lookup]
theorem look_wish (d : Int) (s : Wish) : List.lookup ("kept_wish" : Str) (ordF d s) = some (.str s.str) := by
  have : (("kept_wish" : Str) == ("kept_deep" : Str)) = false := by decide +kernel
  simp [List.lookup, this]
section
variable {P : Program} {w : World} {K : PySem.W.Frag} {mg : Str → Option Value} {base : Heap} {CO : Addr}
/-! ### Order.__init__, is_whole -/
abbrev sOInit : Stmt := inClass (top 33) 0
def spOInit (CO : Addr) : Sp := fun vs H Q _ => ∃ (x dx : Addr), vs = [.ref x] ∧ H x = some (.ins CO dx []) ∧ Q .non (upd H x (ordO CO dx 0 .beg))
theorem scOInit : FnScope ["self"] ["self"] (defScope sOInit) := ⟨rfl, rfl, rfl, by decide +kernel, rfl, by decide +kernel, by decide +kernel⟩
structure OrdCls (K : PySem.W.Frag) (CO : Addr) : Prop where
  cl : Cls K CO
  nD : NoAttr K CO "kept_deep"
  nW : NoAttr K CO "kept_wish"
theorem ok_oinit (h : HasI K mg "Order" CO "Order.__init__" sOInit ["self"]) (c : OrdCls K CO) : CanI P w K mg base CX0 1 "Order" CO ["self"] (spOInit CO) := by
  obtain ⟨f, fd, g, M, F, b⟩ := h.ex
  refine ⟨f, fd, g, M, b, F.ok scOInit (fun vs H Q E h => ?_) (fun cdv A outer s H vs Q E hr h => ?_)⟩
  · obtain ⟨x, dx, rfl, _⟩ := h
    rfl
  · obtain ⟨x, dx, rfl, hx, k⟩ := h
    refine ⟨_, pss_cons (ps_fld (pv 0) pe_int rfl) (pss_one (ps_fld (pv 0) pe_str rfl)), ?_⟩
    refine ⟨_, rfl, x, CO, dx, _, rfl, hx, c.cl, c.nD, (by show 0 < 1000; decide), ?_⟩
    refine ⟨_, rfl, x, CO, dx, _, rfl, upd_same, c.cl, c.nW, (by show 1 < 1000; decide), ?_⟩
    rw [upd_upd]
    exact k
abbrev sOWhole : Stmt := inClass (top 33) 4
def spOWhole (CO : Addr) : Sp := fun vs H Q _ => ∃ (x dx : Addr) (s : Wish), vs = [.ref x] ∧ H x = some (ordO CO dx 0 s) ∧ (s = .beh ∨ s = .rai) ∧ ∀ H', Same H H' → Q (.bl true) H'
theorem scOWhole : FnScope ["self"] ["self"] (defScope sOWhole) := ⟨rfl, rfl, rfl, by decide +kernel, rfl, by decide +kernel, by decide +kernel⟩
theorem ok_owhole (h : HasM K CO "is_whole" "Order.is_whole" sOWhole ["self"]) (c : OrdCls K CO) : CanM P w K mg base CX0 1 CO "is_whole" ["self"] (spOWhole CO) := by
  obtain ⟨f, fd, M, F, b⟩ := h.ex
  refine ⟨f, fd, M, b, F.ok scOWhole (fun vs H Q E h => ?_) (fun cdv A outer s H vs Q E hr h => ?_)⟩
  · obtain ⟨x, dx, s, rfl, _⟩ := h
    rfl
  · obtain ⟨x, dx, s, rfl, hx, hs, k⟩ := h
    refine ⟨_, pss_one (ps_ret (pe_and (pe_cmpR op_eq (pe_fld (pv 0) rfl) pe_int (nomark _)) (pe_one (pe_cmpR op_in_seq (pe_fld (pv 0) rfl) (pe_tup (pa_cons pe_str (pa_cons pe_str pa_nil))) (by rfl))))), ?_⟩
    refine ⟨_, rfl, x, CO, dx, _, _, rfl, hx, c.cl, c.nD, look_deep _ _, rfl, _, rfl, ?_⟩
    refine ite2 (fun _ => ?_) (fun z => absurd (by decide) z)
    refine ⟨_, rfl, x, CO, dx, _, _, rfl, hx, c.cl, c.nW, look_wish _ _, (by decide : 2 ≤ sizeLine), fun p hp => ?_⟩
    refine ⟨p, _, rfl, .inr (SqT.of upd_same), rfl, rfl, ?_⟩
    have e : inV (.str s.str) [.str ("behind" : Str), .str ("raised" : Str)] = true := by
      rcases hs with e | e <;> subst e <;> decide +kernel
    show Q (.bl (inV (.str s.str) [.str ("behind" : Str), .str ("raised" : Str)])) _
    rw [e]
    exact k _ (same_new hp _)
/-! ### Order.take_factor, take_behind -/
def Keep (o : Addr) (H H' : Hp) : Prop := ∀ a u, a ≠ o → H a = some u → H' a = some u
theorem Keep.trans {o : Addr} {H1 H2 H3 : Hp} (h : Keep o H1 H2) (k : Keep o H2 H3) : Keep o H1 H3 := fun a u n e => k a u n (h a u n e)
theorem Keep.refl {o : Addr} {H : Hp} : Keep o H H := fun _ _ _ e => e
theorem Keep.at {o : Addr} {H : Hp} (u : HO) : Keep o H (upd H o u) := fun a v n e => by rw [upd_ne n]; exact e
theorem Keep.of {o : Addr} {H H' : Hp} (s : Same H H') : Keep o H H' := fun a u _ e => s a u e
theorem signs_in (w : Word) : (!(Builtin.Str.occurrences (Str.ofString "+-") (S w) 0 (Str.ofString "+-").length 1).isEmpty) = inS plusMinus w := by
  have e : Str.ofString "+-" = S plusMinus := by decide +kernel
  rw [e]; rfl
theorem letters_in (w : Word) : (!(Builtin.Str.occurrences (Str.ofString "xyzw") (S w) 0 (Str.ofString "xyzw").length 1).isEmpty) = inS letters w := by
  have e : Str.ofString "xyzw" = S letters := by decide +kernel
  rw [e]; rfl
theorem tx_eq (w u : Word) : decide (tx w = tx u) = decide (w = u) := by
  by_cases e : w = u
  · subst e; simp
  · rw [decide_eq_false e]
    apply decide_eq_false
    intro z
    injection z with z
    exact e (SX.S_inj z)
abbrev spOrd (CO : Addr) (f : Wish → Int → Word → Bool × Wish × Int) : Sp := fun vs H Q _ => ∃ (x dx : Addr) (d : Int) (s : Wish) (w : Word), vs = [.ref x, tx w] ∧ H x = some (ordO CO dx d s) ∧ w ≠ [] ∧ w.length ≤ 1000000 ∧
  ∀ H', Keep x H H' → H' x = some (ordO CO dx (f s d w).2.2 (f s d w).2.1) → Q (.bl (f s d w).1) H'
structure GlOrd (mg : Str → Option Value) : Prop where
  signs : ∃ t, mg "SIGNS" = some (.str "+-" t)
  letters : ∃ t, mg "LETTERS" = some (.str "xyzw" t)
  figures : ∃ t, mg "FIGURES" = some (.str "0123456789" t)
abbrev sOFac : Stmt := inClass (top 33) 2
theorem scOFac : FnScope ["self", "word", "is_let"] ["self", "word"] (defScope sOFac) := ⟨rfl, rfl, rfl, by decide +kernel, rfl, by decide +kernel, by decide +kernel⟩
theorem ok_ofac (h : HasM K CO "take_factor" "Order.take_factor" sOFac ["self", "word"]) (c : OrdCls K CO) (gl : GlOrd mg) : CanM P w K mg base CX0 1 CO "take_factor" ["self", "word"] (spOrd CO tkF) := by
  obtain ⟨f, fd, M, F, b⟩ := h.ex
  obtain ⟨_, g1⟩ := gl.signs
  obtain ⟨_, g2⟩ := gl.letters
  obtain ⟨_, g3⟩ := gl.figures
  refine ⟨f, fd, M, b, F.ok scOFac (fun vs H Q E h => ?_) (fun cdv A outer s H vs Q E hr h => ?_)⟩
  · obtain ⟨x, dx, d, s, w, rfl, _⟩ := h
    rfl
  · obtain ⟨x, dx, d, s, w, rfl, hx, hw, hlw, k⟩ := h
    refine ⟨_, pss_cons (ps_if (pt_cmpR op_in_str (pv 1) (pe_glob (v := .str "+-") (by rfl) g1 ⟨_, rfl⟩) (by rfl))
        (pss_cons (ps_set (i := 2) scOFac.nd rfl (Or.inl rfl) (pe_cmpR op_eq (pe_fld (pv 0) rfl) pe_str (nomark _))) (pss_cons (ps_fld (pv 0) pe_str rfl) (pss_one (ps_ret (pv 2))))) pss_nil)
      (pss_cons (ps_if (pt_cmpR op_eq (pv 1) pe_str (nomark _)) (pss_cons (ps_fldaug (pv 0) pe_int in_add) (pss_cons (ps_fld (pv 0) pe_str rfl) (pss_one (ps_ret pe_bl)))) pss_nil)
      (pss_cons (ps_fld (pv 0) pe_str rfl)
      (pss_one (ps_ret (pe_or (pe_cmpR op_in_sign (pe_ix ix_str (pv 1) pe_int (fun _ _ => rfl)) (pe_glob (v := .str "0123456789") (by rfl) g3 ⟨_, rfl⟩) (by rfl))
        (pe_one (pe_cmpR op_in_str (pv 1) (pe_glob (v := .str "xyzw") (by rfl) g2 ⟨_, rfl⟩) (by rfl)))))))), ?_⟩
    refine ⟨_, rfl, _, _, rfl, rfl, _, rfl, ?_⟩
    rw [signs_in]
    unfold tkF at k
    refine ite2 (fun c1 => ?_) (fun c1 => ?_)
    · rw [if_pos c1] at k
      refine ⟨_, rfl, x, CO, dx, _, _, rfl, hx, c.cl, c.nW, look_wish _ _, rfl, ?_⟩
      refine ⟨_, rfl, x, CO, dx, _, rfl, hx, c.cl, c.nW, (by show 2 < 1000; decide), _, rfl, ?_⟩
      have e := wish_eq s .beg
      show Q (.bl (decide (V.str s.str = V.str Wish.beg.str))) _
      rw [e]
      exact k _ (Keep.at _) (by rw [upd_same]; exact congrArg (fun z => some (HO.ins CO dx z)) (put_wish d s .fac))
    · rw [if_neg c1] at k
      refine ⟨_, rfl, rfl, _, rfl, ?_⟩
      show if decide (tx w = tx [40]) = true then _ else _
      rw [tx_eq]
      refine ite2 (fun c2 => ?_) (fun c2 => ?_)
      · rw [if_pos (of_decide_eq_true c2)] at k
        refine ⟨_, rfl, x, CO, dx, _, _, rfl, hx, c.cl, c.nD, look_deep _ _, _, _, rfl, rfl, dx, _, hx, (by show 2 < 1000; decide), ?_⟩
        refine ⟨_, rfl, x, CO, dx, _, rfl, upd_same, c.cl, c.nW, ?_, ?_⟩
        · rw [put_deep]; show 2 < 1000; decide
        · refine k _ ((Keep.at _).trans (Keep.at _)) ?_
          rw [upd_same, put_deep]
          exact congrArg (fun z => some (HO.ins CO dx z)) (put_wish _ s .beg)
      · rw [if_neg (fun z => c2 (decide_eq_true z))] at k
        refine ⟨_, rfl, x, CO, dx, _, rfl, hx, c.cl, c.nW, (by show 2 < 1000; decide), ?_⟩
        obtain ⟨z, r, rfl⟩ : ∃ z r, w = z :: r := by
          cases w with
          | nil => exact absurd rfl hw
          | cons z r => exact ⟨z, r, rfl⟩
        refine ⟨_, rfl, _, _, _, rfl, rfl, by rw [SX.S_len]; exact le_line (by omega), (atI_nat (j := 0) (xs := z :: r) rfl), _, _, rfl, rfl, _, rfl, ?_⟩
        rw [figures_mem]
        have e1 : (z :: r : List Nat).headD 0 = z := rfl
        rw [e1] at k
        have kk := k (upd H x (.ins CO dx (putF "kept_wish" (.str Wish.beh.str) (ordF d s)))) (Keep.at _) (by rw [upd_same]; exact congrArg (fun z => some (HO.ins CO dx z)) (put_wish d s .beh))
        refine ite2 (fun c3 => ?_) (fun c3 => ?_)
        · rw [c3] at kk
          exact kk
        · have c4 : isDig z = false := by simpa using c3
          rw [c4, Bool.false_or] at kk
          refine ⟨_, rfl, _, _, rfl, rfl, ?_⟩
          rw [letters_in]
          exact kk
abbrev sOBeh : Stmt := inClass (top 33) 3
theorem scOBeh : FnScope ["self", "word", "is_let"] ["self", "word"] (defScope sOBeh) := ⟨rfl, rfl, rfl, by decide +kernel, rfl, by decide +kernel, by decide +kernel⟩
theorem ok_obeh (h : HasM K CO "take_behind" "Order.take_behind" sOBeh ["self", "word"]) (c : OrdCls K CO) (gl : GlOrd mg) : CanM P w K mg base CX0 1 CO "take_behind" ["self", "word"] (spOrd CO tkB) := by
  obtain ⟨f, fd, M, F, b⟩ := h.ex
  obtain ⟨_, g1⟩ := gl.signs
  refine ⟨f, fd, M, b, F.ok scOBeh (fun vs H Q E h => ?_) (fun cdv A outer s H vs Q E hr h => ?_)⟩
  · obtain ⟨x, dx, d, s, w, rfl, _⟩ := h
    rfl
  · obtain ⟨x, dx, d, s, w, rfl, hx, hw, hlw, k⟩ := h
    refine ⟨_, pss_cons (ps_if (pt_cmpR op_eq (pv 1) pe_str (nomark _))
        (pss_cons (ps_set (i := 2) scOBeh.nd rfl (Or.inl rfl) (pe_cmpR op_eq (pe_fld (pv 0) rfl) pe_str (nomark _))) (pss_cons (ps_fld (pv 0) pe_str rfl) (pss_one (ps_ret (pv 2))))) pss_nil)
      (pss_cons (ps_if (pt_cmpR op_eq (pv 1) pe_str (nomark _)) (pss_cons (ps_fldaug (pv 0) pe_int in_sub) (pss_cons (ps_fld (pv 0) pe_str rfl) (pss_one (ps_ret (pe_cmpR op_ge (pe_fld (pv 0) rfl) pe_int (nomark _)))))) pss_nil)
      (pss_cons (ps_fld (pv 0) pe_str rfl)
      (pss_one (ps_ret (pe_or (pe_cmpR op_eq (pv 1) pe_str (nomark _))
        (pe_one (pe_cmpR op_in_str (pv 1) (pe_glob (v := .str "+-") (by rfl) g1 ⟨_, rfl⟩) (by rfl)))))))), ?_⟩
    unfold tkB at k
    refine ⟨_, rfl, rfl, _, rfl, ?_⟩
    show if decide (tx w = tx [94]) = true then _ else _
    rw [tx_eq]
    refine ite2 (fun c1 => ?_) (fun c1 => ?_)
    · rw [if_pos (of_decide_eq_true c1)] at k
      refine ⟨_, rfl, x, CO, dx, _, _, rfl, hx, c.cl, c.nW, look_wish _ _, rfl, ?_⟩
      refine ⟨_, rfl, x, CO, dx, _, rfl, hx, c.cl, c.nW, (by show 2 < 1000; decide), _, rfl, ?_⟩
      have e := wish_eq s .beh
      show Q (.bl (decide (V.str s.str = V.str Wish.beh.str))) _
      rw [e]
      exact k _ (Keep.at _) (by rw [upd_same]; exact congrArg (fun z => some (HO.ins CO dx z)) (put_wish d s .pow))
    · rw [if_neg (fun z => c1 (decide_eq_true z))] at k
      refine ⟨_, rfl, rfl, _, rfl, ?_⟩
      show if decide (tx w = tx [41]) = true then _ else _
      rw [tx_eq]
      refine ite2 (fun c2 => ?_) (fun c2 => ?_)
      · rw [if_pos (of_decide_eq_true c2)] at k
        refine ⟨_, rfl, x, CO, dx, _, _, rfl, hx, c.cl, c.nD, look_deep _ _, _, _, rfl, rfl, dx, _, hx, (by show 2 < 1000; decide), ?_⟩
        refine ⟨_, rfl, x, CO, dx, _, rfl, upd_same, c.cl, c.nW, ?_, ?_⟩
        · rw [put_deep]; show 2 < 1000; decide
        · have e : putF "kept_wish" (.str ("behind" : Str)) (putF "kept_deep" (.int (d - 1)) (ordF d s)) = ordF (d - 1) .beh := by
            rw [put_deep]; exact put_wish _ s .beh
          rw [e]
          refine ⟨_, rfl, x, CO, dx, _, _, rfl, upd_same, c.cl, c.nD, look_deep _ _, _, _, rfl, rfl, ?_⟩
          exact k _ ((Keep.at _).trans (Keep.at _)) upd_same
      · rw [if_neg (fun z => c2 (decide_eq_true z))] at k
        refine ⟨_, rfl, x, CO, dx, _, rfl, hx, c.cl, c.nW, (by show 2 < 1000; decide), ?_⟩
        have kk := k (upd H x (.ins CO dx (putF "kept_wish" (.str Wish.fac.str) (ordF d s)))) (Keep.at _) (by rw [upd_same]; exact congrArg (fun z => some (HO.ins CO dx z)) (put_wish d s .fac))
        refine ⟨_, rfl, rfl, _, rfl, ?_⟩
        show if decide (tx w = tx [42]) = true then _ else _
        rw [tx_eq]
        refine ite2 (fun c3 => ?_) (fun c3 => ?_)
        · rw [c3] at kk
          exact kk
        · have c4 : decide (w = [42]) = false := by simpa using c3
          rw [c4, Bool.false_or] at kk
          refine ⟨_, rfl, _, _, rfl, rfl, ?_⟩
          rw [signs_in]
          exact kk
/-! ### Order.take -/
abbrev sOTake : Stmt := inClass (top 33) 1
theorem scOTake : FnScope ["self", "word"] ["self", "word"] (defScope sOTake) := ⟨rfl, rfl, rfl, by decide +kernel, rfl, by decide +kernel, by decide +kernel⟩
theorem ok_otake (h : HasM K CO "take" "Order.take" sOTake ["self", "word"]) (MF : CanM P w K mg base CX0 1 CO "take_factor" ["self", "word"] (spOrd CO tkF)) (MB : CanM P w K mg base CX0 1 CO "take_behind" ["self", "word"] (spOrd CO tkB)) (c : OrdCls K CO) (gl : GlOrd mg) :
    CanM P w K mg base CX0 2 CO "take" ["self", "word"] (spOrd CO tk) := by
  obtain ⟨f, fd, M, F, b⟩ := h.ex
  obtain ⟨_, g3⟩ := gl.figures
  refine ⟨f, fd, M, b, F.ok scOTake (fun vs H Q E h => ?_) (fun cdv A outer s H vs Q E hr h => ?_)⟩
  · obtain ⟨x, dx, d, s, w, rfl, _⟩ := h
    rfl
  · obtain ⟨x, dx, d, s, w, rfl, hx, hw, hlw, k⟩ := h
    refine ⟨_, pss_cons (ps_if (pt_cmpR op_eq (pe_fld (pv 0) rfl) pe_str (nomark _)) (pss_cons (ps_fld (pv 0) pe_str rfl) (pss_one (ps_ret (pe_cmpR op_in_sign (pe_ix ix_str (pv 1) pe_int (fun _ _ => rfl)) (pe_glob (v := .str "0123456789") (by rfl) g3 ⟨_, rfl⟩) (by rfl))))) pss_nil)
      (pss_cons (ps_if (pt_cmpR op_in_seq (pe_fld (pv 0) rfl) (pe_tup (pa_cons pe_str (pa_cons pe_str pa_nil))) (by rfl)) (pss_one (ps_ret (pe_canM MF c.cl hr pass0 (pv 0) (pa_cons (pv 1) pa_nil)))) pss_nil)
      (pss_one (ps_ret (pe_canM MB c.cl hr pass0 (pv 0) (pa_cons (pv 1) pa_nil))))), ?_⟩
    refine ⟨_, rfl, x, CO, dx, _, _, rfl, hx, c.cl, c.nW, look_wish _ _, rfl, _, rfl, ?_⟩
    show if decide (V.str s.str = V.str Wish.pow.str) = true then _ else _
    rw [wish_eq]
    refine ite2 (fun c1 => ?_) (fun c1 => ?_)
    · have e := of_decide_eq_true c1
      subst e
      refine ⟨_, rfl, x, CO, dx, _, rfl, hx, c.cl, c.nW, (by show 2 < 1000; decide), ?_⟩
      obtain ⟨z, r, rfl⟩ : ∃ z r, w = z :: r := by
        cases w with
        | nil => exact absurd rfl hw
        | cons z r => exact ⟨z, r, rfl⟩
      refine ⟨_, rfl, _, _, _, rfl, rfl, by rw [SX.S_len]; exact le_line (by omega), (atI_nat (j := 0) (xs := z :: r) rfl), _, _, rfl, rfl, ?_⟩
      rw [figures_mem]
      exact k (upd H x (.ins CO dx (putF "kept_wish" (.str Wish.rai.str) (ordF d .pow)))) (Keep.at _) (by rw [upd_same]; exact congrArg (fun z => some (HO.ins CO dx z)) (put_wish d .pow .rai))
    · refine ⟨_, rfl, x, CO, dx, _, _, rfl, hx, c.cl, c.nW, look_wish _ _, (by decide : 2 ≤ sizeLine), fun p hp => ?_⟩
      have sp := same_new hp (.tup [.str ("begin" : Str), .str ("factor" : Str)])
      refine ⟨p, _, rfl, .inr (SqT.of upd_same), rfl, rfl, _, rfl, ?_⟩
      show if inV (.str s.str) [.str ("begin" : Str), .str ("factor" : Str)] = true then _ else _
      have fin : ∀ (g : Wish → Int → Word → Bool × Wish × Int), tk s d w = g s d w → spOrd CO g [.ref x, tx w] (upd H p (.tup [.str ("begin" : Str), .str ("factor" : Str)])) Q L2.E0 := fun g e => by
        rw [e] at k
        exact ⟨x, dx, d, s, w, rfl, sp _ _ hx, hw, hlw, fun H' k1 h1 => k H' ((Keep.of sp).trans k1) h1⟩
      cases s with
      | pow => exact absurd rfl c1
      | beg =>
        rw [show inV (.str Wish.beg.str) [.str ("begin" : Str), .str ("factor" : Str)] = true by decide +kernel]
        refine iteT ?_
        exact ⟨_, rfl, x, dx, _, rfl, sp _ _ hx, rfl, _, rfl, fin tkF rfl⟩
      | fac =>
        rw [show inV (.str Wish.fac.str) [.str ("begin" : Str), .str ("factor" : Str)] = true by decide +kernel]
        refine iteT ?_
        exact ⟨_, rfl, x, dx, _, rfl, sp _ _ hx, rfl, _, rfl, fin tkF rfl⟩
      | beh =>
        rw [show inV (.str Wish.beh.str) [.str ("begin" : Str), .str ("factor" : Str)] = false by decide +kernel]
        refine iteF ?_
        exact ⟨_, rfl, x, dx, _, rfl, sp _ _ hx, rfl, _, rfl, fin tkB rfl⟩
      | rai =>
        rw [show inV (.str Wish.rai.str) [.str ("begin" : Str), .str ("factor" : Str)] = false by decide +kernel]
        refine iteF ?_
        exact ⟨_, rfl, x, dx, _, rfl, sp _ _ hx, rfl, _, rfl, fin tkB rfl⟩
/-! ### check_form -/
abbrev sForm : Stmt := top 34
def spForm : Sp := fun vs H Q _ => ∃ (x : V) (l : Addr) (ws : List (Word × Nat)) (s : Wish) (mx : Int), vs = [x, .ref l] ∧ WordsAt H l ws ∧ (∀ q ∈ ws, q.1 ≠ [] ∧ q.1.length ≤ 1000000) ∧ orun .beg 0 0 (ws.map (·.1)) = some (s, 0, mx) ∧ (s = .beh ∨ s = .rai) ∧ ∀ H', Same H H' → Q (.int mx) H'
theorem scForm : FnScope ["text", "words", "order", "deepest", "word", "at"] ["text", "words"] (defScope sForm) := ⟨rfl, rfl, rfl, by decide +kernel, rfl, by decide +kernel, by decide +kernel⟩
theorem Keep.same {o : Addr} {H H1 H2 : Hp} (s : Same H H1) (n : H o = none) (k : Keep o H1 H2) : Same H H2 := fun a u e => k a u (ne_of_none e n) (s a u e)
theorem ok_form (h : Has K mg "check_form" sForm ["text", "words"]) (OI : CanI P w K mg base CX0 1 "Order" CO ["self"] (spOInit CO)) (OT : CanM P w K mg base CX0 2 CO "take" ["self", "word"] (spOrd CO tk)) (OW : CanM P w K mg base CX0 1 CO "is_whole" ["self"] (spOWhole CO)) (c : OrdCls K CO) (mM : mg "max" = none) :
    Can P w K mg base CX0 3 "check_form" ["text", "words"] spForm := by
  obtain ⟨f, fd, g, F, b⟩ := h.ex
  refine ⟨f, fd, g, F.kp, b, F.ok scForm (fun vs H Q E h => ?_) (fun cdv A outer s H vs Q E hr h => ?_)⟩
  · obtain ⟨x, l, ws, s, mx, rfl, _⟩ := h
    rfl
  · obtain ⟨x, l, ws, fs, fmx, rfl, ⟨vs, hl, hp⟩, hne, hrun, hfs, k⟩ := h
    refine ⟨_, pss_cons (ps_set (i := 2) scForm.nd rfl (Or.inl rfl) (pe_canI0 OI hr pass0))
      (pss_cons (ps_set (i := 3) scForm.nd rfl (Or.inl rfl) pe_int)
      (pss_cons (ps_for PassesOwn.never rfl (pi_list (pv 1)) (pg_tup (by rfl) (pgs_cons (pg_name (i := 4) scForm.nd rfl (Or.inl rfl)) (pgs_cons (pg_name (i := 5) scForm.nd rfl (Or.inl rfl)) pgs_nil)))
        (pss_cons (ps_if (pt_not (pt_val (pe_canM OT c.cl hr pass0 (pv 2) (pa_cons (pv 4) pa_nil)))) (pss_one ps_never) pss_nil)
        (pss_one (ps_set (i := 3) scForm.nd rfl (Or.inl rfl) (pe_callB (call_max2 (by rfl)) (by rfl) mM (by decide +kernel) (pa_cons (pv 3) (pa_cons (pe_fld (pv 2) rfl) pa_nil)))))))
      (pss_cons (ps_if (pt_not (pt_val (pe_canM0 OW c.cl hr pass0 (pv 2)))) (pss_one ps_never) pss_nil)
      (pss_one (ps_ret (pv 3)))))), ?_⟩
    intro o dx no ndx nex
    refine ⟨o, dx, rfl, upd_same, ?_⟩
    rw [upd_upd]
    have s0 : Same H (upd (upd H dx (.own o)) o (ordO CO dx 0 .beg)) := fun a u e => by rw [upd_ne (ne_of_none e no), upd_ne (ne_of_none e ndx)]; exact e
    have lv : vs.length = ws.length := Paired.length hp
    refine ⟨rfl, ?_⟩
    refine ⟨_, rfl, l, rfl, ⟨_, SqL.of (s0 _ _ hl)⟩, ?_⟩
    refine for_list (xs := vs) (fun i σ H' => ∃ (s : Wish) (d m : Int) (u4 u5 : Option V), σ = [some x, some (.ref l), some (.ref o), some (.int m), u4, u5] ∧ Same H H' ∧ H' o = some (ordO CO dx d s) ∧ orun s d m ((ws.drop i).map (·.1)) = some (fs, 0, fmx))
      ⟨.beg, 0, 0, none, none, rfl, s0, upd_same, hrun⟩ (fun i σ H' _ ⟨_, _, _, _, _, _, s1, _⟩ => SqL.of (s1 _ _ hl)) ?_ ?_
    · rintro i v σ H' hi ⟨s, d, m, u4, u5, rfl, s1, hO, hrn⟩
      obtain ⟨q, hq, ⟨a, rfl, ha⟩⟩ := pair_get hp hi
      obtain ⟨hil, hqe⟩ := List.getElem?_eq_some_iff.mp hq
      have hmem : q ∈ ws := List.mem_of_getElem? hq
      rw [List.drop_eq_getElem_cons hil, hqe, List.map_cons, orun_cons] at hrn
      refine ⟨a, _, rfl, SqT.of (s1 _ _ ha), rfl, _, _, rfl, _, _, rfl, rfl, ?_⟩
      by_cases hb : (tk s d q.1).1 = true
      · rw [if_pos hb] at hrn
        refine ⟨_, rfl, o, dx, _, rfl, hO, rfl, _, rfl, o, dx, d, s, q.1, rfl, hO, (hne q hmem).1, (hne q hmem).2, fun H2 k2 hO2 => ?_⟩
        rw [hb]
        refine ⟨true, rfl, ?_⟩
        refine ⟨_, rfl, _, rfl, o, CO, dx, _, _, rfl, hO2, c.cl, c.nD, look_deep _ _, _, _, rfl, ?_⟩
        exact ⟨(tk s d q.1).2.1, (tk s d q.1).2.2, _, _, _, rfl, Keep.same s1 no k2, hO2, hrn⟩
      · rw [if_neg hb] at hrn; cases hrn
    · rintro σ H' ⟨s, d, m, u4, u5, rfl, s1, hO, hrn⟩
      rw [lv, List.drop_length] at hrn
      have e := Option.some.inj hrn
      obtain ⟨rfl, e2⟩ := Prod.mk.inj e
      obtain ⟨rfl, rfl⟩ := Prod.mk.inj e2
      refine ⟨_, rfl, o, dx, _, rfl, hO, rfl, o, dx, s, rfl, hO, hfs, fun H2 s2 => ?_⟩
      refine ⟨true, rfl, ?_⟩
      exact ⟨_, rfl, k H2 (s1.trans s2)⟩
end
end K46

/-! # The reader -/
namespace K46
open PySem PySem.Spec PyProof.Rows L2
open SX (S)
abbrev rdF (l : Addr) (p : Nat) : List (Str × V) := [(("kept_words" : Str), .ref l), (("kept_at" : Str), .int p)]
abbrev rdO (CR dx l : Addr) (p : Nat) : HO := .ins CR dx (rdF l p)
theorem put_at (l : Addr) (p : Nat) (q : Int) : putF "kept_at" (.int q) (rdF l p) = [(("kept_words" : Str), .ref l), (("kept_at" : Str), .int q)] := by
  unfold putF; rw [if_neg (by decide +kernel)]; unfold putF; rw [if_pos rfl]
theorem look_words (l : Addr) (p : Int) : List.lookup ("kept_words" : Str) [(("kept_words" : Str), V.ref l), (("kept_at" : Str), .int p)] = some (.ref l) := by
  simp [List.lookup]
theorem look_at (l : Addr) (p : Int) : List.lookup ("kept_at" : Str) [(("kept_words" : Str), V.ref l), (("kept_at" : Str), .int p)] = some (.int p) := by
  have : (("kept_at" : Str) == ("kept_words" : Str)) = false := by decide +kernel
  simp [List.lookup, this]
theorem inV_tx (w : Word) : ∀ ys : List Word, inV (tx w) (ys.map tx) = decide (w ∈ ys)
  | [] => rfl
  | y :: ys => by
    have ih := inV_tx w ys
    unfold inV at *
    rw [List.map_cons, List.any_cons, ih]
    have e : eqV (tx y) (tx w) = decide (y = w) := by
      show (S y == S w) = _
      exact SX.S_beq_eq
    rw [e]
    by_cases h : y = w
    · subst h; simp
    · rw [decide_eq_false h, Bool.false_or]
      apply decide_eq_decide.mpr
      constructor
      · exact fun z => List.mem_cons_of_mem _ z
      · intro z
        rcases List.mem_cons.mp z with z | z
        · exact absurd z.symm h
        · exact z
theorem flat_tx : ∀ ys : List Word, (ys.map tx).all flatV = true
  | [] => rfl
  | y :: ys => by rw [List.map_cons, List.all_cons, flat_tx ys]; rfl
theorem tx_nil : V.str ("" : Str) = tx [] := congrArg V.str (by decide +kernel)
structure RdCls (K : PySem.W.Frag) (CR : Addr) : Prop where
  cl : Cls K CR
  nW : NoAttr K CR "kept_words"
  nA : NoAttr K CR "kept_at"
/-- the reader r stands at the word p of ws -/
structure RAt (CR : Addr) (H : Hp) (r dx l : Addr) (ws : List Word) (p : Nat) : Prop where
  ob : H r = some (rdO CR dx l p)
  ls : H l = some (.lst (ws.map tx))
theorem RAt.ne {CR : Addr} {H : Hp} {r dx l : Addr} {ws : List Word} {p : Nat} (h : RAt CR H r dx l ws p) : l ≠ r := fun e => by
  have := h.ls
  rw [e, h.ob] at this
  cases this
theorem RAt.keep {CR : Addr} {H H' : Hp} {r dx l : Addr} {ws : List Word} {p q : Nat} (h : RAt CR H r dx l ws p) (k : Keep r H H') (e : H' r = some (rdO CR dx l q)) : RAt CR H' r dx l ws q := ⟨e, k _ _ h.ne h.ls⟩
theorem RAt.same {CR : Addr} {H H' : Hp} {r dx l : Addr} {ws : List Word} {p : Nat} (h : RAt CR H r dx l ws p) (k : Same H H') : RAt CR H' r dx l ws p := ⟨k _ _ h.ob, k _ _ h.ls⟩
/-- a polynomial stands though the reader moves -/
theorem PolyAt.keep {K : PySem.W.Frag} {C CR : Addr} {H H' : Hp} {r dx l : Addr} {ws : List Word} {p : Nat} {v : V} {t : Poly} (h : PolyAt K C H v t) (ra : RAt CR H r dx l ws p) (k : Keep r H H') : PolyAt K C H' v t := by
  have nt : ∀ {a : Addr} {xs : List V}, H a = some (.tup xs) → a ≠ r := fun {a xs} e z => by rw [z, ra.ob] at e; cases e
  have st : ∀ {b : Addr} {m : Mon}, SqT K H b (mtup m) → SqT K H' b (mtup m) := fun {b m} h => by
    rcases h with (h | ⟨o, h⟩) | h
    · exact .inl (.inl (k _ _ (nt h) h))
    · exact .inl (.inr ⟨o, k _ _ (fun z => by rw [z, ra.ob] at h; cases h) h⟩)
    · exact .inr h
  obtain ⟨a, dx', t', rfl, h1, vs, h2, h3⟩ := h
  refine ⟨a, dx', t', rfl, k _ _ (fun z => ?_) h1, vs, k _ _ (nt h2) h2, Paired.mapP h3 ?_⟩
  · rw [z, ra.ob] at h1
    injection h1 with h1
    injection h1 with _ _ h1
    cases h1
  · rintro v q ⟨a, b, e, h4, h5⟩
    exact ⟨a, b, e, k _ _ (nt h4) h4, st h5⟩
section
variable {P : Program} {w : World} {K : PySem.W.Frag} {mg : Str → Option Value} {base : Heap} {C CR : Addr}
/-! ### Reader.__init__ -/
abbrev sRInit : Stmt := inClass (top 37) 0
def spRInit (CR : Addr) : Sp := fun vs H Q _ => ∃ (x dx l : Addr) (ws : List (Word × Nat)), vs = [.ref x, .ref l] ∧ H x = some (.ins CR dx []) ∧ WordsAt H l ws ∧ ws.length ≤ 1000000 ∧
  ∀ (m : Addr) (H' : Hp), Keep x H H' → RAt CR H' x dx m (ws.map (·.1) ++ [[]]) 0 → Q .non H'
theorem scRInit : FnScope ["self", "words", "word", "at"] ["self", "words"] (defScope sRInit) := ⟨rfl, rfl, rfl, by decide +kernel, rfl, by decide +kernel, by decide +kernel⟩
theorem ok_rinit (h : HasI K mg "Reader" CR "Reader.__init__" sRInit ["self", "words"]) (c : RdCls K CR) : CanI P w K mg base CX0 1 "Reader" CR ["self", "words"] (spRInit CR) := by
  obtain ⟨f, fd, g, M, F, b⟩ := h.ex
  refine ⟨f, fd, g, M, b, F.ok scRInit (fun vs H Q E h => ?_) (fun cdv A outer s H vs Q E hr h => ?_)⟩
  · obtain ⟨x, dx, l, ws, rfl, _⟩ := h
    rfl
  · obtain ⟨x, dx, l, ws, rfl, hx, ⟨vs, hl, hp⟩, hlen, k⟩ := h
    refine ⟨_, pss_cons (ps_fld (pv 0) (pe_op op_cat
        (pe_lc (own := [("word", 2), ("at", 3)]) (g := gTup K 2 (gCons (gName 2) (gCons (gName 3) gNil))) (tt := tYes) (te := tVar 2) (by rfl) scRInit.nd (pi_list (pv 1))
          (blkOk_by (own := [("word", 2), ("at", 3)]) (N := ["self", "words", "word", "at"]) (sc := defScope sRInit) (by decide +kernel))
          (fun _ _ _ _ _ => pg_tup (by rfl) (pgs_cons (pg_name (i := 2) scRInit.nd rfl (Or.inl rfl)) (pgs_cons (pg_name (i := 3) scRInit.nd rfl (Or.inl rfl)) pgs_nil)))
          (fun _ _ _ _ _ => pts_nil) (fun _ _ _ _ _ => pv 2))
        (pe_lst (pa_cons pe_str pa_nil))) rfl)
      (pss_one (ps_fld (pv 0) pe_int rfl)), ?_⟩
    have lv : vs.length = ws.length := Paired.length hp
    refine ⟨_, rfl, l, rfl, ⟨_, SqL.of hl⟩, fun D hD => ?_⟩
    refine lc_list (xs := vs) (fun i H' => Same H H' ∧ H' D = some (.lst (((ws.take i).map (·.1)).map tx))) ⟨same_new hD _, upd_same⟩ (fun i H' _ ⟨s1, _⟩ => SqL.of (s1 _ _ hl)) ?_ ?_
    · rintro i v H' hi ⟨s1, hDi⟩
      obtain ⟨q, hq, ⟨a, rfl, ha⟩⟩ := pair_get hp hi
      have hil : i < ws.length := (List.getElem?_eq_some_iff.mp hq).1
      refine ⟨a, _, rfl, SqT.of (s1 _ _ ha), rfl, _, _, rfl, _, _, rfl, rfl, rfl, _, rfl, _, hDi, ?_, ?_, ?_⟩
      · rw [List.length_map, List.length_map, List.length_take]; exact lt_line (by omega)
      · intro a o e
        rw [upd_ne (ne_of_none e hD)]; exact s1 _ _ e
      · rw [take_snoc hq, List.map_append, List.map_append]; exact upd_same
    · rintro H' ⟨s1, hDe⟩
      rw [lv, List.take_length] at hDe
      refine ⟨(by decide : 1 ≤ sizeLine), fun Z hZ => ?_⟩
      have s2 := s1.trans (same_new hZ (.lst [.str ""]))
      refine ⟨D, Z, _, _, rfl, rfl, (same_new hZ _) _ _ hDe, upd_same, ?_, fun p hp => ?_⟩
      · rw [List.length_map, List.length_map]; exact le_line (by show ws.length + 1 ≤ _; omega)
      have s3 := s2.trans (same_new hp (.lst (((ws.map (·.1)).map tx) ++ [.str ""])))
      refine ⟨_, rfl, x, CR, dx, _, rfl, s3 _ _ hx, c.cl, c.nW, (by show 0 < 1000; decide), ?_⟩
      refine ⟨_, rfl, x, CR, dx, _, rfl, upd_same, c.cl, c.nA, (by show 1 < 1000; decide), ?_⟩
      rw [upd_upd]
      have np : p ≠ x := fun z => by
        have := s2 _ _ hx
        rw [← z, hp] at this; cases this
      refine k p _ ((Keep.of s3).trans (Keep.at _)) ⟨upd_same, ?_⟩
      rw [upd_ne np, upd_same, tx_nil, List.map_append]
      rfl
/-! ### next_word, is_next, integer -/
abbrev sRNext : Stmt := inClass (top 37) 1
def spRNext (CR : Addr) : Sp := fun vs H Q _ => ∃ (r dx l : Addr) (ws : List Word) (p : Nat) (x : Word), vs = [.ref r] ∧ RAt CR H r dx l ws p ∧ ws[p]? = some x ∧ ∀ H', Keep r H H' → RAt CR H' r dx l ws (p + 1) → Q (tx x) H'
theorem scRNext : FnScope ["self"] ["self"] (defScope sRNext) := ⟨rfl, rfl, rfl, by decide +kernel, rfl, by decide +kernel, by decide +kernel⟩
theorem ok_rnext (h : HasM K CR "next_word" "Reader.next_word" sRNext ["self"]) (c : RdCls K CR) : CanM P w K mg base CX0 1 CR "next_word" ["self"] (spRNext CR) := by
  obtain ⟨f, fd, M, F, b⟩ := h.ex
  refine ⟨f, fd, M, b, F.ok scRNext (fun vs H Q E h => ?_) (fun cdv A outer s H vs Q E hr h => ?_)⟩
  · obtain ⟨r, dx, l, ws, p, x, rfl, _⟩ := h
    rfl
  · obtain ⟨r, dx, l, ws, p, x, rfl, ra, hx, k⟩ := h
    refine ⟨_, pss_cons (ps_fldaug (pv 0) pe_int in_add) (pss_one (ps_ret (pe_ix ix_list (pe_fld (pv 0) rfl) (pe_op op_sub (pe_fld (pv 0) rfl) pe_int) (fun _ _ => rfl)))), ?_⟩
    refine ⟨_, rfl, r, CR, dx, _, _, rfl, ra.ob, c.cl, c.nA, look_at _ _, _, _, rfl, rfl, dx, _, ra.ob, (by show 2 < 1000; decide), ?_⟩
    rw [put_at]
    have e : ((p : Int) + 1) = ((p + 1 : Nat) : Int) := by omega
    rw [e]
    have rb : RAt CR (upd H r (rdO CR dx l (p + 1))) r dx l ws (p + 1) := ra.keep (Keep.at _) upd_same
    refine ⟨_, rfl, r, CR, dx, _, _, rfl, rb.ob, c.cl, c.nW, look_words _ _, _, rfl, r, CR, dx, _, _, rfl, rb.ob, c.cl, c.nA, look_at _ _, _, _, rfl, rfl, ?_⟩
    refine ⟨l, _, _, _, rfl, rfl, SqL.of rb.ls, ?_, k _ (Keep.at _) rb⟩
    have e2 : (((p + 1 : Nat) : Int) - 1) = ((p : Nat) : Int) := by omega
    rw [e2]
    refine atI_nat ?_
    rw [List.getElem?_map, hx]; rfl
abbrev sRIs : Stmt := inClass (top 37) 2
def spRIs (K : PySem.W.Frag) (CR : Addr) : Sp := fun vs H Q _ => ∃ (r dx l : Addr) (ws : List Word) (p : Nat) (x : Word) (m : Addr) (ys : List Word), vs = [.ref r, .ref m] ∧ RAt CR H r dx l ws p ∧ ws[p]? = some x ∧ SqL K H m (ys.map tx) ∧ Q (.bl (decide (x ∈ ys))) H
theorem scRIs : FnScope ["self", "words"] ["self", "words"] (defScope sRIs) := ⟨rfl, rfl, rfl, by decide +kernel, rfl, by decide +kernel, by decide +kernel⟩
theorem ok_ris (h : HasM K CR "is_next" "Reader.is_next" sRIs ["self", "words"]) (c : RdCls K CR) : CanM P w K mg base CX0 1 CR "is_next" ["self", "words"] (spRIs K CR) := by
  obtain ⟨f, fd, M, F, b⟩ := h.ex
  refine ⟨f, fd, M, b, F.ok scRIs (fun vs H Q E h => ?_) (fun cdv A outer s H vs Q E hr h => ?_)⟩
  · obtain ⟨r, dx, l, ws, p, x, m, ys, rfl, _⟩ := h
    rfl
  · obtain ⟨r, dx, l, ws, p, x, m, ys, rfl, ra, hx, hm, k⟩ := h
    refine ⟨_, pss_one (ps_ret (pe_cmpR op_in_seq (pe_ix ix_list (pe_fld (pv 0) rfl) (pe_fld (pv 0) rfl) (fun _ _ => rfl)) (pv 1) (by rfl))), ?_⟩
    refine ⟨_, rfl, r, CR, dx, _, _, rfl, ra.ob, c.cl, c.nW, look_words _ _, _, rfl, r, CR, dx, _, _, rfl, ra.ob, c.cl, c.nA, look_at _ _, l, _, _, tx x, rfl, rfl, SqL.of ra.ls, ?_, ?_⟩
    · refine atI_nat ?_
      rw [List.getElem?_map, hx]; rfl
    refine ⟨_, rfl, m, _, rfl, .inl hm, rfl, flat_tx ys, ?_⟩
    show Q (.bl (inV (tx x) (ys.map tx))) H
    rw [inV_tx]
    exact k
/-- BadText("great"), though the reader has moved -/
abbrev GreatK (CB r : Addr) (H : Hp) (E : XK) : Prop := ∀ (d : Addr) (H' : Hp), Keep r H H' → H' d = some (.xd [(("at" : Str), .str "great")]) → E (.ref CB) (some d) H'
abbrev sRInt : Stmt := inClass (top 37) 3
def spRInt (CR CB : Addr) : Sp := fun vs H Q E => ∃ (r dx l : Addr) (ws : List Word) (p : Nat) (x : Word), vs = [.ref r] ∧ RAt CR H r dx l ws p ∧ ws[p]? = some x ∧ IsNum x ∧ x.length ≤ 1000000 ∧ (30 < x.length → GreatK CB r H E) ∧
  (¬ 30 < x.length → ∀ H', Keep r H H' → RAt CR H' r dx l ws (p + 1) → Q (.int (numVal x)) H')
theorem scRInt : FnScope ["self", "word"] ["self"] (defScope sRInt) := ⟨rfl, rfl, rfl, by decide +kernel, rfl, by decide +kernel, by decide +kernel⟩
structure GlInt (mg : Str → Option Value) : Prop where
  nlen : mg "len" = none
  nint : mg "int" = none
  nsuper : mg "super" = none
  figures : ∃ t, mg "MOST_FIGURES" = some (.int 30 t)
  great : ∃ t, mg "GREAT" = some (.str "great" t)
theorem ok_rint {CB fI : Addr} (h : HasM K CR "integer" "Reader.integer" sRInt ["self"]) (NW : CanM P w K mg base CX0 1 CR "next_word" ["self"] (spRNext CR)) (T : PySem.BadX.BadTxt P K CB fI) (gB : mg "BadText" = some (.ref CB)) (gl : GlInt mg) (c : RdCls K CR) :
    CanM P w K mg base (L2.CX P w) 2 CR "integer" ["self"] (spRInt CR CB) := by
  obtain ⟨f, fd, M, F, b⟩ := h.ex
  obtain ⟨_, g1⟩ := gl.figures
  obtain ⟨_, g2⟩ := gl.great
  refine ⟨f, fd, M, b, F.okX scRInt (fun vs H Q E h => ?_) (fun cdv A outer s H vs Q E hr h => ?_)⟩
  · obtain ⟨r, dx, l, ws, p, x, rfl, _⟩ := h
    rfl
  · obtain ⟨r, dx, l, ws, p, x, rfl, ra, hx, hn, hl, k1, k2⟩ := h
    refine ⟨_, pss_cons (ps_set (i := 1) scRInt.nd rfl (Or.inl rfl) (pe_canM0 NW c.cl hr pass0 (pv 0)))
      (pss_cons (ps_if (pt_cmpR op_gt (pe_callB call_len_str (by rfl) gl.nlen PySem.boot_len (pa_cons (pv 1) pa_nil)) (pe_glob (v := .int 30) (by rfl) g1 ⟨_, rfl⟩) (nomark _))
        (pss_one (ps_raiseBad rfl T gB gl.nsuper hr (takes_of rfl rfl rfl rfl) (pa_cons (pe_glob (v := .str "great") (by rfl) g2 ⟨_, rfl⟩) pa_nil))) pss_nil)
      (pss_one (ps_ret (pe_callTy call_int_str (by rfl) gl.nint (by decide +kernel) (pa_cons (pv 1) pa_nil))))), ?_⟩
    refine ⟨_, rfl, r, dx, _, rfl, ra.ob, rfl, r, dx, l, ws, p, x, rfl, ra, hx, fun H1 kp rb => ?_⟩
    refine ⟨_, rfl, _, rfl, by rw [SX.S_len]; exact le_line (by omega), _, _, rfl, rfl, _, rfl, ite2 (fun c => ?_) (fun c => ?_)⟩
    · have hl30 : 30 < x.length := by
        have := of_decide_eq_true c
        rw [SX.S_len] at this
        omega
      exact ⟨_, rfl, fun d hd => k1 hl30 d _ (kp.trans (Keep.of (same_new hd _))) upd_same⟩
    · have hl30 : ¬ 30 < x.length := fun z => c (decide_eq_true (by rw [SX.S_len]; omega))
      refine ⟨_, rfl, _, _, rfl, SX.int_S ?_ hn.1 (by omega), by rw [SX.S_len]; omega, k2 hl30 H1 kp rb⟩
      rw [List.all_eq_true]
      exact fun c hc => hn.dig c hc
end
end K46

/-! # The reader reads -/
namespace K46
open PySem PySem.Spec PyProof.Rows L2
open SX (S)
def Cat.stops : Cat → List Word
  | .sum => [[41], []]
  | .prod => [[41], [], [43], [45]]
  | .fac => [[41], [], [43], [45], [42]]
  | .base => [[41], [], [43], [45], [42], [94]]
/-- a new polynomial, or BadText("great"); the reader has moved to p -/
def GivesR (K : PySem.W.Frag) (C CB CR r dx l : Addr) (ws : List Word) (p : Nat) (H : Hp) (Q : VK) (E : XK) : Option Poly → Prop
  | some t => ∀ (v : V) (H' : Hp), Keep r H H' → RAt CR H' r dx l ws p → PolyAt K C H' v t → Q v H'
  | none => GreatK CB r H E
theorem GivesR.keep {K : PySem.W.Frag} {C CB CR r dx l : Addr} {ws : List Word} {p : Nat} {H H' : Hp} {Q : VK} {E : XK} {o : Option Poly} (h : GivesR K C CB CR r dx l ws p H Q E o) (s : Keep r H H') : GivesR K C CB CR r dx l ws p H' Q E o := by
  cases o with
  | some t => exact fun v H2 s2 ra hv => h v H2 (s.trans s2) ra hv
  | none => exact fun d H2 s2 hd => h d H2 (s.trans s2) hd
/-- the words from p on -/
structure From (ws : List Word) (p : Nat) (us : List Word) : Prop where
  eq : ws.drop p = us
theorem From.get {ws : List Word} {p : Nat} {x : Word} {us : List Word} (h : From ws p (x :: us)) : ws[p]? = some x := by
  have := congrArg (fun l => l[0]?) h.eq
  simp only [List.getElem?_drop, Nat.add_zero, List.getElem?_cons_zero] at this
  exact this
theorem From.next {ws : List Word} {p : Nat} {x : Word} {us : List Word} (h : From ws p (x :: us)) : From ws (p + 1) us := ⟨by
  rw [← List.drop_drop, h.eq]; rfl⟩
theorem From.skip {ws : List Word} {p : Nat} {us vs : List Word} (h : From ws p (us ++ vs)) : From ws (p + us.length) vs := ⟨by
  rw [← List.drop_drop, h.eq, List.drop_left]⟩
theorem From.mem {ws : List Word} {p : Nat} {x : Word} {us : List Word} (h : From ws p (x :: us)) : x ∈ ws := List.mem_of_getElem? h.get
/-- what a part's reader promises -/
def spRd (K : PySem.W.Frag) (C CB CR : Addr) (c : Cat) (N : Nat) : Sp := fun vs H Q E => ∃ (r dx l : Addr) (ws : List Word) (p : Nat) (n : Nat) (us : List Word) (v : Option Poly) (b : Nat) (h : Word) (rest : List Word),
  vs = [.ref r] ∧ RAt CR H r dx l ws p ∧ Rd c n us v b ∧ n < N ∧ b ≤ 100000 ∧ From ws p (us ++ h :: rest) ∧ h ∈ c.stops ∧ (∀ x ∈ ws, x.length ≤ 1000000) ∧ GivesR K C CB CR r dx l ws (p + us.length) H Q E v
theorem lettersV : (Str.ofString "xyzw").cps.toList.map (fun c => V.str ⟨#[c]⟩) = (letters.map fun c => ([c] : Word)).map tx := by
  rw [show (Str.ofString "xyzw").cps.toList = letters by decide +kernel]; rfl
theorem signsV : (Str.ofString "+-").cps.toList.map (fun c => V.str ⟨#[c]⟩) = ([[43], [45]] : List Word).map tx := by
  rw [show (Str.ofString "+-").cps.toList = [43, 45] by decide +kernel]; rfl
theorem num_notin {w : Word} (h : IsNum w) {xs : List Nat} (hx : ∀ c ∈ xs, isDig c = false) : decide (w ∈ xs.map fun c => ([c] : Word)) = false := by
  apply decide_eq_false
  intro z
  obtain ⟨c, hc, e⟩ := List.mem_map.mp z
  exact num_ne h (hx c hc) e.symm
theorem occ_let {k : Nat} (hk : k < 4) : Builtin.Str.occurrences (Str.ofString "xyzw") (S [letters.getD k 0]) 0 (Str.ofString "xyzw").length 1 = [k] := by
  rcases (show k = 0 ∨ k = 1 ∨ k = 2 ∨ k = 3 by omega) with e | e | e | e <;> subst e <;> decide +kernel
/-- the module's names that the reader reads -/
structure GlRd (mg : Str → Option Value) : Prop where
  nlist : mg "list" = none
  nsuper : mg "super" = none
  signs : ∃ t, mg "SIGNS" = some (.str "+-" t)
  letters : ∃ t, mg "LETTERS" = some (.str "xyzw" t)
  power : ∃ t, mg "MOST_POWER" = some (.int 60 t)
  great : ∃ t, mg "GREAT" = some (.str "great" t)
section
variable {P : Program} {w : World} {K : PySem.W.Frag} {mg : Str → Option Value} {base : Heap} {C CR CB : Addr}
/-! ### base -/
abbrev sRBase : Stmt := inClass (top 37) 4
theorem scRBase : FnScope ["self", "found"] ["self"] (defScope sRBase) := ⟨rfl, rfl, rfl, by decide +kernel, rfl, by decide +kernel, by decide +kernel⟩
theorem ok_rbase {N k : Nat} (h : HasM K CR "base" "Reader.base" sRBase ["self"]) (NW : CanM P w K mg base CX0 1 CR "next_word" ["self"] (spRNext CR)) (IS : CanM P w K mg base CX0 1 CR "is_next" ["self", "words"] (spRIs K CR))
    (IN : CanM P w K mg base (L2.CX P w) 2 CR "integer" ["self"] (spRInt CR CB)) (CC : Can P w K mg base CX0 4 "constant" ["number"] (spConst K C)) (CU : Can P w K mg base CX0 4 "unknown_power" ["k", "many"] (spUnk K C))
    (SU : CanM P w K mg base (L2.CX P w) k CR "summed" ["self"] (spRd K C CB CR .sum N)) (hk : 4 ≤ k) (gl : GlRd mg) (c : RdCls K CR) : CanM P w K mg base (L2.CX P w) (k + 1) CR "base" ["self"] (spRd K C CB CR .base (N + 1)) := by
  obtain ⟨f, fd, M, F, b⟩ := h.ex
  obtain ⟨_, g1⟩ := gl.letters
  refine ⟨f, fd, M, b, F.okX scRBase (fun vs H Q E h => ?_) (fun cdv A outer s H vs Q E hr h => ?_)⟩
  · obtain ⟨r, dx, l, ws, p, n, us, v, b, x, rest, rfl, _⟩ := h
    rfl
  · obtain ⟨r, dx, l, ws, p, n, us, v, b, x, rest, rfl, ra, hrd, hn, hb, hfr, hx, hlen, q⟩ := h
    refine ⟨_, pss_cons (ps_if (pt_val (pe_canM IS c.cl hr pass0 (pv 0) (pa_cons (pe_lst (pa_cons pe_str pa_nil)) pa_nil) (hk := by omega)))
        (pss_cons (ps_expr (pe_canM0 NW c.cl hr pass0 (pv 0) (hk := by omega))) (pss_cons (ps_set (i := 1) scRBase.nd rfl (Or.inl rfl) (pe_canM0 SU c.cl hr (passes_call (takes_of rfl rfl rfl rfl) (fun _ _ _ _ h => h)) (pv 0) (hk := by omega)))
          (pss_cons (ps_expr (pe_canM0 NW c.cl hr pass0 (pv 0) (hk := by omega))) (pss_one (ps_ret (pv 1)))))) pss_nil)
      (pss_cons (ps_if (pt_val (pe_canM IS c.cl hr pass0 (pv 0) (pa_cons (pe_callTy (cr_listS (by rfl)) (by rfl) gl.nlist (by decide +kernel) (pa_cons (pe_glob (v := .str "xyzw") (by rfl) g1 ⟨_, rfl⟩) pa_nil)) pa_nil) (hk := by omega)))
        (pss_one (ps_ret (pe_can CU hr pass0 (pa_cons (pe_bm PySem.F.plainAttrs_str PySem.F.slot_str_index PySem.F.type_str_index mt_sindex (pe_glob (v := .str "xyzw") (by rfl) g1 ⟨_, rfl⟩) (pa_cons (pe_canM0 NW c.cl hr pass0 (pv 0) (hk := by omega)) pa_nil)) (pa_cons pe_int pa_nil)) (hk := by omega)))) pss_nil)
      (pss_one (ps_ret (pe_can CC hr pass0 (pa_cons (pe_canM0 IN c.cl hr (passes_call (takes_of rfl rfl rfl rfl) (fun _ _ _ _ h => h)) (pv 0) (hk := by omega)) pa_nil) (hk := by omega))))), ?_⟩
    refine ⟨_, rfl, r, dx, _, rfl, ra.ob, rfl, (by decide : 1 ≤ sizeLine), fun m hm => ?_⟩
    have s1 := same_new hm (.lst [.str "("])
    have ra1 := ra.same s1
    cases hrd with
    | @num y hy =>
      refine ⟨r, dx, l, ws, p, y, m, [[40]], rfl, ra1, hfr.get, SqL.of upd_same, _, rfl, ?_⟩
      rw [show decide (y ∈ ([[40]] : List Word)) = false from num_notin hy (xs := [40]) (by decide)]
      refine iteF ?_
      refine ⟨_, rfl, r, dx, _, rfl, ra1.ob, rfl, _, rfl, (by decide +kernel), fun m2 hm2 => ?_⟩
      rw [lettersV]
      have s2 := s1.trans (same_new hm2 (.lst ((letters.map fun c => ([c] : Word)).map tx)))
      have ra2 := ra.same s2
      refine ⟨r, dx, l, ws, p, y, m2, _, rfl, ra2, hfr.get, SqL.of upd_same, _, rfl, ?_⟩
      rw [num_notin hy letters_dig]
      refine iteF ?_
      refine ⟨_, rfl, r, dx, _, rfl, ra2.ob, rfl, r, dx, l, ws, p, y, rfl, ra2, hfr.get, hy, hlen y hfr.mem, fun z => ?_, fun z H3 kp ra3 => ?_⟩
      · unfold vnum at q
        rw [if_pos z] at q
        exact fun d H4 k4 hd => q d H4 ((Keep.of s2).trans k4) hd
      · unfold vnum at q
        rw [if_neg z] at q
        refine ⟨_, rfl, fun v' H4 s4 hv => ?_⟩
        exact q v' H4 (((Keep.of s2).trans kp).trans (Keep.of s4)) (ra3.same s4) hv
    | @var j hj =>
      refine ⟨r, dx, l, ws, p, _, m, [[40]], rfl, ra1, hfr.get, SqL.of upd_same, _, rfl, ?_⟩
      have e1 : decide ([letters.getD j 0] ∈ ([[40]] : List Word)) = false := by
        rcases (show j = 0 ∨ j = 1 ∨ j = 2 ∨ j = 3 by omega) with e | e | e | e <;> subst e <;> decide
      rw [e1]
      refine iteF ?_
      refine ⟨_, rfl, r, dx, _, rfl, ra1.ob, rfl, _, rfl, (by decide +kernel), fun m2 hm2 => ?_⟩
      rw [lettersV]
      have s2 := s1.trans (same_new hm2 (.lst ((letters.map fun c => ([c] : Word)).map tx)))
      have ra2 := ra.same s2
      refine ⟨r, dx, l, ws, p, _, m2, _, rfl, ra2, hfr.get, SqL.of upd_same, _, rfl, ?_⟩
      have e2 : decide ([letters.getD j 0] ∈ (letters.map fun c => ([c] : Word))) = true := by
        rcases (show j = 0 ∨ j = 1 ∨ j = 2 ∨ j = 3 by omega) with e | e | e | e <;> subst e <;> decide
      rw [e2]
      refine iteT ?_
      refine ⟨rfl, _, rfl, r, dx, _, rfl, ra2.ob, rfl, r, dx, l, ws, p, _, rfl, ra2, hfr.get, fun H3 kp3 ra3 => ?_⟩
      refine ⟨_, _, j, [], rfl, rfl, occ_let hj, j, rfl, fun v' H4 s4 hv => ?_⟩
      exact q v' H4 (((Keep.of s2).trans kp3).trans (Keep.of s4)) (ra3.same s4) hv
    | @par n ws2 v b hs =>
      refine ⟨r, dx, l, ws, p, _, m, [[40]], rfl, ra1, hfr.get, SqL.of upd_same, _, rfl, ?_⟩
      have e1 : decide (([40] : Word) ∈ ([[40]] : List Word)) = true := by decide
      rw [e1]
      refine iteT ?_
      refine ⟨_, rfl, r, dx, _, rfl, ra1.ob, rfl, r, dx, l, ws, p, _, rfl, ra1, hfr.get, fun H2 kp2 ra2 => ?_⟩
      have f2 : From ws (p + 1) (ws2 ++ [41] :: (x :: rest)) := ⟨by
        rw [hfr.next.eq]
        show (ws2 ++ [[41]]) ++ (x :: rest) = _
        rw [List.append_assoc]; rfl⟩
      refine ⟨_, rfl, r, dx, _, rfl, ra2.ob, rfl, r, dx, l, ws, p + 1, n, ws2, v, b, [41], x :: rest, rfl, ra2, hs, by omega, hb, f2, by decide, hlen, ?_⟩
      have kq := (Keep.of s1).trans kp2
      cases v with
      | none => exact fun d H4 k4 hd => q d H4 (kq.trans k4) hd
      | some t =>
        intro v' H3 kp3 ra3 hv
        have f3 := f2.skip
        refine ⟨_, rfl, r, dx, _, rfl, ra3.ob, rfl, r, dx, l, ws, _, _, rfl, ra3, f3.get, fun H4 kp4 ra4 => ?_⟩
        refine ⟨_, rfl, q v' H4 ((kq.trans kp3).trans kp4) ?_ (hv.keep ra3 kp4)⟩
        have e : p + ([40] :: (ws2 ++ [[41]]) : List Word).length = p + 1 + ws2.length + 1 := by
          rw [List.length_cons, List.length_append]; simp; omega
        rw [e]; exact ra4
/-! ### factor -/
abbrev sRFac : Stmt := inClass (top 37) 5
theorem scRFac : FnScope ["self", "found", "many"] ["self"] (defScope sRFac) := ⟨rfl, rfl, rfl, by decide +kernel, rfl, by decide +kernel, by decide +kernel⟩
theorem hat_not {x : Word} (h : x ∈ Cat.fac.stops) : decide (x ∈ ([[94]] : List Word)) = false := by
  have : ∀ x ∈ Cat.fac.stops, decide (x ∈ ([[94]] : List Word)) = false := by decide
  exact this x h
theorem stops_fac {x : Word} (h : x ∈ Cat.fac.stops) : x ∈ Cat.base.stops := by
  have : ∀ x ∈ Cat.fac.stops, x ∈ Cat.base.stops := by decide
  exact this x h
theorem ok_rfac {N k fI : Nat} (h : HasM K CR "factor" "Reader.factor" sRFac ["self"]) (NW : CanM P w K mg base CX0 1 CR "next_word" ["self"] (spRNext CR)) (IS : CanM P w K mg base CX0 1 CR "is_next" ["self", "words"] (spRIs K CR))
    (IN : CanM P w K mg base (L2.CX P w) 2 CR "integer" ["self"] (spRInt CR CB)) (BA : CanM P w K mg base (L2.CX P w) k CR "base" ["self"] (spRd K C CB CR .base N)) (PT : Can P w K mg base (L2.CX P w) 5 "power_told" ["poly", "many"] (spTold K C CB)) (T : PySem.BadX.BadTxt P K CB fI) (gB : mg "BadText" = some (.ref CB))
    (hk : 5 ≤ k) (gl : GlRd mg) (c : RdCls K CR) : CanM P w K mg base (L2.CX P w) (k + 1) CR "factor" ["self"] (spRd K C CB CR .fac N) := by
  obtain ⟨f, fd, M, F, b⟩ := h.ex
  obtain ⟨_, g1⟩ := gl.power
  obtain ⟨_, g2⟩ := gl.great
  refine ⟨f, fd, M, b, F.okX scRFac (fun vs H Q E h => ?_) (fun cdv A outer s H vs Q E hr h => ?_)⟩
  · obtain ⟨r, dx, l, ws, p, n, us, v, b, x, rest, rfl, _⟩ := h
    rfl
  · obtain ⟨r, dx, l, ws, p, n, us, v, b, x, rest, rfl, ra, hrd, hn, hb, hfr, hx, hlen, q⟩ := h
    refine ⟨_, pss_cons (ps_set (i := 1) scRFac.nd rfl (Or.inl rfl) (pe_canM0 BA c.cl hr (passes_call (takes_of rfl rfl rfl rfl) (fun _ _ _ _ h => h)) (pv 0) (hk := by omega)))
      (pss_cons (ps_if (pt_not (pt_val (pe_canM IS c.cl hr pass0 (pv 0) (pa_cons (pe_lst (pa_cons pe_str pa_nil)) pa_nil) (hk := by omega)))) (pss_one (ps_ret (pv 1))) pss_nil)
      (pss_cons (ps_expr (pe_canM0 NW c.cl hr pass0 (pv 0) (hk := by omega)))
      (pss_cons (ps_set (i := 2) scRFac.nd rfl (Or.inl rfl) (pe_canM0 IN c.cl hr (passes_call (takes_of rfl rfl rfl rfl) (fun _ _ _ _ h => h)) (pv 0) (hk := by omega)))
      (pss_cons (ps_if (pt_cmpR op_gt (pv 2) (pe_glob (v := .int 60) (by rfl) g1 ⟨_, rfl⟩) (nomark _)) (pss_one (ps_raiseBad rfl T gB gl.nsuper hr (takes_of rfl rfl rfl rfl) (pa_cons (pe_glob (v := .str "great") (by rfl) g2 ⟨_, rfl⟩) pa_nil))) pss_nil)
      (pss_one (ps_ret (pe_can PT hr (passes_call (takes_of rfl rfl rfl rfl) (fun _ _ _ _ h => h)) (pa_cons (pv 1) (pa_cons (pv 2) pa_nil)) (hk := by omega)))))))), ?_⟩
    cases hrd with
    | fac hb2 =>
      refine ⟨_, rfl, r, dx, _, rfl, ra.ob, rfl, r, dx, l, ws, p, n, us, v, b, x, rest, rfl, ra, hb2, hn, hb, hfr, stops_fac hx, hlen, ?_⟩
      cases v with
      | none => exact q
      | some t =>
        intro v' H1 kp1 ra1 hv
        refine ⟨_, rfl, r, dx, _, rfl, ra1.ob, rfl, (by decide : 1 ≤ sizeLine), fun m hm => ?_⟩
        have s1 := same_new hm (.lst [.str "^"])
        have f1 := hfr.skip
        refine ⟨r, dx, l, ws, _, x, m, [[94]], rfl, ra1.same s1, f1.get, SqL.of upd_same, _, rfl, ?_⟩
        rw [hat_not hx]
        exact ⟨_, rfl, q v' _ (kp1.trans (Keep.of s1)) (ra1.same s1) (hv.mono s1)⟩
    | @pow n ws0 v0 b0 y hb2 hy =>
      have f0 : From ws p (ws0 ++ [94] :: (y :: x :: rest)) := ⟨by
        rw [hfr.eq, List.append_assoc]; rfl⟩
      have hbb : b0 * (min (numVal y) 60 + 1) + 1 ≤ 100000 := hb
      have hb0 : b0 ≤ 100000 := by
        have := Nat.le_mul_of_pos_right b0 (show 0 < min (numVal y) 60 + 1 by omega)
        omega
      refine ⟨_, rfl, r, dx, _, rfl, ra.ob, rfl, r, dx, l, ws, p, n, ws0, v0, b0, [94], y :: x :: rest, rfl, ra, hb2, hn, hb0, f0, by decide, hlen, ?_⟩
      cases v0 with
      | none => exact q
      | some t =>
        intro v' H1 kp1 ra1 hv
        have f1 := f0.skip
        refine ⟨_, rfl, r, dx, _, rfl, ra1.ob, rfl, (by decide : 1 ≤ sizeLine), fun m hm => ?_⟩
        have s1 := same_new hm (.lst [.str "^"])
        have rb := ra1.same s1
        refine ⟨r, dx, l, ws, _, _, m, [[94]], rfl, rb, f1.get, SqL.of upd_same, _, rfl, ?_⟩
        rw [show decide (([94] : Word) ∈ ([[94]] : List Word)) = true by decide]
        refine ⟨_, rfl, r, dx, _, rfl, rb.ob, rfl, r, dx, l, ws, _, _, rfl, rb, f1.get, fun H2 kp2 ra2 => ?_⟩
        have hv2 := (hv.mono s1).keep rb kp2
        have k2 := (kp1.trans (Keep.of s1)).trans kp2
        have f2 := f1.next
        have e2 : vpow (some t) y = if 30 < y.length then none else if 60 < numVal y then none else ppow t (numVal y) := rfl
        rw [e2] at q
        refine ⟨_, rfl, r, dx, _, rfl, ra2.ob, rfl, r, dx, l, ws, _, y, rfl, ra2, f2.get, hy, hlen y f2.mem, fun z => ?_, fun z H3 kp3 ra3 => ?_⟩
        · rw [if_pos z] at q
          exact fun d H4 k4 hd => q d H4 (k2.trans k4) hd
        · rw [if_neg z] at q
          have hv3 := hv2.keep ra2 kp3
          have k3 := k2.trans kp3
          refine ⟨_, rfl, _, _, rfl, rfl, _, rfl, ite2 (fun c => ?_) (fun c => ?_)⟩
          · have h60 : 60 < numVal y := by
              have := of_decide_eq_true c
              omega
            rw [if_pos h60] at q
            exact ⟨_, rfl, fun d hd => q d _ (k3.trans (Keep.of (same_new hd _))) upd_same⟩
          · have h60 : ¬ 60 < numVal y := fun z => c (decide_eq_true (by omega))
            rw [if_neg h60] at q
            have gd := hb2.good t rfl
            have em : min (numVal y) 60 = numVal y := by omega
            rw [em, Nat.mul_succ] at hbb
            refine ⟨_, rfl, _, rfl, v', numVal y, t, b0, rfl, by omega, hv3, gd.ca, gd.len, gd.fi, by omega, ?_⟩
            have ep : p + (ws0 ++ [[94], y]).length = p + ws0.length + 1 + 1 := by rw [List.length_append]; rfl
            rw [ep] at q
            cases e : ppow t (numVal y) with
            | none =>
              rw [e] at q
              exact fun d H4 s4 hd => q d H4 (k3.trans (Keep.of s4)) hd
            | some t2 =>
              rw [e] at q
              exact fun v4 H4 s4 hv4 => q v4 H4 (k3.trans (Keep.of s4)) (ra3.same s4) hv4
end
end K46

/-! # Products, sums -/
namespace K46
open PySem PySem.Spec PyProof.Rows L2
open SX (S)
theorem facVal_none : ∀ r : List It, facVal none r = none
  | [] => rfl
  | x :: r => facVal_none r
theorem tmVal_none : ∀ r : List Tm, tmVal none r = none
  | [] => rfl
  | (s, x) :: r => by
    show tmVal (vstep s none x.v) r = none
    have : vstep s none x.v = none := by unfold vstep; cases s <;> rfl
    rw [this]
    exact tmVal_none r
theorem star_not {x : Word} (h : x ∈ Cat.prod.stops) : decide (x ∈ ([[42]] : List Word)) = false := by
  have : ∀ x ∈ Cat.prod.stops, decide (x ∈ ([[42]] : List Word)) = false := by decide
  exact this x h
theorem stops_prod {x : Word} (h : x ∈ Cat.prod.stops) : x ∈ Cat.fac.stops := by
  have : ∀ x ∈ Cat.prod.stops, x ∈ Cat.fac.stops := by decide
  exact this x h
theorem sign_not {x : Word} (h : x ∈ Cat.sum.stops) : decide (x ∈ ([[43], [45]] : List Word)) = false := by
  have : ∀ x ∈ Cat.sum.stops, decide (x ∈ ([[43], [45]] : List Word)) = false := by decide
  exact this x h
theorem stops_sum {x : Word} (h : x ∈ Cat.sum.stops) : x ∈ Cat.prod.stops := by
  have : ∀ x ∈ Cat.sum.stops, x ∈ Cat.prod.stops := by decide
  exact this x h
section
variable {P : Program} {w : World} {K : PySem.W.Frag} {mg : Str → Option Value} {base : Heap} {C CR CB : Addr}
/-! ### product -/
abbrev sRProd : Stmt := inClass (top 37) 6
theorem scRProd : FnScope ["self", "found"] ["self"] (defScope sRProd) := ⟨rfl, rfl, rfl, by decide +kernel, rfl, by decide +kernel, by decide +kernel⟩
theorem ok_rprod {N k : Nat} (h : HasM K CR "product" "Reader.product" sRProd ["self"]) (NW : CanM P w K mg base CX0 1 CR "next_word" ["self"] (spRNext CR)) (IS : CanM P w K mg base CX0 1 CR "is_next" ["self", "words"] (spRIs K CR))
    (FA : CanM P w K mg base (L2.CX P w) k CR "factor" ["self"] (spRd K C CB CR .fac N)) (CT : Can P w K mg base CX0 4 "times" ["one", "other"] (spTimes K C)) (CK : Can P w K mg base (L2.CX P w) 2 "check_great" ["poly"] (spChk K C CB))
    (hk : 4 ≤ k) (c : RdCls K CR) : CanM P w K mg base (L2.CX P w) (k + 1) CR "product" ["self"] (spRd K C CB CR .prod N) := by
  obtain ⟨f, fd, M, F, b⟩ := h.ex
  refine ⟨f, fd, M, b, F.okX scRProd (fun vs H Q E h => ?_) (fun cdv A outer s H vs Q E hr h => ?_)⟩
  · obtain ⟨r, dx, l, ws, p, n, us, v, b, x, rest, rfl, _⟩ := h
    rfl
  · obtain ⟨r, dx, l, ws, p, n, us, v, b, x, rest, rfl, ra, hrd, hn, hb, hfr, hx, hlen, q⟩ := h
    refine ⟨_, pss_cons (ps_set (i := 1) scRProd.nd rfl (Or.inl rfl) (pe_canM0 FA c.cl hr (passes_call (takes_of rfl rfl rfl rfl) (fun _ _ _ _ h => h)) (pv 0) (hk := by omega)))
      (pss_cons (ps_while (passes_of rfl) (pt_val (pe_canM IS c.cl hr pass0 (pv 0) (pa_cons (pe_lst (pa_cons pe_str pa_nil)) pa_nil) (hk := by omega)))
        (pss_cons (ps_expr (pe_canM0 NW c.cl hr pass0 (pv 0) (hk := by omega)))
        (pss_one (ps_set (i := 1) scRProd.nd rfl (Or.inl rfl) (pe_can CK hr (passes_call (takes_of rfl rfl rfl rfl) (fun _ _ _ _ h => h)) (pa_cons (pe_can CT hr pass0 (pa_cons (pv 1) (pa_cons (pe_canM0 FA c.cl hr (passes_call (takes_of rfl rfl rfl rfl) (fun _ _ _ _ h => h)) (pv 0) (hk := by omega)) pa_nil)) (hk := by omega)) pa_nil) (hk := by omega))))))
      (pss_one (ps_ret (pv 1)))), ?_⟩
    obtain ⟨fi, r', hfi, hr', e1, e2, e3⟩ := hrd.factors rfl
    subst e1 e2
    have f0 : From ws p (fi.ws ++ (facWords r' ++ x :: rest)) := ⟨by rw [hfr.eq, List.append_assoc]⟩
    have hst : ∃ h0 rest0, facWords r' ++ x :: rest = h0 :: rest0 ∧ h0 ∈ Cat.fac.stops := by
      cases r' with
      | nil => exact ⟨x, rest, rfl, stops_prod hx⟩
      | cons y r2 => exact ⟨[42], _, rfl, by decide⟩
    obtain ⟨h0, rest0, eh, hh⟩ := hst
    refine ⟨_, rfl, r, dx, _, rfl, ra.ob, rfl, r, dx, l, ws, p, fi.n, fi.ws, fi.v, fi.b, h0, rest0, rfl, ra, hfi.1, by have := hfi.2; omega, by omega, by rw [← eh]; exact f0, hh, hlen, ?_⟩
    cases hfv : fi.v with
    | none =>
      rw [hfv, facVal_none] at q
      exact q
    | some t0 =>
      rw [hfv] at q
      intro v0 H0 kp0 ra0 hv0
      let Wv : Nat → L2.St → Hp → Prop := fun m σ H' => ∃ (v : V) (t : Poly) (rr : List It) (p' B : Nat), m = rr.length ∧ σ = [some (.ref r), some v] ∧ Keep r H H' ∧ RAt CR H' r dx l ws p' ∧ PolyAt K C H' v t ∧ GoodP B t ∧ B + bitSum rr ≤ 100000 ∧ (∀ x ∈ rr, x.Is .fac n) ∧
        From ws p' (facWords rr ++ x :: rest) ∧ facVal (some t0) r' = facVal (some t) rr ∧ p' + (facWords rr).length = p + (fi.ws ++ facWords r').length
      refine ⟨Wv, ⟨_, v0, t0, r', _, fi.b, rfl, rfl, kp0, ra0, hv0, hfi.1.good t0 hfv, by omega, hr', f0.skip, rfl, by rw [List.length_append]; omega⟩, ?_⟩
      rintro m σ H' ⟨v, t, rr, p', B, rfl, rfl, kp, ra', hv, gt, hB, hrr, hf, hval, hpos⟩
      rw [hval] at q
      refine ⟨_, rfl, r, dx, _, rfl, ra'.ob, rfl, (by decide : 1 ≤ sizeLine), fun m hm => ?_⟩
      have s1 := same_new hm (.lst [.str "*"])
      have rb := ra'.same s1
      cases rr with
      | nil =>
        refine ⟨r, dx, l, ws, _, x, m, [[42]], rfl, rb, hf.get, SqL.of upd_same, _, rfl, ?_⟩
        rw [star_not hx]
        refine ⟨_, rfl, ?_⟩
        have ep : p' = p + (fi.ws ++ facWords r').length := by rw [← hpos]; rfl
        rw [← ep] at q
        exact q v _ (kp.trans (Keep.of s1)) rb (hv.mono s1)
      | cons y rr =>
        refine ⟨r, dx, l, ws, _, [42], m, [[42]], rfl, rb, hf.get, SqL.of upd_same, _, rfl, ?_⟩
        rw [show decide (([42] : Word) ∈ ([[42]] : List Word)) = true by decide]
        refine ⟨fun σ' H2 => ∃ m', m' < (y :: rr).length ∧ Wv m' σ' H2, fun _ _ z => z, ?_⟩
        refine ⟨_, rfl, r, dx, _, rfl, rb.ob, rfl, r, dx, l, ws, _, _, rfl, rb, hf.get, fun H2 kp2 ra2 => ?_⟩
        have hv2 := (hv.mono s1).keep rb kp2
        have k2 := (kp.trans (Keep.of s1)).trans kp2
        have f2 : From ws (p' + 1) (y.ws ++ (facWords rr ++ x :: rest)) := ⟨by
          rw [hf.next.eq]
          show (y.ws ++ facWords rr) ++ x :: rest = _
          rw [List.append_assoc]⟩
        have hst : ∃ h0 rest0, facWords rr ++ x :: rest = h0 :: rest0 ∧ h0 ∈ Cat.fac.stops := by
          cases rr with
          | nil => exact ⟨x, rest, rfl, stops_prod hx⟩
          | cons y r2 => exact ⟨[42], _, rfl, by decide⟩
        obtain ⟨h1, rest1, eh1, hh1⟩ := hst
        have hy := hrr y (List.mem_cons_self ..)
        have hB2 : B + (y.b + bitSum rr) ≤ 100000 := by
          have : bitSum (y :: rr) = y.b + bitSum rr := rfl
          omega
        refine ⟨_, rfl, _, rfl, r, dx, _, rfl, ra2.ob, rfl, r, dx, l, ws, p' + 1, y.n, y.ws, y.v, y.b, h1, rest1, rfl, ra2, hy.1, by have := hy.2; omega, by omega, by rw [← eh1]; exact f2, hh1, hlen, ?_⟩
        have qv : facVal (some t) (y :: rr) = facVal (vmul (some t) y.v) rr := rfl
        rw [qv] at q hval
        cases hyv : y.v with
        | none =>
          rw [hyv] at q
          rw [show vmul (some t) none = none from rfl, facVal_none] at q
          exact fun d H4 k4 hd => q d H4 (k2.trans k4) hd
        | some s =>
          rw [hyv] at q hval
          have gs := hy.1.good s hyv
          intro vs H3 kp3 ra3 hvs
          have hv3 := hv2.keep ra2 kp3
          have k3 := k2.trans kp3
          have lt := gt.len
          have lst := gs.len
          refine ⟨v, vs, t, s, rfl, hv3, hvs, gt.ca, gs.ca, by omega, by omega, gt.fi.mono (by omega), gs.fi.mono (by omega), fun v4 H4 s4 hv4 => ?_⟩
          have k4 := k3.trans (Keep.of s4)
          refine ⟨v4, pmul t s, rfl, hv4, ?_, ?_⟩
          · have z := length_pmul t s
            have z2 := Nat.mul_le_mul lt lst
            omega
          · have em : vmul (some t) (some s) = chk (pmul t s) := rfl
            rw [em] at q hval
            cases ec : chk (pmul t s) with
            | none =>
              rw [ec, facVal_none] at q
              exact fun d H5 s5 hd => q d H5 (k4.trans (Keep.of s5)) hd
            | some t2 =>
              rw [ec] at hval
              intro v5 H5 s5 hv5
              refine ⟨rr.length, by rw [List.length_cons]; omega, v5, t2, rr, p' + 1 + y.ws.length, B + y.b, rfl, rfl, k4.trans (Keep.of s5), (ra3.same s4).same s5, hv5, ?_, by omega, fun z hz => hrr z (List.mem_cons_of_mem _ hz), f2.skip, hval, ?_⟩
              · exact good_vmul (v := some t) (u := some s) (fun _ e => by cases e; exact gt) (fun _ e => by cases e; exact gs) ec
              · rw [← hpos]
                show _ = p' + ([42] :: y.ws ++ facWords rr).length
                rw [List.length_append, List.length_cons]; omega
/-! ### summed -/
abbrev sRSum : Stmt := inClass (top 37) 7
theorem scRSum : FnScope ["self", "found", "is_first", "word", "term"] ["self"] (defScope sRSum) := ⟨rfl, rfl, rfl, by decide +kernel, rfl, by decide +kernel, by decide +kernel⟩
theorem sgn_in (s : Bool) : decide (sgn s ∈ ([[43], [45]] : List Word)) = true := by cases s <;> decide
theorem start_not {w : Word} (h : StartWord w) : decide (w ∈ ([[43], [45]] : List Word)) = false := by
  rcases h with h | ⟨k, hk, rfl⟩ | rfl
  · exact num_notin h (xs := [43, 45]) (by decide)
  · rcases (show k = 0 ∨ k = 1 ∨ k = 2 ∨ k = 3 by omega) with e | e | e | e <;> subst e <;> decide
  · decide
theorem ok_rsum {N k : Nat} (h : HasM K CR "summed" "Reader.summed" sRSum ["self"]) (NW : CanM P w K mg base CX0 1 CR "next_word" ["self"] (spRNext CR)) (IS : CanM P w K mg base CX0 1 CR "is_next" ["self", "words"] (spRIs K CR))
    (PR : CanM P w K mg base (L2.CX P w) k CR "product" ["self"] (spRd K C CB CR .prod N)) (CC : Can P w K mg base CX0 4 "constant" ["number"] (spConst K C)) (CPl : Can P w K mg base CX0 5 "plus" ["one", "other"] (spPlus K C)) (CMi : Can P w K mg base CX0 5 "minus" ["one", "other"] (spMinus K C))
    (CK : Can P w K mg base (L2.CX P w) 2 "check_great" ["poly"] (spChk K C CB)) (hk : 5 ≤ k) (gl : GlRd mg) (c : RdCls K CR) : CanM P w K mg base (L2.CX P w) (k + 1) CR "summed" ["self"] (spRd K C CB CR .sum N) := by
  obtain ⟨f, fd, M, F, b⟩ := h.ex
  obtain ⟨_, g1⟩ := gl.signs
  refine ⟨f, fd, M, b, F.okX scRSum (fun vs H Q E h => ?_) (fun cdv A outer s H vs Q E hr h => ?_)⟩
  · obtain ⟨r, dx, l, ws, p, n, us, v, b, x, rest, rfl, _⟩ := h
    rfl
  · obtain ⟨r, dx, l, ws, p, n, us, v, b, x, rest, rfl, ra, hrd, hn, hb, hfr, hx, hlen, q⟩ := h
    refine ⟨_, pss_cons (ps_set (i := 1) scRSum.nd rfl (Or.inl rfl) (pe_can CC hr pass0 (pa_cons pe_int pa_nil) (hk := by omega)))
      (pss_cons (ps_set (i := 2) scRSum.nd rfl (Or.inl rfl) pe_bl)
      (pss_cons (ps_while (passes_of rfl) (PW.pt (pw_or (pt_val (pv 2)) (pw_or1 (pt_val (pe_canM IS c.cl hr pass0 (pv 0) (pa_cons (pe_callTy (cr_listS (by rfl)) (by rfl) gl.nlist (by decide +kernel) (pa_cons (pe_glob (v := .str "+-") (by rfl) g1 ⟨_, rfl⟩) pa_nil)) pa_nil) (hk := by omega))))))
        (C8.pss_cut (ps_set (i := 3) scRSum.nd rfl (Or.inl rfl) (pe_ifExp (pt_val (pe_canM IS c.cl hr pass0 (pv 0) (pa_cons (pe_callTy (cr_listS (by rfl)) (by rfl) gl.nlist (by decide +kernel) (pa_cons (pe_glob (v := .str "+-") (by rfl) g1 ⟨_, rfl⟩) pa_nil)) pa_nil) (hk := by omega)))
            (pe_canM0 NW c.cl hr pass0 (pv 0) (hk := by omega)) pe_str))
        (pss_cons (ps_set (i := 2) scRSum.nd rfl (Or.inl rfl) pe_bl)
        (pss_cons (ps_set (i := 4) scRSum.nd rfl (Or.inl rfl) (pe_canM0 PR c.cl hr (passes_call (takes_of rfl rfl rfl rfl) (fun _ _ _ _ h => h)) (pv 0) (hk := by omega)))
        (pss_one (ps_set (i := 1) scRSum.nd rfl (Or.inl rfl) (pe_can CK hr (passes_call (takes_of rfl rfl rfl rfl) (fun _ _ _ _ h => h)) (pa_cons (pe_ifExp (pt_cmpR op_eq (pv 3) pe_str (nomark _))
          (pe_can CMi hr pass0 (pa_cons (pv 1) (pa_cons (pv 4) pa_nil)) (hk := by omega)) (pe_can CPl hr pass0 (pa_cons (pv 1) (pa_cons (pv 4) pa_nil)) (hk := by omega))) pa_nil) (hk := by omega))))))))
      (pss_one (ps_ret (pv 1))))), ?_⟩
    obtain ⟨r', hne', hr', e1, e2, e3⟩ := hrd.terms rfl
    subst e1 e2
    refine ⟨0, rfl, fun v0 H0 s0 hv0 => ?_⟩
    let Wv : Nat → L2.St → Hp → Prop := fun m σ H' => ∃ (v : V) (t : Poly) (first : Bool) (rr : List Tm) (p' B : Nat) (u3 u4 : Option V), m = rr.length ∧ σ = [some (.ref r), some v, some (.bl first), u3, u4] ∧ (first = true → rr ≠ []) ∧ Keep r H H' ∧ RAt CR H' r dx l ws p' ∧ PolyAt K C H' v t ∧ GoodP B t ∧ B + tmBits rr ≤ 100000 ∧ (∀ x ∈ rr, x.2.Is .prod n) ∧
      From ws p' (tmWords first rr ++ x :: rest) ∧ tmVal (some []) r' = tmVal (some t) rr ∧ p' + (tmWords first rr).length = p + (tmWords true r').length
    refine ⟨Wv, ⟨_, v0, [], true, r', p, 0, none, none, rfl, rfl, fun _ => hne', Keep.of s0, ra.same s0, hv0, good_nil 0, by omega, hr', hfr, rfl, rfl⟩, ?_⟩
    rintro m σ H' ⟨v, t, first, rr, p', B, u3, u4, rfl, rfl, hne, kp, ra', hv, gt, hB, hrr, hf, hval, hpos⟩
    rw [hval] at q
    refine ⟨_, rfl, first, rfl, ?_⟩
    cases first with
    | true =>
      cases rr with
      | nil => exact absurd rfl (hne rfl)
      | cons sy rr =>
        obtain ⟨sg, y⟩ := sy
        have hy := hrr (sg, y) (List.mem_cons_self ..)
        have hB2 : B + (y.b + 1 + tmBits rr) ≤ 100000 := hB
        have k1 := kp
        have rb := ra'
        have hv1 := hv
        refine ⟨fun σ' H2 => ∃ m', m' < ((sg, y) :: rr).length ∧ Wv m' σ' H2, fun _ _ z => z, ?_⟩
        refine ⟨fun σ' H2 => ∃ p1 : Nat, σ' = [some (.ref r), some v, some (.bl true), some (tx (sgn sg)), u4] ∧ Keep r H H2 ∧ RAt CR H2 r dx l ws p1 ∧ PolyAt K C H2 v t ∧ From ws p1 (y.ws ++ (tmWords false rr ++ x :: rest)) ∧ p1 + y.ws.length + (tmWords false rr).length = p + (tmWords true r').length, ?_, ?_⟩
        · refine ⟨_, rfl, r, dx, _, rfl, rb.ob, rfl, _, rfl, (by decide +kernel), fun m2 hm2 => ?_⟩
          rw [signsV]
          have s2 := same_new hm2 (.lst (([[43], [45]] : List Word).map tx))
          have rb2 := rb.same s2
          cases sg with
          | true =>
            have hf' : From ws p' (sgn true :: (y.ws ++ (tmWords false rr ++ x :: rest))) := ⟨by
              rw [hf.eq]
              show ((sgn true :: y.ws) ++ tmWords false rr) ++ x :: rest = _
              rw [List.append_assoc]; rfl⟩
            refine ⟨r, dx, l, ws, _, sgn true, m2, [[43], [45]], rfl, rb2, hf'.get, SqL.of upd_same, _, rfl, ?_⟩
            rw [show decide (sgn true ∈ ([[43], [45]] : List Word)) = true by decide]
            refine iteT ?_
            refine ⟨_, rfl, r, dx, _, rfl, rb2.ob, rfl, r, dx, l, ws, _, _, rfl, rb2, hf'.get, fun H3 kp3 ra3 => ?_⟩
            refine ⟨p' + 1, rfl, (k1.trans (Keep.of s2)).trans kp3, ra3, (hv1.mono s2).keep rb2 kp3, hf'.next, ?_⟩
            rw [← hpos]
            show _ = p' + ((sgn true :: y.ws) ++ tmWords false rr).length
            rw [List.length_append, List.length_cons]; omega
          | false =>
            have hf' : From ws p' (y.ws ++ (tmWords false rr ++ x :: rest)) := ⟨by
              rw [hf.eq]
              show (y.ws ++ tmWords false rr) ++ x :: rest = _
              rw [List.append_assoc]⟩
            obtain ⟨w0, ws0, ew, hw0⟩ := hy.1.head (by decide)
            have hf2 : From ws p' (w0 :: (ws0 ++ (tmWords false rr ++ x :: rest))) := ⟨by rw [hf'.eq, ew]; rfl⟩
            refine ⟨r, dx, l, ws, _, w0, m2, [[43], [45]], rfl, rb2, hf2.get, SqL.of upd_same, _, rfl, ?_⟩
            rw [start_not hw0]
            refine iteF ?_
            refine ⟨p', rfl, k1.trans (Keep.of s2), rb2, hv1.mono s2, hf', ?_⟩
            rw [← hpos]
            show _ = p' + (y.ws ++ tmWords false rr).length
            rw [List.length_append]; omega
        · rintro σ' H2 ⟨p1, rfl, k2, ra2, hv2, f1, hpos1⟩
          have hst : ∃ h0 rest0, tmWords false rr ++ x :: rest = h0 :: rest0 ∧ h0 ∈ Cat.prod.stops := by
            cases rr with
            | nil => exact ⟨x, rest, rfl, stops_sum hx⟩
            | cons z r2 =>
              refine ⟨sgn z.1, _, rfl, ?_⟩
              cases z.1 <;> decide
          obtain ⟨h1, rest1, eh1, hh1⟩ := hst
          refine ⟨_, rfl, r, dx, _, rfl, ra2.ob, rfl, r, dx, l, ws, p1, y.n, y.ws, y.v, y.b, h1, rest1, rfl, ra2, hy.1, Nat.lt_of_le_of_lt hy.2 hn, by omega, by rw [← eh1]; exact f1, hh1, hlen, ?_⟩
          have qv : tmVal (some t) ((sg, y) :: rr) = tmVal (vstep sg (some t) y.v) rr := rfl
          rw [qv] at q hval
          cases hyv : y.v with
          | none =>
            rw [hyv] at q
            have en : vstep sg (some t) none = none := by unfold vstep; cases sg <;> rfl
            rw [en, tmVal_none] at q
            exact fun d H4 k4 hd => q d H4 (k2.trans k4) hd
          | some s =>
            rw [hyv] at q hval
            have gs := hy.1.good s hyv
            intro vt H4 kp4 ra4 hvt
            have hv4 := hv2.keep ra2 kp4
            have k4 := k2.trans kp4
            have lt := gt.len
            have lst := gs.len
            refine ⟨_, rfl, rfl, _, rfl, ?_⟩
            show if decide (tx (sgn sg) = tx [45]) = true then _ else _
            rw [tx_eq]
            cases sg with
            | true =>
              rw [show decide (sgn true = [45]) = true from rfl]
              refine iteT ?_
              refine ⟨_, rfl, _, rfl, ?_⟩
              refine ⟨v, vt, t, s, rfl, hv4, hvt, gt.ca, gs.ca, by omega, by omega, fun v5 H5 s5 hv5 => ?_⟩
              have k5 := k4.trans (Keep.of s5)
              refine ⟨v5, psub t s, rfl, hv5, ?_, ?_⟩
              · have z := length_psub t s
                omega
              · have em : vstep true (some t) (some s) = chk (psub t s) := rfl
                rw [em] at q hval
                cases ec : chk (psub t s) with
                | none =>
                  rw [ec, tmVal_none] at q
                  exact fun d H6 s6 hd => q d H6 (k5.trans (Keep.of s6)) hd
                | some t2 =>
                  rw [ec] at hval
                  intro v6 H6 s6 hv6
                  refine ⟨rr.length, by rw [List.length_cons]; omega, v6, t2, false, rr, p1 + y.ws.length, max B y.b + 1, _, _, rfl, rfl, fun z => absurd z Bool.false_ne_true, k5.trans (Keep.of s6), (ra4.same s5).same s6, hv6, ?_, by omega, fun z hz => hrr z (List.mem_cons_of_mem _ hz), f1.skip, hval, by rw [← hpos1]⟩
                  exact good_vstep true (v := some t) (u := some s) (fun _ e => by cases e; exact gt) (fun _ e => by cases e; exact gs) ec
            | false =>
              rw [show decide (sgn false = [45]) = false from rfl]
              refine iteF ?_
              refine ⟨_, rfl, _, rfl, ?_⟩
              refine ⟨v, vt, t, s, rfl, hv4, hvt, gt.ca, gs.ca, by omega, by omega, fun v5 H5 s5 hv5 => ?_⟩
              have k5 := k4.trans (Keep.of s5)
              refine ⟨v5, padd t s, rfl, hv5, ?_, ?_⟩
              · have z := length_padd t s
                omega
              · have em : vstep false (some t) (some s) = chk (padd t s) := rfl
                rw [em] at q hval
                cases ec : chk (padd t s) with
                | none =>
                  rw [ec, tmVal_none] at q
                  exact fun d H6 s6 hd => q d H6 (k5.trans (Keep.of s6)) hd
                | some t2 =>
                  rw [ec] at hval
                  intro v6 H6 s6 hv6
                  refine ⟨rr.length, by rw [List.length_cons]; omega, v6, t2, false, rr, p1 + y.ws.length, max B y.b + 1, _, _, rfl, rfl, fun z => absurd z Bool.false_ne_true, k5.trans (Keep.of s6), (ra4.same s5).same s6, hv6, ?_, by omega, fun z hz => hrr z (List.mem_cons_of_mem _ hz), f1.skip, hval, by rw [← hpos1]⟩
                  exact good_vstep false (v := some t) (u := some s) (fun _ e => by cases e; exact gt) (fun _ e => by cases e; exact gs) ec
    | false =>
      refine ⟨_, rfl, r, dx, _, rfl, ra'.ob, rfl, _, rfl, (by decide +kernel), fun m hm => ?_⟩
      rw [signsV]
      have s1 := same_new hm (.lst (([[43], [45]] : List Word).map tx))
      have rb := ra'.same s1
      have k1 := kp.trans (Keep.of s1)
      have hv1 := hv.mono s1
      cases rr with
      | nil =>
        refine ⟨r, dx, l, ws, _, x, m, _, rfl, rb, hf.get, SqL.of upd_same, _, rfl, ?_⟩
        rw [sign_not hx]
        refine ⟨_, rfl, ?_⟩
        have ep : p' = p + (tmWords true r').length := by rw [← hpos]; rfl
        rw [← ep] at q
        exact q v _ k1 rb hv1
      | cons sy rr =>
        obtain ⟨sg, y⟩ := sy
        have hy := hrr (sg, y) (List.mem_cons_self ..)
        have hB2 : B + (y.b + 1 + tmBits rr) ≤ 100000 := hB
        refine ⟨r, dx, l, ws, _, sgn sg, m, _, rfl, rb, hf.get, SqL.of upd_same, _, rfl, ?_⟩
        rw [sgn_in]
        refine ⟨fun σ' H2 => ∃ m', m' < ((sg, y) :: rr).length ∧ Wv m' σ' H2, fun _ _ z => z, ?_⟩
        refine ⟨fun σ' H2 => ∃ p1 : Nat, σ' = [some (.ref r), some v, some (.bl false), some (tx (sgn sg)), u4] ∧ Keep r H H2 ∧ RAt CR H2 r dx l ws p1 ∧ PolyAt K C H2 v t ∧ From ws p1 (y.ws ++ (tmWords false rr ++ x :: rest)) ∧ p1 + y.ws.length + (tmWords false rr).length = p + (tmWords true r').length, ?_, ?_⟩
        · refine ⟨_, rfl, r, dx, _, rfl, rb.ob, rfl, _, rfl, (by decide +kernel), fun m2 hm2 => ?_⟩
          rw [signsV]
          have s2 := same_new hm2 (.lst (([[43], [45]] : List Word).map tx))
          have rb2 := rb.same s2
          have hf' : From ws p' (sgn sg :: (y.ws ++ (tmWords false rr ++ x :: rest))) := ⟨by
            rw [hf.eq]
            show ((sgn sg :: y.ws) ++ tmWords false rr) ++ x :: rest = _
            rw [List.append_assoc]; rfl⟩
          refine ⟨r, dx, l, ws, _, sgn sg, m2, [[43], [45]], rfl, rb2, hf'.get, SqL.of upd_same, _, rfl, ?_⟩
          rw [sgn_in]
          refine iteT ?_
          refine ⟨_, rfl, r, dx, _, rfl, rb2.ob, rfl, r, dx, l, ws, _, _, rfl, rb2, hf'.get, fun H3 kp3 ra3 => ?_⟩
          refine ⟨p' + 1, rfl, (k1.trans (Keep.of s2)).trans kp3, ra3, (hv1.mono s2).keep rb2 kp3, hf'.next, ?_⟩
          rw [← hpos]
          show _ = p' + ((sgn sg :: y.ws) ++ tmWords false rr).length
          rw [List.length_append, List.length_cons]; omega
        · rintro σ' H2 ⟨p1, rfl, k2, ra2, hv2, f1, hpos1⟩
          have hst : ∃ h0 rest0, tmWords false rr ++ x :: rest = h0 :: rest0 ∧ h0 ∈ Cat.prod.stops := by
            cases rr with
            | nil => exact ⟨x, rest, rfl, stops_sum hx⟩
            | cons z r2 =>
              refine ⟨sgn z.1, _, rfl, ?_⟩
              cases z.1 <;> decide
          obtain ⟨h1, rest1, eh1, hh1⟩ := hst
          refine ⟨_, rfl, r, dx, _, rfl, ra2.ob, rfl, r, dx, l, ws, p1, y.n, y.ws, y.v, y.b, h1, rest1, rfl, ra2, hy.1, Nat.lt_of_le_of_lt hy.2 hn, by omega, by rw [← eh1]; exact f1, hh1, hlen, ?_⟩
          have qv : tmVal (some t) ((sg, y) :: rr) = tmVal (vstep sg (some t) y.v) rr := rfl
          rw [qv] at q hval
          cases hyv : y.v with
          | none =>
            rw [hyv] at q
            have en : vstep sg (some t) none = none := by unfold vstep; cases sg <;> rfl
            rw [en, tmVal_none] at q
            exact fun d H4 k4 hd => q d H4 (k2.trans k4) hd
          | some s =>
            rw [hyv] at q hval
            have gs := hy.1.good s hyv
            intro vt H4 kp4 ra4 hvt
            have hv4 := hv2.keep ra2 kp4
            have k4 := k2.trans kp4
            have lt := gt.len
            have lst := gs.len
            refine ⟨_, rfl, rfl, _, rfl, ?_⟩
            show if decide (tx (sgn sg) = tx [45]) = true then _ else _
            rw [tx_eq]
            cases sg with
            | true =>
              rw [show decide (sgn true = [45]) = true from rfl]
              refine iteT ?_
              refine ⟨_, rfl, _, rfl, ?_⟩
              refine ⟨v, vt, t, s, rfl, hv4, hvt, gt.ca, gs.ca, by omega, by omega, fun v5 H5 s5 hv5 => ?_⟩
              have k5 := k4.trans (Keep.of s5)
              refine ⟨v5, psub t s, rfl, hv5, ?_, ?_⟩
              · have z := length_psub t s
                omega
              · have em : vstep true (some t) (some s) = chk (psub t s) := rfl
                rw [em] at q hval
                cases ec : chk (psub t s) with
                | none =>
                  rw [ec, tmVal_none] at q
                  exact fun d H6 s6 hd => q d H6 (k5.trans (Keep.of s6)) hd
                | some t2 =>
                  rw [ec] at hval
                  intro v6 H6 s6 hv6
                  refine ⟨rr.length, by rw [List.length_cons]; omega, v6, t2, false, rr, p1 + y.ws.length, max B y.b + 1, _, _, rfl, rfl, fun z => absurd z Bool.false_ne_true, k5.trans (Keep.of s6), (ra4.same s5).same s6, hv6, ?_, by omega, fun z hz => hrr z (List.mem_cons_of_mem _ hz), f1.skip, hval, by rw [← hpos1]⟩
                  exact good_vstep true (v := some t) (u := some s) (fun _ e => by cases e; exact gt) (fun _ e => by cases e; exact gs) ec
            | false =>
              rw [show decide (sgn false = [45]) = false from rfl]
              refine iteF ?_
              refine ⟨_, rfl, _, rfl, ?_⟩
              refine ⟨v, vt, t, s, rfl, hv4, hvt, gt.ca, gs.ca, by omega, by omega, fun v5 H5 s5 hv5 => ?_⟩
              have k5 := k4.trans (Keep.of s5)
              refine ⟨v5, padd t s, rfl, hv5, ?_, ?_⟩
              · have z := length_padd t s
                omega
              · have em : vstep false (some t) (some s) = chk (padd t s) := rfl
                rw [em] at q hval
                cases ec : chk (padd t s) with
                | none =>
                  rw [ec, tmVal_none] at q
                  exact fun d H6 s6 hd => q d H6 (k5.trans (Keep.of s6)) hd
                | some t2 =>
                  rw [ec] at hval
                  intro v6 H6 s6 hv6
                  refine ⟨rr.length, by rw [List.length_cons]; omega, v6, t2, false, rr, p1 + y.ws.length, max B y.b + 1, _, _, rfl, rfl, fun z => absurd z Bool.false_ne_true, k5.trans (Keep.of s6), (ra4.same s5).same s6, hv6, ?_, by omega, fun z hz => hrr z (List.mem_cons_of_mem _ hz), f1.skip, hval, by rw [← hpos1]⟩
                  exact good_vstep false (v := some t) (u := some s) (fun _ e => by cases e; exact gt) (fun _ e => by cases e; exact gs) ec
end
end K46

/-! # read_poly -/
namespace K46
open PySem PySem.Spec PyProof.Rows L2
open SX (S)
theorem tok_words {cs : List Nat} {p : Nat} {ws : List (Word × Nat)} (h : TokR cs p ws) : (∀ q ∈ ws, q.1 ≠ [] ∧ q.1.length ≤ cs.length) ∧ ws.length ≤ cs.length := by
  induction h with
  | nil p => exact ⟨fun _ h => absurd h (by simp), Nat.le_refl _⟩
  | blank _ ih =>
    refine ⟨fun q hq => ⟨(ih.1 q hq).1, ?_⟩, ?_⟩
    · have := (ih.1 q hq).2
      rw [List.length_cons]; omega
    · have := ih.2
      rw [List.length_cons]; omega
  | sign _ _ _ ih =>
    refine ⟨fun q hq => ?_, ?_⟩
    · rcases List.mem_cons.mp hq with e | hq
      · subst e
        exact ⟨by simp, by simp⟩
      · have := (ih.1 q hq).2
        exact ⟨(ih.1 q hq).1, by rw [List.length_cons]; omega⟩
    · have := ih.2
      rw [List.length_cons, List.length_cons]; omega
  | @num w cs p ws hw _ _ ih =>
    refine ⟨fun q hq => ?_, ?_⟩
    · rcases List.mem_cons.mp hq with e | hq
      · subst e
        exact ⟨hw.1, by rw [List.length_append]; exact Nat.le_add_right _ _⟩
      · have := (ih.1 q hq).2
        exact ⟨(ih.1 q hq).1, by rw [List.length_append]; omega⟩
    · have := ih.2
      have := List.length_pos_iff.mpr hw.1
      rw [List.length_cons, List.length_append]; omega
section
variable {P : Program} {w : World} {K : PySem.W.Frag} {mg : Str → Option Value} {base : Heap} {C CR CB CO : Addr}
theorem ok_rsum0 (h : HasM K CR "summed" "Reader.summed" sRSum ["self"]) : CanM P w K mg base (L2.CX P w) 5 CR "summed" ["self"] (spRd K C CB CR .sum 0) := by
  obtain ⟨f, fd, M, F, b⟩ := h.ex
  refine ⟨f, fd, M, b, F.okX (k := 4) scRSum (fun vs H Q E h => ?_) (fun cdv A outer s H vs Q E hr h => ?_)⟩
  · obtain ⟨r, dx, l, ws, p, n, us, v, b, x, rest, rfl, _⟩ := h
    rfl
  · obtain ⟨r, dx, l, ws, p, n, us, v, b, x, rest, rfl, ra, hrd, hn, _⟩ := h
    exact absurd hn (Nat.not_lt_zero _)
/-- the reader's methods, where they stand -/
structure RdHas (K : PySem.W.Frag) (CR : Addr) : Prop where
  base : HasM K CR "base" "Reader.base" sRBase ["self"]
  fac : HasM K CR "factor" "Reader.factor" sRFac ["self"]
  prod : HasM K CR "product" "Reader.product" sRProd ["self"]
  sum : HasM K CR "summed" "Reader.summed" sRSum ["self"]
theorem ok_sums {fI : Addr} (rh : RdHas K CR) (NW : CanM P w K mg base CX0 1 CR "next_word" ["self"] (spRNext CR)) (IS : CanM P w K mg base CX0 1 CR "is_next" ["self", "words"] (spRIs K CR))
    (IN : CanM P w K mg base (L2.CX P w) 2 CR "integer" ["self"] (spRInt CR CB)) (CC : Can P w K mg base CX0 4 "constant" ["number"] (spConst K C)) (CU : Can P w K mg base CX0 4 "unknown_power" ["k", "many"] (spUnk K C))
    (CT : Can P w K mg base CX0 4 "times" ["one", "other"] (spTimes K C)) (CPl : Can P w K mg base CX0 5 "plus" ["one", "other"] (spPlus K C)) (CMi : Can P w K mg base CX0 5 "minus" ["one", "other"] (spMinus K C))
    (CK : Can P w K mg base (L2.CX P w) 2 "check_great" ["poly"] (spChk K C CB)) (PT : Can P w K mg base (L2.CX P w) 5 "power_told" ["poly", "many"] (spTold K C CB)) (T : PySem.BadX.BadTxt P K CB fI) (gB : mg "BadText" = some (.ref CB)) (gl : GlRd mg) (c : RdCls K CR) :
    ∀ N : Nat, CanM P w K mg base (L2.CX P w) (5 + 4 * N) CR "summed" ["self"] (spRd K C CB CR .sum N)
  | 0 => ok_rsum0 rh.sum
  | N + 1 => by
    have SU := ok_sums rh NW IS IN CC CU CT CPl CMi CK PT T gB gl c N
    have BA := ok_rbase rh.base NW IS IN CC CU SU (by omega) gl c
    have FA := ok_rfac rh.fac NW IS IN BA PT T gB (by omega) gl c
    have PR := ok_rprod rh.prod NW IS FA CT CK (by omega) c
    have SS := ok_rsum rh.sum NW IS PR CC CPl CMi CK (by omega) gl c
    rw [show 5 + 4 * (N + 1) = 5 + 4 * N + 1 + 1 + 1 + 1 by omega]
    exact SS
/-! ### read_poly(text) -/
abbrev sRead : Stmt := top 38
def spRead (K : PySem.W.Frag) (C CB : Addr) : Sp := fun vs H Q E => ∃ (cs : List Nat) (ws : List (Word × Nat)) (n : Nat) (v : Option Poly) (b : Nat), vs = [tx cs] ∧ cs.length ≤ 100000 ∧ TokR cs 0 ws ∧ Rd .sum n (ws.map (·.1)) v b ∧ b ≤ 100000 ∧ Gives K C CB H Q E (if 20 < n then none else v)
theorem scRead : FnScope ["text", "words"] ["text"] (defScope sRead) := ⟨rfl, rfl, rfl, by decide +kernel, rfl, by decide +kernel, by decide +kernel⟩
structure GlRead (mg : Str → Option Value) : Prop where
  nisi : mg "isinstance" = none
  nstr : mg "str" = none
  nsuper : mg "super" = none
  deep : ∃ t, mg "MOST_DEEP" = some (.int 20 t)
  great : ∃ t, mg "GREAT" = some (.str "great" t)
theorem ok_read {fI : Addr} (h : Has K mg "read_poly" sRead ["text"]) (CW : Can P w K mg base CX0 2 "words_of" ["text"] spWords) (CF : Can P w K mg base CX0 3 "check_form" ["text", "words"] spForm) (RI : CanI P w K mg base CX0 1 "Reader" CR ["self", "words"] (spRInit CR))
    (SU : CanM P w K mg base (L2.CX P w) 89 CR "summed" ["self"] (spRd K C CB CR .sum 21)) (T : PySem.BadX.BadTxt P K CB fI) (gB : mg "BadText" = some (.ref CB)) (gl : GlRead mg) (c : RdCls K CR) :
    Can P w K mg base (L2.CX P w) 90 "read_poly" ["text"] (spRead K C CB) := by
  obtain ⟨f, fd, g, F, b⟩ := h.ex
  obtain ⟨_, g1⟩ := gl.deep
  obtain ⟨_, g2⟩ := gl.great
  refine ⟨f, fd, g, F.kp, b, F.okX scRead (fun vs H Q E h => ?_) (fun cdv A outer s H vs Q E hr h => ?_)⟩
  · obtain ⟨cs, ws, n, v, b, rfl, _⟩ := h
    rfl
  · obtain ⟨cs, ws, n, v, b, rfl, hl, ht, hrd, hb, q⟩ := h
    refine ⟨_, pss_cons (ps_if (pt_not (pt_val (pe_callB call_isi (by rfl) gl.nisi (by decide +kernel) (pa_cons (pv 0) (pa_cons (pe_bltn (v := .ty "str") (u := .type "str") (by rfl) gl.nstr (by decide +kernel) rfl) pa_nil))))) (pss_one ps_never) pss_nil)
      (pss_cons (ps_set (i := 1) scRead.nd rfl (Or.inl rfl) (pe_can CW hr pass0 (pa_cons (pv 0) pa_nil)))
      (pss_cons (ps_if (pt_cmpR op_gt (pe_can CF hr pass0 (pa_cons (pv 0) (pa_cons (pv 1) pa_nil))) (pe_glob (v := .int 20) (by rfl) g1 ⟨_, rfl⟩) (nomark _)) (pss_one (ps_raiseBad rfl T gB gl.nsuper hr (takes_of rfl rfl rfl rfl) (pa_cons (pe_glob (v := .str "great") (by rfl) g2 ⟨_, rfl⟩) pa_nil))) pss_nil)
      (pss_one (ps_ret (pe_canM0 SU c.cl hr (passes_call (takes_of rfl rfl rfl rfl) (fun _ _ _ _ h => h)) (pe_canI RI hr pass0 (pa_cons (pv 1) pa_nil))))))), ?_⟩
    obtain ⟨tw1, tw2⟩ := tok_words ht
    refine ⟨_, rfl, tx cs, .ty "str", .type "str", .type "str", true, rfl, .ty _, .base (.str _), kit_ty (by decide +kernel), true, rfl, ?_⟩
    refine ⟨_, rfl, cs, ws, rfl, by omega, ht, fun l H1 s1 hl1 => ?_⟩
    obtain ⟨fs, hfs, hrun⟩ := hrd.orun
    refine ⟨_, rfl, _, rfl, _, l, ws, fs, (n : Int), rfl, hl1, fun q hq => ⟨(tw1 q hq).1, by have := (tw1 q hq).2; omega⟩, hrun, hfs, fun H2 s2 => ?_⟩
    refine ⟨_, _, rfl, rfl, _, rfl, ite2 (fun c => ?_) (fun c => ?_)⟩
    · have hn : 20 < n := by
        have := of_decide_eq_true c
        omega
      rw [if_pos hn] at q
      exact ⟨_, rfl, fun d hd => q d _ ((s1.trans s2).trans (same_new hd _)) upd_same⟩
    · have hn : ¬ 20 < n := fun z => c (decide_eq_true (by omega))
      rw [if_neg hn] at q
      refine ⟨_, rfl, ?_⟩
      intro x dx nx ndx nex
      have s3 := s1.trans s2
      have s4 : Same H2 (upd (upd H2 dx (.own x)) x (.ins CR dx [])) := fun a o e => by rw [upd_ne (ne_of_none e nx), upd_ne (ne_of_none e ndx)]; exact e
      have hl4 : WordsAt (upd (upd H2 dx (.own x)) x (.ins CR dx [])) l ws := by
        obtain ⟨vs, h1, h2⟩ := hl1
        exact ⟨vs, s4 _ _ (s2 _ _ h1), Paired.mapP h2 fun v q z => (z.mono s2).mono s4⟩
      refine ⟨x, dx, l, ws, rfl, upd_same, hl4, by omega, fun m H3 kp3 ra3 => ?_⟩
      refine ⟨rfl, x, dx, _, rfl, ra3.ob, rfl, ?_⟩
      have nxH : H x = none := by
        cases e : H x with
        | none => rfl
        | some o => rw [s3 _ _ e] at nx; cases nx
      refine ⟨x, dx, m, _, 0, n, ws.map (·.1), v, b, [], [], rfl, ra3, hrd, by omega, hb, ⟨rfl⟩, by decide, fun y hy => ?_, ?_⟩
      · rcases List.mem_append.mp hy with hy | hy
        · obtain ⟨z, hz, rfl⟩ := List.mem_map.mp hy
          have := (tw1 z hz).2
          omega
        · have : y = [] := by simpa using hy
          subst this
          exact Nat.zero_le _
      · have k3 : ∀ H4, Keep x H3 H4 → Same H H4 := fun H4 kp4 => Keep.same (fun a u e => by
          have ne : a ≠ x := ne_of_none e nxH
          exact kp3 a u ne (s4 _ _ (s3 _ _ e))) nxH kp4
        cases v with
        | none => exact fun d H4 kp4 hd => q d H4 (k3 H4 kp4) hd
        | some t => exact fun v' H4 kp4 ra4 hv => q v' H4 (k3 H4 kp4) hv
end
end K46

/-! # The law's own polynomials -/
namespace K46
open PySem PySem.Spec PyProof.Rows L2
open SX (S)
theorem for_keysT {d : Addr} {o : Obj} {kvs : List (List L2.Key × V)} {g : TG} {tb : TS} {D : Ends} {σ : L2.St} {H : Hp} (Pv : Nat → L2.St → Hp → Prop) (h0 : Pv 0 σ H) (hl : ∀ i σ H, i ≤ kvs.length → Pv i σ H → H d = some (.frz o (.dT kvs)))
    (hs : ∀ i σ H k v q, kvs[i]? = some (k, v) → H q = some (.tup (k.map kV)) → Pv i σ H → g (.ref q) σ H fun σ2 H2 => tb { D with nx := Pv (i + 1), ct := Pv (i + 1), bk := D.nx } σ2 H2) (hd : ∀ σ H, Pv kvs.length σ H → D.nx σ H) :
    ∃ W : Nat → Nat → L2.St → Hp → Prop, (∃ m, W 0 m σ H) ∧ ∀ i m σ H, W i m σ H →
      ((Itkt d o kvs).stop i H ∧ D.nx σ H) ∨ ((Itkt d o kvs).go i H ∧ ∃ N : L2.St → Hp → Prop, (∀ σ' H', N σ' H' → ∃ m', m' < m ∧ W (i + 1) m' σ' H') ∧ ∀ x H', (Itkt d o kvs).yld i H x H' → g x σ H' fun σ2 H2 => tb { D with nx := N, ct := N, bk := D.nx } σ2 H2) := by
  refine ⟨fun i m σ H => m = kvs.length - i ∧ i ≤ kvs.length ∧ Pv i σ H, ⟨kvs.length, by simp, Nat.zero_le _, h0⟩, ?_⟩
  rintro i m σ H ⟨rfl, hi, p⟩
  by_cases hlt : i < kvs.length
  · refine .inr ⟨⟨hl i σ H hi p, hlt⟩, Pv (i + 1), fun σ' H' p' => ⟨kvs.length - (i + 1), by omega, rfl, hlt, p'⟩, fun x H' y => ?_⟩
    obtain ⟨e, k, v, q, h1, h2, h3⟩ := y
    subst e h2
    exact hs i σ _ k v q h1 h3 p
  · have e : i = kvs.length := by omega
    subst e
    exact .inl ⟨⟨hl _ σ H (Nat.le_refl _) p, Nat.le_refl _⟩, hd σ H p⟩
/-- a law's polynomial -/
def PolyD (H : Hp) (v : V) (t : Poly) : Prop := ∃ (d : Addr) (kvs : Poly), v = .ref d ∧ H d = some (.dT (kvs.map ent)) ∧ DictOfP kvs t
abbrev NewD (H : Hp) (Q : VK) (t : Poly) : Prop := ∀ (d : Addr) (H' : Hp), H d = none → Same H H' → PolyD H' (.ref d) t → Q (.ref d) H'
/-- one term is put: what the law's loops do -/
def dadd (es : Poly) (m : Mon) (c : Int) : Poly := if c = 0 then ddrop (dput es m c) m else dput es m c
theorem dadd_nd {es : Poly} (h : NodupK es) (m : Mon) (c : Int) : NodupK (dadd es m c) := by
  unfold dadd
  split
  · exact nodup_ddrop (nodup_dput h m c) m
  · exact nodup_dput h m c
theorem dadd_nz {es : Poly} (h : ∀ p ∈ es, p.2 ≠ 0) (m : Mon) (c : Int) : ∀ p ∈ dadd es m c, p.2 ≠ 0 := by
  unfold dadd
  split
  · exact nz_ddrop fun p hp hm => h p (dput_other p hp hm)
  · rename_i hc
    exact nz_dput h hc
theorem dadd_co {es : Poly} (h : NodupK es) (m : Mon) (c : Int) (x : Mon) : coef (dadd es m c) x = if x = m then c else coef es x := by
  unfold dadd
  split
  · rename_i hc
    rw [coef_ddrop, coef_dput h]
    by_cases e : x = m
    · rw [if_pos e, if_pos e, hc]
    · rw [if_neg e, if_neg e]
  · exact coef_dput h m c x
theorem dadd_len (es : Poly) (m : Mon) (c : Int) : (dadd es m c).length ≤ es.length + 1 := by
  unfold dadd
  have h1 := length_dput es m c
  split
  · have h2 := length_ddrop (dput es m c) m
    omega
  · exact h1
theorem has_dput {es : Poly} (h : NodupK es) (m : Mon) (c : Int) : hasK (dput es m c) m = true := by
  unfold dput
  by_cases e : hasK es m = true
  · rw [if_pos e]
    have h1 := keys_repl m c es
    exact hasK_iff.mpr (by rw [h1]; exact hasK_iff.mp e)
  · rw [if_neg e]
    refine hasK_iff.mpr ?_
    unfold keysOf
    rw [List.map_append]
    simp
theorem ent_at {kvs : Poly} {i : Nat} {k : List L2.Key} {v : V} (h : (kvs.map ent)[i]? = some (k, v)) : ∃ p : Mon × Int, kvs[i]? = some p ∧ k = mkey p.1 ∧ v = .int p.2 := by
  rw [List.getElem?_map] at h
  cases e : kvs[i]? with
  | none => rw [e] at h; cases h
  | some p =>
    rw [e] at h
    have := Option.some.inj h
    unfold ent at this
    obtain ⟨h1, h2⟩ := Prod.mk.inj this
    exact ⟨p, rfl, h1.symm, h2.symm⟩
theorem valV_mem {kvs : Poly} (hn : NodupK kvs) {p : Mon × Int} (hp : p ∈ kvs) : valV (kvs.map ent) (mkey p.1) = some (.int p.2) := by
  rw [valV_ent hn, if_pos (hasK_iff.mpr (List.mem_map_of_mem hp)), coef_mem hn hp]
section
variable {P : Program} {w : World} {K : PySem.W.Frag} {mg : Str → Option Value} {base : Heap}
/-! ### _law_constant, _law_unknown -/
abbrev lConst : Stmt := top 43
def spLConst : Sp := fun vs H Q _ => ∃ n : Int, vs = [.int n] ∧ NewD H Q (pconst n)
theorem sclConst : FnScope ["_law_number"] ["_law_number"] (defScope lConst) := ⟨rfl, rfl, rfl, by decide +kernel, rfl, by decide +kernel, by decide +kernel⟩
theorem dict_one {m : Mon} {c : Int} (hc : c ≠ 0) : DictOfP [(m, c)] [(m, c)] := ⟨by unfold NodupK; simp, fun p hp => by
  have e : p = (m, c) := by simpa using hp
  rw [e]; exact hc, fun _ => rfl, Canon.one m hc⟩
theorem ok_lconst (h : Has K mg "_law_constant" lConst ["_law_number"]) : Can P w K mg base CX0 1 "_law_constant" ["_law_number"] spLConst := by
  obtain ⟨f, fd, g, F, b⟩ := h.ex
  refine ⟨f, fd, g, F.kp, b, F.ok sclConst (fun vs H Q E h => ?_) (fun cdv A outer s H vs Q E hr h => ?_)⟩
  · obtain ⟨n, rfl, _⟩ := h
    rfl
  · obtain ⟨n, rfl, q⟩ := h
    refine ⟨_, pss_one (ps_ret (pe_ifExp (pt_cmpR op_ne (pv 0) pe_int (nomark _)) (pe_oneT hr (pe_tup (pa_cons pe_int (pa_cons pe_int (pa_cons pe_int (pa_cons pe_int pa_nil))))) (pv 0)) pe_dnewT)), ?_⟩
    refine ⟨_, rfl, rfl, _, rfl, ite2 (fun c => ?_) (fun c => ?_)⟩
    · have c0 : n ≠ 0 := by simpa using c
      intro p hp
      refine ⟨(by decide : 4 ≤ sizeLine), fun t ht => ⟨_, rfl, t, mkey (0, 0, 0, 0), rfl, ?_, upd_same, ?_⟩⟩
      · rw [upd_ne (ne_of_none upd_same ht)]; exact upd_same
      · have e : pconst n = [((0, 0, 0, 0), n)] := by unfold pconst; rw [if_neg c0]
        rw [e] at q
        refine q p _ hp (fun a o e => ?_) ⟨p, [((0, 0, 0, 0), n)], rfl, upd_same, dict_one c0⟩
        have n1 := ne_of_none e hp
        have e1 : upd H p (.dT []) a = some o := by rw [upd_ne n1]; exact e
        rw [upd_ne n1, upd_ne (ne_of_none e1 ht)]
        exact e1
    · have c0 : n = 0 := by simpa using c
      intro p hp
      have e : pconst n = [] := by unfold pconst; rw [if_pos c0]
      rw [e] at q
      exact q p _ hp (same_new hp _) ⟨p, [], rfl, upd_same, ⟨List.nodup_nil, fun _ h => absurd h (by simp), fun _ => rfl, Canon.nil⟩⟩
abbrev lUnk : Stmt := top 44
def spLUnk : Sp := fun vs H Q _ => ∃ k : Nat, vs = [.int k] ∧ NewD H Q (pvar k)
theorem sclUnk : FnScope ["_law_k", "_law_other"] ["_law_k"] (defScope lUnk) := ⟨rfl, rfl, rfl, by decide +kernel, rfl, by decide +kernel, by decide +kernel⟩
theorem ok_lunk (h : Has K mg "_law_unknown" lUnk ["_law_k"]) (mT : mg "tuple" = none) (mR : mg "range" = none) (mI : mg "int" = none) : Can P w K mg base CX0 1 "_law_unknown" ["_law_k"] spLUnk := by
  obtain ⟨f, fd, g, F, b⟩ := h.ex
  refine ⟨f, fd, g, F.kp, b, F.ok sclUnk (fun vs H Q E h => ?_) (fun cdv A outer s H vs Q E hr h => ?_)⟩
  · obtain ⟨k, rfl, _⟩ := h
    rfl
  · obtain ⟨k, rfl, q⟩ := h
    refine ⟨_, pss_one (ps_ret (pe_oneT hr (pe_callTy call_tuple_of (by rfl) mT (by decide +kernel) (pa_cons
      (pe_lc (own := [("_law_other", 1)]) (g := gName 1) (tt := tYes) (te := tCB (fun xs H Q => (∃ i, xs = [.int i] ∧ Q (.int i) H) ∨ ∃ b, xs = [.bl b] ∧ Q (.int (if b then 1 else 0)) H) (tCons (tOp rEq (tVar 1) (tVar 0)) tNil)) (by rfl) sclUnk.nd (pi_range1 (by rfl) mR (pa_cons pe_int pa_nil))
        (blkOk_by (own := [("_law_other", 1)]) (N := ["_law_k", "_law_other"]) (sc := defScope lUnk) (by decide +kernel)) (fun _ _ _ _ _ => pg_name (i := 1) sclUnk.nd rfl (Or.inl rfl)) (fun _ _ _ _ _ => pts_nil)
        (fun _ _ _ _ _ => by exact (pe_callTy call_int1 (by rfl) mI (by decide +kernel) (pa_cons (pe_cmpR op_eq (pv 1) (pv 0) (nomark _)) pa_nil)))) pa_nil)) pe_int)), ?_⟩
    intro p hp
    have s0 := same_new hp (.dT [])
    refine ⟨4, rfl, by decide, by decide, fun D hD => ?_⟩
    refine lc_range (lo := 0) (n := 4) (fun i H' => Same (upd H p (.dT [])) H' ∧ H' D = some (.lst ((mtup (unit k 1)).take i))) ⟨same_new hD _, upd_same⟩ ?_ ?_
    · rintro i H' hi ⟨s1, hDi⟩
      have at_ : (mtup (unit k 1))[i]? = some (.int (if k = i then 1 else 0)) := by
        rcases (show i = 0 ∨ i = 1 ∨ i = 2 ∨ i = 3 by omega) with e | e | e | e <;> subst e <;> rfl
      have len : ((mtup (unit k 1)).take i).length < sizeLine := lt_line (Nat.lt_of_le_of_lt (List.length_take_le _ _) (by omega))
      refine ⟨rfl, _, rfl, _, rfl, rfl, .inr ⟨_, rfl, _, hDi, len, fun a o e => ?_, ?_⟩⟩
      · rw [upd_ne (ne_of_none e hD)]; exact s1 _ _ e
      · rw [take_snoc at_, upd_same]
        have e : decide (V.int (0 + (i : Int)) = V.int (k : Int)) = decide (k = i) := by
          apply decide_eq_decide.mpr
          constructor
          · intro z
            injection z with z
            omega
          · intro z
            rw [z, Int.zero_add]
        rw [e]
        by_cases z : k = i
        · rw [decide_eq_true z, if_pos z]; rfl
        · rw [decide_eq_false z, if_neg z]; rfl
    · rintro H' ⟨s1, hDi⟩
      refine ⟨D, _, rfl, .inl ⟨SqL.of hDi, fun l hl => ?_⟩⟩
      have hp1 := s1 _ _ upd_same
      have nl : p ≠ l := ne_of_none hp1 hl
      refine ⟨l, mkey (unit k 1), rfl, by rw [upd_ne nl]; exact hp1, upd_same, ?_⟩
      refine q p _ hp (fun a o e => ?_) ⟨p, [(unit k 1, 1)], rfl, upd_same, dict_one (by decide)⟩
      rw [upd_ne (ne_of_none e hp)]
      exact (same_new hl _) _ _ (s1 _ _ (s0 _ _ e))
end
end K46

/-! # The law's sums and products -/
namespace K46
open PySem PySem.Spec PyProof.Rows L2
open SX (S)
theorem lock_same {H H' : Hp} {d : Addr} {o : HO} (s : Same H H') : Same (upd H d o) (upd H' d o) := fun a u e => by
  by_cases z : a = d
  · subst z; rw [upd_same] at e ⊢; exact e
  · rw [upd_ne z] at e ⊢; exact s a u e
theorem unlock_same {H H' : Hp} {d : Addr} {u o : HO} (h : H d = some u) (s : Same (upd H d o) H') : Same H (upd H' d u) := fun a v e => by
  by_cases z : a = d
  · subst z; rw [h] at e; cases e; exact upd_same
  · rw [upd_ne z]; exact s a v (by rw [upd_ne z]; exact e)
theorem get_ent {H : Hp} {d q : Addr} {kvs : Poly} {m : Mon} (hd : L2.Rd H d (.dT (kvs.map ent))) (hq : H q = some (.tup ((mkey m).map kV))) (hn : NodupK kvs) : DGet H d (.ref q) (if hasK kvs m then some (.int (coef kvs m)) else none) :=
  .inr ⟨_, mkey m, q, hd, rfl, hq, (valV_ent hn).symm⟩
theorem put_ent {H : Hp} {d q : Addr} {kvs : Poly} {m : Mon} {c : Int} (hd : H d = some (.dT (kvs.map ent))) (hq : H q = some (.tup ((mkey m).map kV))) (hl : kvs.length < 10000000) : DPut H d (.ref q) (.int c) (upd H d (.dT ((dput kvs m c).map ent))) := by
  rw [← putK_ent]
  exact DPut.t hd hq (lt_line (by rw [List.length_map]; omega))
section
variable {P : Program} {w : World} {K : PySem.W.Frag} {mg : Str → Option Value} {base : Heap}
/-! ### _law_plus -/
abbrev lPlus : Stmt := top 45
def spLPlus : Sp := fun vs H Q _ => ∃ (x y : V) (by_ : Int) (s t r : Poly), vs = [x, y, .int by_] ∧ PolyD H x s ∧ PolyD H y t ∧ (by_ = 1 ∨ by_ = -1) ∧ s.length ≤ 100000 ∧ t.length ≤ 100000 ∧ Canon r ∧ (∀ m, coef r m = coef s m + by_ * coef t m) ∧ NewD H Q r
theorem sclPlus : FnScope ["_law_one", "_law_other", "_law_by", "_law_found", "_law_powers"] ["_law_one", "_law_other", "_law_by"] (defScope lPlus) := ⟨rfl, rfl, rfl, by decide +kernel, rfl, by decide +kernel, by decide +kernel⟩
theorem ok_lplus (h : Has K mg "_law_plus" lPlus ["_law_one", "_law_other", "_law_by"]) : Can P w K mg base CX0 1 "_law_plus" ["_law_one", "_law_other", "_law_by"] spLPlus := by
  obtain ⟨f, fd, g, F, b⟩ := h.ex
  refine ⟨f, fd, g, F.kp, b, F.ok sclPlus (fun vs H Q E h => ?_) (fun cdv A outer s H vs Q E hr h => ?_)⟩
  · obtain ⟨x, y, by_, s, t, r, rfl, _⟩ := h
    rfl
  · obtain ⟨x, y, by_, s1, t1, r, rfl, ⟨d1, k1, rfl, h1, p1⟩, ⟨d2, k2, rfl, h2, p2⟩, hby, hl1, hl2, hr1, hr2, q⟩ := h
    have hu := hu_of hr
    refine ⟨_, pss_cons (ps_set (i := 3) sclPlus.nd rfl (Or.inl rfl) pe_dnewT)
      (pss_cons (ps_lock (ps_for PassesOwn.never rfl (pi_keys (pv 0)) (pg_name (i := 4) sclPlus.nd rfl (Or.inl rfl)) (pss_one (ps_dput hu (pv 3) (pv 4) (pe_dget hu (pv 0) (pv 4) (fun _ _ => rfl)) rfl))))
      (pss_cons (ps_lock (ps_for PassesOwn.never rfl (pi_keys (pv 1)) (pg_name (i := 4) sclPlus.nd rfl (Or.inl rfl))
        (C8.pss_cut (ps_dput hu (pv 3) (pv 4) (pe_op op_add (pe_ifExp (pt_cmp (pc_din hu (pv 4) (pv 3))) (pe_dget hu (pv 3) (pv 4) (fun _ _ => rfl)) pe_int) (pe_op op_mul (pv 2) (pe_dget hu (pv 1) (pv 4) (fun _ _ => rfl)))) rfl)
        (pss_one (ps_if (pt_cmpR op_eq (pe_dget hu (pv 3) (pv 4) (fun _ _ => rfl)) pe_int (nomark _)) (pss_one (ps_expr (pe_bm PySem.F.plainAttrs_dict PySem.F.slot_dict_pop PySem.F.type_dict_pop (mt_pop1 hr) (pv 3) (pa_cons (pv 4) pa_nil)))) pss_nil)))))
      (pss_one (ps_ret (pv 3))))), ?_⟩
    intro D hD
    have nD1 : D ≠ d1 := fun z => by rw [z, h1] at hD; cases hD
    have nD2 : D ≠ d2 := fun z => by rw [z, h2] at hD; cases hD
    refine ⟨d1, .dT (k1.map ent), by rw [upd_ne (Ne.symm nD1)]; exact h1, trivial, fun od => ?_⟩
    refine ⟨_, rfl, d1, od, rfl, .inr ⟨_, upd_same, ?_⟩⟩
    refine for_keysT (fun i σ H' => ∃ (es : Poly) (u4 : Option V), σ = [some (.ref d1), some (.ref d2), some (.int by_), some (.ref D), u4] ∧ Same (upd H d1 (.frz od (.dT (k1.map ent)))) H' ∧ H' D = some (.dT (es.map ent)) ∧ es = k1.take i)
      ⟨[], none, rfl, fun a o e => ?_, ?_, rfl⟩ (fun i σ H' _ ⟨es, u4, _, s1, _⟩ => s1 _ _ upd_same) ?_ ?_
    · by_cases z : a = d1
      · subst z; rw [upd_same] at e ⊢; exact e
      · rw [upd_ne z] at e ⊢
        rw [upd_ne (ne_of_none e hD)]; exact e
    · rw [upd_ne nD1]; exact upd_same
    · rintro i σ H' k v qa hkv hqa ⟨es, u4, rfl, s1, hDe, rfl⟩
      obtain ⟨p, hp, rfl, rfl⟩ := ent_at hkv
      have hf := s1 _ _ upd_same
      have hfr := fresh_take p1.nd hp
      have hil : i < k1.length := (List.getElem?_eq_some_iff.mp hp).1
      have hlen : (k1.take i).length < 10000000 := by
        have := p1.len
        have := List.length_take_le i k1
        omega
      refine ⟨_, rfl, _, rfl, d1, .int p.2, rfl, ?_, _, rfl, _, rfl, D, _, rfl, put_ent hDe hqa hlen, ?_⟩
      · have := get_ent (.inr ⟨od, hf⟩) hqa p1.nd
        rw [if_pos (hasK_iff.mpr (List.mem_map_of_mem (List.mem_of_getElem? hp))), coef_mem p1.nd (List.mem_of_getElem? hp)] at this
        exact this
      · refine ⟨_, _, rfl, fun a o e => ?_, upd_same, ?_⟩
        · have n : a ≠ D := fun z => by
            rw [z, upd_ne nD1, hD] at e; cases e
          rw [upd_ne n]; exact s1 _ _ e
        · unfold dput
          rw [hfr, take_snoc hp]; rfl
    · rintro σ H' ⟨es, u4, rfl, s1, hDe, he⟩
      rw [List.length_map, List.take_length] at he
      subst he
      refine ⟨s1 _ _ upd_same, ?_⟩
      have s2 : Same H (upd H' d1 (.dT (es.map ent))) := unlock_same h1 s1
      have hDe2 : (upd H' d1 (.dT (es.map ent))) D = some (.dT (es.map ent)) := by rw [upd_ne nD1]; exact hDe
      refine ⟨d2, .dT (k2.map ent), s2 _ _ h2, trivial, fun od2 => ?_⟩
      refine ⟨_, rfl, d2, od2, rfl, .inr ⟨_, upd_same, ?_⟩⟩
      have len1 := p1.len
      have len2 := p2.len
      refine for_keysT (fun i σ H' => ∃ (fs : Poly) (u4 : Option V), σ = [some (.ref d1), some (.ref d2), some (.int by_), some (.ref D), u4] ∧ Same (upd H d2 (.frz od2 (.dT (k2.map ent)))) H' ∧ H' D = some (.dT (fs.map ent)) ∧ NodupK fs ∧ (∀ p ∈ fs, p.2 ≠ 0) ∧ fs.length ≤ es.length + i ∧
        ∀ m, coef fs m = coef es m + by_ * coef (k2.take i) m)
        ⟨es, u4, rfl, lock_same s2, ?_, p1.nd, p1.nz, Nat.le_refl _, fun m => ?_⟩ (fun i σ H' _ ⟨fs, u4, _, s1, _⟩ => s1 _ _ upd_same) ?_ ?_
      · rw [upd_ne nD2]; exact hDe2
      · rw [List.take_zero, coef_nil]; omega
      · rintro i σ H3 k v qa hkv hqa ⟨fs, u4, rfl, s3, hDf, hnd, hnz, hlen, hco⟩
        obtain ⟨p, hp, rfl, rfl⟩ := ent_at hkv
        have hf := s3 _ _ upd_same
        have hil : i < k2.length := (List.getElem?_eq_some_iff.mp hp).1
        have hpm := List.mem_of_getElem? hp
        have hlf : fs.length < 10000000 := by omega
        refine ⟨fun σ' H4 => σ' = [some (.ref d1), some (.ref d2), some (.int by_), some (.ref D), some (.ref qa)] ∧ H4 = upd H3 D (.dT ((dput fs p.1 (coef fs p.1 + by_ * p.2)).map ent)), ?_, ?_⟩
        · have go2 := get_ent (.inr ⟨od2, hf⟩) hqa p2.nd
          rw [if_pos (hasK_iff.mpr (List.mem_map_of_mem hpm)), coef_mem p2.nd hpm] at go2
          have hsm : CMul by_ p.2 := by
            left
            rcases hby with e | e <;> rw [e] <;> constructor <;> decide
          refine ⟨_, rfl, _, rfl, D, _, rfl, get_ent (.inl hDf) hqa hnd, _, rfl, ?_⟩
          by_cases hk : hasK fs p.1 = true
          · have g3 := get_ent (.inl hDf) hqa hnd
            rw [if_pos hk] at g3 ⊢
            exact ⟨_, rfl, _, rfl, D, _, rfl, g3, _, rfl, _, rfl, _, rfl, d2, _, rfl, go2, _, _, rfl, rfl, hsm, _, _, rfl, rfl, _, rfl, _, rfl, D, _, rfl, put_ent hDf hqa hlf, rfl, rfl⟩
          · have e0 : coef fs p.1 = 0 := coef_out fun z => hk (hasK_iff.mpr z)
            rw [if_neg hk, e0]
            exact ⟨_, rfl, _, rfl, _, rfl, d2, _, rfl, go2, _, _, rfl, rfl, hsm, _, _, rfl, rfl, _, rfl, _, rfl, D, _, rfl, put_ent hDf hqa hlf, rfl, rfl⟩
        · rintro σ' H4 ⟨rfl, rfl⟩
          have nq : qa ≠ D := fun z => by rw [z, hDf] at hqa; cases hqa
          have hq4 : (upd H3 D (.dT ((dput fs p.1 (coef fs p.1 + by_ * p.2)).map ent))) qa = some (.tup ((mkey p.1).map kV)) := by rw [upd_ne nq]; exact hqa
          have nd4 := nodup_dput hnd p.1 (coef fs p.1 + by_ * p.2)
          have g4 := get_ent (.inl upd_same) hq4 nd4
          rw [if_pos (has_dput hnd _ _), coef_dput hnd, if_pos rfl] at g4
          have fin : ∀ gs : Poly, gs = dadd fs p.1 (coef fs p.1 + by_ * p.2) → NodupK gs ∧ (∀ p ∈ gs, p.2 ≠ 0) ∧ gs.length ≤ es.length + (i + 1) ∧ ∀ m, coef gs m = coef es m + by_ * coef (k2.take (i + 1)) m := fun gs e => by
            subst e
            have := dadd_len fs p.1 (coef fs p.1 + by_ * p.2)
            refine ⟨dadd_nd hnd _ _, dadd_nz hnz _ _, by omega, fun m => ?_⟩
            rw [dadd_co hnd, take_snoc hp, coef_append, coef_cons, coef_nil]
            by_cases e : m = p.1
            · subst e
              rw [if_pos rfl, if_pos rfl, hco, Int.add_zero, Int.mul_add]; omega
            · rw [if_neg e, if_neg (fun z => e z.symm), hco, Int.add_zero, Int.add_zero]
          have sD : ∀ u, Same (upd H d2 (.frz od2 (.dT (k2.map ent)))) (upd (upd H3 D (.dT ((dput fs p.1 (coef fs p.1 + by_ * p.2)).map ent))) D u) := fun u a o e => by
            have n : a ≠ D := fun z => by rw [z, upd_ne nD2, hD] at e; cases e
            rw [upd_ne n, upd_ne n]; exact s3 _ _ e
          refine ⟨_, rfl, _, rfl, D, .int (coef fs p.1 + by_ * p.2), rfl, g4, rfl, _, rfl, ite2 (fun c => ?_) (fun c => ?_)⟩
          · have c0 : coef fs p.1 + by_ * p.2 = 0 := by
              have := of_decide_eq_true c
              injection this
            refine ⟨_, rfl, .inr (.inr (.inl ⟨rfl, .inr ⟨_, upd_same⟩⟩)), _, rfl, D, _, mkey p.1, qa, .int (coef fs p.1 + by_ * p.2), rfl, rfl, upd_same, hq4, ?_, ?_⟩
            · rw [valV_ent nd4, if_pos (has_dput hnd _ _), coef_dput hnd, if_pos rfl]
            · refine ⟨dadd fs p.1 (coef fs p.1 + by_ * p.2), _, rfl, sD _, ?_, fin _ rfl⟩
              rw [upd_same, dropK_ent]
              unfold dadd
              rw [if_pos c0]
          · have c0 : ¬ coef fs p.1 + by_ * p.2 = 0 := fun z => c (by rw [z]; exact decide_eq_true rfl)
            refine ⟨dadd fs p.1 (coef fs p.1 + by_ * p.2), _, rfl, ?_, ?_, fin _ rfl⟩
            · have := sD (.dT ((dput fs p.1 (coef fs p.1 + by_ * p.2)).map ent))
              rw [upd_upd] at this
              exact this
            · rw [upd_same]
              unfold dadd
              rw [if_neg c0]
      · rintro σ H3 ⟨fs, u4, rfl, s3, hDf, hnd, hnz, hlen, hco⟩
        rw [List.length_map, List.take_length] at hco
        refine ⟨s3 _ _ upd_same, ?_⟩
        have s4 : Same H (upd H3 d2 (.dT (k2.map ent))) := unlock_same h2 s3
        refine ⟨_, rfl, q D _ hD s4 ⟨D, fs, rfl, by rw [upd_ne nD2]; exact hDf, hnd, hnz, fun m => ?_, hr1⟩⟩
        rw [hco, hr2, p1.co, p2.co]
end
end K46

/-! # The law's products, powers, terms -/
namespace K46
open PySem PySem.Spec PyProof.Rows L2
open SX (S)
section
variable {P : Program} {w : World} {K : PySem.W.Frag} {mg : Str → Option Value} {base : Heap}
/-! ### _law_times -/
abbrev lTimes : Stmt := top 46
def spLTimes : Sp := fun vs H Q _ => ∃ (x y : V) (s t : Poly), vs = [x, y] ∧ x ≠ y ∧ PolyD H x s ∧ PolyD H y t ∧ s.length ≤ 900 ∧ t.length ≤ 900 ∧ Fits 400000 s ∧ Fits 400000 t ∧ NewD H Q (pmul s t)
theorem sclTimes : FnScope ["_law_one", "_law_other", "_law_found", "_law_here", "_law_there", "_law_k", "_law_powers"] ["_law_one", "_law_other"] (defScope lTimes) := ⟨rfl, rfl, rfl, by decide +kernel, rfl, by decide +kernel, by decide +kernel⟩
theorem ok_ltimes (h : Has K mg "_law_times" lTimes ["_law_one", "_law_other"]) (mT : mg "tuple" = none) (mR : mg "range" = none) : Can P w K mg base CX0 1 "_law_times" ["_law_one", "_law_other"] spLTimes := by
  obtain ⟨f, fd, g, F, b⟩ := h.ex
  refine ⟨f, fd, g, F.kp, b, F.ok sclTimes (fun vs H Q E h => ?_) (fun cdv A outer s H vs Q E hr h => ?_)⟩
  · obtain ⟨x, y, s, t, rfl, _⟩ := h
    rfl
  · obtain ⟨x, y, s1, t1, rfl, hxy, ⟨d1, k1, rfl, h1, p1⟩, ⟨d2, k2, rfl, h2, p2⟩, hl1, hl2, hf1, hf2, q⟩ := h
    have hu := hu_of hr
    refine ⟨_, pss_cons (ps_set (i := 2) sclTimes.nd rfl (Or.inl rfl) pe_dnewT)
      (pss_cons (ps_lock (ps_for PassesOwn.never rfl (pi_keys (pv 0)) (pg_name (i := 3) sclTimes.nd rfl (Or.inr rfl))
        (pss_one (ps_lock (ps_for PassesOwn.never rfl (pi_keys (pv 1)) (pg_name (i := 4) sclTimes.nd rfl (Or.inr rfl))
          (pss_cons (ps_set (i := 6) sclTimes.nd rfl (Or.inl rfl) (pe_callTy call_tuple_of (by rfl) mT (by decide +kernel) (pa_cons
            (pe_lc (own := [("_law_k", 5)]) (g := gName 5) (tt := tYes) (te := tOp (rI0 fun i j => .int (i + j)) (tOp (rIxT K) (tVar 3) (tVar 5)) (tOp (rIxT K) (tVar 4) (tVar 5))) (by rfl) sclTimes.nd (pi_range1 (by rfl) mR (pa_cons pe_int pa_nil))
              (blkOk_by (own := [("_law_k", 5)]) (N := ["_law_one", "_law_other", "_law_found", "_law_here", "_law_there", "_law_k", "_law_powers"]) (sc := defScope lTimes) (by decide +kernel)) (fun _ _ _ _ _ => pg_name (i := 5) sclTimes.nd rfl (Or.inl rfl)) (fun _ _ _ _ _ => pts_nil)
              (fun _ _ _ _ _ => by exact (pe_op op_add (pe_ix ix_tup (pv 3) (pv 5) (fun _ _ => rfl)) (pe_ix ix_tup (pv 4) (pv 5) (fun _ _ => rfl))))) pa_nil)))
          (C8.pss_cut (ps_dput hu (pv 2) (pv 6) (pe_op op_add (pe_ifExp (pt_cmp (pc_din hu (pv 6) (pv 2))) (pe_dget hu (pv 2) (pv 6) (fun _ _ => rfl)) pe_int) (pe_op op_mulW (pe_dget hu (pv 0) (pv 3) (fun _ _ => rfl)) (pe_dget hu (pv 1) (pv 4) (fun _ _ => rfl)))) rfl)
          (pss_one (ps_if (pt_cmpR op_eq (pe_dget hu (pv 2) (pv 6) (fun _ _ => rfl)) pe_int (nomark _)) (pss_one (ps_expr (pe_bm PySem.F.plainAttrs_dict PySem.F.slot_dict_pop PySem.F.type_dict_pop (mt_pop1 hr) (pv 2) (pa_cons (pv 6) pa_nil)))) pss_nil)))))))))
      (pss_one (ps_ret (pv 2)))), ?_⟩
    intro D hD
    have nD1 : D ≠ d1 := fun z => by rw [z, h1] at hD; cases hD
    have nD2 : D ≠ d2 := fun z => by rw [z, h2] at hD; cases hD
    have n12 : d2 ≠ d1 := fun z => hxy (by rw [z])
    have len1 := p1.len
    have len2 := p2.len
    refine ⟨d1, .dT (k1.map ent), by rw [upd_ne (Ne.symm nD1)]; exact h1, trivial, fun od => ?_⟩
    refine ⟨_, rfl, d1, od, rfl, .inr ⟨_, upd_same, ?_⟩⟩
    have hFD : (upd H d1 (.frz od (.dT (k1.map ent)))) D = none := by rw [upd_ne nD1]; exact hD
    have hF2 : (upd H d1 (.frz od (.dT (k1.map ent)))) d2 = some (.dT (k2.map ent)) := by rw [upd_ne n12]; exact h2
    refine for_keysT (fun i σ H' => ∃ (es : Poly) (u3 u4 u5 u6 : Option V), σ = [some (.ref d1), some (.ref d2), some (.ref D), u3, u4, u5, u6] ∧ Same (upd H d1 (.frz od (.dT (k1.map ent)))) H' ∧ H' D = some (.dT (es.map ent)) ∧ NodupK es ∧ (∀ p ∈ es, p.2 ≠ 0) ∧ es.length ≤ i * k2.length ∧
      ∀ m, coef es m = coef (raw (k1.take i) k2) m)
      ⟨[], none, none, none, none, rfl, fun a o e => ?_, ?_, List.nodup_nil, fun _ h => absurd h (by simp), Nat.zero_le _, fun m => rfl⟩ (fun i σ H' _ ⟨es, _, _, _, _, _, s1, _⟩ => s1 _ _ upd_same) ?_ ?_
    · by_cases z : a = d1
      · subst z; rw [upd_same] at e ⊢; exact e
      · rw [upd_ne z] at e ⊢
        rw [upd_ne (ne_of_none e hD)]; exact e
    · rw [upd_ne nD1]; exact upd_same
    · rintro i σ H1 k v qa hkv hqa ⟨es, u3, u4, u5, u6, rfl, s1, hDe, hnd, hnz, hlen, hco⟩
      obtain ⟨p, hp, rfl, rfl⟩ := ent_at hkv
      have hil : i < k1.length := (List.getElem?_eq_some_iff.mp hp).1
      have hpm := List.mem_of_getElem? hp
      have hi2 := s1 _ _ hF2
      refine ⟨d2, .dT (k2.map ent), hi2, trivial, fun od2 => ?_⟩
      refine ⟨_, rfl, d2, od2, rfl, .inr ⟨_, upd_same, ?_⟩⟩
      have nqa : qa ≠ d2 := fun z => by rw [z, hi2] at hqa; cases hqa
      have hGD : (upd (upd H d1 (.frz od (.dT (k1.map ent)))) d2 (.frz od2 (.dT (k2.map ent)))) D = none := by rw [upd_ne nD2]; exact hFD
      refine for_keysT (fun j σ H' => ∃ (fs : Poly) (u4 u5 u6 : Option V), σ = [some (.ref d1), some (.ref d2), some (.ref D), some (.ref qa), u4, u5, u6] ∧ Same (upd (upd H d1 (.frz od (.dT (k1.map ent)))) d2 (.frz od2 (.dT (k2.map ent)))) H' ∧ H' qa = some (.tup (mtup p.1)) ∧ H' D = some (.dT (fs.map ent)) ∧ NodupK fs ∧ (∀ p ∈ fs, p.2 ≠ 0) ∧ fs.length ≤ i * k2.length + j ∧
        ∀ m, coef fs m = coef (raw (k1.take i) k2) m + coef ((k2.take j).map fun q => (madd p.1 q.1, p.2 * q.2)) m)
        ⟨es, u4, u5, u6, rfl, lock_same s1, by rw [upd_ne nqa]; exact hqa, by rw [upd_ne nD2]; exact hDe, hnd, hnz, hlen, fun m => by rw [hco]; exact (Int.add_zero _).symm⟩ (fun j σ H' _ ⟨fs, _, _, _, _, s1, _⟩ => s1 _ _ upd_same) ?_ ?_
      · rintro j σ H2 k v qb hkv2 hqb ⟨fs, u4, u5, u6, rfl, s2, hqa2, hDf, hnd2, hnz2, hlen2, hco2⟩
        obtain ⟨q2, hq2, rfl, rfl⟩ := ent_at hkv2
        have hjl : j < k2.length := (List.getElem?_eq_some_iff.mp hq2).1
        have hqm := List.mem_of_getElem? hq2
        have lim : i * k2.length ≤ 900 * 900 := Nat.mul_le_mul (by omega) (by omega)
        refine ⟨4, rfl, by decide, by decide, fun L hL => ?_⟩
        have nLD : L ≠ D := fun z => by rw [z, hDf] at hL; cases hL
        refine lc_range (lo := 0) (n := 4) (fun c H' => Same H2 H' ∧ H' L = some (.lst ((mtup (madd p.1 q2.1)).take c))) ⟨same_new hL _, upd_same⟩ ?_ ?_
        · rintro c H' hc ⟨s3, hLc⟩
          have at_ : (mtup (madd p.1 q2.1))[c]? = some (.int (pw c p.1 + pw c q2.1)) := by
            rcases (show c = 0 ∨ c = 1 ∨ c = 2 ∨ c = 3 by omega) with e | e | e | e <;> subst e <;> rfl
          have ec : (0 : Int) + (c : Int) = (c : Int) := by omega
          refine ⟨rfl, _, rfl, _, rfl, qa, _, _, _, rfl, rfl, SqT.of (s3 _ _ hqa2), by rw [ec]; exact atI_mtup hc, _, rfl, _, rfl, qb, _, _, _, rfl, rfl, SqT.of (s3 _ _ hqb), by rw [ec]; exact atI_mtup hc, _, _, rfl, rfl, _, hLc, ?_, fun a o e => ?_, ?_⟩
          · exact lt_line (Nat.lt_of_le_of_lt (List.length_take_le _ _) (by omega))
          · rw [upd_ne (ne_of_none e hL)]; exact s3 _ _ e
          · rw [take_snoc at_]; exact upd_same
        · rintro H3 ⟨s3, hLe⟩
          refine ⟨L, _, rfl, .inl ⟨SqL.of hLe, fun T hT => ?_⟩⟩
          have s4 := s3.trans (same_new hT (.tup ((mtup (madd p.1 q2.1)).take 4)))
          have hT4 : (upd H3 T (.tup ((mtup (madd p.1 q2.1)).take 4))) T = some (.tup ((mkey (madd p.1 q2.1)).map kV)) := upd_same
          have sG := s2.trans s4
          have hD4 := s4 _ _ hDf
          have hlf : fs.length < 10000000 := by omega
          generalize (upd H3 T (.tup ((mtup (madd p.1 q2.1)).take 4))) = H4 at *
          refine ⟨fun σ' H5 => σ' = [some (.ref d1), some (.ref d2), some (.ref D), some (.ref qa), some (.ref qb), u5, some (.ref T)] ∧ H5 = upd H4 D (.dT ((dput fs (madd p.1 q2.1) (coef fs (madd p.1 q2.1) + p.2 * q2.2)).map ent)), ?_, ?_⟩
          · have g1 := get_ent (.inr ⟨od, sG _ _ (by rw [upd_ne (Ne.symm n12)]; exact upd_same)⟩) (s4 _ _ hqa2) p1.nd
            rw [if_pos (hasK_iff.mpr (List.mem_map_of_mem hpm)), coef_mem p1.nd hpm] at g1
            have g2 := get_ent (.inr ⟨od2, sG _ _ upd_same⟩) (s4 _ _ hqb) p2.nd
            rw [if_pos (hasK_iff.mpr (List.mem_map_of_mem hqm)), coef_mem p2.nd hqm] at g2
            have hsm : CMulW p.2 q2.2 := wide_mul (hf1.mem (p1.perm.mem_iff.mp hpm)) (hf2.mem (p2.perm.mem_iff.mp hqm)) (by decide) (by decide) (by decide)
            refine ⟨_, rfl, _, rfl, D, _, rfl, get_ent (.inl hD4) hT4 hnd2, _, rfl, ?_⟩
            by_cases hk : hasK fs (madd p.1 q2.1) = true
            · have g3 := get_ent (.inl hD4) hT4 hnd2
              rw [if_pos hk] at g3 ⊢
              exact ⟨_, rfl, _, rfl, D, _, rfl, g3, _, rfl, _, rfl, d1, _, rfl, g1, _, rfl, _, rfl, d2, _, rfl, g2, _, _, rfl, rfl, hsm, _, _, rfl, rfl, _, rfl, _, rfl, D, _, rfl, put_ent hD4 hT4 hlf, rfl, rfl⟩
            · have e0 : coef fs (madd p.1 q2.1) = 0 := coef_out fun z => hk (hasK_iff.mpr z)
              rw [if_neg hk, e0]
              exact ⟨_, rfl, _, rfl, d1, _, rfl, g1, _, rfl, _, rfl, d2, _, rfl, g2, _, _, rfl, rfl, hsm, _, _, rfl, rfl, _, rfl, _, rfl, D, _, rfl, put_ent hD4 hT4 hlf, rfl, rfl⟩
          · rintro σ' H5 ⟨rfl, rfl⟩
            have nq : T ≠ D := fun z => by rw [z, hD4] at hT4; cases hT4
            have hq4 : (upd H4 D (.dT ((dput fs (madd p.1 q2.1) (coef fs (madd p.1 q2.1) + p.2 * q2.2)).map ent))) T = some (.tup ((mkey (madd p.1 q2.1)).map kV)) := by rw [upd_ne nq]; exact hT4
            have nd4 := nodup_dput hnd2 (madd p.1 q2.1) (coef fs (madd p.1 q2.1) + p.2 * q2.2)
            have g4 := get_ent (.inl upd_same) hq4 nd4
            rw [if_pos (has_dput hnd2 _ _), coef_dput hnd2, if_pos rfl] at g4
            have fin : ∀ gs : Poly, gs = dadd fs (madd p.1 q2.1) (coef fs (madd p.1 q2.1) + p.2 * q2.2) → NodupK gs ∧ (∀ p ∈ gs, p.2 ≠ 0) ∧ gs.length ≤ i * k2.length + (j + 1) ∧ ∀ m, coef gs m = coef (raw (k1.take i) k2) m + coef ((k2.take (j + 1)).map fun q => (madd p.1 q.1, p.2 * q.2)) m := fun gs e => by
              subst e
              have := dadd_len fs (madd p.1 q2.1) (coef fs (madd p.1 q2.1) + p.2 * q2.2)
              refine ⟨dadd_nd hnd2 _ _, dadd_nz hnz2 _ _, by omega, fun m => ?_⟩
              rw [dadd_co hnd2, take_snoc hq2, List.map_append, coef_append]
              show _ = _ + (_ + ((if madd p.1 q2.1 = m then p.2 * q2.2 else 0) + 0))
              by_cases e : m = madd p.1 q2.1
              · subst e
                rw [if_pos rfl, if_pos rfl, hco2]; omega
              · rw [if_neg e, if_neg (fun z => e z.symm), hco2]; omega
            have sD : ∀ u, Same (upd (upd H d1 (.frz od (.dT (k1.map ent)))) d2 (.frz od2 (.dT (k2.map ent)))) (upd (upd H4 D (.dT ((dput fs (madd p.1 q2.1) (coef fs (madd p.1 q2.1) + p.2 * q2.2)).map ent))) D u) := fun u a o e => by
              have n : a ≠ D := fun z => by rw [z, hGD] at e; cases e
              rw [upd_ne n, upd_ne n]; exact sG _ _ e
            have nqa2 : qa ≠ D := fun z => by rw [z, hDf] at hqa2; cases hqa2
            have keepqa : ∀ u, (upd (upd H4 D (.dT ((dput fs (madd p.1 q2.1) (coef fs (madd p.1 q2.1) + p.2 * q2.2)).map ent))) D u) qa = some (.tup (mtup p.1)) := fun u => by
              rw [upd_ne nqa2, upd_ne nqa2]; exact s4 _ _ hqa2
            refine ⟨_, rfl, _, rfl, D, .int (coef fs (madd p.1 q2.1) + p.2 * q2.2), rfl, g4, rfl, _, rfl, ite2 (fun c => ?_) (fun c => ?_)⟩
            · have c0 : coef fs (madd p.1 q2.1) + p.2 * q2.2 = 0 := by
                have := of_decide_eq_true c
                injection this
              refine ⟨_, rfl, .inr (.inr (.inl ⟨rfl, .inr ⟨_, upd_same⟩⟩)), _, rfl, D, _, mkey (madd p.1 q2.1), T, .int (coef fs (madd p.1 q2.1) + p.2 * q2.2), rfl, rfl, upd_same, hq4, ?_, ?_⟩
              · rw [valV_ent nd4, if_pos (has_dput hnd2 _ _), coef_dput hnd2, if_pos rfl]
              · refine ⟨dadd fs (madd p.1 q2.1) (coef fs (madd p.1 q2.1) + p.2 * q2.2), _, _, _, rfl, sD _, keepqa _, ?_, fin _ rfl⟩
                rw [upd_same, dropK_ent]
                unfold dadd
                rw [if_pos c0]
            · have c0 : ¬ coef fs (madd p.1 q2.1) + p.2 * q2.2 = 0 := fun z => c (by rw [z]; exact decide_eq_true rfl)
              refine ⟨dadd fs (madd p.1 q2.1) (coef fs (madd p.1 q2.1) + p.2 * q2.2), _, _, _, rfl, ?_, ?_, ?_, fin _ rfl⟩
              · have := sD (.dT ((dput fs (madd p.1 q2.1) (coef fs (madd p.1 q2.1) + p.2 * q2.2)).map ent))
                rw [upd_upd] at this
                exact this
              · have := keepqa (.dT ((dput fs (madd p.1 q2.1) (coef fs (madd p.1 q2.1) + p.2 * q2.2)).map ent))
                rw [upd_upd] at this
                exact this
              · rw [upd_same]
                unfold dadd
                rw [if_neg c0]
      · rintro σ H2 ⟨fs, u4, u5, u6, rfl, s2, hqa2, hDf, hnd2, hnz2, hlen2, hco2⟩
        rw [List.length_map] at hlen2 hco2
        refine ⟨s2 _ _ upd_same, ?_⟩
        refine ⟨fs, _, u4, u5, u6, rfl, unlock_same hF2 s2, by rw [upd_ne nD2]; exact hDf, hnd2, hnz2, by rw [Nat.add_mul, Nat.one_mul]; exact hlen2, fun m => ?_⟩
        rw [hco2, List.take_length, take_snoc hp]
        unfold raw
        rw [List.flatMap_append, coef_append]
        congr 1
        simp
    · rintro σ H1 ⟨es, u3, u4, u5, u6, rfl, s1, hDe, hnd, hnz, hlen, hco⟩
      rw [List.length_map, List.take_length] at hco
      refine ⟨s1 _ _ upd_same, ?_⟩
      refine ⟨_, rfl, q D _ hD (unlock_same h1 s1) ⟨D, es, rfl, by rw [upd_ne nD1]; exact hDe, hnd, hnz, fun m => ?_, canon_pmul p1.ca p2.ca⟩⟩
      rw [hco, coef_pmul]
      exact raw_perm p1.perm p2.perm m
/-! ### _law_power, _law_terms -/
theorem new_of {H H' : Hp} {d : Addr} (s : Same H H') (h : H' d = none) : H d = none := by
  cases e : H d with
  | none => rfl
  | some o => rw [s _ _ e] at h; cases h
theorem PolyD.mono {H H' : Hp} {v : V} {t : Poly} (h : PolyD H v t) (s : Same H H') : PolyD H' v t := by
  obtain ⟨d, k, e, h1, h2⟩ := h
  exact ⟨d, k, e, s _ _ h1, h2⟩
theorem PolyD.ne {H : Hp} {v : V} {t : Poly} {d : Addr} (h : PolyD H v t) (n : H d = none) : V.ref d ≠ v := by
  obtain ⟨a, k, rfl, h1, _⟩ := h
  intro z
  injection z with z
  rw [z, h1] at n; cases n
theorem PolyD.ca {H : Hp} {v : V} {t : Poly} (h : PolyD H v t) : Canon t := by
  obtain ⟨d, k, e, h1, h2⟩ := h
  exact h2.ca
abbrev lPow : Stmt := top 47
def spLPow : Sp := fun vs H Q _ => ∃ (x : V) (n : Nat) (t : Poly) (b : Nat), vs = [x, .int n] ∧ PolyD H x t ∧ n ≤ 1000 ∧ (∀ j, j ≤ n → (lpow t j).length ≤ 900) ∧ t.length ≤ 900 ∧ Fits b t ∧ b * n + b + 1 ≤ 400000 ∧ NewD H Q (lpow t n)
theorem sclPow : FnScope ["_law_one", "_law_many", "_law_found", "_law_turn"] ["_law_one", "_law_many"] (defScope lPow) := ⟨rfl, rfl, rfl, by decide +kernel, rfl, by decide +kernel, by decide +kernel⟩
theorem ok_lpow (h : Has K mg "_law_power" lPow ["_law_one", "_law_many"]) (CC : Can P w K mg base CX0 1 "_law_constant" ["_law_number"] spLConst) (CT : Can P w K mg base CX0 1 "_law_times" ["_law_one", "_law_other"] spLTimes) (mR : mg "range" = none) :
    Can P w K mg base CX0 2 "_law_power" ["_law_one", "_law_many"] spLPow := by
  obtain ⟨f, fd, g, F, b⟩ := h.ex
  refine ⟨f, fd, g, F.kp, b, F.ok sclPow (fun vs H Q E h => ?_) (fun cdv A outer s H vs Q E hr h => ?_)⟩
  · obtain ⟨x, n, t, b, rfl, _⟩ := h
    rfl
  · obtain ⟨x, n, t, b, rfl, hx, hn, hlens, hl, hf, hb, q⟩ := h
    refine ⟨_, pss_cons (ps_set (i := 2) sclPow.nd rfl (Or.inl rfl) (pe_can CC hr pass0 (pa_cons pe_int pa_nil)))
      (pss_cons (ps_for PassesOwn.never rfl (pi_range1 (by rfl) mR (pa_cons (pv 1) pa_nil)) (pg_name (i := 3) sclPow.nd rfl (Or.inl rfl))
        (pss_one (ps_set (i := 2) sclPow.nd rfl (Or.inl rfl) (pe_can CT hr pass0 (pa_cons (pv 2) (pa_cons (pv 0) pa_nil))))))
      (pss_one (ps_ret (pv 2)))), ?_⟩
    refine ⟨1, rfl, fun d0 H0 n0 s0 hd0 => ?_⟩
    refine ⟨_, rfl, n, rfl, by omega, by omega, ?_⟩
    refine for_range (lo := 0) (n := n) (fun i σ H' => ∃ (d : Addr) (u3 : Option V), σ = [some x, some (.int n), some (.ref d), u3] ∧ Same H H' ∧ H d = none ∧ PolyD H' (.ref d) (lpow t i)) ⟨d0, none, rfl, s0, n0, hd0⟩ ?_ ?_
    · rintro i σ H' hi ⟨d, u3, rfl, s1, nd, hd⟩
      refine ⟨_, rfl, _, rfl, .ref d, x, lpow t i, t, rfl, hx.ne nd, hd, hx.mono s1, hlens i (by omega), hl, (hf.pow i).mono ?_, hf.mono (by omega), fun d2 H2 n2 s2 hd2 => ?_⟩
      · have := Nat.mul_le_mul_left b (show i ≤ n by omega)
        omega
      · exact ⟨d2, _, rfl, s1.trans s2, new_of s1 n2, hd2⟩
    · rintro σ H' ⟨d, u3, rfl, s1, nd, hd⟩
      exact ⟨_, rfl, q d H' nd s1 hd⟩
abbrev lTerms : Stmt := top 48
def spLTerms (K : PySem.W.Frag) : Sp := fun vs H Q _ => ∃ (x : V) (t : Poly), vs = [x] ∧ PolyD H x t ∧ t.length ≤ 100000 ∧ ∀ (a : Addr) (H' : Hp), Same H H' → TermsAt K H' a t → Q (.ref a) H'
theorem sclTerms : FnScope ["_law_one", "_law_powers"] ["_law_one"] (defScope lTerms) := ⟨rfl, rfl, rfl, by decide +kernel, rfl, by decide +kernel, by decide +kernel⟩
theorem ok_lterms (h : Has K mg "_law_terms" lTerms ["_law_one"]) (mT : mg "tuple" = none) (mS : mg "sorted" = none) : Can P w K mg base CX0 1 "_law_terms" ["_law_one"] (spLTerms K) := by
  obtain ⟨f, fd, g, F, b⟩ := h.ex
  refine ⟨f, fd, g, F.kp, b, F.ok sclTerms (fun vs H Q E h => ?_) (fun cdv A outer s H vs Q E hr h => ?_)⟩
  · obtain ⟨x, t, rfl, _⟩ := h
    rfl
  · obtain ⟨x, t, rfl, ⟨d, kvs, rfl, hd, hp⟩, hl, q⟩ := h
    have hu := hu_of hr
    have len := hp.len
    refine ⟨_, pss_one (ps_ret (pe_callTy call_tuple_of (by rfl) mT (by decide +kernel) (pa_cons
      (pe_lc (own := [("_law_powers", 1)]) (g := gName 1) (tt := tYes) (te := tTup (tCons (tVar 1) (tCons (tDGet (tVar 0) (tVar 1)) tNil))) (by rfl) sclTerms.nd (pi_list (pe_callB (cr_sortedM (by rfl) hr) (by rfl) mS (by decide +kernel) (pa_cons (pv 0) pa_nil)))
        (blkOk_by (own := [("_law_powers", 1)]) (N := ["_law_one", "_law_powers"]) (sc := defScope lTerms) (by decide +kernel)) (fun _ _ _ _ _ => pg_name (i := 1) sclTerms.nd rfl (Or.inl rfl)) (fun _ _ _ _ _ => pts_nil)
        (fun _ _ _ _ _ => by exact (pe_tup (pa_cons (pv 1) (pa_cons (pe_dget hu (pv 0) (pv 1) (fun _ _ => rfl)) pa_nil))))) pa_nil))), ?_⟩
    refine ⟨_, rfl, d, kvs, rfl, .inl hd, fun p bs np hperm hsrt hkeys => ?_⟩
    have s1 : Same H (upd H p (.lst (bs.map fun b => .ref b.1))) := same_new np _
    have lbs : bs.length = kvs.length := by
      have := hperm.length_eq
      rw [List.length_map, List.length_map] at this
      exact this
    refine ⟨p, rfl, ⟨_, SqL.of upd_same⟩, fun D hD => ?_⟩
    refine lc_list (K := K) (a := p) (xs := bs.map fun b => V.ref b.1) (fun i H' => Same (upd H p (.lst (bs.map fun b => .ref b.1))) H' ∧ ∃ acc : List V, H' D = some (.lst acc) ∧ acc.length ≤ i ∧ Paired (TermAt K H') acc (((bs.take i).map (·.2)).map fun m => (m, coef kvs m)))
      ⟨same_new hD _, [], upd_same, Nat.zero_le _, .nil⟩ (fun i H' _ hI => SqL.of (hI.1 _ _ upd_same)) ?_ ?_
    · rintro i x H' hi ⟨s2, acc, hDa, hla, hpair⟩
      obtain ⟨b, hb, rfl⟩ : ∃ b, bs[i]? = some b ∧ x = V.ref b.1 := by
        rw [List.getElem?_map] at hi
        cases e : bs[i]? with
        | none => rw [e] at hi; cases hi
        | some b => rw [e] at hi; exact ⟨b, rfl, (Option.some.inj hi).symm⟩
      have hbm : b ∈ bs := List.mem_of_getElem? hb
      have hil : i < bs.length := (List.getElem?_eq_some_iff.mp hb).1
      have sH : Same H H' := s1.trans s2
      have hbH' : H' b.1 = some (.tup (mtup b.2)) := sH _ _ (hkeys b hbm)
      have hm : hasK kvs b.2 = true := hasK_iff.mpr (hperm.mem_iff.mp (List.mem_map_of_mem hbm))
      have gd := get_ent (m := b.2) (.inl (sH _ _ hd)) hbH' hp.nd
      rw [if_pos hm] at gd
      refine ⟨rfl, _, rfl, _, rfl, _, rfl, d, _, rfl, gd, (by decide : 2 ≤ sizeLine), fun z hz => ⟨acc, ?_, lt_line (by omega), ?_⟩⟩
      · rw [upd_ne (ne_of_none hDa hz)]; exact hDa
      · have nqD : z ≠ D := fun e => by rw [e, hDa] at hz; cases hz
        have hDq : upd H' z (.tup [.ref b.1, .int (coef kvs b.2)]) D = some (.lst acc) := by rw [upd_ne (Ne.symm nqD)]; exact hDa
        refine ⟨fun a o e => ?_, acc ++ [.ref z], upd_same, by rw [List.length_append]; simp; omega, ?_⟩
        · rw [upd_ne (ne_of_none e hD)]
          exact (same_new hz _) _ _ (s2 _ _ e)
        · rw [take_snoc hb, List.map_append, List.map_append]
          refine Paired.snoc (Paired.mapP hpair fun v p h => (TermAt.mono h (same_new hz _)).upd hDq trivial) ?_
          exact TermAt.upd (p := (b.2, coef kvs b.2)) ⟨z, b.1, rfl, upd_same, SqT.of ((same_new hz _) _ _ hbH')⟩ hDq trivial
    · rintro H' ⟨s2, acc, hDa, hla, hpair⟩
      rw [List.length_map, List.take_length] at hpair
      have fin : ((bs.map (·.2)).map fun m => (m, coef kvs m)) = t := hp.terms hperm (List.pairwise_map.mpr hsrt)
      rw [fin] at hpair
      refine ⟨D, acc, rfl, .inl ⟨SqL.of hDa, fun l hl => ?_⟩⟩
      have s3 : Same H' (upd H' l (.tup acc)) := same_new hl _
      exact q l _ (s1.trans (s2.trans s3)) ⟨acc, upd_same, Paired.mapP hpair fun v p h => TermAt.mono h s3⟩
end
end K46

/-! # The law's hand -/
namespace K46
open PySem PySem.Spec PyProof.Rows L2
open SX (S)
abbrev handK (g s : Addr) (sum turn : Int) : List (L2.Key × V) := [(.inr "great", .ref g), (.inr "small", .ref s), (.inr "sum", .int sum), (.inr "turn", .int turn)]
/-- a hand: its dict at d, its great numbers at g -/
structure Hand (H : Hp) (d g : Addr) : Prop where
  ex : ∃ (s : Addr) (gs ss : List Int) (sum turn : Int), H d = some (.dK (handK g s sum turn)) ∧ H g = some (.lst (gs.map V.int)) ∧ H s = some (.lst (ss.map V.int)) ∧ 0 < ss.length ∧ d ≠ g ∧ s ≠ d ∧ s ≠ g ∧ gs.length ≤ 1000 ∧ ss.length ≤ 1000
/-- all but the hand stays -/
def KeepH (d g : Addr) (H H' : Hp) : Prop := ∀ a u, a ≠ d → a ≠ g → H a = some u → H' a = some u
theorem KeepH.trans {d g : Addr} {H1 H2 H3 : Hp} (h : KeepH d g H1 H2) (k : KeepH d g H2 H3) : KeepH d g H1 H3 := fun a u n m e => k a u n m (h a u n m e)
theorem KeepH.refl {d g : Addr} {H : Hp} : KeepH d g H H := fun _ _ _ _ e => e
theorem KeepH.of {d g : Addr} {H H' : Hp} (s : Same H H') : KeepH d g H H' := fun a u _ _ e => s a u e
theorem Hand.same {H H' : Hp} {d g : Addr} (h : Hand H d g) (s : Same H H') : Hand H' d g := by
  obtain ⟨a, gs, ss, sum, turn, h1, h2, h3, h4⟩ := h.ex
  exact ⟨a, gs, ss, sum, turn, s _ _ h1, s _ _ h2, s _ _ h3, h4⟩
/-- what is new is not the hand's -/
theorem Hand.new {H : Hp} {d g a : Addr} (h : Hand H d g) (n : H a = none) : a ≠ d ∧ a ≠ g := by
  obtain ⟨s, gs, ss, sum, turn, h1, h2, _⟩ := h.ex
  exact ⟨(fun z => by rw [z, h1] at n; cases n), (fun z => by rw [z, h2] at n; cases n)⟩
theorem Hand.tup {H : Hp} {d g a : Addr} {xs : List V} (h : Hand H d g) (n : H a = some (.tup xs)) : a ≠ d ∧ a ≠ g := by
  obtain ⟨s, gs, ss, sum, turn, h1, h2, _⟩ := h.ex
  exact ⟨(fun z => by rw [z, h1] at n; cases n), (fun z => by rw [z, h2] at n; cases n)⟩
theorem Hand.dT {H : Hp} {d g a : Addr} {xs : List (List L2.Key × V)} (h : Hand H d g) (n : H a = some (.dT xs)) : a ≠ d ∧ a ≠ g := by
  obtain ⟨s, gs, ss, sum, turn, h1, h2, _⟩ := h.ex
  exact ⟨(fun z => by rw [z, h1] at n; cases n), (fun z => by rw [z, h2] at n; cases n)⟩
theorem get_int {xs : List Int} {i : Nat} {v : V} (h : (xs.map V.int)[i]? = some v) : ∃ n, xs[i]? = some n ∧ v = .int n := by
  rw [List.getElem?_map] at h
  cases e : xs[i]? with
  | none => rw [e] at h; cases h
  | some n => rw [e] at h; exact ⟨n, rfl, (Option.some.inj h).symm⟩
theorem merge_hand (g s : Addr) (a b : Int) : mergeK [] (handK g s a b) = handK g s a b := by rfl
section
variable {P : Program} {w : World} {K : PySem.W.Frag} {mg : Str → Option Value} {base : Heap}
abbrev lHand : Stmt := top 40
def spLHand (K : PySem.W.Frag) : Sp := fun vs H Q _ => ∃ (a : Addr) (ns : List Int), vs = [.ref a] ∧ SqL K H a (ns.map V.int) ∧ ns.length ≤ 63 ∧ ∀ (d g : Addr) (H' : Hp), Same H H' → Hand H' d g → H d = none → H g = none → Q (.ref d) H'
theorem sclHand : FnScope ["_law_script", "_law_cells", "_law_cell", "_law_small", "_law_great_here"] ["_law_script"] (defScope lHand) := ⟨rfl, rfl, rfl, by decide +kernel, rfl, by decide +kernel, by decide +kernel⟩
abbrev rAbs : List V → Hp → VK → Prop := fun xs H Q => ∃ i, xs = [V.int i] ∧ Q (.int (if i < 0 then -i else i)) H
abbrev rInt1 : List V → Hp → VK → Prop := fun xs H Q => (∃ i, xs = [V.int i] ∧ Q (.int i) H) ∨ ∃ k, xs = [V.bl k] ∧ Q (.int (if k then 1 else 0)) H
abbrev rMod1 : R2 := rI (fun _ j => 0 < j) fun i j => .int (i % j)
abbrev rPow1 : R2 := rI CPow fun i j => .int (i ^ j.toNat)
structure NoNm (mg : Str → Option Value) : Prop where
  abs : mg "abs" = none
  int : mg "int" = none
  len : mg "len" = none
  sum : mg "sum" = none
theorem ok_lhand (h : Has K mg "_law_hand" lHand ["_law_script"]) (nn : NoNm mg) : Can P w K mg base CX0 1 "_law_hand" ["_law_script"] (spLHand K) := by
  obtain ⟨f, fd, g, F, b⟩ := h.ex
  refine ⟨f, fd, g, F.kp, b, F.ok sclHand (fun vs H Q E h => ?_) (fun cdv A outer s H vs Q E hr h => ?_)⟩
  · obtain ⟨a, ns, rfl, _⟩ := h
    rfl
  · obtain ⟨a, ns, rfl, ha, hl, q⟩ := h
    refine ⟨_, pss_cons (ps_setLc (i := 1) (own := [("_law_cell", 2)]) (g := gName 2) (tt := tYes) (te := tCB rAbs (tCons (tCB rInt1 (tCons (tVar 2) tNil)) tNil)) (by rfl) sclHand.nd rfl rfl (sw_true rfl rfl rfl (by decide +kernel)) (pi_list (pe_slice sl_list (pv 0) po_none (po_some pe_int)))
        (blkOk_by (own := [("_law_cell", 2)]) (N := ["_law_script", "_law_cells", "_law_cell", "_law_small", "_law_great_here"]) (sc := defScope lHand) (by decide +kernel)) (fun _ _ _ _ _ => pg_name (i := 2) sclHand.nd rfl (Or.inl rfl)) (fun _ _ _ _ _ => pts_nil)
        (fun _ _ _ _ _ => by exact (pe_callB call_abs (by rfl) nn.abs (by decide +kernel) (pa_cons (pe_callTy call_int1 (by rfl) nn.int (by decide +kernel) (pa_cons (pv 2) pa_nil)) pa_nil))))
      (pss_cons (ps_set (i := 3) sclHand.nd rfl (Or.inl rfl) (pe_op op_cat
        (pe_lc (own := [("_law_cell", 2)]) (g := gName 2) (tt := tTest (tOp (rI0 fun i j => .bl (decide (i < j))) (tVar 2) (tOp rPow1 (tC (.int 10)) (tC (.int 18))))) (te := tOp rMod1 (tCB rInt1 (tCons (tVar 2) tNil)) (tC (.int 1000000007))) (by rfl) sclHand.nd (pi_list (pv 1))
          (blkOk_by (own := [("_law_cell", 2)]) (N := ["_law_script", "_law_cells", "_law_cell", "_law_small", "_law_great_here"]) (sc := defScope lHand) (by decide +kernel)) (fun _ _ _ _ _ => pg_name (i := 2) sclHand.nd rfl (Or.inl rfl))
          (fun _ _ _ _ _ => by exact (pts_one (pt_cmpR op_lt (pv 2) (pe_op op_pow pe_int pe_int) (nomark _))))
          (fun _ _ _ _ _ => by exact (pe_op op_mod (pe_callTy call_int1 (by rfl) nn.int (by decide +kernel) (pa_cons (pv 2) pa_nil)) pe_int)))
        (pe_lst (pa_cons (pe_op op_add (pe_op op_mul pe_int (pe_callB call_len_seq (by rfl) nn.len PySem.boot_len (pa_cons (pv 1) pa_nil))) pe_int) pa_nil))))
      (pss_cons (ps_setLc (i := 4) (own := [("_law_cell", 2)]) (g := gName 2) (tt := tTest (tOp (rI0 fun i j => .bl (decide (j ≤ i))) (tVar 2) (tOp rPow1 (tC (.int 10)) (tC (.int 18))))) (te := tVar 2) (by rfl) sclHand.nd rfl rfl (sw_true rfl rfl rfl (by decide +kernel)) (pi_list (pv 1))
        (blkOk_by (own := [("_law_cell", 2)]) (N := ["_law_script", "_law_cells", "_law_cell", "_law_small", "_law_great_here"]) (sc := defScope lHand) (by decide +kernel)) (fun _ _ _ _ _ => pg_name (i := 2) sclHand.nd rfl (Or.inl rfl))
        (fun _ _ _ _ _ => by exact (pts_one (pt_cmpR op_ge (pv 2) (pe_op op_pow pe_int pe_int) (nomark _)))) (fun _ _ _ _ _ => pv 2))
      (pss_one (ps_ret (pe_disp (pps_cons pe_str (pv 4) (pps_cons pe_str (pv 3) (pps_cons pe_str (pe_op op_mod (pe_callTy call_int1 (by rfl) nn.int (by decide +kernel) (pa_cons (pe_callB (cr_sum (by rfl)) (by rfl) nn.sum (by decide +kernel) (pa_cons (pv 3) pa_nil)) pa_nil)) pe_int) (pps_cons pe_str pe_int pps_nil)))) (by rfl) (by rfl) (fun z => by cases z) (by decide)))))), ?_⟩
    refine ⟨_, rfl, 63, rfl, a, _, rfl, ha, fun p0 hp0 => ?_⟩
    have cutl : (cutV (ns.map V.int) none (some 63)) = (ns.map V.int) := by
      unfold cutV
      rw [HT.sIx_none, show ((63 : Int)) = ((63 : Nat) : Int) from rfl, HT.sIx_nat]
      rw [List.drop_zero, Nat.sub_zero]
      exact List.take_of_length_le (by rw [List.length_map]; omega)
    rw [cutl]
    have s0 := same_new hp0 (.lst (ns.map V.int))
    refine ⟨p0, rfl, ⟨_, SqL.of upd_same⟩, fun D1 hD1 => ?_⟩
    refine lc_list (xs := ns.map V.int) (fun i H' => Same (upd H p0 (.lst (ns.map V.int))) H' ∧ ∃ acc : List Int, H' D1 = some (.lst (acc.map V.int)) ∧ acc.length ≤ i) ⟨same_new hD1 _, [], upd_same, Nat.le_refl _⟩ (fun i H' _ ⟨s1, _⟩ => SqL.of (s1 _ _ upd_same)) ?_ ?_
    · rintro i v H' hi ⟨s1, acc, hDa, hla⟩
      obtain ⟨n, hn, rfl⟩ := get_int hi
      have hil := (List.getElem?_eq_some_iff.mp hn).1
      refine ⟨rfl, _, rfl, .inl ⟨_, rfl, _, rfl, _, hDa, ?_, fun a o e => ?_, acc ++ [if n < 0 then -n else n], ?_, ?_⟩⟩
      · rw [List.length_map]; exact lt_line (by omega)
      · rw [upd_ne (ne_of_none e hD1)]; exact s1 _ _ e
      · rw [upd_same, List.map_append]; rfl
      · rw [List.length_append]; simp; omega
    rintro H1 ⟨s1, cells, hC, hlc⟩
    rw [List.length_map] at hlc
    have t1 := s0.trans s1
    refine ⟨_, rfl, D1, rfl, ⟨_, SqL.of hC⟩, fun D2 hD2 => ?_⟩
    refine lc_list (xs := cells.map V.int) (fun i H' => Same H1 H' ∧ ∃ acc : List Int, H' D2 = some (.lst (acc.map V.int)) ∧ acc.length ≤ i) ⟨same_new hD2 _, [], upd_same, Nat.le_refl _⟩ (fun i H' _ ⟨s2, _⟩ => SqL.of (s2 _ _ hC)) ?_ ?_
    · rintro i v H' hi ⟨s2, acc, hDa, hla⟩
      obtain ⟨n, hn, rfl⟩ := get_int hi
      have hil := (List.getElem?_eq_some_iff.mp hn).1
      refine ⟨rfl, _, rfl, _, _, rfl, rfl, ⟨by decide, by decide, by decide⟩, _, _, rfl, rfl, _, rfl, ite2 (fun c => ?_) (fun c => ?_)⟩
      · refine ⟨_, rfl, .inl ⟨_, rfl, _, _, rfl, rfl, (by show (0 : Int) < 1000000007; decide), _, hDa, ?_, fun a o e => ?_, acc ++ [n % 1000000007], ?_, ?_⟩⟩
        · rw [List.length_map]; exact lt_line (by omega)
        · rw [upd_ne (ne_of_none e hD2)]; exact s2 _ _ e
        · rw [upd_same, List.map_append]; rfl
        · rw [List.length_append]; simp; omega
      · exact ⟨s2, acc, hDa, by omega⟩
    rintro H2 ⟨s2, sm, hS, hls⟩
    rw [List.length_map] at hls
    have t2 := t1.trans s2
    refine ⟨_, rfl, D1, _, rfl, .inl (SqL.of (s2 _ _ hC)), _, _, rfl, rfl, .inl ⟨by decide, by decide⟩, _, _, rfl, rfl, (by decide : 1 ≤ sizeLine), fun Z hZ => ?_⟩
    have s3 := same_new hZ (.lst [.int (37 * ((cells.map V.int).length : Int) + 11)])
    refine ⟨D2, Z, _, _, rfl, rfl, s3 _ _ hS, upd_same, ?_, fun p3 hp3 => ?_⟩
    · rw [List.length_map]; exact le_line (by show sm.length + 1 ≤ _; omega)
    have s4 := s3.trans (same_new hp3 (.lst (sm.map V.int ++ [.int (37 * ((cells.map V.int).length : Int) + 11)])))
    have hp4 : (upd (upd H2 Z (.lst [.int (37 * ((cells.map V.int).length : Int) + 11)])) p3 (.lst (sm.map V.int ++ [.int (37 * ((cells.map V.int).length : Int) + 11)]))) p3 = some (.lst ((sm ++ [37 * ((cells.map V.int).length : Int) + 11]).map V.int)) := by
      rw [upd_same, List.map_append]; rfl
    have hC4 := s4 _ _ (s2 _ _ hC)
    have t4 := t2.trans s4
    generalize (upd (upd H2 Z (.lst [.int (37 * ((cells.map V.int).length : Int) + 11)])) p3 (.lst (sm.map V.int ++ [.int (37 * ((cells.map V.int).length : Int) + 11)]))) = H4 at *
    generalize hss : sm ++ [37 * ((cells.map V.int).length : Int) + 11] = ss at *
    have lss : 0 < ss.length ∧ ss.length ≤ 1000 := by rw [← hss, List.length_append]; simp; omega
    refine ⟨_, rfl, D1, rfl, ⟨_, SqL.of hC4⟩, fun D5 hD5 => ?_⟩
    refine lc_list (xs := cells.map V.int) (fun i H' => Same H4 H' ∧ ∃ acc : List Int, H' D5 = some (.lst (acc.map V.int)) ∧ acc.length ≤ i) ⟨same_new hD5 _, [], upd_same, Nat.le_refl _⟩ (fun i H' _ ⟨s2, _⟩ => SqL.of (s2 _ _ hC4)) ?_ ?_
    · rintro i v H' hi ⟨s5, acc, hDa, hla⟩
      obtain ⟨n, hn, rfl⟩ := get_int hi
      have hil := (List.getElem?_eq_some_iff.mp hn).1
      refine ⟨rfl, _, rfl, _, _, rfl, rfl, ⟨by decide, by decide, by decide⟩, _, _, rfl, rfl, _, rfl, ite2 (fun c => ?_) (fun c => ?_)⟩
      · refine ⟨_, rfl, _, hDa, ?_, fun a o e => ?_, acc ++ [n], ?_, ?_⟩
        · rw [List.length_map]; exact lt_line (by omega)
        · rw [upd_ne (ne_of_none e hD5)]; exact s5 _ _ e
        · rw [upd_same, List.map_append]; rfl
        · rw [List.length_append]; simp; omega
      · exact ⟨s5, acc, hDa, by omega⟩
    rintro H5 ⟨s5, gr, hG, hlg⟩
    rw [List.length_map] at hlg
    have t5 := t4.trans s5
    have hp5 := s5 _ _ hp4
    intro d hd
    have s6 := same_new hd (.dK [])
    refine ⟨_, rfl, _, rfl, _, rfl, p3, ss, rfl, SqL.of (s6 _ _ hp5), .inl ⟨_, rfl, _, _, rfl, rfl, (by show (0 : Int) < 999979; decide), ?_⟩⟩
    refine ⟨upd_same, handK D5 p3 (ss.sum % 999979) 0, rfl, (by show 4 ≤ 15; decide), ?_⟩
    rw [upd_upd, merge_hand]
    have nD5 : D5 ≠ d := fun z => by rw [z, hd] at hG; cases hG
    have np3 : p3 ≠ d := fun z => by rw [z, hd] at hp5; cases hp5
    have np35 : p3 ≠ D5 := fun z => by rw [z, hD5] at hp4; cases hp4
    exact q d D5 _ (t5.trans (same_new hd _)) ⟨p3, gr, ss, _, _, upd_same, by rw [upd_ne nD5]; exact hG, by rw [upd_ne np3]; exact hp5, lss.1, Ne.symm nD5, np3, np35, by omega, lss.2⟩ (new_of t5 hd) (new_of t4 hD5)
/-! ### _law_draw, _law_any -/
abbrev lDraw : Stmt := top 41
def spDraw : Sp := fun vs H Q _ => ∃ (d g : Addr) (m : Nat), vs = [.ref d, .int m] ∧ 0 < m ∧ m ≤ 1000 ∧ Hand H d g ∧ ∀ (r : Nat) (H' : Hp), r < m → KeepH d g H H' → Hand H' d g → Q (.int r) H'
theorem sclDraw : FnScope ["_law_hand_here", "_law_many", "_law_number", "_law_turn", "_law_seed"] ["_law_hand_here", "_law_many"] (defScope lDraw) := ⟨rfl, rfl, rfl, by decide +kernel, rfl, by decide +kernel, by decide +kernel⟩
theorem fmod_nat (x : Int) {m : Nat} (h : 0 < m) : ∃ r : Nat, r < m ∧ Int.fmod x (m : Int) = (r : Int) := by
  have e : Int.fmod x (m : Int) = x % (m : Int) := Int.fmod_eq_emod_of_nonneg x (by omega)
  have h1 := Int.emod_nonneg x (show (m : Int) ≠ 0 by omega)
  have h2 := Int.emod_lt_of_pos x (show (0 : Int) < (m : Int) by omega)
  exact ⟨(x % (m : Int)).toNat, by omega, by rw [e]; omega⟩
theorem hand_great {g s : Addr} {a b : Int} : valV (handK g s a b) (.inr "great") = some (.ref g) := by rfl
theorem hand_small {g s : Addr} {a b : Int} : valV (handK g s a b) (.inr "small") = some (.ref s) := by rfl
theorem hand_sum {g s : Addr} {a b : Int} : valV (handK g s a b) (.inr "sum") = some (.int a) := by rfl
theorem hand_turn {g s : Addr} {a b : Int} : valV (handK g s a b) (.inr "turn") = some (.int b) := by rfl
theorem hand_put {g s : Addr} {a b c : Int} : putK (handK g s a b) (.inr "turn") (.int c) = handK g s a c := by rfl
theorem seq0 (x : Int) (gs : List Int) : seqIndex? 0 ((x :: gs).map V.int).length = some 0 := by
  unfold seqIndex?
  simp
theorem ix0 (x : Int) (gs : List Int) : ixN ((x :: gs).map V.int).length 0 = some 0 := by
  unfold ixN
  simp
theorem ok_draw (h : Has K mg "_law_draw" lDraw ["_law_hand_here", "_law_many"]) (nL : mg "len" = none) (nI : mg "int" = none) : Can P w K mg base CX0 1 "_law_draw" ["_law_hand_here", "_law_many"] spDraw := by
  obtain ⟨f, fd, g, F, b⟩ := h.ex
  refine ⟨f, fd, g, F.kp, b, F.ok sclDraw (fun vs H Q E h => ?_) (fun cdv A outer s H vs Q E hr h => ?_)⟩
  · obtain ⟨d, g, m, rfl, _⟩ := h
    rfl
  · obtain ⟨d, g, m, rfl, hm, hm2, ⟨s, gs, ss, sum, turn, hd, hg, hs, hss, ndg, nsd, nsg, lgs, lss⟩, q⟩ := h
    have hu := hu_of hr
    refine ⟨_, pss_cons (ps_if (pt_cmpR op_gt (pe_callB call_len_seq (by rfl) nL PySem.boot_len (pa_cons (pe_dget hu (pv 0) pe_str (fun _ _ => rfl)) pa_nil)) pe_int (nomark _))
        (pss_cons (ps_set (i := 2) sclDraw.nd rfl (Or.inl rfl) (pe_ix ix_list (pe_dget hu (pv 0) pe_str (fun _ _ => rfl)) pe_int (fun _ _ => rfl)))
        (pss_cons (ps_asg (pe_op op_fdivN (pv 2) (pv 1)) (pg_sub (pe_dget hu (pv 0) pe_str (fun _ _ => rfl)) pe_int set_list))
        (pss_cons (ps_if (pt_cmpR op_lt (pv 2) (pv 1) (nomark _)) (pss_one (ps_expr (pe_bm PySem.F.plainAttrs_list PySem.F.slot_list_pop PySem.F.type_list_pop mt_popAt (pe_dget hu (pv 0) pe_str (fun _ _ => rfl)) (pa_cons pe_int pa_nil)))) pss_nil)
        (pss_one (ps_ret (pe_op op_modN (pe_callTy call_int1 (by rfl) nI (by decide +kernel) (pa_cons (pv 2) pa_nil)) (pv 1))))))) pss_nil)
      (pss_cons (ps_set (i := 3) sclDraw.nd rfl (Or.inl rfl) (pe_op op_add (pe_dget hu (pv 0) pe_str (fun _ _ => rfl)) pe_int))
      (pss_cons (ps_dput hu (pv 0) pe_str (pv 3) rfl)
      (pss_cons (ps_set (i := 4) sclDraw.nd rfl (Or.inl rfl) (pe_op op_add (pe_ix ix_list (pe_dget hu (pv 0) pe_str (fun _ _ => rfl)) (pe_op op_modN (pe_callTy call_int1 (by rfl) nI (by decide +kernel) (pa_cons (pv 3) pa_nil)) (pe_callB call_len_seq (by rfl) nL PySem.boot_len (pa_cons (pe_dget hu (pv 0) pe_str (fun _ _ => rfl)) pa_nil))) (fun _ _ => rfl))
        (pe_op op_mul pe_int (pe_dget hu (pv 0) pe_str (fun _ _ => rfl)))))
      (pss_cons (ps_set (i := 2) sclDraw.nd rfl (Or.inl rfl) (pe_op op_mod (pe_callTy call_int1 (by rfl) nI (by decide +kernel) (pa_cons (pe_op op_mul (pe_op op_add (pe_op op_add (pv 4) (pe_op op_mul pe_int (pv 3))) pe_int) pe_int) pa_nil)) pe_int))
      (pss_cons (ps_set (i := 2) sclDraw.nd rfl (Or.inl rfl) (pe_op op_mod (pe_callTy call_int1 (by rfl) nI (by decide +kernel) (pa_cons (pe_op op_mul (pv 2) (pe_op op_add (pe_op op_fdivN (pv 2) pe_int) pe_int)) pa_nil)) pe_int))
      (pss_cons (ps_set (i := 2) sclDraw.nd rfl (Or.inl rfl) (pe_op op_mod (pe_callTy call_int1 (by rfl) nI (by decide +kernel) (pa_cons (pe_op op_add (pe_op op_mul (pv 2) (pe_op op_add (pe_op op_fdivN (pv 2) pe_int) pe_int)) (pv 3)) pa_nil)) pe_int))
      (pss_one (ps_ret (pe_op op_modN (pe_callTy call_int1 (by rfl) nI (by decide +kernel) (pa_cons (pe_op op_fdivN (pv 2) pe_int) pa_nil)) (pv 1)))))))))), ?_⟩
    have dg := hand_great (g := g) (s := s) (a := sum) (b := turn)
    have Gg : DGet H d (.str "great") (some (.ref g)) := by rw [← dg]; exact DGet.k (k := .inr "great") hd
    refine ⟨_, rfl, d, _, rfl, Gg, g, _, rfl, .inl (SqL.of hg), _, _, rfl, rfl, _, rfl, ite2 (fun c => ?_) (fun c => ?_)⟩
    · cases gs with
      | nil => exact absurd c (by decide)
      | cons n gs =>
        have Hd1 : ∀ o : HO, (upd H g o) d = some (.dK (handK g s sum turn)) := fun o => by rw [upd_ne ndg]; exact hd
        have Gg1 : ∀ o : HO, DGet (upd H g o) d (.str "great") (some (.ref g)) := fun o => by rw [← dg]; exact DGet.k (k := .inr "great") (Hd1 o)
        have hm0 : CDivN n (m : Int) := ⟨by omega, by omega⟩
        refine ⟨_, rfl, d, _, rfl, Gg, g, _, _, .int n, rfl, rfl, SqL.of hg, atI_nat (j := 0) rfl, ?_⟩
        refine ⟨_, rfl, _, rfl, _, _, rfl, rfl, hm0, _, rfl, d, _, rfl, Gg, g, _, 0, 0, rfl, rfl, hg, ix0 _ _, ?_⟩
        have e0 : (((n :: gs).map V.int).set 0 (.int (n.fdiv (m : Int)))) = ((n.fdiv (m : Int)) :: gs).map V.int := rfl
        rw [e0]
        obtain ⟨r, hr1, hr2⟩ := fmod_nat n hm
        have kp : ∀ o : HO, KeepH d g H (upd H g o) := fun o a u n1 n2 e => by rw [upd_ne n2]; exact e
        refine ⟨_, rfl, _, rfl, _, _, rfl, rfl, _, rfl, ite2 (fun c2 => ?_) (fun c2 => ?_)⟩
        · refine ⟨_, rfl, d, _, rfl, Gg1 _, .inl ⟨rfl, _, SqL.of upd_same⟩, g, _, 0, 0, .int (n.fdiv (m : Int)), rfl, rfl, upd_same, by decide, by decide, seq0 _ _, rfl, ?_⟩
          rw [upd_upd]
          refine ⟨_, rfl, .inl ⟨_, rfl, _, rfl, _, _, rfl, rfl, (by show (m : Int) ≠ 0; omega), ?_⟩⟩
          have fin := q r (upd H g (.lst (gs.map V.int))) hr1 (kp _) ⟨s, gs, ss, sum, turn, Hd1 _, upd_same, by rw [upd_ne nsg]; exact hs, hss, ndg, nsd, nsg, (by have : (n :: gs).length = gs.length + 1 := rfl; omega), lss⟩
          rw [← hr2] at fin
          exact fin
        · refine ⟨_, rfl, .inl ⟨_, rfl, _, rfl, _, _, rfl, rfl, (by show (m : Int) ≠ 0; omega), ?_⟩⟩
          have fin := q r (upd H g (.lst ((n.fdiv (m : Int) :: gs).map V.int))) hr1 (kp _) ⟨s, n.fdiv (m : Int) :: gs, ss, sum, turn, Hd1 _, upd_same, by rw [upd_ne nsg]; exact hs, hss, ndg, nsd, nsg, lgs, lss⟩
          rw [← hr2] at fin
          exact fin
    · have dt := hand_turn (g := g) (s := s) (a := sum) (b := turn)
      have Gt : DGet H d (.str "turn") (some (.int turn)) := by rw [← dt]; exact DGet.k (k := .inr "turn") hd
      have Pt : DPut H d (.str "turn") (.int (turn + 1)) (upd H d (.dK (handK g s sum (turn + 1)))) := by
        rw [← hand_put (b := turn)]
        exact DPut.k (k := .inr "turn") hd (by show 4 < sizeLine; decide)
      refine ⟨_, rfl, d, _, rfl, Gt, _, _, rfl, rfl, ?_⟩
      refine ⟨_, rfl, _, rfl, d, _, rfl, Pt, ?_⟩
      have hd2 : (upd H d (.dK (handK g s sum (turn + 1)))) d = some (.dK (handK g s sum (turn + 1))) := upd_same
      have hs2 : (upd H d (.dK (handK g s sum (turn + 1)))) s = some (.lst (ss.map V.int)) := by rw [upd_ne nsd]; exact hs
      have hg2 : (upd H d (.dK (handK g s sum (turn + 1)))) g = some (.lst (gs.map V.int)) := by rw [upd_ne (Ne.symm ndg)]; exact hg
      have k2 : KeepH d g H (upd H d (.dK (handK g s sum (turn + 1)))) := fun a u n1 n2 e => by rw [upd_ne n1]; exact e
      generalize (upd H d (.dK (handK g s sum (turn + 1)))) = H2 at *
      have ds := hand_small (g := g) (s := s) (a := sum) (b := turn + 1)
      have Gs : DGet H2 d (.str "small") (some (.ref s)) := by rw [← ds]; exact DGet.k (k := .inr "small") hd2
      have du := hand_sum (g := g) (s := s) (a := sum) (b := turn + 1)
      have Gu : DGet H2 d (.str "sum") (some (.int sum)) := by rw [← du]; exact DGet.k (k := .inr "sum") hd2
      obtain ⟨j, hj1, hj2⟩ := fmod_nat (turn + 1) (show 0 < (ss.map V.int).length by rw [List.length_map]; exact hss)
      have hjl : j < ss.length := by rw [List.length_map] at hj1; exact hj1
      refine ⟨_, rfl, d, _, rfl, Gs, _, rfl, .inl ⟨_, rfl, _, rfl, d, _, rfl, Gs, s, _, rfl, .inl (SqL.of hs2), _, _, rfl, rfl, (by show ((ss.map V.int).length : Int) ≠ 0; omega), ?_⟩⟩
      refine ⟨s, _, (j : Int), .int ss[j], rfl, congrArg V.int hj2, SqL.of hs2, atI_nat (by rw [List.getElem?_map, List.getElem?_eq_getElem hjl]; rfl), ?_⟩
      refine ⟨_, rfl, d, _, rfl, Gu, _, _, rfl, rfl, .inl ⟨by decide, by decide⟩, _, _, rfl, rfl, ?_⟩
      refine ⟨_, rfl, _, rfl, _, _, rfl, rfl, .inl ⟨by decide, by decide⟩, _, _, rfl, rfl, _, _, rfl, rfl, _, _, rfl, rfl, .inr ⟨by decide, by decide⟩, .inl ⟨_, rfl, _, _, rfl, rfl, (by show (0 : Int) < 2147483647; decide), ?_⟩⟩
      have b1 : ∀ x y : Int, CMul (x % 2147483647) y := fun x y => .inl ⟨by have := Int.emod_nonneg x (show (2147483647 : Int) ≠ 0 by decide); omega, by have := Int.emod_lt_of_pos x (show (0 : Int) < 2147483647 by decide); omega⟩
      have b2 : ∀ x y : Int, CMul (x % 2147483629) y := fun x y => .inl ⟨by have := Int.emod_nonneg x (show (2147483629 : Int) ≠ 0 by decide); omega, by have := Int.emod_lt_of_pos x (show (0 : Int) < 2147483629 by decide); omega⟩
      have fin : ∀ x : Int, Q (.int (x.fmod (m : Int))) H2 := fun x => by
        obtain ⟨r, hr1, hr2⟩ := fmod_nat x hm
        rw [hr2]
        exact q r H2 hr1 k2 ⟨s, gs, ss, sum, turn + 1, hd2, hg2, hs2, hss, ndg, nsd, nsg, lgs, lss⟩
      refine ⟨_, rfl, _, rfl, _, _, rfl, rfl, ⟨by decide, by decide⟩, _, _, rfl, rfl, _, _, rfl, rfl, b1 _ _, .inl ⟨_, rfl, _, _, rfl, rfl, (by show (0 : Int) < 2147483629; decide), ?_⟩⟩
      refine ⟨_, rfl, _, rfl, _, _, rfl, rfl, ⟨by decide, by decide⟩, _, _, rfl, rfl, _, _, rfl, rfl, b2 _ _, _, rfl, _, _, rfl, rfl, .inl ⟨_, rfl, _, _, rfl, rfl, (by show (0 : Int) < 2147483399; decide), ?_⟩⟩
      refine ⟨_, rfl, _, _, rfl, rfl, ⟨by decide, by decide⟩, .inl ⟨_, rfl, _, rfl, _, _, rfl, rfl, (by show (m : Int) ≠ 0; omega), fin _⟩⟩
abbrev lAny : Stmt := top 42
def spAny (K : PySem.W.Frag) : Sp := fun vs H Q _ => ∃ (d g a : Addr) (xs : List V), vs = [.ref d, .ref a] ∧ a ≠ d ∧ a ≠ g ∧ H a = some (.lst xs) ∧ 0 < xs.length ∧ xs.length ≤ 1000 ∧ Hand H d g ∧ ∀ (i : Nat) (x : V) (H' : Hp), xs[i]? = some x → KeepH d g H H' → Hand H' d g → Q x H'
theorem sclAny : FnScope ["_law_hand_here", "_law_things"] ["_law_hand_here", "_law_things"] (defScope lAny) := ⟨rfl, rfl, rfl, by decide +kernel, rfl, by decide +kernel, by decide +kernel⟩
theorem ok_any (h : Has K mg "_law_any" lAny ["_law_hand_here", "_law_things"]) (CD : Can P w K mg base CX0 1 "_law_draw" ["_law_hand_here", "_law_many"] spDraw) (nL : mg "len" = none) : Can P w K mg base CX0 2 "_law_any" ["_law_hand_here", "_law_things"] (spAny K) := by
  obtain ⟨f, fd, g, F, b⟩ := h.ex
  refine ⟨f, fd, g, F.kp, b, F.ok sclAny (fun vs H Q E h => ?_) (fun cdv A outer s H vs Q E hr h => ?_)⟩
  · obtain ⟨d, g, a, xs, rfl, _⟩ := h
    rfl
  · obtain ⟨d, g, a, xs, rfl, na, ng, ha, h0, hl, hh, q⟩ := h
    refine ⟨_, pss_one (ps_ret (pe_ix ix_list (pv 1) (pe_can CD hr pass0 (pa_cons (pv 0) (pa_cons (pe_callB call_len_seq (by rfl) nL PySem.boot_len (pa_cons (pv 1) pa_nil)) pa_nil))) (fun _ _ => rfl))), ?_⟩
    refine ⟨_, rfl, _, rfl, _, rfl, a, _, rfl, .inl (SqL.of ha), d, g, xs.length, rfl, h0, hl, hh, fun r H' hr1 kp hh' => ?_⟩
    have hg := List.getElem?_eq_getElem hr1
    exact ⟨a, _, _, xs[r], rfl, rfl, SqL.of (kp _ _ na ng ha), atI_nat hg, q r _ H' hg kp hh'⟩
end
end K46

/-! # The law's trees -/
namespace K46
open PySem PySem.Spec PyProof.Rows L2
open SX (S)
def TOp.str : TOp → Str
  | .add => "+"
  | .sub => "-"
  | .und => "_"
def TreeAt (H : Hp) : T → V → Prop
  | .x k, v => ∃ a : Addr, v = .ref a ∧ H a = some (.tup [.str "x", .int k])
  | .n u, v => ∃ a : Addr, v = .ref a ∧ H a = some (.tup [.str "n", .int u])
  | .pow t e, v => ∃ (a : Addr) (u : V), v = .ref a ∧ H a = some (.tup [.str "^", u, .int e]) ∧ TreeAt H t u
  | .mul l r, v => ∃ (a : Addr) (u z : V), v = .ref a ∧ H a = some (.tup [.str "*", u, z]) ∧ TreeAt H l u ∧ TreeAt H r z
  | .bin o l r, v => ∃ (a : Addr) (u z : V), v = .ref a ∧ H a = some (.tup [.str o.str, u, z]) ∧ TreeAt H l u ∧ TreeAt H r z
theorem TreeAt.of {H H' : Hp} (hk : ∀ a xs, H a = some (.tup xs) → H' a = some (.tup xs)) : ∀ {t : T} {v : V}, TreeAt H t v → TreeAt H' t v
  | .x k, v, ⟨a, e, h⟩ => ⟨a, e, hk _ _ h⟩
  | .n u, v, ⟨a, e, h⟩ => ⟨a, e, hk _ _ h⟩
  | .pow t e, v, ⟨a, u, h1, h2, h3⟩ => ⟨a, u, h1, hk _ _ h2, h3.of hk⟩
  | .mul l r, v, ⟨a, u, z, h1, h2, h3, h4⟩ => ⟨a, u, z, h1, hk _ _ h2, h3.of hk, h4.of hk⟩
  | .bin o l r, v, ⟨a, u, z, h1, h2, h3, h4⟩ => ⟨a, u, z, h1, hk _ _ h2, h3.of hk, h4.of hk⟩
theorem TreeAt.mono {H H' : Hp} {t : T} {v : V} (h : TreeAt H t v) (s : Same H H') : TreeAt H' t v := h.of fun a xs e => s _ _ e
theorem TreeAt.keep {H H' : Hp} {t : T} {v : V} {d g : Addr} (h : TreeAt H t v) (hh : Hand H d g) (k : KeepH d g H H') : TreeAt H' t v := h.of fun a xs e => k _ _ (hh.tup e).1 (hh.tup e).2 e
section
variable {P : Program} {w : World} {K : PySem.W.Frag} {mg : Str → Option Value} {base : Heap}
abbrev lTree : Stmt := top 49
def spTree (N : Nat) : Sp := fun vs H Q _ => ∃ (d g : Addr) (many dep : Nat), vs = [.ref d, .int many, .int dep] ∧ 0 < many ∧ many ≤ 4 ∧ dep < N ∧ Hand H d g ∧ ∀ (v : V) (H' : Hp) (t : T), KeepH d g H H' → Hand H' d g → TreeAt H' t v → t.Ok dep → Q v H'
theorem sclTree : FnScope ["_law_hand_here", "_law_many", "_law_depth", "_law_kind", "_law_word"] ["_law_hand_here", "_law_many", "_law_depth"] (defScope lTree) := ⟨rfl, rfl, rfl, by decide +kernel, rfl, by decide +kernel, by decide +kernel⟩
theorem ok_tree0 (h : Has K mg "_law_tree" lTree ["_law_hand_here", "_law_many", "_law_depth"]) : Can P w K mg base CX0 3 "_law_tree" ["_law_hand_here", "_law_many", "_law_depth"] (spTree 0) := by
  obtain ⟨f, fd, g, F, b⟩ := h.ex
  refine ⟨f, fd, g, F.kp, b, F.ok (k := 2) sclTree (fun vs H Q E h => ?_) (fun cdv A outer s H vs Q E hr h => ?_)⟩
  · obtain ⟨d, g, many, dep, rfl, _⟩ := h
    rfl
  · obtain ⟨d, g, many, dep, rfl, _, _, hn, _⟩ := h
    exact absurd hn (Nat.not_lt_zero _)
theorem ok_tree {N k : Nat} (h : Has K mg "_law_tree" lTree ["_law_hand_here", "_law_many", "_law_depth"]) (CD : Can P w K mg base CX0 1 "_law_draw" ["_law_hand_here", "_law_many"] spDraw) (CA : Can P w K mg base CX0 2 "_law_any" ["_law_hand_here", "_law_things"] (spAny K))
    (CT : Can P w K mg base CX0 k "_law_tree" ["_law_hand_here", "_law_many", "_law_depth"] (spTree N)) (hk : 2 ≤ k) : Can P w K mg base CX0 (k + 1) "_law_tree" ["_law_hand_here", "_law_many", "_law_depth"] (spTree (N + 1)) := by
  obtain ⟨f, fd, g, F, b⟩ := h.ex
  refine ⟨f, fd, g, F.kp, b, F.ok sclTree (fun vs H Q E h => ?_) (fun cdv A outer s H vs Q E hr h => ?_)⟩
  · obtain ⟨d, g, many, dep, rfl, _⟩ := h
    rfl
  · obtain ⟨d, g, many, dep, rfl, hm0, hm4, hdep, hh, q⟩ := h
    refine ⟨_, C8.pss_cut (ps_set (i := 3) sclTree.nd rfl (Or.inl rfl) (pe_ifExp (pt_cmpR op_gt (pv 2) pe_int (nomark _)) (pe_can CD hr pass0 (pa_cons (pv 0) (pa_cons pe_int pa_nil)) (hk := by omega)) (pe_can CD hr pass0 (pa_cons (pv 0) (pa_cons pe_int pa_nil)) (hk := by omega))))
      (pss_cons (ps_if (pt_cmpR op_lt (pv 3) pe_int (nomark _)) (pss_one (ps_ret (pe_tup (pa_cons pe_str (pa_cons (pe_can CD hr pass0 (pa_cons (pv 0) (pa_cons (pv 1) pa_nil)) (hk := by omega)) pa_nil))))) pss_nil)
      (pss_cons (ps_if (pt_cmpR op_lt (pv 3) pe_int (nomark _)) (pss_one (ps_ret (pe_tup (pa_cons pe_str (pa_cons (pe_can CA hr pass0 (pa_cons (pv 0) (pa_cons
          (pe_lst (pa_cons pe_int (pa_cons pe_int (pa_cons pe_int (pa_cons (pe_can CD hr pass0 (pa_cons (pv 0) (pa_cons pe_int pa_nil)) (hk := by omega)) (pa_cons (pe_can CA hr pass0 (pa_cons (pv 0) (pa_cons (pe_lst (pa_cons pe_int (pa_cons (pe_op op_pow pe_int pe_int) pa_nil))) pa_nil)) (hk := by omega)) pa_nil)))))) pa_nil)) (hk := by omega)) pa_nil))))) pss_nil)
      (pss_cons (ps_if (pt_cmpR op_lt (pv 3) pe_int (nomark _)) (pss_one (ps_ret (pe_tup (pa_cons pe_str (pa_cons (pe_can CT hr pass0 (pa_cons (pv 0) (pa_cons (pv 1) (pa_cons (pe_op op_sub (pv 2) pe_int) pa_nil))) (hk := by omega)) (pa_cons (pe_can CA hr pass0 (pa_cons (pv 0) (pa_cons
          (pe_lst (pa_cons pe_int (pa_cons pe_int (pa_cons pe_int (pa_cons pe_int (pa_cons pe_int pa_nil)))))) pa_nil)) (hk := by omega)) pa_nil)))))) pss_nil)
      (pss_cons (ps_if (pt_cmpR op_lt (pv 3) pe_int (nomark _)) (pss_one (ps_ret (pe_tup (pa_cons pe_str (pa_cons (pe_can CT hr pass0 (pa_cons (pv 0) (pa_cons (pv 1) (pa_cons (pe_op op_sub (pv 2) pe_int) pa_nil))) (hk := by omega)) (pa_cons (pe_can CT hr pass0 (pa_cons (pv 0) (pa_cons (pv 1) (pa_cons (pe_op op_sub (pv 2) pe_int) pa_nil))) (hk := by omega)) pa_nil)))))) pss_nil)
      (pss_cons (ps_set (i := 4) sclTree.nd rfl (Or.inl rfl) (pe_can CA hr pass0 (pa_cons (pv 0) (pa_cons (pe_lst (pa_cons pe_str (pa_cons pe_str (pa_cons pe_str (pa_cons pe_str (pa_cons pe_str pa_nil)))))) pa_nil)) (hk := by omega)))
      (pss_one (ps_ret (pe_tup (pa_cons (pv 4) (pa_cons (pe_can CT hr pass0 (pa_cons (pv 0) (pa_cons (pv 1) (pa_cons (pe_op op_sub (pv 2) pe_int) pa_nil))) (hk := by omega)) (pa_cons (pe_can CT hr pass0 (pa_cons (pv 0) (pa_cons (pv 1) (pa_cons (pe_op op_sub (pv 2) pe_int) pa_nil))) (hk := by omega)) pa_nil))))))))))), ?_⟩
    refine ⟨fun σ' H1 => ∃ kd : Nat, σ' = [some (.ref d), some (.int many), some (.int dep), some (.int kd), none] ∧ KeepH d g H H1 ∧ Hand H1 d g ∧ (dep = 0 → kd < 4), ?_, ?_⟩
    · refine ⟨_, rfl, _, _, rfl, rfl, _, rfl, ite2 (fun c => ?_) (fun c => ?_)⟩
      · have c0 : 0 < dep := by
          have := of_decide_eq_true c
          omega
        exact ⟨_, rfl, d, g, 12, rfl, by decide, by decide, hh, fun r H1 hr1 kp hh1 => ⟨r, rfl, kp, hh1, fun z => by omega⟩⟩
      · exact ⟨_, rfl, d, g, 4, rfl, by decide, by decide, hh, fun r H1 hr1 kp hh1 => ⟨r, rfl, kp, hh1, fun _ => hr1⟩⟩
    rintro σ' H1 ⟨kd, rfl, kp1, hh1, hkd⟩
    have sub : ∀ (H2 : Hp) (Q' : VK), 0 < dep → Hand H2 d g → (∀ (v : V) (H' : Hp) (t : T), KeepH d g H2 H' → Hand H' d g → TreeAt H' t v → t.Ok (dep - 1) → Q' v H') → spTree N [.ref d, .int many, .int ((dep : Int) - 1)] H2 Q' L2.E0 := fun H2 Q' h0 hh2 k =>
      ⟨d, g, many, dep - 1, by rw [show ((dep : Int) - 1) = ((dep - 1 : Nat) : Int) by omega], hm0, hm4, by omega, hh2, k⟩
    refine ⟨_, rfl, _, _, rfl, rfl, _, rfl, ite2 (fun c => ?_) (fun c => ?_)⟩
    · refine ⟨_, rfl, _, rfl, d, g, many, rfl, hm0, by omega, hh1, fun r H2 hr1 kp2 hh2 => ?_⟩
      refine ⟨(by decide : 2 ≤ sizeLine), fun p hp => ?_⟩
      have s3 := same_new hp (.tup [.str "x", .int (r : Int)])
      exact q (.ref p) _ (.x r) ((kp1.trans kp2).trans (KeepH.of s3)) (hh2.same s3) ⟨p, rfl, upd_same⟩ (by show r < 4; omega)
    refine ⟨_, rfl, _, _, rfl, rfl, _, rfl, ite2 (fun c2 => ?_) (fun c2 => ?_)⟩
    · refine ⟨_, rfl, _, rfl, d, g, 100, rfl, by decide, by decide, hh1, fun r H2 hr1 kp2 hh2 => ?_⟩
      refine ⟨_, rfl, _, _, rfl, rfl, ⟨by decide, by decide, by decide⟩, (by decide : 2 ≤ sizeLine), fun l hl => ?_⟩
      have s3 := same_new hl (.lst [.int 7, .int (10 ^ 29)])
      have nl := hh2.new hl
      refine ⟨d, g, l, _, rfl, nl.1, nl.2, upd_same, (by decide : 0 < 2), (by decide : 2 ≤ 1000), hh2.same s3, fun i x H4 hx kp4 hh4 => ?_⟩
      obtain ⟨u, rfl, hu⟩ : ∃ u : Nat, x = .int u ∧ (u < 100 ∨ u = 10 ^ 29) := by
        have := List.mem_of_getElem? hx
        simp only [List.mem_cons, List.not_mem_nil, or_false] at this
        rcases this with e | e
        · exact ⟨7, e, .inl (by decide)⟩
        · exact ⟨10 ^ 29, by rw [e]; rfl, .inr rfl⟩
      refine ⟨(by decide : 5 ≤ sizeLine), fun l2 hl2 => ?_⟩
      have s5 := same_new hl2 (.lst [.int 0, .int 1, .int 2, .int (r : Int), .int (u : Int)])
      have nl2 := hh4.new hl2
      refine ⟨d, g, l2, _, rfl, nl2.1, nl2.2, upd_same, (by decide : 0 < 5), (by decide : 5 ≤ 1000), hh4.same s5, fun i2 y H6 hy kp6 hh6 => ?_⟩
      obtain ⟨z, rfl, hz⟩ : ∃ z : Nat, y = .int z ∧ (z < 100 ∨ z = 10 ^ 29) := by
        have := List.mem_of_getElem? hy
        simp only [List.mem_cons, List.not_mem_nil, or_false] at this
        rcases this with e | e | e | e | e
        · exact ⟨0, e, .inl (by decide)⟩
        · exact ⟨1, e, .inl (by decide)⟩
        · exact ⟨2, e, .inl (by decide)⟩
        · exact ⟨r, e, .inl hr1⟩
        · exact ⟨u, e, hu⟩
      refine ⟨(by decide : 2 ≤ sizeLine), fun p hp => ?_⟩
      have s7 := same_new hp (.tup [.str "n", .int (z : Int)])
      have kk := ((((kp1.trans kp2).trans (KeepH.of s3)).trans kp4).trans (KeepH.of s5)).trans kp6
      exact q (.ref p) _ (.n z) (kk.trans (KeepH.of s7)) (hh6.same s7) ⟨p, rfl, upd_same⟩ hz
    have hd0 : 0 < dep := by
      rcases Nat.eq_zero_or_pos dep with e | e
      · have := hkd e
        exact absurd (decide_eq_true (show (kd : Int) < 4 by omega)) c2
      · exact e
    obtain ⟨dp, rfl⟩ : ∃ dp, dep = dp + 1 := ⟨dep - 1, by omega⟩
    refine ⟨_, rfl, _, _, rfl, rfl, _, rfl, ite2 (fun c3 => ?_) (fun c3 => ?_)⟩
    · refine ⟨_, rfl, _, rfl, _, rfl, _, _, rfl, rfl, sub H1 _ hd0 hh1 fun v1 H2 t kp2 hh2 ht hok => ?_⟩
      refine ⟨_, rfl, (by decide : 5 ≤ sizeLine), fun l hl => ?_⟩
      have s3 := same_new hl (.lst [.int 0, .int 1, .int 2, .int 2, .int 3])
      have nl := hh2.new hl
      refine ⟨d, g, l, _, rfl, nl.1, nl.2, upd_same, (by decide : 0 < 5), (by decide : 5 ≤ 1000), hh2.same s3, fun i x H4 hx kp4 hh4 => ?_⟩
      obtain ⟨e, rfl, he⟩ : ∃ u : Nat, x = .int u ∧ u ≤ 3 := by
        have := List.mem_of_getElem? hx
        simp only [List.mem_cons, List.not_mem_nil, or_false] at this
        rcases this with e | e | e | e | e
        · exact ⟨0, e, by decide⟩
        · exact ⟨1, e, by decide⟩
        · exact ⟨2, e, by decide⟩
        · exact ⟨2, e, by decide⟩
        · exact ⟨3, e, by decide⟩
      refine ⟨(by decide : 3 ≤ sizeLine), fun p hp => ?_⟩
      have s7 := same_new hp (.tup [.str "^", v1, .int (e : Int)])
      have kk := ((kp1.trans kp2).trans (KeepH.of s3)).trans kp4
      have ht4 := ((ht.mono s3).keep (hh2.same s3) kp4).mono s7
      exact q (.ref p) _ (.pow t e) (kk.trans (KeepH.of s7)) (hh4.same s7) ⟨p, v1, rfl, upd_same, ht4⟩ ⟨he, dp, rfl, hok⟩
    refine ⟨_, rfl, _, _, rfl, rfl, _, rfl, ite2 (fun c4 => ?_) (fun c4 => ?_)⟩
    · refine ⟨_, rfl, _, rfl, _, rfl, _, _, rfl, rfl, sub H1 _ hd0 hh1 fun v1 H2 t kp2 hh2 ht hok => ?_⟩
      refine ⟨_, rfl, _, rfl, _, rfl, _, _, rfl, rfl, sub H2 _ hd0 hh2 fun v2 H3 u kp3 hh3 hu hok2 => ?_⟩
      refine ⟨(by decide : 3 ≤ sizeLine), fun p hp => ?_⟩
      have s7 := same_new hp (.tup [.str "*", v1, v2])
      exact q (.ref p) _ (.mul t u) (((kp1.trans kp2).trans kp3).trans (KeepH.of s7)) (hh3.same s7) ⟨p, v1, v2, rfl, upd_same, (ht.keep hh2 kp3).mono s7, hu.mono s7⟩ ⟨dp, rfl, hok, hok2⟩
    · refine ⟨_, rfl, (by decide : 5 ≤ sizeLine), fun l hl => ?_⟩
      have s3 := same_new hl (.lst [.str "+", .str "+", .str "-", .str "-", .str "_"])
      have nl := hh1.new hl
      refine ⟨d, g, l, _, rfl, nl.1, nl.2, upd_same, (by decide : 0 < 5), (by decide : 5 ≤ 1000), hh1.same s3, fun i x H4 hx kp4 hh4 => ?_⟩
      obtain ⟨o, rfl⟩ : ∃ o : TOp, x = .str o.str := by
        have := List.mem_of_getElem? hx
        simp only [List.mem_cons, List.not_mem_nil, or_false] at this
        rcases this with e | e | e | e | e
        · exact ⟨.add, e⟩
        · exact ⟨.add, e⟩
        · exact ⟨.sub, e⟩
        · exact ⟨.sub, e⟩
        · exact ⟨.und, e⟩
      refine ⟨_, rfl, _, rfl, _, rfl, _, rfl, _, _, rfl, rfl, sub H4 _ hd0 hh4 fun v1 H5 t kp5 hh5 ht hok => ?_⟩
      refine ⟨_, rfl, _, rfl, _, rfl, _, _, rfl, rfl, sub H5 _ hd0 hh5 fun v2 H6 u kp6 hh6 hu hok2 => ?_⟩
      refine ⟨(by decide : 3 ≤ sizeLine), fun p hp => ?_⟩
      have s7 := same_new hp (.tup [.str o.str, v1, v2])
      have kk := (((kp1.trans (KeepH.of s3)).trans kp4).trans kp5).trans kp6
      exact q (.ref p) _ (.bin o t u) (kk.trans (KeepH.of s7)) (hh6.same s7) ⟨p, v1, v2, rfl, upd_same, (ht.keep hh5 kp6).mono s7, hu.mono s7⟩ ⟨dp, rfl, hok, hok2⟩
end
end K46

/-! # The law's trees: size, value -/
namespace K46
open PySem PySem.Spec PyProof.Rows L2
open SX (S)
def T.tag : T → Str
  | .x _ => "x"
  | .n _ => "n"
  | .pow _ _ => "^"
  | .mul _ _ => "*"
  | .bin o _ _ => o.str
theorem T.cnt_le : ∀ (t : T) (h : Nat), t.Ok h → t.cnt ≤ 2 ^ 3 ^ h
  | .x _, h, _ => Nat.pow_pos (by decide)
  | .n _, h, _ => Nat.pow_pos (by decide)
  | .pow t e, h, ⟨he, g, hg, ok⟩ => by
    subst hg
    have ih := t.cnt_le g ok
    have h1 : t.cnt ^ max 1 e ≤ (2 ^ 3 ^ g) ^ max 1 e := Nat.pow_le_pow_left ih _
    have h2 : (2 ^ 3 ^ g) ^ max 1 e ≤ (2 ^ 3 ^ g) ^ 3 := Nat.pow_le_pow_right (Nat.pow_pos (by decide)) (by omega)
    rw [← Nat.pow_mul, ← Nat.pow_mul] at h2
    rw [← Nat.pow_mul] at h1
    rw [Nat.pow_succ 3 g]
    exact Nat.le_trans h1 h2
  | .mul a b, h, ⟨g, hg, oa, ob⟩ => by
    subst hg
    have h1 := Nat.mul_le_mul (a.cnt_le g oa) (b.cnt_le g ob)
    rw [← Nat.pow_add] at h1
    refine Nat.le_trans h1 (Nat.pow_le_pow_right (by decide) ?_)
    rw [Nat.pow_succ]; omega
  | .bin _ a b, h, ⟨g, hg, oa, ob⟩ => by
    subst hg
    have h1 := Nat.add_le_add (a.cnt_le g oa) (b.cnt_le g ob)
    rw [two_pow_dbl] at h1
    refine Nat.le_trans h1 (Nat.pow_le_pow_right (by decide) ?_)
    have : 0 < 3 ^ g := Nat.pow_pos (by decide)
    rw [Nat.pow_succ]; omega
theorem T.cnt_27 {t : T} {g : Nat} (ok : t.Ok g) (hg : g ≤ 3) : t.cnt ≤ 2 ^ 27 :=
  Nat.le_trans (t.cnt_le g ok) (Nat.pow_le_pow_right (by decide) (Nat.le_trans (Nat.pow_le_pow_right (by decide) hg) (by decide)))
section
variable {P : Program} {w : World} {K : PySem.W.Frag} {mg : Str → Option Value} {base : Heap}
/-! ### _law_size -/
abbrev lSize : Stmt := top 55
def spSize (N : Nat) : Sp := fun vs H Q _ => ∃ (v : V) (t : T) (h : Nat), vs = [v] ∧ TreeAt H t v ∧ t.Ok h ∧ h < N ∧ h ≤ 4 ∧ ∀ (a : Addr) (H' : Hp), Same H H' → H' a = some (.tup [.int t.deg, .int t.cnt]) → Q (.ref a) H'
theorem sclSize : FnScope ["_law_tree_here", "_law_one", "_law_terms_here", "_law_turn", "_law_other"] ["_law_tree_here"] (defScope lSize) := ⟨rfl, rfl, rfl, by decide +kernel, rfl, by decide +kernel, by decide +kernel⟩
theorem ok_size0 (h : Has K mg "_law_size" lSize ["_law_tree_here"]) : Can P w K mg base CX0 1 "_law_size" ["_law_tree_here"] (spSize 0) := by
  obtain ⟨f, fd, g, F, b⟩ := h.ex
  refine ⟨f, fd, g, F.kp, b, F.ok (k := 0) sclSize (fun vs H Q E h => ?_) (fun cdv A outer s H vs Q E hr h => ?_)⟩
  · obtain ⟨v, t, n, rfl, _⟩ := h
    rfl
  · obtain ⟨v, t, n, rfl, _, _, hn, _⟩ := h
    exact absurd hn (Nat.not_lt_zero _)
theorem ok_size {N k : Nat} (h : Has K mg "_law_size" lSize ["_law_tree_here"]) (CS : Can P w K mg base CX0 k "_law_size" ["_law_tree_here"] (spSize N)) (mR : mg "range" = none) (mM : mg "max" = none) : Can P w K mg base CX0 (k + 1) "_law_size" ["_law_tree_here"] (spSize (N + 1)) := by
  obtain ⟨f, fd, g, F, b⟩ := h.ex
  refine ⟨f, fd, g, F.kp, b, F.ok sclSize (fun vs H Q E h => ?_) (fun cdv A outer s H vs Q E hr h => ?_)⟩
  · obtain ⟨v, t, n, rfl, _⟩ := h
    rfl
  · obtain ⟨v, t, n, rfl, ht, hok, hn, hn4, q⟩ := h
    refine ⟨_, pss_cons (ps_if (pt_cmpR op_in_seq (pe_ix ix_tup (pv 0) pe_int (fun _ _ => rfl)) (pe_lst (pa_cons pe_str (pa_cons pe_str pa_nil))) (by rfl)) (pss_one (ps_ret (pe_tup (pa_cons pe_int (pa_cons pe_int pa_nil))))) pss_nil)
      (pss_cons (ps_set (i := 1) sclSize.nd rfl (Or.inl rfl) (pe_can CS hr pass0 (pa_cons (pe_ix ix_tup (pv 0) pe_int (fun _ _ => rfl)) pa_nil) (hk := by omega)))
      (pss_cons (ps_if (pt_cmpR op_eq (pe_ix ix_tup (pv 0) pe_int (fun _ _ => rfl)) pe_str (nomark _))
        (pss_cons (ps_set (i := 2) sclSize.nd rfl (Or.inl rfl) pe_int)
        (pss_cons (ps_for PassesOwn.never rfl (pi_range1 (by rfl) mR (pa_cons (pe_callB (call_max2 (by rfl)) (by rfl) mM (by decide +kernel) (pa_cons pe_int (pa_cons (pe_ix ix_tup (pv 0) pe_int (fun _ _ => rfl)) pa_nil))) pa_nil)) (pg_name (i := 3) sclSize.nd rfl (Or.inl rfl))
          (pss_one (ps_set (i := 2) sclSize.nd rfl (Or.inl rfl) (pe_op op_mul (pv 2) (pe_ix ix_tup (pv 1) pe_int (fun _ _ => rfl))))))
        (pss_one (ps_ret (pe_tup (pa_cons (pe_op op_mul (pe_ix ix_tup (pv 1) pe_int (fun _ _ => rfl)) (pe_callB (call_max2 (by rfl)) (by rfl) mM (by decide +kernel) (pa_cons pe_int (pa_cons (pe_ix ix_tup (pv 0) pe_int (fun _ _ => rfl)) pa_nil)))) (pa_cons (pv 2) pa_nil))))))) pss_nil)
      (pss_cons (ps_set (i := 4) sclSize.nd rfl (Or.inl rfl) (pe_can CS hr pass0 (pa_cons (pe_ix ix_tup (pv 0) pe_int (fun _ _ => rfl)) pa_nil) (hk := by omega)))
      (pss_cons (ps_if (pt_cmpR op_eq (pe_ix ix_tup (pv 0) pe_int (fun _ _ => rfl)) pe_str (nomark _))
        (pss_one (ps_ret (pe_tup (pa_cons (pe_op op_add (pe_ix ix_tup (pv 1) pe_int (fun _ _ => rfl)) (pe_ix ix_tup (pv 4) pe_int (fun _ _ => rfl))) (pa_cons (pe_op op_mul (pe_ix ix_tup (pv 1) pe_int (fun _ _ => rfl)) (pe_ix ix_tup (pv 4) pe_int (fun _ _ => rfl))) pa_nil))))) pss_nil)
      (pss_one (ps_ret (pe_tup (pa_cons (pe_callB (call_max2 (by rfl)) (by rfl) mM (by decide +kernel) (pa_cons (pe_ix ix_tup (pv 1) pe_int (fun _ _ => rfl)) (pa_cons (pe_ix ix_tup (pv 4) pe_int (fun _ _ => rfl)) pa_nil))) (pa_cons (pe_op op_add (pe_ix ix_tup (pv 1) pe_int (fun _ _ => rfl)) (pe_ix ix_tup (pv 4) pe_int (fun _ _ => rfl))) pa_nil))))))))), ?_⟩
    cases t with
    | x j =>
      obtain ⟨a, rfl, ha⟩ := ht
      refine ⟨_, rfl, a, _, 0, _, rfl, rfl, SqT.of ha, rfl, (by decide : 2 ≤ sizeLine), fun l hl => ?_⟩
      refine ⟨l, _, rfl, .inl (SqL.of upd_same), rfl, rfl, _, rfl, ?_⟩
      show if inV (.str ("x" : Str)) [.str ("x" : Str), .str ("n" : Str)] = true then _ else _
      rw [show inV (.str ("x" : Str)) [.str ("x" : Str), .str ("n" : Str)] = true by decide +kernel]
      refine iteT ⟨(by decide : 2 ≤ sizeLine), fun p hp => q p _ ((same_new hl _).trans (same_new hp _)) upd_same⟩
    | n j =>
      obtain ⟨a, rfl, ha⟩ := ht
      refine ⟨_, rfl, a, _, 0, _, rfl, rfl, SqT.of ha, rfl, (by decide : 2 ≤ sizeLine), fun l hl => ?_⟩
      refine ⟨l, _, rfl, .inl (SqL.of upd_same), rfl, rfl, _, rfl, ?_⟩
      show if inV (.str ("n" : Str)) [.str ("x" : Str), .str ("n" : Str)] = true then _ else _
      rw [show inV (.str ("n" : Str)) [.str ("x" : Str), .str ("n" : Str)] = true by decide +kernel]
      refine iteT ⟨(by decide : 2 ≤ sizeLine), fun p hp => q p _ ((same_new hl _).trans (same_new hp _)) upd_same⟩
    | pow t e =>
      obtain ⟨a, u, rfl, ha, hu⟩ := ht
      obtain ⟨he, gg, rfl, hok1⟩ := hok
      refine ⟨_, rfl, a, _, 0, _, rfl, rfl, SqT.of ha, rfl, (by decide : 2 ≤ sizeLine), fun l hl => ?_⟩
      have s1 := same_new hl (.lst [.str "x", .str "n"])
      refine ⟨l, _, rfl, .inl (SqL.of upd_same), rfl, rfl, _, rfl, ?_⟩
      show if inV (.str ("^" : Str)) [.str ("x" : Str), .str ("n" : Str)] = true then _ else _
      rw [show inV (.str ("^" : Str)) [.str ("x" : Str), .str ("n" : Str)] = false by decide +kernel]
      refine iteF ?_
      refine ⟨_, rfl, a, _, 1, _, rfl, rfl, SqT.of (s1 _ _ ha), rfl, _, t, gg, rfl, hu.mono s1, hok1, by omega, by omega, fun b1 H1 s2 hb1 => ?_⟩
      have sH := s1.trans s2
      have hc := T.cnt_27 hok1 (show gg ≤ 3 by omega)
      refine ⟨_, rfl, a, _, 0, _, rfl, rfl, SqT.of (sH _ _ ha), rfl, rfl, _, rfl, ite2 (fun _ => ?_) (fun z => absurd (by decide +kernel) z)⟩
      have em : (if (e : Int) > 1 then (e : Int) else 1) = ((max 1 e : Nat) : Int) := by split <;> omega
      refine ⟨_, rfl, a, _, 2, _, rfl, rfl, SqT.of (sH _ _ ha), rfl, _, _, rfl, ((max 1 e : Nat) : Int), congrArg (fun z => [V.int z]) em, by omega, by omega, ?_⟩
      refine for_range (lo := 0) (n := max 1 e) (fun i σ H' => ∃ u3 : Option V, σ = [some (.ref a), some (.ref b1), some (.int ((t.cnt ^ i : Nat) : Int)), u3, none] ∧ H' = H1) ⟨none, rfl, rfl⟩ ?_ ?_
      · rintro i σ H' hi ⟨u3, rfl, rfl⟩
        refine ⟨_, rfl, _, rfl, b1, _, 1, _, rfl, rfl, SqT.of hb1, rfl, _, _, rfl, rfl, .inl ?_, some (.int (0 + (i : Int))), ?_, rfl⟩
        · have h1 : t.cnt ^ i ≤ t.cnt ^ 2 := Nat.pow_le_pow_right t.cnt_pos (by omega)
          have h2 : t.cnt ^ 2 ≤ (2 ^ 27) ^ 2 := Nat.pow_le_pow_left hc 2
          have h3 : ((2 : Nat) ^ 27) ^ 2 = 2 ^ 54 := by decide
          have h4 : ((2 : Nat) ^ 54) < 2 ^ 64 := by decide
          constructor <;> omega
        · rw [Nat.pow_succ]
          rfl
      · rintro σ H' ⟨u3, rfl, rfl⟩
        refine ⟨_, rfl, b1, _, 0, _, rfl, rfl, SqT.of hb1, rfl, _, rfl, a, _, 2, _, rfl, rfl, SqT.of (sH _ _ ha), rfl, _, _, rfl, _, _, rfl, rfl, .inr ?_, _, rfl, (by decide : 2 ≤ sizeLine), fun p hp => ?_⟩
        · rw [em]
          have : max 1 e ≤ 3 := by omega
          constructor <;> omega
        · refine q p _ (sH.trans (same_new hp _)) ?_
          rw [upd_same, em]
          rfl
    | mul t1 t2 =>
      obtain ⟨a, u, z, rfl, ha, hu, hz⟩ := ht
      obtain ⟨gg, rfl, hok1, hok2⟩ := hok
      refine ⟨_, rfl, a, _, 0, _, rfl, rfl, SqT.of ha, rfl, (by decide : 2 ≤ sizeLine), fun l hl => ?_⟩
      have s1 := same_new hl (.lst [.str "x", .str "n"])
      refine ⟨l, _, rfl, .inl (SqL.of upd_same), rfl, rfl, _, rfl, ?_⟩
      show if inV (.str ("*" : Str)) [.str ("x" : Str), .str ("n" : Str)] = true then _ else _
      rw [show inV (.str ("*" : Str)) [.str ("x" : Str), .str ("n" : Str)] = false by decide +kernel]
      refine iteF ?_
      refine ⟨_, rfl, a, _, 1, _, rfl, rfl, SqT.of (s1 _ _ ha), rfl, _, t1, gg, rfl, hu.mono s1, hok1, by omega, by omega, fun b1 H1 s2 hb1 => ?_⟩
      have sH := s1.trans s2
      have hc := T.cnt_27 hok1 (show gg ≤ 3 by omega)
      refine ⟨_, rfl, a, _, 0, _, rfl, rfl, SqT.of (sH _ _ ha), rfl, rfl, _, rfl, ite2 (fun z => absurd z (by decide +kernel)) (fun _ => ?_)⟩
      refine ⟨_, rfl, a, _, 2, _, rfl, rfl, SqT.of (sH _ _ ha), rfl, _, t2, gg, rfl, hz.mono sH, hok2, by omega, by omega, fun b2 H2 s3 hb2 => ?_⟩
      have sH2 := sH.trans s3
      refine ⟨_, rfl, a, _, 0, _, rfl, rfl, SqT.of (sH2 _ _ ha), rfl, rfl, _, rfl, ite2 (fun _ => ?_) (fun z => absurd (by decide +kernel) z)⟩
      refine ⟨_, rfl, b1, _, 0, _, rfl, rfl, SqT.of (s3 _ _ hb1), rfl, _, rfl, b2, _, 0, _, rfl, rfl, SqT.of hb2, rfl, _, _, rfl, rfl, ?_⟩
      refine ⟨_, rfl, b1, _, 1, _, rfl, rfl, SqT.of (s3 _ _ hb1), rfl, _, rfl, b2, _, 1, _, rfl, rfl, SqT.of hb2, rfl, _, _, rfl, rfl, .inl ?_, (by decide : 2 ≤ sizeLine), fun p hp => ?_⟩
      · constructor <;> omega
      · exact q p _ (sH2.trans (same_new hp _)) upd_same
    | bin o t1 t2 =>
      obtain ⟨a, u, z, rfl, ha, hu, hz⟩ := ht
      obtain ⟨gg, rfl, hok1, hok2⟩ := hok
      refine ⟨_, rfl, a, _, 0, _, rfl, rfl, SqT.of ha, rfl, (by decide : 2 ≤ sizeLine), fun l hl => ?_⟩
      have s1 := same_new hl (.lst [.str "x", .str "n"])
      refine ⟨l, _, rfl, .inl (SqL.of upd_same), rfl, rfl, _, rfl, ?_⟩
      show if inV (.str o.str) [.str ("x" : Str), .str ("n" : Str)] = true then _ else _
      rw [show inV (.str o.str) [.str ("x" : Str), .str ("n" : Str)] = false by cases o <;> decide +kernel]
      refine iteF ?_
      refine ⟨_, rfl, a, _, 1, _, rfl, rfl, SqT.of (s1 _ _ ha), rfl, _, t1, gg, rfl, hu.mono s1, hok1, by omega, by omega, fun b1 H1 s2 hb1 => ?_⟩
      have sH := s1.trans s2
      refine ⟨_, rfl, a, _, 0, _, rfl, rfl, SqT.of (sH _ _ ha), rfl, rfl, _, rfl, ite2 (fun z => absurd z (by cases o <;> decide +kernel)) (fun _ => ?_)⟩
      refine ⟨_, rfl, a, _, 2, _, rfl, rfl, SqT.of (sH _ _ ha), rfl, _, t2, gg, rfl, hz.mono sH, hok2, by omega, by omega, fun b2 H2 s3 hb2 => ?_⟩
      have sH2 := sH.trans s3
      refine ⟨_, rfl, a, _, 0, _, rfl, rfl, SqT.of (sH2 _ _ ha), rfl, rfl, _, rfl, ite2 (fun z => absurd z (by cases o <;> decide +kernel)) (fun _ => ?_)⟩
      refine ⟨_, rfl, b1, _, 0, _, rfl, rfl, SqT.of (s3 _ _ hb1), rfl, _, rfl, b2, _, 0, _, rfl, rfl, SqT.of hb2, rfl, _, _, rfl, ?_⟩
      refine ⟨_, rfl, b1, _, 1, _, rfl, rfl, SqT.of (s3 _ _ hb1), rfl, _, rfl, b2, _, 1, _, rfl, rfl, SqT.of hb2, rfl, _, _, rfl, rfl, (by decide : 2 ≤ sizeLine), fun p hp => ?_⟩
      refine q p _ (sH2.trans (same_new hp _)) ?_
      have em : (if (t2.deg : Int) > (t1.deg : Int) then (t2.deg : Int) else (t1.deg : Int)) = ((max t1.deg t2.deg : Nat) : Int) := by split <;> omega
      rw [upd_same, em]
      rfl
/-! ### _law_is_small -/
abbrev lSmall : Stmt := top 54
def spSmall : Sp := fun vs H Q _ => ∃ (v : V) (t : T) (h : Nat), vs = [v] ∧ TreeAt H t v ∧ t.Ok h ∧ h ≤ 4 ∧ ∀ (c : Bool) (H' : Hp), Same H H' → (c = true → t.Small) → Q (.bl c) H'
theorem sclSmall : FnScope ["_law_tree_here"] ["_law_tree_here"] (defScope lSmall) := ⟨rfl, rfl, rfl, by decide +kernel, rfl, by decide +kernel, by decide +kernel⟩
theorem ok_small {k : Nat} (h : Has K mg "_law_is_small" lSmall ["_law_tree_here"]) (CS : Can P w K mg base CX0 k "_law_size" ["_law_tree_here"] (spSize 5)) : Can P w K mg base CX0 (k + 1) "_law_is_small" ["_law_tree_here"] spSmall := by
  obtain ⟨f, fd, g, F, b⟩ := h.ex
  refine ⟨f, fd, g, F.kp, b, F.ok sclSmall (fun vs H Q E h => ?_) (fun cdv A outer s H vs Q E hr h => ?_)⟩
  · obtain ⟨v, t, n, rfl, _⟩ := h
    rfl
  · obtain ⟨v, t, n, rfl, ht, hok, hn4, q⟩ := h
    refine ⟨_, pss_one (ps_ret (pe_and (pe_cmpR op_le (pe_ix ix_tup (pe_can CS hr pass0 (pa_cons (pv 0) pa_nil) (hk := by omega)) pe_int (fun _ _ => rfl)) pe_int (nomark _))
      (pe_one (pe_cmpR op_le (pe_ix ix_tup (pe_can CS hr pass0 (pa_cons (pv 0) pa_nil) (hk := by omega)) pe_int (fun _ _ => rfl)) pe_int (nomark _))))), ?_⟩
    refine ⟨_, rfl, v, t, n, rfl, ht, hok, by omega, hn4, fun a1 H1 s1 h1 => ?_⟩
    refine ⟨a1, _, 0, _, rfl, rfl, SqT.of h1, rfl, _, _, rfl, rfl, _, rfl, ite2 (fun c => ?_) (fun c => ?_)⟩
    · have c1 : t.deg ≤ 40 := by
        have := of_decide_eq_true c
        omega
      refine ⟨_, rfl, v, t, n, rfl, ht.mono s1, hok, by omega, hn4, fun a2 H2 s2 h2 => ?_⟩
      refine ⟨a2, _, 1, _, rfl, rfl, SqT.of h2, rfl, _, _, rfl, rfl, q _ _ (s1.trans s2) fun z => ?_⟩
      have c2 : t.cnt ≤ 200 := by
        have := of_decide_eq_true z
        omega
      exact ⟨by omega, by omega⟩
    · exact q _ _ s1 fun z => absurd z Bool.false_ne_true
/-! ### _law_tree_value -/
abbrev lVal : Stmt := top 51
def spVal (N : Nat) : Sp := fun vs H Q _ => ∃ (v : V) (t : T) (h : Nat), vs = [v] ∧ TreeAt H t v ∧ t.Ok h ∧ h < N ∧ h ≤ 4 ∧ t.Small ∧ NewD H Q t.val
theorem sclVal : FnScope ["_law_tree_here", "_law_word", "_law_one", "_law_other"] ["_law_tree_here"] (defScope lVal) := ⟨rfl, rfl, rfl, by decide +kernel, rfl, by decide +kernel, by decide +kernel⟩
theorem ok_val0 (h : Has K mg "_law_tree_value" lVal ["_law_tree_here"]) : Can P w K mg base CX0 3 "_law_tree_value" ["_law_tree_here"] (spVal 0) := by
  obtain ⟨f, fd, g, F, b⟩ := h.ex
  refine ⟨f, fd, g, F.kp, b, F.ok (k := 2) sclVal (fun vs H Q E h => ?_) (fun cdv A outer s H vs Q E hr h => ?_)⟩
  · obtain ⟨v, t, n, rfl, _⟩ := h
    rfl
  · obtain ⟨v, t, n, rfl, _, _, hn, _⟩ := h
    exact absurd hn (Nat.not_lt_zero _)
theorem bdF_le : ∀ {g : Nat}, g ≤ 4 → bdF g ≤ 30000 := fun {g} hg => by
  rcases (show g = 0 ∨ g = 1 ∨ g = 2 ∨ g = 3 ∨ g = 4 by omega) with e | e | e | e | e <;> subst e <;> decide
theorem ok_val {N k : Nat} (h : Has K mg "_law_tree_value" lVal ["_law_tree_here"]) (CV : Can P w K mg base CX0 k "_law_tree_value" ["_law_tree_here"] (spVal N)) (CU : Can P w K mg base CX0 1 "_law_unknown" ["_law_k"] spLUnk) (CC : Can P w K mg base CX0 1 "_law_constant" ["_law_number"] spLConst)
    (CW : Can P w K mg base CX0 2 "_law_power" ["_law_one", "_law_many"] spLPow) (CT : Can P w K mg base CX0 1 "_law_times" ["_law_one", "_law_other"] spLTimes) (CP : Can P w K mg base CX0 1 "_law_plus" ["_law_one", "_law_other", "_law_by"] spLPlus) (hk : 2 ≤ k) :
    Can P w K mg base CX0 (k + 1) "_law_tree_value" ["_law_tree_here"] (spVal (N + 1)) := by
  obtain ⟨f, fd, g, F, b⟩ := h.ex
  refine ⟨f, fd, g, F.kp, b, F.ok sclVal (fun vs H Q E h => ?_) (fun cdv A outer s H vs Q E hr h => ?_)⟩
  · obtain ⟨v, t, n, rfl, _⟩ := h
    rfl
  · obtain ⟨v, t, n, rfl, ht, hok, hn, hn4, sm, q⟩ := h
    refine ⟨_, pss_cons (ps_set (i := 1) sclVal.nd rfl (Or.inl rfl) (pe_ix ix_tup (pv 0) pe_int (fun _ _ => rfl)))
      (pss_cons (ps_if (pt_cmpR op_eq (pv 1) pe_str (nomark _)) (pss_one (ps_ret (pe_can CU hr pass0 (pa_cons (pe_ix ix_tup (pv 0) pe_int (fun _ _ => rfl)) pa_nil) (hk := by omega)))) pss_nil)
      (pss_cons (ps_if (pt_cmpR op_eq (pv 1) pe_str (nomark _)) (pss_one (ps_ret (pe_can CC hr pass0 (pa_cons (pe_ix ix_tup (pv 0) pe_int (fun _ _ => rfl)) pa_nil) (hk := by omega)))) pss_nil)
      (pss_cons (ps_set (i := 2) sclVal.nd rfl (Or.inl rfl) (pe_can CV hr pass0 (pa_cons (pe_ix ix_tup (pv 0) pe_int (fun _ _ => rfl)) pa_nil) (hk := by omega)))
      (pss_cons (ps_if (pt_cmpR op_eq (pv 1) pe_str (nomark _)) (pss_one (ps_ret (pe_can CW hr pass0 (pa_cons (pv 2) (pa_cons (pe_ix ix_tup (pv 0) pe_int (fun _ _ => rfl)) pa_nil)) (hk := by omega)))) pss_nil)
      (pss_cons (ps_set (i := 3) sclVal.nd rfl (Or.inl rfl) (pe_can CV hr pass0 (pa_cons (pe_ix ix_tup (pv 0) pe_int (fun _ _ => rfl)) pa_nil) (hk := by omega)))
      (pss_cons (ps_if (pt_cmpR op_eq (pv 1) pe_str (nomark _)) (pss_one (ps_ret (pe_can CT hr pass0 (pa_cons (pv 2) (pa_cons (pv 3) pa_nil)) (hk := by omega)))) pss_nil)
      (pss_one (ps_ret (pe_ifExp (pt_cmpR op_eq (pv 1) pe_str (nomark _)) (pe_can CP hr pass0 (pa_cons (pv 3) (pa_cons (pv 2) (pa_cons (pe_un un_neg pe_int) pa_nil))) (hk := by omega))
        (pe_can CP hr pass0 (pa_cons (pv 2) (pa_cons (pv 3) (pa_cons (pe_ifExp (pt_cmpR op_eq (pv 1) pe_str (nomark _)) pe_int (pe_un un_neg pe_int)) pa_nil))) (hk := by omega))))))))))), ?_⟩
    cases t with
    | x j =>
      obtain ⟨a, rfl, ha⟩ := ht
      refine ⟨_, rfl, a, _, 0, _, rfl, rfl, SqT.of ha, rfl, _, rfl, rfl, _, rfl, ite2 (fun _ => ?_) (fun z => absurd (by decide +kernel) z)⟩
      exact ⟨_, rfl, a, _, 1, _, rfl, rfl, SqT.of ha, rfl, j, rfl, q⟩
    | n j =>
      obtain ⟨a, rfl, ha⟩ := ht
      refine ⟨_, rfl, a, _, 0, _, rfl, rfl, SqT.of ha, rfl, _, rfl, rfl, _, rfl, ite2 (fun z => absurd z (by decide +kernel)) (fun _ => ?_)⟩
      refine ⟨_, rfl, rfl, _, rfl, ite2 (fun _ => ?_) (fun z => absurd (by decide +kernel) z)⟩
      exact ⟨_, rfl, a, _, 1, _, rfl, rfl, SqT.of ha, rfl, _, rfl, q⟩
    | pow t e =>
      obtain ⟨a, u, rfl, ha, hu⟩ := ht
      obtain ⟨he, gg, rfl, hok1⟩ := hok
      refine ⟨_, rfl, a, _, 0, _, rfl, rfl, SqT.of ha, rfl, _, rfl, rfl, _, rfl, ite2 (fun z => absurd z (by decide +kernel)) (fun _ => ?_)⟩
      refine ⟨_, rfl, rfl, _, rfl, ite2 (fun z => absurd z (by decide +kernel)) (fun _ => ?_)⟩
      refine ⟨_, rfl, a, _, 1, _, rfl, rfl, SqT.of ha, rfl, u, t, gg, rfl, hu, hok1, by omega, by omega, sm.pow, fun d1 H1 n1 s1 hd1 => ?_⟩
      refine ⟨_, rfl, rfl, _, rfl, ite2 (fun _ => ?_) (fun z => absurd (by decide +kernel) z)⟩
      have hb := bdF_le (show gg ≤ 4 by omega)
      have hb2 := Nat.mul_le_mul_left (bdF gg - 2) he
      refine ⟨_, rfl, _, rfl, a, _, 2, _, rfl, rfl, SqT.of (s1 _ _ ha), rfl, .ref d1, e, t.val, bdF gg - 2, rfl, hd1, by omega, sm.lens, Nat.le_trans t.val_len (Nat.le_trans sm.pow.2 (by decide)), t.val_bits gg hok1, by omega, ?_⟩
      exact fun d2 H2 n2 s2 hd2 => q d2 H2 (new_of s1 n2) (s1.trans s2) hd2
    | mul t1 t2 =>
      obtain ⟨a, u, z, rfl, ha, hu, hz⟩ := ht
      obtain ⟨gg, rfl, hok1, hok2⟩ := hok
      refine ⟨_, rfl, a, _, 0, _, rfl, rfl, SqT.of ha, rfl, _, rfl, rfl, _, rfl, ite2 (fun z => absurd z (by decide +kernel)) (fun _ => ?_)⟩
      refine ⟨_, rfl, rfl, _, rfl, ite2 (fun z => absurd z (by decide +kernel)) (fun _ => ?_)⟩
      refine ⟨_, rfl, a, _, 1, _, rfl, rfl, SqT.of ha, rfl, u, t1, gg, rfl, hu, hok1, by omega, by omega, sm.mul.1, fun d1 H1 n1 s1 hd1 => ?_⟩
      refine ⟨_, rfl, rfl, _, rfl, ite2 (fun z => absurd z (by decide +kernel)) (fun _ => ?_)⟩
      refine ⟨_, rfl, a, _, 2, _, rfl, rfl, SqT.of (s1 _ _ ha), rfl, z, t2, gg, rfl, hz.mono s1, hok2, by omega, by omega, sm.mul.2, fun d2 H2 n2 s2 hd2 => ?_⟩
      refine ⟨_, rfl, rfl, _, rfl, ite2 (fun _ => ?_) (fun z => absurd (by decide +kernel) z)⟩
      have hb := bdF_le (show gg ≤ 4 by omega)
      have l1 := t1.val_len
      have l2 := t2.val_len
      have c1 := sm.mul.1.2
      have c2 := sm.mul.2.2
      refine ⟨_, rfl, _, rfl, .ref d1, .ref d2, t1.val, t2.val, rfl, Ne.symm (hd1.ne n2), hd1.mono s2, hd2, by omega, by omega, (t1.val_bits gg hok1).mono (by omega), (t2.val_bits gg hok2).mono (by omega), ?_⟩
      exact fun d3 H3 n3 s3 hd3 => q d3 H3 (new_of (s1.trans s2) n3) ((s1.trans s2).trans s3) hd3
    | bin o t1 t2 =>
      obtain ⟨a, u, z, rfl, ha, hu, hz⟩ := ht
      obtain ⟨gg, rfl, hok1, hok2⟩ := hok
      refine ⟨_, rfl, a, _, 0, _, rfl, rfl, SqT.of ha, rfl, _, rfl, rfl, _, rfl, ite2 (fun z => absurd z (by cases o <;> decide +kernel)) (fun _ => ?_)⟩
      refine ⟨_, rfl, rfl, _, rfl, ite2 (fun z => absurd z (by cases o <;> decide +kernel)) (fun _ => ?_)⟩
      refine ⟨_, rfl, a, _, 1, _, rfl, rfl, SqT.of ha, rfl, u, t1, gg, rfl, hu, hok1, by omega, by omega, sm.bin.1, fun d1 H1 n1 s1 hd1 => ?_⟩
      refine ⟨_, rfl, rfl, _, rfl, ite2 (fun z => absurd z (by cases o <;> decide +kernel)) (fun _ => ?_)⟩
      refine ⟨_, rfl, a, _, 2, _, rfl, rfl, SqT.of (s1 _ _ ha), rfl, z, t2, gg, rfl, hz.mono s1, hok2, by omega, by omega, sm.bin.2, fun d2 H2 n2 s2 hd2 => ?_⟩
      refine ⟨_, rfl, rfl, _, rfl, ite2 (fun z => absurd z (by cases o <;> decide +kernel)) (fun _ => ?_)⟩
      have l1 := t1.val_len
      have l2 := t2.val_len
      have c1 := sm.bin.1.2
      have c2 := sm.bin.2.2
      have fin : NewD H2 Q (T.bin o t1 t2).val := fun d3 H3 n3 s3 hd3 => q d3 H3 (new_of (s1.trans s2) n3) ((s1.trans s2).trans s3) hd3
      have ca := (T.bin o t1 t2).val_ca
      cases o with
      | add =>
        refine ⟨_, rfl, rfl, _, rfl, ite2 (fun z => absurd z (by decide +kernel)) (fun _ => ?_)⟩
        refine ⟨_, rfl, _, rfl, _, rfl, rfl, _, rfl, ite2 (fun _ => ?_) (fun z => absurd (by decide +kernel) z)⟩
        exact ⟨.ref d1, .ref d2, 1, t1.val, t2.val, _, rfl, hd1.mono s2, hd2, .inl rfl, by omega, by omega, ca, fun m => by show coef (padd _ _) m = _; rw [coef_padd]; omega, fin⟩
      | sub =>
        refine ⟨_, rfl, rfl, _, rfl, ite2 (fun z => absurd z (by decide +kernel)) (fun _ => ?_)⟩
        refine ⟨_, rfl, _, rfl, _, rfl, rfl, _, rfl, ite2 (fun z => absurd z (by decide +kernel)) (fun _ => ?_)⟩
        exact ⟨_, rfl, .ref d1, .ref d2, -1, t1.val, t2.val, _, rfl, hd1.mono s2, hd2, .inr rfl, by omega, by omega, ca, fun m => by show coef (psub _ _) m = _; rw [coef_psub]; omega, fin⟩
      | und =>
        refine ⟨_, rfl, rfl, _, rfl, ite2 (fun _ => ?_) (fun z => absurd (by decide +kernel) z)⟩
        exact ⟨_, rfl, _, rfl, _, rfl, .ref d2, .ref d1, -1, t2.val, t1.val, _, rfl, hd2, hd1.mono s2, .inr rfl, by omega, by omega, ca, fun m => by show coef (psub _ _) m = _; rw [coef_psub]; omega, fin⟩
end
end K46

/-! # The law's trees: words -/
namespace K46
open PySem PySem.Spec PyProof.Rows L2
open SX (S)
theorem zeros_val (l : List Nat) : ∀ j : Nat, NumText.digitsVal (List.replicate j 48 ++ l) = NumText.digitsVal l
  | 0 => rfl
  | j + 1 => by
    rw [List.replicate_succ, List.cons_append, NumText.digitsVal_zero]
    exact zeros_val l j
theorem zeros_num {j v : Nat} : IsNum (List.replicate j 48 ++ TL.numL v) := by
  refine ⟨fun z => TL.numL_ne v (List.append_eq_nil_iff.mp z).2, fun c hc => ?_⟩
  rcases List.mem_append.mp hc with hc | hc
  · have := List.eq_of_mem_replicate hc
    omega
  · exact TL.numL_digits v c hc
theorem zeros_is {j v : Nat} : numVal (List.replicate j 48 ++ TL.numL v) = v := by
  show NumText.digitsVal _ = _
  rw [zeros_val, TL.numL_val]
theorem str_cat (a b : Word) : V.str (S a ++ S b) = tx (a ++ b) := by rw [SX.S_cat]
theorem atI_letters {k : Nat} (hk : k < 4) : atI (Str.ofString "xyzw").cps.toList (k : Int) = some (letters.getD k 0) := by
  rw [show (Str.ofString "xyzw").cps.toList = letters by decide +kernel]
  rcases (show k = 0 ∨ k = 1 ∨ k = 2 ∨ k = 3 by omega) with e | e | e | e <;> subst e <;> decide +kernel
theorem log_le {v : Nat} (h : v < 2 ^ 100) : v.log2 < 1920 := by
  by_cases e : v = 0
  · rw [e]; decide
  · have := (Nat.log2_lt e).mpr h
    omega
theorem map2 (a b : List Word) : (a ++ b).map tx = a.map tx ++ b.map tx := List.map_append
theorem wcF_le : ∀ {g : Nat}, g ≤ 4 → wcF g ≤ 200 := fun {g} hg => by
  rcases (show g = 0 ∨ g = 1 ∨ g = 2 ∨ g = 3 ∨ g = 4 by omega) with e | e | e | e | e <;> subst e <;> decide
section
variable {P : Program} {w : World} {K : PySem.W.Frag} {mg : Str → Option Value} {base : Heap}
abbrev lWords : Stmt := top 50
def spLWords (N : Nat) : Sp := fun vs H Q _ => ∃ (d g : Addr) (v : V) (t : T) (h binds : Nat), vs = [.ref d, v, .int binds] ∧ TreeAt H t v ∧ t.Ok h ∧ h < N ∧ h ≤ 4 ∧ t.Small ∧ binds ≤ 3 ∧ Hand H d g ∧
  ∀ (a : Addr) (H' : Hp) (ws : List Word), KeepH d g H H' → Hand H' d g → a ≠ d → a ≠ g → H' a = some (.lst (ws.map tx)) → Says binds h ws t.val → Q (.ref a) H'
theorem sclWords : FnScope ["_law_hand_here", "_law_tree_here", "_law_binds", "_law_word", "_law_found", "_law_own", "_law_noughts"] ["_law_hand_here", "_law_tree_here", "_law_binds"] (defScope lWords) := ⟨rfl, rfl, rfl, by decide +kernel, rfl, by decide +kernel, by decide +kernel⟩
theorem ok_lwords0 (h : Has K mg "_law_words" lWords ["_law_hand_here", "_law_tree_here", "_law_binds"]) : Can P w K mg base CX0 3 "_law_words" ["_law_hand_here", "_law_tree_here", "_law_binds"] (spLWords 0) := by
  obtain ⟨f, fd, g, F, b⟩ := h.ex
  refine ⟨f, fd, g, F.kp, b, F.ok (k := 2) sclWords (fun vs H Q E h => ?_) (fun cdv A outer s H vs Q E hr h => ?_)⟩
  · obtain ⟨d, g, v, t, n, bi, rfl, _⟩ := h
    rfl
  · obtain ⟨d, g, v, t, n, bi, rfl, _, _, hn, _⟩ := h
    exact absurd hn (Nat.not_lt_zero _)
theorem ok_lwords {N k : Nat} (h : Has K mg "_law_words" lWords ["_law_hand_here", "_law_tree_here", "_law_binds"]) (CD : Can P w K mg base CX0 1 "_law_draw" ["_law_hand_here", "_law_many"] spDraw) (CA : Can P w K mg base CX0 2 "_law_any" ["_law_hand_here", "_law_things"] (spAny K))
    (CW : Can P w K mg base CX0 k "_law_words" ["_law_hand_here", "_law_tree_here", "_law_binds"] (spLWords N)) (hk : 2 ≤ k) (mS : mg "str" = none) : Can P w K mg base CX0 (k + 1) "_law_words" ["_law_hand_here", "_law_tree_here", "_law_binds"] (spLWords (N + 1)) := by
  obtain ⟨f, fd, g, F, b⟩ := h.ex
  refine ⟨f, fd, g, F.kp, b, F.ok sclWords (fun vs H Q E h => ?_) (fun cdv A outer s H vs Q E hr h => ?_)⟩
  · obtain ⟨d, g, v, t, n, bi, rfl, _⟩ := h
    rfl
  · obtain ⟨d, g, v, t, n, binds, rfl, ht, hok, hn, hn4, sm, hbi, hh, q⟩ := h
    refine ⟨_, pss_cons (ps_set (i := 3) sclWords.nd rfl (Or.inl rfl) (pe_ix ix_tup (pv 1) pe_int (fun _ _ => rfl)))
      (C8.pss_cut (ps_if (pt_cmpR op_eq (pv 3) pe_str (nomark _))
          (pss_one (ps_par (i := 4) (j := 5) (by rfl) sclWords.nd rfl rfl (by decide) rfl rfl (pa_cons (pe_lst (pa_cons (pe_ix ix_str pe_str (pe_ix ix_tup (pv 1) pe_int (fun _ _ => rfl)) (fun _ _ => rfl)) pa_nil)) (pa_cons pe_int pa_nil)) (by rfl)))
        (pss_one (ps_if (pt_cmpR op_eq (pv 3) pe_str (nomark _))
          (pss_cons (ps_set (i := 6) sclWords.nd rfl (Or.inl rfl) (pe_can CA hr pass0 (pa_cons (pv 0) (pa_cons (pe_lst (pa_cons pe_str (pa_cons pe_str (pa_cons pe_str (pa_cons pe_str (pa_cons pe_str pa_nil)))))) pa_nil)) (hk := by omega)))
          (pss_one (ps_par (i := 4) (j := 5) (by rfl) sclWords.nd rfl rfl (by decide) rfl rfl (pa_cons (pe_lst (pa_cons (pe_op op_add_str (pe_ifExp (pt_cmpR op_lt (pe_ix ix_tup (pv 1) pe_int (fun _ _ => rfl)) pe_int (nomark _)) (pv 6) pe_str)
            (pe_callTy call_str_int (by rfl) mS (by decide +kernel) (pa_cons (pe_ix ix_tup (pv 1) pe_int (fun _ _ => rfl)) pa_nil))) pa_nil)) (pa_cons pe_int pa_nil)) (by rfl))))
        (pss_one (ps_if (pt_cmpR op_eq (pv 3) pe_str (nomark _))
          (pss_one (ps_par (i := 4) (j := 5) (by rfl) sclWords.nd rfl rfl (by decide) rfl rfl (pa_cons (pe_op op_cat (pe_can CW hr pass0 (pa_cons (pv 0) (pa_cons (pe_ix ix_tup (pv 1) pe_int (fun _ _ => rfl)) (pa_cons pe_int pa_nil))) (hk := by omega))
            (pe_lst (pa_cons pe_str (pa_cons (pe_op op_add_str (pe_can CA hr pass0 (pa_cons (pv 0) (pa_cons (pe_lst (pa_cons pe_str (pa_cons pe_str (pa_cons pe_str pa_nil)))) pa_nil)) (hk := by omega))
              (pe_callTy call_str_int (by rfl) mS (by decide +kernel) (pa_cons (pe_ix ix_tup (pv 1) pe_int (fun _ _ => rfl)) pa_nil))) pa_nil)))) (pa_cons pe_int pa_nil)) (by rfl)))
        (pss_one (ps_if (pt_cmpR op_eq (pv 3) pe_str (nomark _))
          (pss_one (ps_par (i := 4) (j := 5) (by rfl) sclWords.nd rfl rfl (by decide) rfl rfl (pa_cons (pe_op op_cat (pe_op op_cat (pe_can CW hr pass0 (pa_cons (pv 0) (pa_cons (pe_ix ix_tup (pv 1) pe_int (fun _ _ => rfl)) (pa_cons pe_int pa_nil))) (hk := by omega)) (pe_lst (pa_cons pe_str pa_nil)))
            (pe_can CW hr pass0 (pa_cons (pv 0) (pa_cons (pe_ix ix_tup (pv 1) pe_int (fun _ _ => rfl)) (pa_cons pe_int pa_nil))) (hk := by omega))) (pa_cons pe_int pa_nil)) (by rfl)))
        (pss_one (ps_if (pt_cmpR op_eq (pv 3) pe_str (nomark _))
          (pss_one (ps_par (i := 4) (j := 5) (by rfl) sclWords.nd rfl rfl (by decide) rfl rfl (pa_cons (pe_op op_cat (pe_op op_cat (pe_op op_cat (pe_lst (pa_cons pe_str pa_nil)) (pe_can CW hr pass0 (pa_cons (pv 0) (pa_cons (pe_ix ix_tup (pv 1) pe_int (fun _ _ => rfl)) (pa_cons pe_int pa_nil))) (hk := by omega))) (pe_lst (pa_cons pe_str pa_nil)))
            (pe_can CW hr pass0 (pa_cons (pv 0) (pa_cons (pe_ix ix_tup (pv 1) pe_int (fun _ _ => rfl)) (pa_cons pe_int pa_nil))) (hk := by omega))) (pa_cons pe_int pa_nil)) (by rfl)))
          (pss_one (ps_par (i := 4) (j := 5) (by rfl) sclWords.nd rfl rfl (by decide) rfl rfl (pa_cons (pe_op op_cat (pe_op op_cat (pe_can CW hr pass0 (pa_cons (pv 0) (pa_cons (pe_ix ix_tup (pv 1) pe_int (fun _ _ => rfl)) (pa_cons pe_int pa_nil))) (hk := by omega)) (pe_lst (pa_cons (pv 3) pa_nil)))
            (pe_can CW hr pass0 (pa_cons (pv 0) (pa_cons (pe_ix ix_tup (pv 1) pe_int (fun _ _ => rfl)) (pa_cons pe_int pa_nil))) (hk := by omega))) (pa_cons pe_int pa_nil)) (by rfl))))))))))))
      (pss_one (ps_ret (pe_ifExp (PW.pt (pw_or (pt_cmpR op_lt (pv 5) (pv 2) (nomark _)) (pw_or1 (pt_cmpR op_eq (pe_can CD hr pass0 (pa_cons (pv 0) (pa_cons pe_int pa_nil)) (hk := by omega)) pe_int (nomark _)))))
        (pe_op op_cat (pe_op op_cat (pe_lst (pa_cons pe_str pa_nil)) (pv 4)) (pe_lst (pa_cons pe_str pa_nil))) (pv 4))))), ?_⟩
    have hd0 : ∃ (a : Addr) (r : List V), v = .ref a ∧ H a = some (.tup (.str t.tag :: r)) := by
      cases t with
      | x j => obtain ⟨a, e, h⟩ := ht; exact ⟨a, _, e, h⟩
      | n j => obtain ⟨a, e, h⟩ := ht; exact ⟨a, _, e, h⟩
      | pow t e => obtain ⟨a, u, e, h, _⟩ := ht; exact ⟨a, _, e, h⟩
      | mul t1 t2 => obtain ⟨a, u, z, e, h, _⟩ := ht; exact ⟨a, _, e, h⟩
      | bin o t1 t2 => obtain ⟨a, u, z, e, h, _⟩ := ht; exact ⟨a, _, e, h⟩
    obtain ⟨a0, r0, rfl, ha0⟩ := hd0
    refine ⟨_, rfl, a0, _, 0, .str t.tag, rfl, rfl, SqT.of ha0, atI_nat (j := 0) rfl, ?_⟩
    refine ⟨fun σ' H1 => ∃ (ws : List Word) (own : Nat) (a : Addr) (u6 : Option V), σ' = [some (.ref d), some (.ref a0), some (.int binds), some (.str t.tag), some (.ref a), some (.int own), u6] ∧ KeepH d g H H1 ∧ Hand H1 d g ∧ a ≠ d ∧ a ≠ g ∧ H1 a = some (.lst (ws.map tx)) ∧ Own own n ws t.val ∧ own ≤ 3, ?_, ?_⟩
    · cases t with
      | x j =>
        obtain ⟨a, ea, ha⟩ := ht
        cases ea
        have hj : j < 4 := hok
        refine ⟨_, rfl, rfl, _, rfl, ite2 (fun _ => ?_) (fun z => absurd (by show decide (V.str ("x" : Str) = V.str ("x" : Str)) = true; decide +kernel) z)⟩
        refine ⟨_, rfl, a0, _, 1, _, rfl, rfl, SqT.of ha, rfl, _, _, _, rfl, rfl, (by decide +kernel), atI_letters hj, (by decide : 1 ≤ sizeLine), fun l hl => ⟨_, _, rfl, ?_⟩⟩
        have s1 := same_new hl (.lst [.str ⟨#[letters.getD j 0]⟩])
        have nl := hh.new hl
        exact ⟨[[letters.getD j 0]], 3, l, _, rfl, KeepH.of s1, hh.same s1, nl.1, nl.2, upd_same, own_x n hj, by decide⟩
      | n u =>
        obtain ⟨a, ea, ha⟩ := ht
        cases ea
        refine ⟨_, rfl, rfl, _, rfl, ite2 (fun z => absurd z (by show ¬ decide (V.str ("n" : Str) = V.str ("x" : Str)) = true; decide +kernel)) (fun _ => ?_)⟩
        refine ⟨_, rfl, rfl, _, rfl, ite2 (fun _ => ?_) (fun z => absurd (by show decide (V.str ("n" : Str) = V.str ("n" : Str)) = true; decide +kernel) z)⟩
        refine ⟨_, rfl, (by decide : 5 ≤ sizeLine), fun l hl => ?_⟩
        have s1 := same_new hl (.lst [.str "", .str "", .str "", .str "0", .str "00"])
        have nl := hh.new hl
        refine ⟨d, g, l, _, rfl, nl.1, nl.2, upd_same, (by decide : 0 < 5), (by decide : 5 ≤ 1000), hh.same s1, fun i y H2 hy kp2 hh2 => ?_⟩
        obtain ⟨j, rfl, hj⟩ : ∃ j : Nat, y = tx (List.replicate j 48) ∧ j ≤ 2 := by
          have := List.mem_of_getElem? hy
          simp only [List.mem_cons, List.not_mem_nil, or_false] at this
          rcases this with e | e | e | e | e
          · exact ⟨0, by rw [e]; exact congrArg V.str (by decide +kernel), by decide⟩
          · exact ⟨0, by rw [e]; exact congrArg V.str (by decide +kernel), by decide⟩
          · exact ⟨0, by rw [e]; exact congrArg V.str (by decide +kernel), by decide⟩
          · exact ⟨1, by rw [e]; exact congrArg V.str (by decide +kernel), by decide⟩
          · exact ⟨2, by rw [e]; exact congrArg V.str (by decide +kernel), by decide⟩
        have kk := (KeepH.of s1).trans kp2
        have ha2 := kk _ _ (hh.tup ha).1 (hh.tup ha).2 ha
        have hu100 : u < 2 ^ 100 := by
          rcases hok with e | e
          · exact Nat.lt_trans e (by decide)
          · rw [e]; decide
        have es : V.str (toString (u : Int)) = tx (TL.numL u) := congrArg V.str (SX.num_S u)
        have fin : ∀ (jj : Nat) (Q1 : Str → Prop), (List.replicate jj 48 ++ TL.numL u).length ≤ 30 → Q1 (S (List.replicate jj 48) ++ S (TL.numL u)) → Q1 (S (List.replicate jj 48 ++ TL.numL u)) := fun jj Q1 _ h => by rw [← SX.S_cat]; exact h
        have hlen2 : u < 100 → (TL.numL u).length ≤ 2 := fun z => TL.numL_len (by decide) (by show u < 10 ^ 2; omega)
        have hlen30 : (TL.numL u).length ≤ 30 := by
          refine TL.numL_len (by decide) ?_
          rcases hok with e | e
          · exact Nat.lt_trans e (by decide)
          · rw [e]; decide
        refine ⟨_, rfl, a0, _, 1, _, rfl, rfl, SqT.of ha2, rfl, _, _, rfl, rfl, _, rfl, ite2 (fun c => ?_) (fun c => ?_)⟩
        · have c1 : u < 100 := by
            have := of_decide_eq_true c
            omega
          have hl2 := hlen2 c1
          refine ⟨_, rfl, _, rfl, a0, _, 1, _, rfl, rfl, SqT.of ha2, rfl, _, rfl, by rw [Int.natAbs_natCast]; exact log_le hu100, _, _, rfl, es, ?_, (by decide : 1 ≤ sizeLine), fun l3 hl3 => ⟨_, _, rfl, ?_⟩⟩
          · rw [SX.S_len, SX.S_len, List.length_replicate]; exact le_line (by omega)
          · have s3 := same_new hl3 (.lst [V.str (S (List.replicate j 48) ++ S (TL.numL u))])
            have nl3 := hh2.new hl3
            refine ⟨[List.replicate j 48 ++ TL.numL u], 3, l3, _, rfl, kk.trans (KeepH.of s3), hh2.same s3, nl3.1, nl3.2, ?_, own_n n zeros_num zeros_is (by rw [List.length_append, List.length_replicate]; omega), by decide⟩
            rw [upd_same, SX.S_cat]
            rfl
        · refine ⟨_, rfl, a0, _, 1, _, rfl, rfl, SqT.of ha2, rfl, _, rfl, by rw [Int.natAbs_natCast]; exact log_le hu100, S [], _, congrArg V.str (by decide +kernel), es, ?_, (by decide : 1 ≤ sizeLine), fun l3 hl3 => ⟨_, _, rfl, ?_⟩⟩
          · rw [SX.S_len, SX.S_len]; exact le_line (by show 0 + _ ≤ _; omega)
          · have s3 := same_new hl3 (.lst [V.str (S [] ++ S (TL.numL u))])
            have nl3 := hh2.new hl3
            refine ⟨[List.replicate 0 48 ++ TL.numL u], 3, l3, _, rfl, kk.trans (KeepH.of s3), hh2.same s3, nl3.1, nl3.2, ?_, own_n n zeros_num zeros_is (by rw [List.length_append, List.length_replicate]; omega), by decide⟩
            rw [upd_same, SX.S_cat]
            rfl
      | pow t e =>
        obtain ⟨a, u, ea, ha, hu⟩ := ht
        cases ea
        obtain ⟨he, gg, rfl, hok1⟩ := hok
        refine ⟨_, rfl, rfl, _, rfl, ite2 (fun z => absurd z (by show ¬ decide (V.str ("^" : Str) = V.str ("x" : Str)) = true; decide +kernel)) (fun _ => ?_)⟩
        refine ⟨_, rfl, rfl, _, rfl, ite2 (fun z => absurd z (by show ¬ decide (V.str ("^" : Str) = V.str ("n" : Str)) = true; decide +kernel)) (fun _ => ?_)⟩
        refine ⟨_, rfl, rfl, _, rfl, ite2 (fun _ => ?_) (fun z => absurd (by show decide (V.str ("^" : Str) = V.str ("^" : Str)) = true; decide +kernel) z)⟩
        refine ⟨_, rfl, _, rfl, a0, _, 1, _, rfl, rfl, SqT.of ha, rfl, d, g, u, t, gg, 3, rfl, hu, hok1, by omega, by omega, sm.pow, by decide, hh, fun a1 H1 ws1 kp1 hh1 n1 m1 ha1 says1 => ?_⟩
        have ha1' := kp1 _ _ (hh.tup ha).1 (hh.tup ha).2 ha
        refine ⟨_, rfl, (by decide : 3 ≤ sizeLine), fun l hl => ?_⟩
        have s2 := same_new hl (.lst [.str "", .str "", .str "0"])
        have nl := hh1.new hl
        refine ⟨d, g, l, _, rfl, nl.1, nl.2, upd_same, (by decide : 0 < 3), (by decide : 3 ≤ 1000), hh1.same s2, fun i y H2 hy kp2 hh2 => ?_⟩
        obtain ⟨j, rfl, hj⟩ : ∃ j : Nat, y = tx (List.replicate j 48) ∧ j ≤ 2 := by
          have := List.mem_of_getElem? hy
          simp only [List.mem_cons, List.not_mem_nil, or_false] at this
          rcases this with e | e | e
          · exact ⟨0, by rw [e]; exact congrArg V.str (by decide +kernel), by decide⟩
          · exact ⟨0, by rw [e]; exact congrArg V.str (by decide +kernel), by decide⟩
          · exact ⟨1, by rw [e]; exact congrArg V.str (by decide +kernel), by decide⟩
        have kk := (kp1.trans (KeepH.of s2)).trans kp2
        have ha2 := kk _ _ (hh.tup ha).1 (hh.tup ha).2 ha
        have es : V.str (toString (e : Int)) = tx (TL.numL e) := congrArg V.str (SX.num_S e)
        have hl2 : (TL.numL e).length ≤ 2 := TL.numL_len (by decide) (by show e < 10 ^ 2; omega)
        refine ⟨_, rfl, a0, _, 2, _, rfl, rfl, SqT.of ha2, rfl, _, rfl, by rw [Int.natAbs_natCast]; exact log_le (Nat.lt_of_le_of_lt he (by decide)), _, _, rfl, es, ?_, (by decide : 2 ≤ sizeLine), fun l3 hl3 => ?_⟩
        · rw [SX.S_len, SX.S_len, List.length_replicate]; exact le_line (by omega)
        have s3 := same_new hl3 (.lst [.str "^", V.str (S (List.replicate j 48) ++ S (TL.numL e))])
        have k3 := kk.trans (KeepH.of s3)
        have hll := s3 _ _ (kp2 _ _ n1 m1 (s2 _ _ ha1))
        have wl := says1.len
        have wb := wcF_le (show gg ≤ 4 by omega)
        refine ⟨a1, l3, _, _, rfl, rfl, hll, upd_same, ?_, fun p hp => ⟨_, _, rfl, ?_⟩⟩
        · rw [List.length_map]; exact le_line (by show ws1.length + 2 ≤ _; omega)
        have s4 := same_new hp (.lst (ws1.map tx ++ [.str "^", V.str (S (List.replicate j 48) ++ S (TL.numL e))]))
        have np := (hh2.same s3).new hp
        refine ⟨ws1 ++ [[94], List.replicate j 48 ++ TL.numL e], 2, p, _, rfl, k3.trans (KeepH.of s4), (hh2.same s3).same s4, np.1, np.2, ?_, own_pow sm he says1 zeros_num zeros_is (by rw [List.length_append, List.length_replicate]; omega), by decide⟩
        rw [upd_same, List.map_append, SX.S_cat]
        rfl
      | mul t1 t2 =>
        obtain ⟨a, u, z, ea, ha, hu, hz⟩ := ht
        cases ea
        obtain ⟨gg, rfl, hok1, hok2⟩ := hok
        refine ⟨_, rfl, rfl, _, rfl, ite2 (fun z => absurd z (by show ¬ decide (V.str ("*" : Str) = V.str ("x" : Str)) = true; decide +kernel)) (fun _ => ?_)⟩
        refine ⟨_, rfl, rfl, _, rfl, ite2 (fun z => absurd z (by show ¬ decide (V.str ("*" : Str) = V.str ("n" : Str)) = true; decide +kernel)) (fun _ => ?_)⟩
        refine ⟨_, rfl, rfl, _, rfl, ite2 (fun z => absurd z (by show ¬ decide (V.str ("*" : Str) = V.str ("^" : Str)) = true; decide +kernel)) (fun _ => ?_)⟩
        refine ⟨_, rfl, rfl, _, rfl, ite2 (fun _ => ?_) (fun z => absurd (by show decide (V.str ("*" : Str) = V.str ("*" : Str)) = true; decide +kernel) z)⟩
        refine ⟨_, rfl, _, rfl, a0, _, 1, _, rfl, rfl, SqT.of ha, rfl, d, g, u, t1, gg, 1, rfl, hu, hok1, by omega, by omega, sm.mul.1, by decide, hh, fun a1 H1 ws1 kp1 hh1 n1 m1 ha1 says1 => ?_⟩
        have ha1' := kp1 _ _ (hh.tup ha).1 (hh.tup ha).2 ha
        refine ⟨(by decide : 1 ≤ sizeLine), fun l hl => ?_⟩
        have s2 := same_new hl (.lst [.str "*"])
        have wl := says1.len
        have wb := wcF_le (show gg ≤ 4 by omega)
        refine ⟨a1, l, _, _, rfl, rfl, s2 _ _ ha1, upd_same, ?_, fun p hp => ?_⟩
        · rw [List.length_map]; exact le_line (by show ws1.length + 1 ≤ _; omega)
        have s3 := s2.trans (same_new hp (.lst (ws1.map tx ++ [.str "*"])))
        have np := (hh1.same s2).new hp
        have hp3 : (upd (upd H1 l (.lst [.str "*"])) p (.lst (ws1.map tx ++ [.str "*"]))) p = some (.lst ((ws1 ++ [[42]]).map tx)) := by
          rw [upd_same, List.map_append]; rfl
        generalize (upd (upd H1 l (.lst [.str "*"])) p (.lst (ws1.map tx ++ [.str "*"]))) = H3 at *
        have hh3 := hh1.same s3
        have k3 := kp1.trans (KeepH.of s3)
        refine ⟨_, rfl, _, rfl, a0, _, 2, _, rfl, rfl, SqT.of (s3 _ _ ha1'), rfl, d, g, z, t2, gg, 2, rfl, ((hz.keep hh kp1).mono s3), hok2, by omega, by omega, sm.mul.2, by decide, hh3, fun a4 H4 ws4 kp4 hh4 n4 m4 ha4 says4 => ?_⟩
        have wl4 := says4.len
        refine ⟨p, a4, _, _, rfl, rfl, kp4 _ _ np.1 np.2 hp3, ha4, ?_, fun p5 hp5 => ⟨_, _, rfl, ?_⟩⟩
        · rw [List.length_map, List.length_map, List.length_append]; exact le_line (by show ws1.length + 1 + ws4.length ≤ _; omega)
        have s5 := same_new hp5 (.lst ((ws1 ++ [[42]]).map tx ++ ws4.map tx))
        have np5 := hh4.new hp5
        refine ⟨ws1 ++ [[42]] ++ ws4, 1, p5, _, rfl, (k3.trans kp4).trans (KeepH.of s5), hh4.same s5, np5.1, np5.2, ?_, own_mul sm says1 says4, by decide⟩
        rw [upd_same, map2 (ws1 ++ [[42]]) _]
      | bin o t1 t2 =>
        obtain ⟨a, u, z, ea, ha, hu, hz⟩ := ht
        cases ea
        obtain ⟨gg, rfl, hok1, hok2⟩ := hok
        have wb := wcF_le (show gg ≤ 4 by omega)
        cases o with
        | add =>
          refine ⟨_, rfl, rfl, _, rfl, ite2 (fun z => absurd z (by show ¬ decide (V.str ("+" : Str) = V.str ("x" : Str)) = true; decide +kernel)) (fun _ => ?_)⟩
          refine ⟨_, rfl, rfl, _, rfl, ite2 (fun z => absurd z (by show ¬ decide (V.str ("+" : Str) = V.str ("n" : Str)) = true; decide +kernel)) (fun _ => ?_)⟩
          refine ⟨_, rfl, rfl, _, rfl, ite2 (fun z => absurd z (by show ¬ decide (V.str ("+" : Str) = V.str ("^" : Str)) = true; decide +kernel)) (fun _ => ?_)⟩
          refine ⟨_, rfl, rfl, _, rfl, ite2 (fun z => absurd z (by show ¬ decide (V.str ("+" : Str) = V.str ("*" : Str)) = true; decide +kernel)) (fun _ => ?_)⟩
          refine ⟨_, rfl, rfl, _, rfl, ite2 (fun z => absurd z (by show ¬ decide (V.str ("+" : Str) = V.str ("_" : Str)) = true; decide +kernel)) (fun _ => ?_)⟩
          refine ⟨_, rfl, _, rfl, a0, _, 1, _, rfl, rfl, SqT.of ha, rfl, d, g, u, t1, gg, 0, rfl, hu, hok1, by omega, by omega, sm.bin.1, by decide, hh, fun a1 H1 ws1 kp1 hh1 n1 m1 ha1 says1 => ?_⟩
          have ha1' := kp1 _ _ (hh.tup ha).1 (hh.tup ha).2 ha
          refine ⟨_, rfl, (by decide : 1 ≤ sizeLine), fun l hl => ?_⟩
          have s2 := same_new hl (.lst [.str (T.bin .add t1 t2).tag])
          have wl := says1.len
          refine ⟨a1, l, _, _, rfl, rfl, s2 _ _ ha1, upd_same, ?_, fun p hp => ?_⟩
          · rw [List.length_map]; exact le_line (by show ws1.length + 1 ≤ _; omega)
          have s3 := s2.trans (same_new hp (.lst (ws1.map tx ++ [.str (T.bin .add t1 t2).tag])))
          have np := (hh1.same s2).new hp
          have hp3 : (upd (upd H1 l (.lst [.str (T.bin .add t1 t2).tag])) p (.lst (ws1.map tx ++ [.str (T.bin .add t1 t2).tag]))) p = some (.lst ((ws1 ++ [[43]]).map tx)) := by
            rw [upd_same, List.map_append]; rfl
          generalize (upd (upd H1 l (.lst [.str (T.bin .add t1 t2).tag])) p (.lst (ws1.map tx ++ [.str (T.bin .add t1 t2).tag]))) = H3 at *
          have hh3 := hh1.same s3
          have k3 := kp1.trans (KeepH.of s3)
          refine ⟨_, rfl, _, rfl, a0, _, 2, _, rfl, rfl, SqT.of (s3 _ _ ha1'), rfl, d, g, z, t2, gg, 1, rfl, ((hz.keep hh kp1).mono s3), hok2, by omega, by omega, sm.bin.2, by decide, hh3, fun a4 H4 ws4 kp4 hh4 n4 m4 ha4 says4 => ?_⟩
          have wl4 := says4.len
          refine ⟨p, a4, _, _, rfl, rfl, kp4 _ _ np.1 np.2 hp3, ha4, ?_, fun p5 hp5 => ⟨_, _, rfl, ?_⟩⟩
          · rw [List.length_map, List.length_map, List.length_append]; exact le_line (by show ws1.length + 1 + ws4.length ≤ _; omega)
          have s5 := same_new hp5 (.lst ((ws1 ++ [[43]]).map tx ++ ws4.map tx))
          have np5 := hh4.new hp5
          refine ⟨ws1 ++ [[43]] ++ ws4, 0, p5, _, rfl, (k3.trans kp4).trans (KeepH.of s5), hh4.same s5, np5.1, np5.2, ?_, own_add sm says1 says4, by decide⟩
          rw [upd_same, map2 (ws1 ++ [[43]]) _]
        | sub =>
          refine ⟨_, rfl, rfl, _, rfl, ite2 (fun z => absurd z (by show ¬ decide (V.str ("-" : Str) = V.str ("x" : Str)) = true; decide +kernel)) (fun _ => ?_)⟩
          refine ⟨_, rfl, rfl, _, rfl, ite2 (fun z => absurd z (by show ¬ decide (V.str ("-" : Str) = V.str ("n" : Str)) = true; decide +kernel)) (fun _ => ?_)⟩
          refine ⟨_, rfl, rfl, _, rfl, ite2 (fun z => absurd z (by show ¬ decide (V.str ("-" : Str) = V.str ("^" : Str)) = true; decide +kernel)) (fun _ => ?_)⟩
          refine ⟨_, rfl, rfl, _, rfl, ite2 (fun z => absurd z (by show ¬ decide (V.str ("-" : Str) = V.str ("*" : Str)) = true; decide +kernel)) (fun _ => ?_)⟩
          refine ⟨_, rfl, rfl, _, rfl, ite2 (fun z => absurd z (by show ¬ decide (V.str ("-" : Str) = V.str ("_" : Str)) = true; decide +kernel)) (fun _ => ?_)⟩
          refine ⟨_, rfl, _, rfl, a0, _, 1, _, rfl, rfl, SqT.of ha, rfl, d, g, u, t1, gg, 0, rfl, hu, hok1, by omega, by omega, sm.bin.1, by decide, hh, fun a1 H1 ws1 kp1 hh1 n1 m1 ha1 says1 => ?_⟩
          have ha1' := kp1 _ _ (hh.tup ha).1 (hh.tup ha).2 ha
          refine ⟨_, rfl, (by decide : 1 ≤ sizeLine), fun l hl => ?_⟩
          have s2 := same_new hl (.lst [.str (T.bin .sub t1 t2).tag])
          have wl := says1.len
          refine ⟨a1, l, _, _, rfl, rfl, s2 _ _ ha1, upd_same, ?_, fun p hp => ?_⟩
          · rw [List.length_map]; exact le_line (by show ws1.length + 1 ≤ _; omega)
          have s3 := s2.trans (same_new hp (.lst (ws1.map tx ++ [.str (T.bin .sub t1 t2).tag])))
          have np := (hh1.same s2).new hp
          have hp3 : (upd (upd H1 l (.lst [.str (T.bin .sub t1 t2).tag])) p (.lst (ws1.map tx ++ [.str (T.bin .sub t1 t2).tag]))) p = some (.lst ((ws1 ++ [[45]]).map tx)) := by
            rw [upd_same, List.map_append]; rfl
          generalize (upd (upd H1 l (.lst [.str (T.bin .sub t1 t2).tag])) p (.lst (ws1.map tx ++ [.str (T.bin .sub t1 t2).tag]))) = H3 at *
          have hh3 := hh1.same s3
          have k3 := kp1.trans (KeepH.of s3)
          refine ⟨_, rfl, _, rfl, a0, _, 2, _, rfl, rfl, SqT.of (s3 _ _ ha1'), rfl, d, g, z, t2, gg, 1, rfl, ((hz.keep hh kp1).mono s3), hok2, by omega, by omega, sm.bin.2, by decide, hh3, fun a4 H4 ws4 kp4 hh4 n4 m4 ha4 says4 => ?_⟩
          have wl4 := says4.len
          refine ⟨p, a4, _, _, rfl, rfl, kp4 _ _ np.1 np.2 hp3, ha4, ?_, fun p5 hp5 => ⟨_, _, rfl, ?_⟩⟩
          · rw [List.length_map, List.length_map, List.length_append]; exact le_line (by show ws1.length + 1 + ws4.length ≤ _; omega)
          have s5 := same_new hp5 (.lst ((ws1 ++ [[45]]).map tx ++ ws4.map tx))
          have np5 := hh4.new hp5
          refine ⟨ws1 ++ [[45]] ++ ws4, 0, p5, _, rfl, (k3.trans kp4).trans (KeepH.of s5), hh4.same s5, np5.1, np5.2, ?_, own_sub sm says1 says4, by decide⟩
          rw [upd_same, map2 (ws1 ++ [[45]]) _]
        | und =>
          refine ⟨_, rfl, rfl, _, rfl, ite2 (fun z => absurd z (by show ¬ decide (V.str ("_" : Str) = V.str ("x" : Str)) = true; decide +kernel)) (fun _ => ?_)⟩
          refine ⟨_, rfl, rfl, _, rfl, ite2 (fun z => absurd z (by show ¬ decide (V.str ("_" : Str) = V.str ("n" : Str)) = true; decide +kernel)) (fun _ => ?_)⟩
          refine ⟨_, rfl, rfl, _, rfl, ite2 (fun z => absurd z (by show ¬ decide (V.str ("_" : Str) = V.str ("^" : Str)) = true; decide +kernel)) (fun _ => ?_)⟩
          refine ⟨_, rfl, rfl, _, rfl, ite2 (fun z => absurd z (by show ¬ decide (V.str ("_" : Str) = V.str ("*" : Str)) = true; decide +kernel)) (fun _ => ?_)⟩
          refine ⟨_, rfl, rfl, _, rfl, ite2 (fun _ => ?_) (fun z => absurd (by show decide (V.str ("_" : Str) = V.str ("_" : Str)) = true; decide +kernel) z)⟩
          refine ⟨(by decide : 1 ≤ sizeLine), fun l0 hl0 => ?_⟩
          have s0 := same_new hl0 (.lst [.str "-"])
          have nl0 := hh.new hl0
          refine ⟨_, rfl, _, rfl, a0, _, 1, _, rfl, rfl, SqT.of (s0 _ _ ha), rfl, d, g, u, t1, gg, 1, rfl, (hu.mono s0), hok1, by omega, by omega, sm.bin.1, by decide, (hh.same s0), fun a1 H1 ws1 kp1 hh1 n1 m1 ha1 says1 => ?_⟩
          have k1 := (KeepH.of s0).trans kp1
          have ha1' := k1 _ _ (hh.tup ha).1 (hh.tup ha).2 ha
          have wl := says1.len
          refine ⟨l0, a1, _, _, rfl, rfl, kp1 _ _ nl0.1 nl0.2 upd_same, ha1, ?_, fun p0 hp0 => ?_⟩
          · rw [List.length_map]; exact le_line (by show 1 + ws1.length ≤ _; omega)
          have s1 := same_new hp0 (.lst ([.str "-"] ++ ws1.map tx))
          have hp1 : (upd H1 p0 (.lst ([.str "-"] ++ ws1.map tx))) p0 = some (.lst (([[45]] ++ ws1).map tx)) := by
            rw [upd_same]; rfl
          have hhb := hh1.same s1
          have kb := k1.trans (KeepH.of s1)
          have hab := s1 _ _ ha1'
          generalize (upd H1 p0 (.lst ([.str "-"] ++ ws1.map tx))) = Hb at *
          refine ⟨(by decide : 1 ≤ sizeLine), fun l hl => ?_⟩
          have s2 := same_new hl (.lst [.str "+"])
          refine ⟨p0, l, _, _, rfl, rfl, s2 _ _ hp1, upd_same, ?_, fun p hp => ?_⟩
          · rw [List.length_map, List.length_append]; exact le_line (by show 1 + ws1.length + 1 ≤ _; omega)
          have s3 := s2.trans (same_new hp (.lst (([[45]] ++ ws1).map tx ++ [.str "+"])))
          have np := (hhb.same s2).new hp
          have hp3 : (upd (upd Hb l (.lst [.str "+"])) p (.lst (([[45]] ++ ws1).map tx ++ [.str "+"]))) p = some (.lst (([[45]] ++ ws1 ++ [[43]]).map tx)) := by
            rw [upd_same, map2 ([[45]] ++ ws1) _]; rfl
          generalize (upd (upd Hb l (.lst [.str "+"])) p (.lst (([[45]] ++ ws1).map tx ++ [.str "+"]))) = H3 at *
          have hh3 := hhb.same s3
          have k3 := kb.trans (KeepH.of s3)
          refine ⟨_, rfl, _, rfl, a0, _, 2, _, rfl, rfl, SqT.of (s3 _ _ hab), rfl, d, g, z, t2, gg, 1, rfl, ((hz.keep hh kb).mono s3), hok2, by omega, by omega, sm.bin.2, by decide, hh3, fun a4 H4 ws4 kp4 hh4 n4 m4 ha4 says4 => ?_⟩
          have wl4 := says4.len
          refine ⟨p, a4, _, _, rfl, rfl, kp4 _ _ np.1 np.2 hp3, ha4, ?_, fun p5 hp5 => ⟨_, _, rfl, ?_⟩⟩
          · rw [List.length_map, List.length_map, List.length_append, List.length_append]; exact le_line (by show 1 + ws1.length + 1 + ws4.length ≤ _; omega)
          have s5 := same_new hp5 (.lst (([[45]] ++ ws1 ++ [[43]]).map tx ++ ws4.map tx))
          have np5 := hh4.new hp5
          refine ⟨[[45]] ++ ws1 ++ [[43]] ++ ws4, 0, p5, _, rfl, (k3.trans kp4).trans (KeepH.of s5), hh4.same s5, np5.1, np5.2, ?_, own_und sm says1 says4, by decide⟩
          rw [upd_same, map2 ([[45]] ++ ws1 ++ [[43]]) _]
    · rintro σ' H1 ⟨ws, own, a, u6, rfl, kp1, hh1, na, ng, ha, ow, how⟩
      have wl := ow.len
      have wb := wcF_le (show n ≤ 4 by omega)
      have brk : ∀ (H2 : Hp), KeepH d g H1 H2 → Hand H2 d g → binds ≤ 3 → tOp (rCat) (tOp (rCat) (fun _ H Q => (1 ≤ sizeLine) ∧ ∀ l, H l = none → Q (.ref l) (upd H l (.lst [.str "("]))) (tVar 4)) (fun _ H Q => (1 ≤ sizeLine) ∧ ∀ l, H l = none → Q (.ref l) (upd H l (.lst [.str ")"]))) [some (.ref d), some (.ref a0), some (.int binds), some (.str t.tag), some (.ref a), some (.int own), u6] H2 Q := fun H2 kp2 hh2 _ => by
        refine ⟨(by decide : 1 ≤ sizeLine), fun l hl => ?_⟩
        have s2 := same_new hl (.lst [.str "("])
        have ha2 := kp2 _ _ na ng ha
        refine ⟨_, rfl, l, a, _, _, rfl, rfl, upd_same, s2 _ _ ha2, ?_, fun p hp => ?_⟩
        · rw [List.length_map]; exact le_line (by show 1 + ws.length ≤ _; omega)
        have s3 := s2.trans (same_new hp (.lst ([.str "("] ++ ws.map tx)))
        have hp3 : (upd (upd H2 l (.lst [.str "("])) p (.lst ([.str "("] ++ ws.map tx))) p = some (.lst (([[40]] ++ ws).map tx)) := by
          rw [upd_same]; rfl
        generalize (upd (upd H2 l (.lst [.str "("])) p (.lst ([.str "("] ++ ws.map tx))) = H3 at *
        refine ⟨(by decide : 1 ≤ sizeLine), fun l2 hl2 => ?_⟩
        have s4 := same_new hl2 (.lst [.str ")"])
        refine ⟨p, l2, _, _, rfl, rfl, s4 _ _ hp3, upd_same, ?_, fun p5 hp5 => ?_⟩
        · rw [List.length_map, List.length_append]; exact le_line (by show 1 + ws.length + 1 ≤ _; omega)
        have s5 := (s3.trans s4).trans (same_new hp5 (.lst (([[40]] ++ ws).map tx ++ [.str ")"])))
        have np := (hh2.same (s3.trans s4)).new hp5
        refine q p5 _ ([40] :: (ws ++ [[41]])) ((kp1.trans kp2).trans (KeepH.of s5)) (hh2.same s5) np.1 np.2 ?_ (ow.par how hbi)
        rw [upd_same]
        show some (HO.lst (_ ++ _)) = some (HO.lst (([[40]] ++ (ws ++ [[41]])).map tx))
        rw [← List.append_assoc, map2 ([[40]] ++ ws) _]
        rfl
      refine ⟨_, rfl, _, rfl, _, _, rfl, rfl, _, rfl, ite2 (fun c => ?_) (fun c => ?_)⟩
      · exact brk H1 KeepH.refl hh1 hbi
      · have hle : binds ≤ own := by
          rcases Nat.lt_or_ge own binds with z | z
          · exact absurd (decide_eq_true (show (own : Int) < (binds : Int) by omega)) c
          · exact z
        refine ⟨_, rfl, d, g, 10, rfl, by decide, by decide, hh1, fun r H2 hr1 kp2 hh2 => ?_⟩
        refine ⟨rfl, _, rfl, ite2 (fun c2 => ?_) (fun c2 => ?_)⟩
        · exact brk H2 kp2 hh2 hbi
        · exact ⟨_, rfl, q a H2 ws (kp1.trans kp2) hh2 na ng (kp2 _ _ na ng ha) (ow.says how hle)⟩
end
end K46

/-! # The law's text -/
namespace K46
open PySem PySem.Spec PyProof.Rows L2
open SX (S)
theorem word_ends {w : Word} (h : IsWord w) : ∃ c r, w = c :: r ∧ isDig c = endsDig w := by
  rcases h with ⟨c, rfl, h1, h2⟩ | h
  · refine ⟨c, [], rfl, ?_⟩
    show isDig c = (isDig c || false)
    rw [Bool.or_false]
  · rw [h.ends]
    obtain ⟨h1, h2⟩ := h
    cases w with
    | nil => exact absurd rfl h1
    | cons c r => exact ⟨c, r, rfl, isDig_iff.mpr (h2 c (List.mem_cons_self ..))⟩
theorem word_last {w : Word} (h : IsWord w) : ∃ c, w.getLast? = some c ∧ isDig c = endsDig w := by
  rcases h with ⟨c, rfl, h1, h2⟩ | h
  · refine ⟨c, rfl, ?_⟩
    show isDig c = (isDig c || false)
    rw [Bool.or_false]
  · rw [h.ends]
    obtain ⟨h1, h2⟩ := h
    cases e : w.getLast? with
    | none => exact absurd (List.getLast?_eq_none_iff.mp e) h1
    | some c => exact ⟨c, rfl, isDig_iff.mpr (h2 c (List.mem_of_getLast? e))⟩
theorem flat_snoc (ps : List (Nat × Word)) (k : Nat) (w : Word) : flat (ps ++ [(k, w)]) = flat ps ++ List.replicate k 32 ++ w := by
  unfold flat
  rw [List.flatMap_append, List.append_assoc]
  simp
section
variable {P : Program} {w : World} {K : PySem.W.Frag} {mg : Str → Option Value} {base : Heap}
abbrev lJoin : Stmt := top 52
def spJoin : Sp := fun vs H Q _ => ∃ (d g a : Addr) (ws : List Word), vs = [.ref d, .ref a] ∧ a ≠ d ∧ a ≠ g ∧ H a = some (.lst (ws.map tx)) ∧ (∀ w ∈ ws, IsWord w ∧ w.length ≤ 40) ∧ ws.length ≤ 1000 ∧ Hand H d g ∧
  ∀ (cs : List Nat) (H' : Hp) (toks : List (Word × Nat)), KeepH d g H H' → Hand H' d g → TokR cs 0 toks → toks.map (·.1) = ws → cs.length ≤ 43 * ws.length → Q (tx cs) H'
theorem sclJoin : FnScope ["_law_hand_here", "_law_words_here", "_law_text", "_law_loose", "_law_at", "_law_both"] ["_law_hand_here", "_law_words_here"] (defScope lJoin) := ⟨rfl, rfl, rfl, by decide +kernel, rfl, by decide +kernel, by decide +kernel⟩
theorem ok_join (h : Has K mg "_law_joined" lJoin ["_law_hand_here", "_law_words_here"]) (CD : Can P w K mg base CX0 1 "_law_draw" ["_law_hand_here", "_law_many"] spDraw) (CA : Can P w K mg base CX0 2 "_law_any" ["_law_hand_here", "_law_things"] (spAny K)) (mR : mg "range" = none) (mL : mg "len" = none) :
    Can P w K mg base CX0 3 "_law_joined" ["_law_hand_here", "_law_words_here"] spJoin := by
  obtain ⟨f, fd, g, F, b⟩ := h.ex
  refine ⟨f, fd, g, F.kp, b, F.ok sclJoin (fun vs H Q E h => ?_) (fun cdv A outer s H vs Q E hr h => ?_)⟩
  · obtain ⟨d, g, a, ws, rfl, _⟩ := h
    rfl
  · obtain ⟨d, g, a, ws, rfl, na, ng, ha, hw, hl, hh, q⟩ := h
    refine ⟨_, pss_cons (ps_par (i := 2) (j := 3) (by rfl) sclJoin.nd rfl rfl (by decide) rfl rfl (pa_cons pe_str (pa_cons (pe_can CD hr pass0 (pa_cons (pv 0) (pa_cons pe_int pa_nil))) pa_nil)) (by rfl))
      (pss_cons (ps_for PassesOwn.never rfl (pi_range1 (by rfl) mR (pa_cons (pe_callB call_len_seq (by rfl) mL PySem.boot_len (pa_cons (pv 1) pa_nil)) pa_nil)) (pg_name (i := 4) sclJoin.nd rfl (Or.inl rfl))
        (C8.pss_cut (ps_if (pt_cmpR op_gt (pv 4) pe_int (nomark _))
          (C8.pss_cut (ps_set (i := 5) sclJoin.nd rfl (Or.inl rfl) (pe_and (pe_cmpR op_in_sign (pe_ix ix_str (pe_ix ix_list (pv 1) (pv 4) (fun _ _ => rfl)) pe_int (fun _ _ => rfl)) pe_str (by rfl))
            (pe_one (pe_cmpR op_in_sign (pe_ix ix_str (pe_ix ix_list (pv 1) (pe_op op_sub (pv 4) pe_int) (fun _ _ => rfl)) (pe_un un_neg pe_int) (fun _ _ => rfl)) pe_str (by rfl)))))
          (pss_one (ps_set (i := 2) sclJoin.nd rfl (Or.inl rfl) (pe_op op_add_str (pv 2) (pe_can CA hr pass0 (pa_cons (pv 0) (pa_cons (pe_ifExp (pt_val (pv 5)) (pe_lst (pa_cons pe_str (pa_cons pe_str pa_nil)))
            (pe_ix ix_list (pe_lst (pa_cons (pe_lst (pa_cons pe_str (pa_cons pe_str (pa_cons pe_str pa_nil)))) (pa_cons (pe_lst (pa_cons pe_str (pa_cons pe_str (pa_cons pe_str pa_nil)))) (pa_cons (pe_lst (pa_cons pe_str (pa_cons pe_str (pa_cons pe_str pa_nil)))) pa_nil)))) (pv 3) (fun _ _ => rfl))) pa_nil)))))) ) pss_nil)
        (pss_one (ps_set (i := 2) sclJoin.nd rfl (Or.inl rfl) (pe_op op_add_str (pv 2) (pe_ix ix_list (pv 1) (pv 4) (fun _ _ => rfl)))))))
      (pss_one (ps_ret (pv 2)))), ?_⟩
    refine ⟨_, rfl, d, g, 3, rfl, by decide, by decide, hh, fun lo H0 hlo kp0 hh0 => ⟨_, _, rfl, ?_⟩⟩
    refine ⟨_, rfl, a, _, rfl, .inl (SqL.of (kp0 _ _ na ng ha)), ws.length, by rw [List.length_map], by omega, by omega, ?_⟩
    refine for_range (lo := 0) (n := ws.length) (fun i σ H' => ∃ (ps : List (Nat × Word)) (u4 u5 : Option V), σ = [some (.ref d), some (.ref a), some (tx (flat ps)), some (.int lo), u4, u5] ∧ KeepH d g H H' ∧ Hand H' d g ∧ ps.map (·.2) = ws.take i ∧ OkP false ps ∧ (flat ps).length ≤ 43 * i)
      ⟨[], none, none, by rw [tx_nil]; rfl, kp0, hh0, rfl, trivial, Nat.zero_le _⟩ ?_ ?_
    · rintro i σ H' hi ⟨ps, u4, u5, rfl, kp1, hh1, hps, hok, hlen⟩
      have hwi : ws[i]? = some ws[i] := List.getElem?_eq_getElem hi
      have hmem : ws[i] ∈ ws := List.getElem_mem hi
      obtain ⟨hiw, hw40⟩ := hw _ hmem
      have ec : (0 : Int) + (i : Int) = (i : Int) := by omega
      have gw : ∀ j (hj : j < ws.length), (ws.map tx)[j]? = some (tx ws[j]) := fun j hj => by rw [List.getElem?_map, List.getElem?_eq_getElem hj]; rfl
      refine ⟨fun σ' H2 => ∃ (k : Nat) (u5 : Option V), σ' = [some (.ref d), some (.ref a), some (tx (flat ps ++ List.replicate k 32)), some (.int lo), some (.int (0 + (i : Int))), u5] ∧ KeepH d g H H2 ∧ Hand H2 d g ∧ k ≤ 3 ∧ ((ps.getLast?.map fun q => endsDig q.2).getD false = true → endsDig ws[i] = true → 0 < k), ?_, ?_⟩
      · refine ⟨_, rfl, _, _, rfl, rfl, _, rfl, ite2 (fun c => ?_) (fun c => ?_)⟩
        · have hi0 : 0 < i := by
            have := of_decide_eq_true c
            omega
          have ha1 := kp1 _ _ na ng ha
          obtain ⟨c1, r1, ew1, ed1⟩ := word_ends hiw
          have hi1 : i - 1 < ws.length := by omega
          obtain ⟨hpw, hp40⟩ := hw _ (List.getElem_mem hi1)
          obtain ⟨c2, el2, ed2⟩ := word_last hpw
          obtain ⟨ini, eini⟩ := List.getLast?_eq_some_iff.mp el2
          have hlast : (ps.getLast?.map fun q => endsDig q.2) = some (endsDig ws[i - 1]) := by
            have e1 : (ps.getLast?.map fun q => endsDig q.2) = (ps.map (·.2)).getLast?.map endsDig := by
              rw [List.getLast?_map, Option.map_map]; rfl
            have e2 : ws.take i = ws.take (i - 1) ++ [ws[i - 1]] := by
              have := take_snoc (List.getElem?_eq_getElem hi1)
              rw [show i - 1 + 1 = i by omega] at this
              exact this
            rw [e1, hps, e2, List.getLast?_append]
            rfl
          have em1 : (0 : Int) + (i : Int) - 1 = ((i - 1 : Nat) : Int) := by omega
          refine ⟨fun σ' H2 => σ' = [some (.ref d), some (.ref a), some (tx (flat ps)), some (.int lo), some (.int (0 + (i : Int))), some (.bl (endsDig ws[i] && endsDig ws[i - 1]))] ∧ H2 = H', ?_, ?_⟩
          · refine ⟨_, rfl, _, rfl, a, _, _, tx ws[i], rfl, rfl, SqL.of ha1, by rw [ec]; exact atI_nat (gw i hi), S ws[i], 0, c1, rfl, rfl, by rw [SX.S_len]; exact le_line (by omega), by rw [ew1]; exact atI_nat (j := 0) rfl, c1, _, rfl, rfl, _, rfl, ?_⟩
            rw [figures_mem, ed1]
            cases endsDig ws[i] with
            | false => exact iteF ⟨rfl, rfl⟩
            | true =>
              refine iteT ?_
              refine ⟨_, rfl, _, rfl, _, _, rfl, rfl, a, _, _, tx ws[i - 1], rfl, rfl, SqL.of ha1, by rw [em1]; exact atI_nat (gw (i - 1) hi1), _, rfl, S ws[i - 1], -1, c2, rfl, rfl, by rw [SX.S_len]; exact le_line (by omega), by rw [eini]; exact atI_last ini c2, c2, _, rfl, rfl, ?_⟩
              rw [figures_mem, ed2]
              exact ⟨rfl, rfl⟩
          · rintro σ' H2 ⟨rfl, rfl⟩
            have put : ∀ (k : Nat) (H3 : Hp), k ≤ 3 → KeepH d g H2 H3 → Hand H3 d g → ((ps.getLast?.map fun q => endsDig q.2).getD false = true → endsDig ws[i] = true → 0 < k) → ((S (flat ps)).length + (S (List.replicate k 32)).length ≤ sizeLine) ∧
                ∃ (k2 : Nat) (u5 : Option V), [some (.ref d), some (.ref a), some (V.str (S (flat ps) ++ S (List.replicate k 32))), some (.int lo), some (.int (0 + (i : Int))), some (.bl (endsDig ws[i] && endsDig ws[i - 1]))] = [some (.ref d), some (.ref a), some (tx (flat ps ++ List.replicate k2 32)), some (.int lo), some (.int (0 + (i : Int))), u5] ∧ KeepH d g H H3 ∧ Hand H3 d g ∧ k2 ≤ 3 ∧
                  ((ps.getLast?.map fun q => endsDig q.2).getD false = true → endsDig ws[i] = true → 0 < k2) := fun k H3 hk kp3 hh3 hc => by
              refine ⟨?_, k, some (.bl (endsDig ws[i] && endsDig ws[i - 1])), ?_, kp1.trans kp3, hh3, hk, hc⟩
              · rw [SX.S_len, SX.S_len, List.length_replicate]; exact le_line (by omega)
              · rw [str_cat]
            cases hb : (endsDig ws[i] && endsDig ws[i - 1]) with
            | true =>
              rw [hb] at put
              refine ⟨_, rfl, _, rfl, _, rfl, true, rfl, (by decide : 2 ≤ sizeLine), fun l hl => ?_⟩
              have s3 := same_new hl (.lst [.str " ", .str "  "])
              have nl := hh1.new hl
              refine ⟨d, g, l, _, rfl, nl.1, nl.2, upd_same, (by decide : 0 < 2), (by decide : 2 ≤ 1000), hh1.same s3, fun ii y H4 hy kp4 hh4 => ?_⟩
              obtain ⟨k, rfl, hk, hk0⟩ : ∃ k : Nat, y = tx (List.replicate k 32) ∧ k ≤ 3 ∧ 0 < k := by
                have := List.mem_of_getElem? hy
                simp only [List.mem_cons, List.not_mem_nil, or_false] at this
                rcases this with e | e
                · exact ⟨1, by rw [e]; exact congrArg V.str (by decide +kernel), by decide, by decide⟩
                · exact ⟨2, by rw [e]; exact congrArg V.str (by decide +kernel), by decide, by decide⟩
              obtain ⟨p1, p2⟩ := put k H4 hk ((KeepH.of s3).trans kp4) hh4 fun _ _ => hk0
              exact ⟨_, _, rfl, rfl, p1, p2⟩
            | false =>
              rw [hb] at put
              have hno : (ps.getLast?.map fun q => endsDig q.2).getD false = true → endsDig ws[i] = true → False := fun z1 z2 => by
                rw [hlast] at z1
                have z1' : endsDig ws[i - 1] = true := z1
                rw [z2, z1'] at hb
                cases hb
              refine ⟨_, rfl, _, rfl, _, rfl, false, rfl, (by decide : 3 ≤ sizeLine), fun l1 hl1 => ⟨(by decide : 3 ≤ sizeLine), fun l2 hl2 => ⟨(by decide : 3 ≤ sizeLine), fun l3 hl3 => ⟨(by decide : 3 ≤ sizeLine), fun l4 hl4 => ?_⟩⟩⟩⟩
              have s1 := same_new hl1 (.lst [.str "", .str "", .str ""])
              have s2 := same_new hl2 (.lst [.str "", .str " ", .str ""])
              have s3 := same_new hl3 (.lst [.str " ", .str "   ", .str ""])
              have s4 := same_new hl4 (.lst [.ref l1, .ref l2, .ref l3])
              have hh2 := hh1.same s1
              have hh3 := hh2.same s2
              have hh4 := hh3.same s3
              have sAll := ((s1.trans s2).trans s3).trans s4
              have n1 := hh1.new hl1
              have n2 := hh2.new hl2
              have n3 := hh3.new hl3
              have pick : ∀ (ll : Addr) (xs : List V), ll ≠ d → ll ≠ g → xs.length = 3 → (∀ y ∈ xs, ∃ k : Nat, y = tx (List.replicate k 32) ∧ k ≤ 3) → (upd (upd (upd (upd H2 l1 (.lst [.str "", .str "", .str ""])) l2 (.lst [.str "", .str " ", .str ""])) l3 (.lst [.str " ", .str "   ", .str ""])) l4 (.lst [.ref l1, .ref l2, .ref l3])) ll = some (.lst xs) →
                  ∀ Q' : VK, (∀ (k : Nat) (H6 : Hp), k ≤ 3 → KeepH d g H2 H6 → Hand H6 d g → Q' (tx (List.replicate k 32)) H6) → spAny K [.ref d, .ref ll] (upd (upd (upd (upd H2 l1 (.lst [.str "", .str "", .str ""])) l2 (.lst [.str "", .str " ", .str ""])) l3 (.lst [.str " ", .str "   ", .str ""])) l4 (.lst [.ref l1, .ref l2, .ref l3])) Q' L2.E0 := fun ll xs m1 m2 hx3 hxs hll Q' k' =>
                ⟨d, g, ll, xs, rfl, m1, m2, hll, by omega, by omega, hh4.same s4, fun ii y H6 hy kp6 hh6 => by
                  obtain ⟨k, rfl, hk⟩ := hxs y (List.mem_of_getElem? hy)
                  exact k' k H6 hk ((KeepH.of sAll).trans kp6) hh6⟩
              have b0 : V.str ("" : Str) = tx (List.replicate 0 32) := congrArg V.str (by decide +kernel)
              have b1 : V.str (" " : Str) = tx (List.replicate 1 32) := congrArg V.str (by decide +kernel)
              have b3 : V.str ("   " : Str) = tx (List.replicate 3 32) := congrArg V.str (by decide +kernel)
              have e1 : (upd (upd (upd (upd H2 l1 (.lst [.str "", .str "", .str ""])) l2 (.lst [.str "", .str " ", .str ""])) l3 (.lst [.str " ", .str "   ", .str ""])) l4 (.lst [.ref l1, .ref l2, .ref l3])) l1 = some (.lst [.str "", .str "", .str ""]) := s4 _ _ (s3 _ _ (s2 _ _ upd_same))
              have e2 : (upd (upd (upd (upd H2 l1 (.lst [.str "", .str "", .str ""])) l2 (.lst [.str "", .str " ", .str ""])) l3 (.lst [.str " ", .str "   ", .str ""])) l4 (.lst [.ref l1, .ref l2, .ref l3])) l2 = some (.lst [.str "", .str " ", .str ""]) := s4 _ _ (s3 _ _ upd_same)
              have e3 : (upd (upd (upd (upd H2 l1 (.lst [.str "", .str "", .str ""])) l2 (.lst [.str "", .str " ", .str ""])) l3 (.lst [.str " ", .str "   ", .str ""])) l4 (.lst [.ref l1, .ref l2, .ref l3])) l3 = some (.lst [.str " ", .str "   ", .str ""]) := s4 _ _ upd_same
              rcases (show lo = 0 ∨ lo = 1 ∨ lo = 2 by omega) with e | e | e <;> subst e
              · refine ⟨_, rfl, l4, _, _, .ref l1, rfl, rfl, SqL.of upd_same, atI_nat (j := 0) rfl, pick l1 [.str "", .str "", .str ""] n1.1 n1.2 rfl (fun y hy => ?_) e1 _ fun k H6 hk kp6 hh6 => ?_⟩
                · simp only [List.mem_cons, List.not_mem_nil, or_false] at hy
                  rcases hy with e | e | e
                  · exact ⟨0, e.trans b0, by decide⟩
                  · exact ⟨0, e.trans b0, by decide⟩
                  · exact ⟨0, e.trans b0, by decide⟩
                · obtain ⟨p1, p2⟩ := put k H6 hk kp6 hh6 fun z1 z2 => (hno z1 z2).elim
                  exact ⟨_, _, rfl, rfl, p1, p2⟩
              · refine ⟨_, rfl, l4, _, _, .ref l2, rfl, rfl, SqL.of upd_same, atI_nat (j := 1) rfl, pick l2 [.str "", .str " ", .str ""] n2.1 n2.2 rfl (fun y hy => ?_) e2 _ fun k H6 hk kp6 hh6 => ?_⟩
                · simp only [List.mem_cons, List.not_mem_nil, or_false] at hy
                  rcases hy with e | e | e
                  · exact ⟨0, e.trans b0, by decide⟩
                  · exact ⟨1, e.trans b1, by decide⟩
                  · exact ⟨0, e.trans b0, by decide⟩
                · obtain ⟨p1, p2⟩ := put k H6 hk kp6 hh6 fun z1 z2 => (hno z1 z2).elim
                  exact ⟨_, _, rfl, rfl, p1, p2⟩
              · refine ⟨_, rfl, l4, _, _, .ref l3, rfl, rfl, SqL.of upd_same, atI_nat (j := 2) rfl, pick l3 [.str " ", .str "   ", .str ""] n3.1 n3.2 rfl (fun y hy => ?_) e3 _ fun k H6 hk kp6 hh6 => ?_⟩
                · simp only [List.mem_cons, List.not_mem_nil, or_false] at hy
                  rcases hy with e | e | e
                  · exact ⟨1, e.trans b1, by decide⟩
                  · exact ⟨3, e.trans b3, by decide⟩
                  · exact ⟨0, e.trans b0, by decide⟩
                · obtain ⟨p1, p2⟩ := put k H6 hk kp6 hh6 fun z1 z2 => (hno z1 z2).elim
                  exact ⟨_, _, rfl, rfl, p1, p2⟩
        · have hi0 : i = 0 := by
            rcases Nat.eq_zero_or_pos i with e | e
            · exact e
            · exact absurd (decide_eq_true (show (0 : Int) < 0 + (i : Int) by omega)) c
          refine ⟨0, u5, ?_, kp1, hh1, by decide, fun z => ?_⟩
          · rw [List.replicate_zero, List.append_nil]; rfl
          · rw [hi0, List.take_zero] at hps
            rw [List.map_eq_nil_iff.mp hps] at z
            cases z
      · rintro σ' H2 ⟨k, u5, rfl, kp2, hh2, hk, hcond⟩
        refine ⟨_, rfl, _, rfl, _, rfl, a, _, _, tx ws[i], rfl, rfl, SqL.of (kp2 _ _ na ng ha), by rw [ec]; exact atI_nat (gw i hi), _, _, rfl, rfl, ?_, ?_⟩
        · rw [SX.S_len, SX.S_len, List.length_append, List.length_replicate]; exact le_line (by omega)
        · refine ⟨ps ++ [(k, ws[i])], some (.int (0 + (i : Int))), u5, ?_, kp2, hh2, ?_, okP_snoc hok hiw hcond, ?_⟩
          · rw [flat_snoc, ← str_cat (flat ps ++ List.replicate k 32) ws[i]]; rfl
          · rw [List.map_append, hps, take_snoc hwi]; rfl
          · rw [flat_snoc, List.length_append, List.length_append, List.length_replicate]; omega
    · rintro σ H' ⟨ps, u4, u5, rfl, kp1, hh1, hps, hok, hlen⟩
      rw [List.take_length] at hps
      obtain ⟨toks, t1, t2⟩ := tok_flat 0 hok
      exact ⟨_, rfl, q (flat ps) H' toks kp1 hh1 t1 (by rw [t2, hps]) hlen⟩
end
end K46

/-! # The law reads -/
namespace K46
open PySem PySem.Spec PyProof.Rows L2
open SX (S)
structure InsF (K : PySem.W.Frag) (C CP : Addr) : Prop where
  cl : Cls K C
  ha : PySem.W.findIn K (.ref C) "__class__" = some (some (.builtin "object.__class__"))
  hn : PySem.W.specialIn K (.builtin "object.__class__") "__get__" = some (some (.builtin "getset_descriptor.__get__"))
  ht : PySem.W.takesIn K (.builtin "object.__class__") = some true
  hm : PySem.W.mroIn K C (.type "object") = some true
  kit : PySem.W.kitOne K (.ref C) (.ref CP) = some true
/-- what _law_read answers -/
def ReadAt (K : PySem.W.Frag) (H : Hp) (a : Addr) : Option Poly → Prop
  | some t => TermsAt K H a t
  | none => H a = some (.tup [.str "bad", .str "great"])
section
variable {P : Program} {w : World} {K : PySem.W.Frag} {mg : Str → Option Value} {base : Heap} {C CB CP : Addr}
abbrev lRead : Stmt := top 56
def spLRead (K : PySem.W.Frag) : Sp := fun vs H Q _ => ∃ (cs : List Nat) (ws : List (Word × Nat)) (n : Nat) (v : Option Poly) (b : Nat), vs = [tx cs] ∧ cs.length ≤ 100000 ∧ TokR cs 0 ws ∧ Rd .sum n (ws.map (·.1)) v b ∧ b ≤ 100000 ∧
  ∀ (a : Addr) (H' : Hp), Same H H' → ReadAt K H' a (if 20 < n then none else v) → Q (.ref a) H'
theorem sclRead : FnScope ["_law_text", "_law_found", "e"] ["_law_text"] (defScope lRead) := ⟨rfl, rfl, rfl, by decide +kernel, rfl, by decide +kernel, by decide +kernel⟩
theorem ok_lread {fI : Addr} (h : Has K mg "_law_read" lRead ["_law_text"]) (CR : Can P w K mg base (L2.CX P w) 90 "read_poly" ["text"] (spRead K C CB)) (T : PySem.BadX.BadTxt P K CB fI) (gB : mg "BadText" = some (.ref CB)) (te : PySem.W.exmOne K (.ref CB) (.ref CB) = some true)
    (xf : XfC K CB) (I : InsF K C CP) (gP : mg "Poly" = some (.ref CP)) (ni : mg "isinstance" = none) (nT : NoAttr K C "terms") : Can P w K mg base (L2.CX P w) 91 "_law_read" ["_law_text"] (spLRead K) := by
  obtain ⟨f, fd, g, F, b⟩ := h.ex
  obtain ⟨fr, fdr, gr, kr, br, FR⟩ := CR
  refine ⟨f, fd, g, F.kp, b, F.okX sclRead (fun vs H Q E h => ?_) (fun cdv A outer s H vs Q E hr h => ?_)⟩
  · obtain ⟨cs, ws, n, v, b, rfl, _⟩ := h
    rfl
  · obtain ⟨cs, ws, n, v, b, rfl, hl, ht, hrd, hb, q⟩ := h
    refine ⟨_, pss_cons (ps_try_as (i := 2) (tb := fun W => tAsg (tCallS (spRead K C CB) (WE W) (tCons (tVar 0) tNil)) (gName 1)) (ts := fun a cls d => tRet (tTup (tCons (tC (.str "bad")) (tCons (tXf a cls d CB "at" (tVar 2)) tNil)))) (Wout := fun _ _ _ _ => False) rfl rfl sclRead.nd rfl rfl ⟨rfl, by decide, Or.inl gB⟩ takes0
        (fun W pn xe tk _ => pss_one (ps_set (i := 1) sclRead.nd rfl (Or.inl rfl) (by exact (pe_callS FR hr rfl gr kr br (fun σ => passAt tk σ) (by exact (pa_cons (pv 0) pa_nil))))))
        (fun a oe cls d pn hz hf => pss_one (ps_ret (by exact (pe_tup (pa_cons pe_str (pa_cons (pe_xf xf T.noA hz hf (pv 2)) pa_nil)))))))
      (pss_one (ps_ret (pe_ifExp (pt_val (pe_callB call_isi (by rfl) ni (by decide +kernel) (pa_cons (pv 1) (pa_cons (pe_glob (v := .ref CP) (by rfl) gP rfl) pa_nil)))) (pe_fld (pv 1) rfl) (pe_tup (pa_cons pe_str (pa_cons pe_non pa_nil)))))), ?_⟩
    refine ⟨_, rfl, cs, ws, n, v, b, rfl, hl, ht, hrd, hb, ?_⟩
    cases ho : (if 20 < n then none else v) with
    | none =>
      rw [ho] at q
      intro d H1 s1 hd
      refine ⟨true, te, fun _ a na => ?_, fun z => Bool.noConfusion z⟩
      refine ⟨_, rfl, rfl, rfl, d, _, _, rfl, hd, rfl, (by decide : 2 ≤ sizeLine), fun p hp => ?_⟩
      exact q p _ (s1.trans (same_new hp _)) upd_same
    | some t =>
      rw [ho] at q
      intro v' H1 s1 hv
      obtain ⟨a1, dx1, t1, rfl, h1, ht1⟩ := hv
      refine ⟨_, rfl, .ref a1, .ref CP, .ref C, .ref CP, true, rfl, .own CP, .base (.ins h1 I.cl I.ha I.hn I.ht I.hm), I.kit, true, rfl, ?_⟩
      exact ⟨_, rfl, a1, C, dx1, _, _, rfl, h1, I.cl, nT, rfl, q t1 H1 s1 ht1⟩
end
end K46

/-! # The law's great ones -/
namespace K46
open PySem PySem.Spec PyProof.Rows L2
open SX (S)
def DueAt (H : Hp) (due : V) : Option Poly → Prop
  | none => due = .non
  | some t => PolyD H due t
theorem PolyD.keep {H H' : Hp} {v : V} {t : Poly} {d g : Addr} (h : PolyD H v t) (hh : Hand H d g) (k : KeepH d g H H') : PolyD H' v t := by
  obtain ⟨a, kv, e, h1, h2⟩ := h
  exact ⟨a, kv, e, k _ _ (hh.dT h1).1 (hh.dT h1).2 h1, h2⟩
def lineF : Nat → Poly
  | 0 => pconst 1
  | n + 1 => padd (lineF n) (pvar n)
theorem lineF_len : ∀ n, (lineF n).length ≤ n + 1
  | 0 => length_pconst 1
  | n + 1 => by
    have h1 := lineF_len n
    have h2 := length_padd (lineF n) (pvar n)
    have h3 : (pvar n).length = 1 := rfl
    show (padd (lineF n) (pvar n)).length ≤ _
    omega
theorem lineF_ca : ∀ n, Canon (lineF n)
  | 0 => canon_pconst 1
  | n + 1 => canon_padd (lineF_ca n) (canon_pvar n)
theorem fits_line : Fits 10 lawLine := by
  have this : decide (norm1 lawLine < 2 ^ 10) = true := by decide +kernel
  unfold Fits
  exact of_decide_eq_true this
/-- one written text -/
theorem num_str (u : Nat) : V.str (toString (u : Int)) = tx (TL.numL u) := congrArg V.str (SX.num_S u)
theorem num_log {u : Nat} (h : u < 1000) : ((u : Int)).natAbs.log2 < 1920 := by
  rw [Int.natAbs_natCast]
  exact log_le (Nat.lt_trans h (by decide))
theorem S_small {a b : List Nat} (h : a.length + b.length ≤ 100000) : (S a).length + (S b).length ≤ sizeLine := by
  rw [SX.S_len, SX.S_len]; exact le_line (by omega)
theorem pvar_small (k : Nat) {n : Nat} : ∀ j, j ≤ n → (lpow (pvar k) j).length ≤ 900 := fun j _ => by rw [lpow_pvar]; exact (by decide : 1 ≤ 900)
section
variable {P : Program} {w : World} {K : PySem.W.Frag} {mg : Str → Option Value} {base : Heap}
abbrev lGreat : Stmt := top 53
def spGreat : Sp := fun vs H Q _ => ∃ (d g : Addr), vs = [.ref d] ∧ Hand H d g ∧ ∀ (a : Addr) (H' : Hp) (cs : List Nat) (due : V) (o : Option Poly), KeepH d g H H' → Hand H' d g → H' a = some (.tup [tx cs, due]) → GreatOk cs o → DueAt H' due o → Q (.ref a) H'
abbrev nmGreat : List Str := ["_law_hand_here", "_law_kind", "_law_k", "_law_many", "_law_name", "_law_x", "_law_text", "_law_line", "_law_other", "_law_parts", "_law_found", "_law_number", "_law_powers", "_law_figures", "_law_deep"]
theorem sclGreat : FnScope nmGreat ["_law_hand_here"] (defScope lGreat) := ⟨rfl, rfl, rfl, by decide +kernel, rfl, by decide +kernel, by decide +kernel⟩
structure GlGreat (mg : Str → Option Value) : Prop where
  str : mg "str" = none
  range : mg "range" = none
  len : mg "len" = none
  int : mg "int" = none
theorem ok_great (h : Has K mg "_law_great" lGreat ["_law_hand_here"]) (CD : Can P w K mg base CX0 1 "_law_draw" ["_law_hand_here", "_law_many"] spDraw) (CA : Can P w K mg base CX0 2 "_law_any" ["_law_hand_here", "_law_things"] (spAny K)) (CU : Can P w K mg base CX0 1 "_law_unknown" ["_law_k"] spLUnk) (CC : Can P w K mg base CX0 1 "_law_constant" ["_law_number"] spLConst)
    (CW : Can P w K mg base CX0 2 "_law_power" ["_law_one", "_law_many"] spLPow) (CP : Can P w K mg base CX0 1 "_law_plus" ["_law_one", "_law_other", "_law_by"] spLPlus) (gl : GlGreat mg) : Can P w K mg base CX0 3 "_law_great" ["_law_hand_here"] spGreat := by
  obtain ⟨f, fd, g, F, b⟩ := h.ex
  refine ⟨f, fd, g, F.kp, b, F.ok sclGreat (fun vs H Q E h => ?_) (fun cdv A outer s H vs Q E hr h => ?_)⟩
  · obtain ⟨d, g, rfl, _⟩ := h
    rfl
  · obtain ⟨d, g, rfl, hh, q⟩ := h
    have hu := hu_of hr
    refine ⟨_, pss_cons (ps_par3 (i := 1) (j := 2) (l := 3) (by rfl) sclGreat.nd rfl rfl rfl (by decide) (by decide) (by decide) rfl rfl rfl (pa_cons (pe_can CD hr pass0 (pa_cons (pv 0) (pa_cons pe_int pa_nil))) (pa_cons (pe_can CD hr pass0 (pa_cons (pv 0) (pa_cons pe_int pa_nil))) (pa_cons (pe_op op_add pe_int (pe_can CD hr pass0 (pa_cons (pv 0) (pa_cons pe_int pa_nil)))) pa_nil))) (by rfl))
      (pss_cons (ps_par (i := 4) (j := 5) (by rfl) sclGreat.nd rfl rfl (by decide) rfl rfl (pa_cons (pe_ix ix_str pe_str (pv 2) (fun _ _ => rfl)) (pa_cons (pe_can CU hr pass0 (pa_cons (pv 2) pa_nil)) pa_nil)) (by rfl))
      -- 0
      (pss_cons (ps_if (pt_cmpR op_eq (pv 1) pe_int (nomark _)) (pss_one (ps_ret (pe_tup (pa_cons (pe_op op_add_str (pe_op op_add_str (pv 4) pe_str) (pe_callTy call_str_int (by rfl) gl.str (by decide +kernel) (pa_cons (pv 3) pa_nil)))
        (pa_cons (pe_ifExp (pt_cmpR op_gt (pv 3) pe_int (nomark _)) pe_non (pe_can CW hr pass0 (pa_cons (pv 5) (pa_cons (pv 3) pa_nil)))) pa_nil))))) pss_nil)
      -- 1
      (pss_cons (ps_if (pt_cmpR op_eq (pv 1) pe_int (nomark _)) (pss_cons (ps_set (i := 6) sclGreat.nd rfl (Or.inl rfl) (pe_op op_add_str (pe_op op_add_str (pe_op op_add_str (pe_op op_add_str (pe_op op_add_str (pv 4) pe_str) (pe_callTy call_str_int (by rfl) gl.str (by decide +kernel) (pa_cons (pe_op op_sub (pv 3) pe_int) pa_nil))) pe_str) (pv 4)) pe_str))
        (pss_one (ps_ret (pe_tup (pa_cons (pv 6) (pa_cons (pe_ifExp (pt_cmpR op_gt (pv 3) pe_int (nomark _)) pe_non (pe_can CP hr pass0 (pa_cons (pe_can CW hr pass0 (pa_cons (pv 5) (pa_cons (pe_op op_sub (pv 3) pe_int) pa_nil))) (pa_cons (pe_can CW hr pass0 (pa_cons (pv 5) (pa_cons (pv 3) pa_nil))) (pa_cons pe_int pa_nil))))) pa_nil)))))) pss_nil)
      -- 2
      (pss_cons (ps_if (pt_cmpR op_eq (pv 1) pe_int (nomark _)) (pss_cons (ps_set (i := 3) sclGreat.nd rfl (Or.inl rfl) (pe_op op_add pe_int (pe_can CD hr pass0 (pa_cons (pv 0) (pa_cons pe_int pa_nil)))))
        (pss_cons (ps_set (i := 7) sclGreat.nd rfl (Or.inl rfl) (pe_can CC hr pass0 (pa_cons pe_int pa_nil)))
        (pss_cons (ps_for PassesOwn.never rfl (pi_range1 (by rfl) gl.range (pa_cons pe_int pa_nil)) (pg_name (i := 8) sclGreat.nd rfl (Or.inl rfl))
          (pss_one (ps_set (i := 7) sclGreat.nd rfl (Or.inl rfl) (pe_can CP hr pass0 (pa_cons (pv 7) (pa_cons (pe_can CU hr pass0 (pa_cons (pv 8) pa_nil)) (pa_cons pe_int pa_nil)))))))
        (pss_one (ps_ret (pe_tup (pa_cons (pe_op op_add_str pe_str (pe_callTy call_str_int (by rfl) gl.str (by decide +kernel) (pa_cons (pv 3) pa_nil))) (pa_cons (pe_ifExp (pt_cmpR op_gt (pv 3) pe_int (nomark _)) pe_non (pe_can CW hr pass0 (pa_cons (pv 7) (pa_cons (pv 3) pa_nil)))) pa_nil)))))))) pss_nil)
      -- 3
      (pss_cons (ps_if (pt_cmpR op_eq (pv 1) pe_int (nomark _)) (pss_cons (ps_set (i := 3) sclGreat.nd rfl (Or.inl rfl) (pe_op op_add pe_int (pe_can CD hr pass0 (pa_cons (pv 0) (pa_cons pe_int pa_nil)))))
        (pss_cons (ps_par (i := 9) (j := 10) (by rfl) sclGreat.nd rfl rfl (by decide) rfl rfl (pa_cons (pe_lst pa_nil) (pa_cons pe_dnewT pa_nil)) (by rfl))
        (pss_cons (ps_for PassesOwn.never rfl (pi_range1 (by rfl) gl.range (pa_cons (pv 3) pa_nil)) (pg_name (i := 11) sclGreat.nd rfl (Or.inl rfl))
          (pss_cons (ps_set (i := 12) sclGreat.nd rfl (Or.inl rfl) (pe_tup (pa_cons (pe_op op_fdivN (pv 11) pe_int) (pa_cons (pe_op op_mod (pe_callTy call_int1 (by rfl) gl.int (by decide +kernel) (pa_cons (pv 11) pa_nil)) pe_int) (pa_cons pe_int (pa_cons pe_int pa_nil))))))
          (pss_cons (ps_expr (pe_bm PySem.F.plainAttrs_list PySem.F.slot_list_append PySem.F.type_list_append mt_append (pv 9) (pa_cons (pe_op op_add_str (pe_op op_add_str (pe_op op_add_str pe_str (pe_callTy call_str_int (by rfl) gl.str (by decide +kernel) (pa_cons (pe_ix ix_tup (pv 12) pe_int (fun _ _ => rfl)) pa_nil))) pe_str)
            (pe_callTy call_str_int (by rfl) gl.str (by decide +kernel) (pa_cons (pe_ix ix_tup (pv 12) pe_int (fun _ _ => rfl)) pa_nil))) pa_nil)))
          (pss_one (ps_dput hu (pv 10) (pv 12) pe_int rfl)))))
        (pss_one (ps_ret (pe_tup (pa_cons (pe_join pe_str (pv 9)) (pa_cons (pe_ifExp (pt_cmpR op_gt (pv 3) pe_int (nomark _)) pe_non (pv 10)) pa_nil)))))))) pss_nil)
      -- 4
      (pss_cons (ps_if (pt_cmpR op_eq (pv 1) pe_int (nomark _)) (pss_cons (ps_set (i := 13) sclGreat.nd rfl (Or.inl rfl) (pe_can CA hr pass0 (pa_cons (pv 0) (pa_cons (pe_lst (pa_cons (pe_op op_add_str pe_str (pe_op op_mulS pe_str pe_int)) (pa_cons (pe_op op_mulS pe_str pe_int) (pa_cons (pe_op op_add_str (pe_op op_mulS pe_str pe_int) pe_str) (pa_cons (pe_op op_add_str (pe_op op_mulS pe_str pe_int) pe_str)
          (pa_cons (pe_op op_mulS pe_str pe_int) (pa_cons (pe_op op_mulS pe_str pe_int) pa_nil))))))) pa_nil))))
        (pss_one (ps_ret (pe_tup (pa_cons (pe_op op_add_str (pe_op op_add_str (pv 4) pe_str) (pv 13)) (pa_cons (pe_ifExp (pt_cmpR op_gt (pe_callB call_len_str (by rfl) gl.len PySem.boot_len (pa_cons (pv 13) pa_nil)) pe_int (nomark _)) pe_non
          (pe_can CP hr pass0 (pa_cons (pv 5) (pa_cons (pe_can CC hr pass0 (pa_cons (pe_callTy call_int_str (by rfl) gl.int (by decide +kernel) (pa_cons (pv 13) pa_nil)) pa_nil)) (pa_cons pe_int pa_nil))))) pa_nil)))))) pss_nil)
      -- 5
      (pss_cons (ps_if (pt_cmpR op_eq (pv 1) pe_int (nomark _)) (pss_cons (ps_set (i := 14) sclGreat.nd rfl (Or.inl rfl) (pe_op op_add pe_int (pe_can CD hr pass0 (pa_cons (pv 0) (pa_cons pe_int pa_nil)))))
        (pss_one (ps_ret (pe_tup (pa_cons (pe_op op_add_str (pe_op op_add_str (pe_op op_mulS pe_str (pv 14)) (pv 4)) (pe_op op_mulS pe_str (pv 14))) (pa_cons (pe_ifExp (pt_cmpR op_gt (pv 14) pe_int (nomark _)) pe_non (pv 5)) pa_nil)))))) pss_nil)
      -- 6
      (pss_cons (ps_if (pt_cmpR op_eq (pv 1) pe_int (nomark _)) (pss_one (ps_ret (pe_tup (pa_cons (pe_op op_add_str (pe_op op_add_str (pe_op op_add_str (pe_op op_add_str (pe_op op_add_str (pv 4) pe_str) (pv 4)) pe_str) (pe_callTy call_str_int (by rfl) gl.str (by decide +kernel) (pa_cons (pe_op op_sub (pv 3) pe_int) pa_nil))) pe_str)
        (pa_cons (pe_ifExp (pt_cmpR op_gt (pv 3) pe_int (nomark _)) pe_non pe_dnewT) pa_nil))))) pss_nil)
      -- 7
      (pss_one (ps_ret (pe_tup (pa_cons (pe_op op_add_str (pe_op op_add_str (pe_op op_add_str (pe_op op_add_str (pe_op op_add_str (pe_op op_add_str (pe_op op_add_str (pe_op op_add_str pe_str (pv 4)) pe_str) (pe_callTy call_str_int (by rfl) gl.str (by decide +kernel) (pa_cons (pv 3) pa_nil))) pe_str) (pv 4)) pe_str) (pe_callTy call_str_int (by rfl) gl.str (by decide +kernel) (pa_cons (pv 3) pa_nil))) pe_str)
        (pa_cons (pe_ifExp (pt_cmpR op_gt (pv 3) pe_int (nomark _)) pe_non pe_dnewT) pa_nil))))))))))))), ?_⟩
    refine ⟨_, rfl, d, g, 8, rfl, by decide, by decide, hh, fun kd H1 hkd kp1 hh1 => ?_⟩
    refine ⟨_, rfl, d, g, 4, rfl, by decide, by decide, hh1, fun k H2 hk kp2 hh2 => ?_⟩
    refine ⟨_, rfl, d, g, 6, rfl, by decide, by decide, hh2, fun r3 H3 hr3 kp3 hh3 => ?_⟩
    obtain ⟨m, hm⟩ : ∃ m : Nat, m = 58 + r3 := ⟨_, rfl⟩
    have hm1 : 58 ≤ m := by omega
    have hm2 : m ≤ 63 := by omega
    have em : (58 : Int) + (r3 : Int) = (m : Int) := by omega
    have kp := (kp1.trans kp2).trans kp3
    refine ⟨58, r3, rfl, rfl, .int kd, .int k, .int m, by rw [← em], ?_⟩
    refine ⟨_, rfl, _, _, _, rfl, rfl, (by decide +kernel), atI_letters hk, _, rfl, k, rfl, fun dx H4 nx s4 hx => ⟨_, _, rfl, ?_⟩⟩
    have kp4 := kp.trans (KeepH.of s4)
    have hh4 := hh3.same s4
    have lm2 := numL_len2 (show m < 100 by omega)
    -- the end, alike everywhere
    have fin : ∀ (H' : Hp) (cs : List Nat) (due : V) (o : Option Poly) (p : Addr), KeepH d g H H' → Hand H' d g → H' p = none → GreatOk cs o → DueAt H' due o → Q (.ref p) (upd H' p (.tup [tx cs, due])) := fun H' cs due o p k1 k2 hp go hd => by
      have sp := same_new hp (.tup [tx cs, due])
      refine q p _ cs due o (k1.trans (KeepH.of sp)) (k2.same sp) upd_same go ?_
      cases o with
      | none => exact hd
      | some t => exact PolyD.mono hd sp
    -- 0
    refine ⟨_, rfl, rfl, _, rfl, ite2 (fun c => ?_) (fun c => ?_)⟩
    · have go := great0 (m := m) hk (by omega)
      refine ⟨_, rfl, S [letters.getD k 0], S [94], rfl, congrArg V.str (by decide +kernel), S_small (by show 1 + 1 ≤ _; omega), ?_⟩
      refine ⟨_, rfl, _, rfl, num_log (by omega), _, _, rfl, num_str m, ?_, ?_⟩
      · rw [SX.S_cat]; exact S_small (by show 2 + _ ≤ _; omega)
      rw [SX.S_cat, SX.S_cat]
      refine ⟨_, rfl, _, _, rfl, rfl, _, rfl, ite2 (fun c2 => ?_) (fun c2 => ?_)⟩
      · have h60 : 60 < m := by
          have := of_decide_eq_true c2
          omega
        rw [if_pos h60] at go
        exact ⟨(by decide : 2 ≤ sizeLine), fun p hp => fin _ _ _ _ p kp4 hh4 hp go rfl⟩
      · have h60 : ¬ 60 < m := fun z => c2 (decide_eq_true (by omega))
        rw [if_neg h60] at go
        refine ⟨_, rfl, _, rfl, .ref dx, m, pvar k, 1, rfl, hx, by omega, pvar_small k, (by decide : 1 ≤ 900), fits_pvar k, by omega, fun d5 H5 n5 s5 h5 => ?_⟩
        exact ⟨(by decide : 2 ≤ sizeLine), fun p hp => fin _ _ _ _ p (kp4.trans (KeepH.of s5)) (hh4.same s5) hp go h5⟩
    -- 1
    refine ⟨_, rfl, rfl, _, rfl, ite2 (fun c => ?_) (fun c => ?_)⟩
    · have go := great1 hk hm1 hm2
      have lm3 := numL_len2 (show m - 30 < 100 by omega)
      refine ⟨_, rfl, S [letters.getD k 0], S [94], rfl, congrArg V.str (by decide +kernel), S_small (by show 1 + 1 ≤ _; omega), ?_⟩
      refine ⟨_, rfl, _, _, rfl, rfl, ((m - 30 : Nat) : Int), congrArg (fun z => [V.int z]) (by omega), num_log (by omega), _, _, str_cat _ _, num_str (m - 30), S_small (by simp only [List.length_append, List.length_cons, List.length_nil]; omega), ?_⟩
      refine ⟨_, S [32, 42, 32, 40, 49, 32, 43, 32], str_cat _ _, congrArg V.str (by decide +kernel), S_small (by simp only [List.length_append, List.length_cons, List.length_nil]; omega), ?_⟩
      refine ⟨_, rfl, _, _, str_cat _ _, rfl, S_small (by simp only [List.length_append, List.length_cons, List.length_nil]; omega), ?_⟩
      refine ⟨_, S [94, 51, 48, 41], str_cat _ _, congrArg V.str (by decide +kernel), S_small (by simp only [List.length_append, List.length_cons, List.length_nil]; omega), ?_⟩
      rw [SX.S_cat]
      refine ⟨_, rfl, _, rfl, _, _, rfl, rfl, _, rfl, ite2 (fun c2 => ?_) (fun c2 => ?_)⟩
      · have h60 : 60 < m := by
          have := of_decide_eq_true c2
          omega
        rw [if_pos h60] at go
        exact ⟨(by decide : 2 ≤ sizeLine), fun p hp => fin _ _ _ _ p kp4 hh4 hp go rfl⟩
      · have h60 : ¬ 60 < m := fun z => c2 (decide_eq_true (by omega))
        rw [if_neg h60] at go
        refine ⟨_, rfl, _, rfl, _, _, rfl, rfl, .ref dx, m - 30, pvar k, 1, by rw [show ((m - 30 : Nat) : Int) = (m : Int) - 30 by omega]; rfl, hx, by omega, pvar_small k, (by decide : 1 ≤ 900), fits_pvar k, by omega, fun d5 H5 n5 s5 h5 => ?_⟩
        refine ⟨_, rfl, _, rfl, .ref dx, m, pvar k, 1, rfl, hx.mono s5, by omega, pvar_small k, (by decide : 1 ≤ 900), fits_pvar k, by omega, fun d6 H6 n6 s6 h6 => ?_⟩
        refine ⟨.ref d5, .ref d6, 1, lpow (pvar k) (m - 30), lpow (pvar k) m, _, rfl, h5.mono s6, h6, .inl rfl, Nat.le_trans (pvar_small k (n := m) _ (by omega)) (by decide), Nat.le_trans (pvar_small k _ (Nat.le_refl m)) (by decide), canon_padd h5.ca h6.ca, fun mm => by rw [coef_padd]; omega, fun d7 H7 n7 s7 h7 => ?_⟩
        have s567 := (s5.trans s6).trans s7
        exact ⟨(by decide : 2 ≤ sizeLine), fun p hp => fin _ _ _ _ p (kp4.trans (KeepH.of s567)) (hh4.same s567) hp go h7⟩
    -- 2
    refine ⟨_, rfl, rfl, _, rfl, ite2 (fun c => ?_) (fun c => ?_)⟩
    · refine ⟨_, rfl, d, g, 3, rfl, by decide, by decide, hh4, fun r H5 hr kp5 hh5 => ?_⟩
      obtain ⟨n, hn⟩ : ∃ n : Nat, n = 5 + r := ⟨_, rfl⟩
      have go := great2 (show 5 ≤ n by omega) (show n ≤ 7 by omega)
      have en : (5 : Int) + (r : Int) = (n : Int) := by omega
      refine ⟨5, r, rfl, rfl, ?_⟩
      show tSeq _ _ _ ([some (.ref d), some (.int kd), some (.int k), some (.int (5 + (r : Int))), some (tx [letters.getD k 0]), some (.ref dx), none, none, none, none, none, none, none, none, none]) _
      rw [en]
      refine ⟨1, rfl, fun d6 H6 n6 s6 h6 => ?_⟩
      refine ⟨4, rfl, by decide, by decide, ?_⟩
      refine for_range (lo := 0) (n := 4) (fun i σ H' => ∃ (v7 : V) (u8 : Option V), σ = [some (.ref d), some (.int kd), some (.int k), some (.int n), some (tx [letters.getD k 0]), some (.ref dx), none, some v7, u8, none, none, none, none, none, none] ∧ Same H5 H' ∧ PolyD H' v7 (lineF i)) ⟨.ref d6, none, rfl, s6, h6⟩ ?_ ?_
      · rintro i σ H' hi ⟨v7, u8, rfl, s7, h7⟩
        refine ⟨_, rfl, _, rfl, i, by rw [Int.zero_add]; rfl, fun d8 H8 n8 s8 h8 => ?_⟩
        have l1 := lineF_len i
        refine ⟨v7, .ref d8, 1, lineF i, pvar i, _, rfl, h7.mono s8, h8, .inl rfl, by omega, (by decide : 1 ≤ 100000), canon_padd (lineF_ca i) (canon_pvar i), fun mm => by rw [coef_padd]; omega, fun d9 H9 n9 s9 h9 => ?_⟩
        exact ⟨_, _, rfl, (s7.trans s8).trans s9, h9⟩
      · rintro σ H' ⟨v7, u8, rfl, s7, h7⟩
        have ll := numL_len2 (show n < 100 by omega)
        refine ⟨_, rfl, _, rfl, num_log (by omega), S [40, 120, 32, 43, 32, 121, 32, 43, 32, 122, 32, 43, 32, 119, 32, 43, 32, 49, 41, 94], _, congrArg V.str (by decide +kernel), num_str n, S_small (by simp only [List.length_append, List.length_cons, List.length_nil]; omega), ?_⟩
        rw [SX.S_cat]
        have kp7 := (kp4.trans kp5).trans (KeepH.of s7)
        have hh7 := hh5.same s7
        refine ⟨_, rfl, _, _, rfl, rfl, _, rfl, ite2 (fun c2 => ?_) (fun c2 => ?_)⟩
        · have h60 : 6 < n := by
            have := of_decide_eq_true c2
            omega
          rw [if_pos h60] at go
          exact ⟨(by decide : 2 ≤ sizeLine), fun p hp => fin _ _ _ _ p kp7 hh7 hp go rfl⟩
        · have h60 : ¬ 6 < n := fun z => c2 (decide_eq_true (by omega))
          rw [if_neg h60] at go
          refine ⟨_, rfl, _, rfl, v7, n, lawLine, 10, rfl, h7, by omega, fun j hj => of_decide_eq_true (kind2len j (by simp; omega)), by have := lineF_len 4; exact Nat.le_trans this (by decide), fits_line, by omega, fun d8 H8 n8 s8 h8 => ?_⟩
          exact ⟨(by decide : 2 ≤ sizeLine), fun p hp => fin _ _ _ _ p (kp7.trans (KeepH.of s8)) (hh7.same s8) hp go h8⟩
    -- 3
    refine ⟨_, rfl, rfl, _, rfl, ite2 (fun c => ?_) (fun c => ?_)⟩
    · refine ⟨_, rfl, d, g, 3, rfl, by decide, by decide, hh4, fun r H5 hr kp5 hh5 => ?_⟩
      obtain ⟨n, hn⟩ : ∃ n : Nat, n = 299 + r := ⟨_, rfl⟩
      have go := great3 (show 0 < n by omega) (show n ≤ 301 by omega)
      have en : (299 : Int) + (r : Int) = (n : Int) := by omega
      refine ⟨299, r, rfl, rfl, ?_⟩
      show tSeq _ _ _ ([some (.ref d), some (.int kd), some (.int k), some (.int (299 + (r : Int))), some (tx [letters.getD k 0]), some (.ref dx), none, none, none, none, none, none, none, none, none]) _
      rw [en]
      refine ⟨(by decide : 0 ≤ sizeLine), fun L hL D hD => ⟨_, _, rfl, ?_⟩⟩
      have nDL : D ≠ L := fun z => by rw [z, upd_same] at hD; cases hD
      have hD5 : H5 D = none := by rw [upd_ne nDL] at hD; exact hD
      have s6 : Same H5 (upd (upd H5 L (.lst [])) D (.dT [])) := fun a o e => by rw [upd_ne (ne_of_none e hD5), upd_ne (ne_of_none e hL)]; exact e
      refine ⟨_, rfl, n, rfl, by omega, by omega, ?_⟩
      refine for_range (lo := 0) (n := n) (fun i σ H' => ∃ (u11 u12 : Option V), σ = [some (.ref d), some (.int kd), some (.int k), some (.int n), some (tx [letters.getD k 0]), some (.ref dx), none, none, none, some (.ref L), some (.ref D), u11, u12, none, none] ∧ Same H5 H' ∧ H' L = some (.lst ((List.range i).map fun j => tx (partI j))) ∧ H' D = some (.dT ((manyM i).map ent)))
        ⟨none, none, rfl, s6, by rw [upd_ne (Ne.symm nDL)]; exact upd_same, upd_same⟩ ?_ ?_
      · rintro i σ H' hi ⟨u11, u12, rfl, s7, hL7, hD7⟩
        have e1 : (0 + (i : Int)).fdiv 60 = ((i / 60 : Nat) : Int) := by rw [Int.fdiv_eq_ediv_of_nonneg _ (by decide)]; omega
        have e2 : (0 + (i : Int)) % 60 = ((i % 60 : Nat) : Int) := by omega
        have l60 := numL_len2 (show i / 60 < 100 by omega)
        have l61 := numL_len2 (show i % 60 < 100 by omega)
        refine ⟨_, rfl, _, _, rfl, rfl, ⟨by decide, by decide⟩, _, rfl, .inl ⟨_, rfl, _, _, rfl, rfl, (by show (0 : Int) < 60; decide), (by decide : 4 ≤ sizeLine), fun t ht => ?_⟩⟩
        have et : ([V.int ((0 + (i : Int)).fdiv 60), V.int ((0 + (i : Int)) % 60), V.int 0, V.int 0] : List V) = mtup (monI i) := by rw [e1, e2]; rfl
        have htt : (upd H' t (.tup [V.int ((0 + (i : Int)).fdiv 60), V.int ((0 + (i : Int)) % 60), V.int 0, V.int 0])) t = some (.tup (mtup (monI i))) := by rw [upd_same, et]
        have s8 := same_new ht (.tup [V.int ((0 + (i : Int)).fdiv 60), V.int ((0 + (i : Int)) % 60), V.int 0, V.int 0])
        have hL8 := s8 _ _ hL7
        have hD8 := s8 _ _ hD7
        have s58 := s7.trans s8
        show tSeq _ _ _ _ (upd H' t (.tup [V.int ((0 + (i : Int)).fdiv 60), V.int ((0 + (i : Int)) % 60), V.int 0, V.int 0]))
        generalize (upd H' t (.tup [V.int ((0 + (i : Int)).fdiv 60), V.int ((0 + (i : Int)) % 60), V.int 0, V.int 0])) = H8 at *
        refine ⟨_, rfl, .inl ⟨rfl, _, SqL.of hL8⟩, _, rfl, t, _, 0, .int ((i / 60 : Nat) : Int), rfl, rfl, SqT.of htt, rfl, _, rfl, num_log (by omega), S [120, 94], _, congrArg V.str (by decide +kernel), num_str (i / 60), S_small (by simp only [List.length_append, List.length_cons, List.length_nil, List.length_replicate]; omega), ?_⟩
        refine ⟨_, S [42, 121, 94], str_cat _ _, congrArg V.str (by decide +kernel), S_small (by simp only [List.length_append, List.length_cons, List.length_nil, List.length_replicate]; omega), ?_⟩
        refine ⟨_, rfl, t, _, 1, .int ((i % 60 : Nat) : Int), rfl, rfl, SqT.of htt, rfl, _, rfl, num_log (by omega), _, _, str_cat _ _, num_str (i % 60), S_small (by simp only [List.length_append, List.length_cons, List.length_nil, List.length_replicate]; omega), ?_⟩
        rw [SX.S_cat]
        refine ⟨L, _, _, rfl, rfl, hL8, lt_line (by rw [List.length_map, List.length_range]; omega), ?_⟩
        have nLt : L ≠ t := fun z => by rw [z, htt] at hL8; cases hL8
        have hD9 : ∀ o, (upd H8 L o) D = some (.dT ((manyM i).map ent)) := fun o => by rw [upd_ne nDL]; exact hD8
        have ht9 : ∀ o, (upd H8 L o) t = some (.tup ((mkey (monI i)).map kV)) := fun o => by rw [upd_ne (Ne.symm nLt)]; exact htt
        have hfr : hasK (manyM i) (monI i) = false := by
          cases z : hasK (manyM i) (monI i) with
          | false => rfl
          | true =>
            obtain ⟨p, hp, e⟩ := List.mem_map.mp (hasK_iff.mp z)
            obtain ⟨j, hj, rfl⟩ := manyM_mem hp
            have := monI_lt hj
            rw [show monI j = monI i from e, mlt_irr] at this
            cases this
        have hml : (manyM i).length < 10000000 := by unfold manyM; rw [List.length_map, List.length_range]; omega
        refine ⟨_, rfl, _, rfl, D, _, rfl, put_ent (hD9 _) (ht9 _) hml, ?_⟩
        refine ⟨_, _, rfl, fun a o e => ?_, ?_, ?_⟩
        · have n1 : a ≠ D := fun z => by rw [z, hD5] at e; cases e
          have n2 : a ≠ L := ne_of_none e hL
          rw [upd_ne n1, upd_ne n2]; exact s58 _ _ e
        · rw [upd_ne (Ne.symm nDL), upd_same, List.range_succ, List.map_append]
          rfl
        · rw [upd_same, manyM_succ]
          unfold dput
          rw [hfr]; rfl
      · rintro σ H' ⟨u11, u12, rfl, s7, hL7, hD7⟩
        have jl := join_len n (by omega)
        have ep : ((List.range n).map fun j => tx (partI j)) = (((List.range n).map partI).map S).map V.str := by rw [List.map_map, List.map_map]; rfl
        rw [ep] at hL7
        have hsum : ∀ j, j ≤ 301 → ((((List.range j).map partI).map S).map (·.length)).sum ≤ 9 * j := fun j => by
          induction j with
          | zero => intro _; exact Nat.le_refl _
          | succ j ih =>
            intro h
            have ih := ih (by omega)
            have hp := partI_len (show j < 1000 by omega)
            rw [List.range_succ, List.map_append, List.map_append, List.map_append, List.sum_append]
            show _ + ((S (partI j)).length + 0) ≤ _
            rw [SX.S_len]; omega
        have hs := hsum n (by omega)
        refine ⟨⟨_, rfl⟩, _, rfl, S [32, 43, 32], L, _, congrArg V.str (by decide +kernel), rfl, .inl (SqL.of hL7), ?_, ?_⟩
        · rw [List.length_map, List.length_map, List.length_range, SX.S_len]
          show _ + n * 3 ≤ _
          omega
        rw [SX.join_S]
        have kp7 := (kp4.trans kp5).trans (KeepH.of s7)
        have hh7 := hh5.same s7
        refine ⟨_, rfl, _, _, rfl, rfl, _, rfl, ite2 (fun c2 => ?_) (fun c2 => ?_)⟩
        · have h60 : 300 < n := by
            have := of_decide_eq_true c2
            omega
          rw [if_pos h60] at go
          exact ⟨(by decide : 2 ≤ sizeLine), fun p hp => fin _ _ _ _ p kp7 hh7 hp go rfl⟩
        · have h60 : ¬ 300 < n := fun z => c2 (decide_eq_true (by omega))
          rw [if_neg h60] at go
          refine ⟨_, rfl, (by decide : 2 ≤ sizeLine), fun p hp => fin _ _ _ _ p kp7 hh7 hp go ⟨D, manyM n, rfl, hD7, (manyM_ca n).nodup, (manyM_ca n).nz, fun _ => rfl, manyM_ca n⟩⟩
    -- 4
    refine ⟨_, rfl, rfl, _, rfl, ite2 (fun c => ?_) (fun c => ?_)⟩
    · refine ⟨_, rfl, 48, 29, rfl, rfl, by decide, by decide, S [49], S (List.replicate 29 48), congrArg V.str (by decide +kernel), rfl, S_small (by simp only [List.length_append, List.length_cons, List.length_nil, List.length_replicate]; omega), ?_⟩
      refine ⟨57, 30, rfl, rfl, by decide, by decide, ?_⟩
      refine ⟨48, 29, rfl, rfl, by decide, by decide, S (List.replicate 29 48), S [55], rfl, congrArg V.str (by decide +kernel), S_small (by simp only [List.length_append, List.length_cons, List.length_nil, List.length_replicate]; omega), ?_⟩
      refine ⟨48, 30, rfl, rfl, by decide, by decide, S (List.replicate 30 48), S [55], rfl, congrArg V.str (by decide +kernel), S_small (by simp only [List.length_append, List.length_cons, List.length_nil, List.length_replicate]; omega), ?_⟩
      refine ⟨57, 31, rfl, rfl, by decide, by decide, ?_⟩
      refine ⟨48, 31, rfl, rfl, by decide, by decide, ?_⟩
      refine ⟨(by decide : 6 ≤ sizeLine), fun l hl => ?_⟩
      have nl := hh4.new hl
      refine ⟨d, g, l, _, rfl, nl.1, nl.2, upd_same, (by decide : 0 < 6), (by decide : 6 ≤ 1000), hh4.same (same_new hl _), fun i y H5 hy kp5 hh5 => ?_⟩
      have kpa := (kp4.trans (KeepH.of (same_new hl _))).trans kp5
      have hx5 := (hx.mono (same_new hl _)).keep (hh4.same (same_new hl _)) kp5
      obtain ⟨wd, rfl, hw, hwl⟩ : ∃ wd : Word, y = tx wd ∧ IsNum wd ∧ wd.length ≤ 31 := by
        have := List.mem_of_getElem? hy
        simp only [List.mem_cons, List.not_mem_nil, or_false] at this
        rcases this with e | e | e | e | e | e
        · exact ⟨[49] ++ List.replicate 29 48, by rw [e]; exact str_cat _ _, ⟨by decide, by unfold NumText.AllDigits; decide⟩, by decide⟩
        · exact ⟨List.replicate 30 57, by rw [e]; rfl, ⟨by decide, by unfold NumText.AllDigits; decide⟩, by decide⟩
        · exact ⟨List.replicate 29 48 ++ [55], by rw [e]; exact str_cat _ _, ⟨by decide, by unfold NumText.AllDigits; decide⟩, by decide⟩
        · exact ⟨List.replicate 30 48 ++ [55], by rw [e]; exact str_cat _ _, ⟨by decide, by unfold NumText.AllDigits; decide⟩, by decide⟩
        · exact ⟨List.replicate 31 57, by rw [e]; rfl, ⟨by decide, by unfold NumText.AllDigits; decide⟩, by decide⟩
        · exact ⟨List.replicate 31 48, by rw [e]; rfl, ⟨by decide, by unfold NumText.AllDigits; decide⟩, by decide⟩
      have go := great4 hk hw hwl
      refine ⟨_, rfl, S [letters.getD k 0], S [32, 43, 32], rfl, congrArg V.str (by decide +kernel), S_small (by simp only [List.length_append, List.length_cons, List.length_nil, List.length_replicate]; omega), ?_⟩
      refine ⟨_, rfl, _, _, str_cat _ _, rfl, S_small (by simp only [List.length_append, List.length_cons, List.length_nil, List.length_replicate]; omega), ?_⟩
      rw [SX.S_cat]
      refine ⟨_, rfl, _, rfl, by rw [SX.S_len]; exact le_line (by omega), _, _, rfl, rfl, _, rfl, ite2 (fun c2 => ?_) (fun c2 => ?_)⟩
      · have h60 : 30 < wd.length := by
          have := of_decide_eq_true c2
          rw [SX.S_len] at this
          omega
        rw [if_pos h60] at go
        exact ⟨(by decide : 2 ≤ sizeLine), fun p hp => fin _ _ _ _ p kpa hh5 hp go rfl⟩
      · have h60 : ¬ 30 < wd.length := fun z => c2 (decide_eq_true (by rw [SX.S_len]; omega))
        rw [if_neg h60] at go
        refine ⟨_, rfl, _, rfl, _, _, rfl, SX.int_S (List.all_eq_true.mpr fun c hc => hw.dig c hc) hw.1 (by omega), by rw [SX.S_len]; omega, (numVal wd : Int), rfl, fun d6 H6 n6 s6 h6 => ?_⟩
        refine ⟨.ref dx, .ref d6, 1, pvar k, pconst (numVal wd : Int), padd (pvar k) (pconst (numVal wd : Int)), rfl, hx5.mono s6, h6, .inl rfl, (by decide : 1 ≤ 100000), Nat.le_trans (length_pconst _) (by decide), canon_padd (canon_pvar k) (canon_pconst _), fun mm => by rw [coef_padd]; omega, fun d7 H7 n7 s7 h7 => ?_⟩
        have s67 := s6.trans s7
        exact ⟨(by decide : 2 ≤ sizeLine), fun p hp => fin _ _ _ _ p (kpa.trans (KeepH.of s67)) (hh5.same s67) hp go h7⟩
    -- 5
    refine ⟨_, rfl, rfl, _, rfl, ite2 (fun c => ?_) (fun c => ?_)⟩
    · refine ⟨_, rfl, d, g, 3, rfl, by decide, by decide, hh4, fun r H5 hr kp5 hh5 => ?_⟩
      obtain ⟨n, hn⟩ : ∃ n : Nat, n = 19 + r := ⟨_, rfl⟩
      have go := great5 hk (show n ≤ 100 by omega)
      have en : (19 : Int) + (r : Int) = (n : Int) := by omega
      refine ⟨19, r, rfl, rfl, ?_⟩
      have et : (19 + (r : Int)).toNat = n := by omega
      refine ⟨_, rfl, 40, 19 + (r : Int), rfl, rfl, by omega, by omega, ?_⟩
      refine ⟨_, rfl, S (List.replicate n 40), S [letters.getD k 0], by rw [et], rfl, S_small (by simp only [List.length_append, List.length_cons, List.length_nil, List.length_replicate]; omega), ?_⟩
      refine ⟨_, rfl, 41, 19 + (r : Int), rfl, rfl, by omega, by omega, _, S (List.replicate n 41), str_cat _ _, by rw [et], S_small (by simp only [List.length_append, List.length_cons, List.length_nil, List.length_replicate]; omega), ?_⟩
      rw [SX.S_cat]
      have kp7 := kp4.trans kp5
      have hx5 := hx.keep hh4 kp5
      refine ⟨_, rfl, _, _, rfl, rfl, _, rfl, ite2 (fun c2 => ?_) (fun c2 => ?_)⟩
      · have h60 : 20 < n := by
          have := of_decide_eq_true c2
          omega
        rw [if_pos h60] at go
        exact ⟨(by decide : 2 ≤ sizeLine), fun p hp => fin _ _ _ _ p kp7 hh5 hp go rfl⟩
      · have h60 : ¬ 20 < n := fun z => c2 (decide_eq_true (by omega))
        rw [if_neg h60] at go
        exact ⟨_, rfl, (by decide : 2 ≤ sizeLine), fun p hp => fin _ _ _ _ p kp7 hh5 hp go hx5⟩
    -- 6
    refine ⟨_, rfl, rfl, _, rfl, ite2 (fun c => ?_) (fun c => ?_)⟩
    · have go := great6 hk hm1 hm2
      have lm3 := numL_len2 (show m - 40 < 100 by omega)
      refine ⟨_, rfl, S [letters.getD k 0], S [94, 52, 48, 32, 42, 32], rfl, congrArg V.str (by decide +kernel), S_small (by simp only [List.length_append, List.length_cons, List.length_nil]; omega), ?_⟩
      refine ⟨_, rfl, _, _, str_cat _ _, rfl, S_small (by simp only [List.length_append, List.length_cons, List.length_nil]; omega), ?_⟩
      refine ⟨_, S [94], str_cat _ _, congrArg V.str (by decide +kernel), S_small (by simp only [List.length_append, List.length_cons, List.length_nil]; omega), ?_⟩
      refine ⟨_, rfl, _, _, rfl, rfl, ((m - 40 : Nat) : Int), congrArg (fun z => [V.int z]) (by omega), num_log (by omega), _, _, str_cat _ _, num_str (m - 40), S_small (by simp only [List.length_append, List.length_cons, List.length_nil]; omega), ?_⟩
      refine ⟨_, S [32, 42, 32, 48], str_cat _ _, congrArg V.str (by decide +kernel), S_small (by simp only [List.length_append, List.length_cons, List.length_nil]; omega), ?_⟩
      rw [SX.S_cat]
      refine ⟨_, rfl, _, _, rfl, rfl, _, rfl, ite2 (fun c2 => ?_) (fun c2 => ?_)⟩
      · have h60 : 60 < m := by
          have := of_decide_eq_true c2
          omega
        rw [if_pos h60] at go
        exact ⟨(by decide : 2 ≤ sizeLine), fun p hp => fin _ _ _ _ p kp4 hh4 hp go rfl⟩
      · have h60 : ¬ 60 < m := fun z => c2 (decide_eq_true (by omega))
        rw [if_neg h60] at go
        intro d5 n5
        have s5 := same_new n5 (.dT [])
        exact ⟨(by decide : 2 ≤ sizeLine), fun p hp => fin _ _ _ _ p (kp4.trans (KeepH.of s5)) (hh4.same s5) hp go ⟨d5, [], rfl, upd_same, ⟨List.nodup_nil, fun _ h => absurd h (by simp), fun _ => rfl, Canon.nil⟩⟩⟩
    -- 7
    · have go := great7 hk hm1 hm2
      refine ⟨_, rfl, S [40], S [letters.getD k 0], congrArg V.str (by decide +kernel), rfl, S_small (by simp only [List.length_append, List.length_cons, List.length_nil]; omega), ?_⟩
      refine ⟨_, S [94], str_cat _ _, congrArg V.str (by decide +kernel), S_small (by simp only [List.length_append, List.length_cons, List.length_nil]; omega), ?_⟩
      refine ⟨_, rfl, _, rfl, num_log (by omega), _, _, str_cat _ _, num_str m, S_small (by simp only [List.length_append, List.length_cons, List.length_nil]; omega), ?_⟩
      refine ⟨_, S [32, 45, 32], str_cat _ _, congrArg V.str (by decide +kernel), S_small (by simp only [List.length_append, List.length_cons, List.length_nil]; omega), ?_⟩
      refine ⟨_, rfl, _, _, str_cat _ _, rfl, S_small (by simp only [List.length_append, List.length_cons, List.length_nil]; omega), ?_⟩
      refine ⟨_, S [94], str_cat _ _, congrArg V.str (by decide +kernel), S_small (by simp only [List.length_append, List.length_cons, List.length_nil]; omega), ?_⟩
      refine ⟨_, rfl, _, rfl, num_log (by omega), _, _, str_cat _ _, num_str m, S_small (by simp only [List.length_append, List.length_cons, List.length_nil]; omega), ?_⟩
      refine ⟨_, S [41, 94, 50], str_cat _ _, congrArg V.str (by decide +kernel), S_small (by simp only [List.length_append, List.length_cons, List.length_nil]; omega), ?_⟩
      rw [SX.S_cat]
      refine ⟨_, rfl, _, _, rfl, rfl, _, rfl, ite2 (fun c2 => ?_) (fun c2 => ?_)⟩
      · have h60 : 60 < m := by
          have := of_decide_eq_true c2
          omega
        rw [if_pos h60] at go
        exact ⟨(by decide : 2 ≤ sizeLine), fun p hp => fin _ _ _ _ p kp4 hh4 hp go rfl⟩
      · have h60 : ¬ 60 < m := fun z => c2 (decide_eq_true (by omega))
        rw [if_neg h60] at go
        intro d5 n5
        have s5 := same_new n5 (.dT [])
        exact ⟨(by decide : 2 ≤ sizeLine), fun p hp => fin _ _ _ _ p (kp4.trans (KeepH.of s5)) (hh4.same s5) hp go ⟨d5, [], rfl, upd_same, ⟨List.nodup_nil, fun _ h => absurd h (by simp), fun _ => rfl, Canon.nil⟩⟩⟩
end
end K46

/-! # The law -/
namespace K46
open PySem PySem.Spec PyProof.Rows L2
open SX (S)
def termData (p : Mon × Int) : PyData := .tuple [.tuple [.int p.1.1, .int p.1.2.1, .int p.1.2.2.1, .int p.1.2.2.2], .int p.2]
def polyData (t : Poly) : PyData := .tuple (t.map termData)
theorem lay_terms : ∀ t : Poly, PyData.canLayAll0 (t.map termData) = true
  | [] => by simp [PyData.canLayAll0]
  | p :: t => by
    rw [List.map_cons, PyData.canLayAll0, lay_terms t]
    simp [termData, PyData.canLay0, PyData.canLayAll0]
theorem depth_terms : ∀ t : Poly, PyData.depthAll (t.map termData) ≤ 2
  | [] => by simp [PyData.depthAll]
  | p :: t => by
    rw [List.map_cons, PyData.depthAll]
    have := depth_terms t
    simp only [termData, PyData.depth, PyData.depthAll]
    omega
theorem shaped_poly (t : Poly) : SeqAt.shaped (polyData t) = true := by
  unfold SeqAt.shaped polyData
  rw [Bool.and_eq_true]
  refine ⟨?_, decide_eq_true ?_⟩
  · rw [PyData.canLay0]; exact lay_terms t
  · rw [PyData.depth]
    have := depth_terms t
    omega
theorem dp_term {K : PySem.W.Frag} {H : Hp} {v : V} {p : Mon × Int} (h : TermAt K H v p) : Dp K H v (termData p) := by
  obtain ⟨a, b, rfl, h1, h2⟩ := h
  exact .tup (SqT.of h1) (.cons (.tup h2 (.cons (.int _) (.cons (.int _) (.cons (.int _) (.cons (.int _) .nil))))) (.cons (.int _) .nil))
theorem dp_all {K : PySem.W.Frag} {H : Hp} : ∀ {vs : List V} {t : Poly}, Paired (TermAt K H) vs t → DpAll K H vs (t.map termData)
  | _, _, .nil => .nil
  | _, _, .cons h r => .cons (dp_term h) (dp_all r)
theorem dp_terms {K : PySem.W.Frag} {H : Hp} {a : Addr} {t : Poly} (h : TermsAt K H a t) : Dp K H (.ref a) (polyData t) := by
  obtain ⟨vs, h1, h2⟩ := h
  exact .tup (SqT.of h1) (dp_all h2)
def badData : PyData := .tuple [.str "bad", .str "great"]
theorem dp_bad {K : PySem.W.Frag} {H : Hp} {a : Addr} (h : H a = some (.tup [.str "bad", .str "great"])) : Dp K H (.ref a) badData := .tup (SqT.of h) (.cons (.str _) (.cons (.str _) .nil))
theorem shaped_bad : SeqAt.shaped badData = true := by decide +kernel
theorem eqv_self {d : PyData} (h : SeqAt.shaped d = true) : PyData.eqv d d = true := SeqAt.eqv_refl d (SeqAt.canLay_of_shaped h)
theorem rep_tx (w : Word) (u : Nat) : (List.replicate u [tx w]).flatten = (List.replicate u w).map tx := by
  induction u with
  | zero => rfl
  | succ u ih => rw [List.replicate_succ, List.flatten_cons, ih, List.replicate_succ, List.map_cons]; rfl
section
variable {P : Program} {w : World} {K : PySem.W.Frag} {mg : Str → Option Value} {base : Heap}
abbrev lLaw : Stmt := top 57
def spLaw (K : PySem.W.Frag) : Sp := fun vs H Q _ => ∃ (a : Addr) (ns : List Int), vs = [.ref a] ∧ SqL K H a (ns.map V.int) ∧ ns.length ≤ 63 ∧ ∀ H', Q (.bl true) H'
abbrev nmLaw : List Str := ["_law_script", "_law_hand_here", "_law_turn", "_law_many", "_law_tree_here", "_law_words_here", "_law_deep", "_law_text", "_law_due"]
theorem sclLaw : FnScope nmLaw ["_law_script"] (defScope lLaw) := ⟨rfl, rfl, rfl, by decide +kernel, rfl, by decide +kernel, by decide +kernel⟩
theorem ok_lawF {kS kV : Nat} {f : Addr} {fd : FuncData} (F : Fun K "law" "law" lLaw f fd) (CH : Can P w K mg base CX0 1 "_law_hand" ["_law_script"] (spLHand K)) (CD : Can P w K mg base CX0 1 "_law_draw" ["_law_hand_here", "_law_many"] spDraw) (CA : Can P w K mg base CX0 2 "_law_any" ["_law_hand_here", "_law_things"] (spAny K))
    (CT : Can P w K mg base CX0 kV "_law_tree" ["_law_hand_here", "_law_many", "_law_depth"] (spTree 5)) (CS : Can P w K mg base CX0 kS "_law_is_small" ["_law_tree_here"] spSmall) (CW : Can P w K mg base CX0 kV "_law_words" ["_law_hand_here", "_law_tree_here", "_law_binds"] (spLWords 5))
    (CJ : Can P w K mg base CX0 3 "_law_joined" ["_law_hand_here", "_law_words_here"] spJoin) (CV : Can P w K mg base CX0 kV "_law_tree_value" ["_law_tree_here"] (spVal 5)) (CM : Can P w K mg base CX0 1 "_law_terms" ["_law_one"] (spLTerms K)) (CG : Can P w K mg base CX0 3 "_law_great" ["_law_hand_here"] spGreat)
    (CR : Can P w K mg base (L2.CX P w) 91 "_law_read" ["_law_text"] (spLRead K)) (hS : kS ≤ 91) (hV : kV ≤ 91) (mR : mg "range" = none) : FnOk P w K mg base CX0 92 f fd ["_law_script"] (spLaw K) := by
  refine F.ok sclLaw (fun vs H Q E h => ?_) (fun cdv A outer s H vs Q E hr h => ?_)
  · obtain ⟨a, ns, rfl, _⟩ := h
    rfl
  · obtain ⟨a, ns, rfl, ha, hl, q⟩ := h
    refine ⟨_, pss_cons (ps_set (i := 1) sclLaw.nd rfl (Or.inl rfl) (pe_can CH hr pass0 (pa_cons (pv 0) pa_nil)))
      (pss_cons (ps_for PassesOwn.never rfl (pi_range1 (by rfl) mR (pa_cons pe_int pa_nil)) (pg_name (i := 2) sclLaw.nd rfl (Or.inl rfl))
        (pss_cons (ps_set (i := 3) sclLaw.nd rfl (Or.inl rfl) (pe_op op_add pe_int (pe_can CD hr pass0 (pa_cons (pv 1) (pa_cons pe_int pa_nil)))))
        (pss_cons (ps_set (i := 4) sclLaw.nd rfl (Or.inl rfl) (pe_can CT hr pass0 (pa_cons (pv 1) (pa_cons (pv 3) (pa_cons (pe_can CA hr pass0 (pa_cons (pv 1) (pa_cons (pe_lst (pa_cons pe_int (pa_cons pe_int (pa_cons pe_int (pa_cons pe_int (pa_cons pe_int (pa_cons pe_int pa_nil))))))) pa_nil))) pa_nil))) (hk := by omega)))
        (C8.pss_cut (ps_if (pt_not (pt_val (pe_can CS hr pass0 (pa_cons (pv 4) pa_nil) (hk := by omega)))) (pss_one (ps_set (i := 4) sclLaw.nd rfl (Or.inl rfl) (pe_tup (pa_cons pe_str (pa_cons pe_int pa_nil))))) pss_nil)
        (pss_cons (ps_set (i := 5) sclLaw.nd rfl (Or.inl rfl) (pe_can CW hr pass0 (pa_cons (pv 1) (pa_cons (pv 4) (pa_cons pe_int pa_nil))) (hk := by omega)))
        (pss_cons (ps_set (i := 6) sclLaw.nd rfl (Or.inl rfl) (pe_can CA hr pass0 (pa_cons (pv 1) (pa_cons (pe_lst (pa_cons pe_int (pa_cons pe_int (pa_cons pe_int (pa_cons pe_int (pa_cons pe_int pa_nil)))))) pa_nil))))
        (pss_cons (ps_set (i := 7) sclLaw.nd rfl (Or.inl rfl) (pe_can CJ hr pass0 (pa_cons (pv 1) (pa_cons (pe_op op_cat (pe_op op_cat (pe_op op_rep (pe_lst (pa_cons pe_str pa_nil)) (pv 6)) (pv 5)) (pe_op op_rep (pe_lst (pa_cons pe_str pa_nil)) (pv 6))) pa_nil))))
        (pss_one (ps_if (pt_cmpR (op_neD hr.units) (pe_can CR hr passL (pa_cons (pv 7) pa_nil)) (pe_can CM hr pass0 (pa_cons (pe_can CV hr pass0 (pa_cons (pv 4) pa_nil) (hk := by omega)) pa_nil)) (nomark _)) (pss_one (ps_ret pe_bl)) pss_nil)))))))))
      (pss_cons (ps_asg (pe_can CG hr pass0 (pa_cons (pv 1) pa_nil)) (pg_tup (by rfl) (pgs_cons (pg_name (i := 7) sclLaw.nd rfl (Or.inl rfl)) (pgs_cons (pg_name (i := 8) sclLaw.nd rfl (Or.inl rfl)) pgs_nil))))
      (pss_one (ps_ret (pe_cmpR (op_eqD hr.units) (pe_can CR hr passL (pa_cons (pv 7) pa_nil)) (pe_ifExp (pt_cmpR op_isN (pv 8) pe_non (nomark _)) (pe_tup (pa_cons pe_str (pa_cons pe_str pa_nil))) (pe_can CM hr pass0 (pa_cons (pv 8) pa_nil))) (nomark _)))))), ?_⟩
    refine ⟨_, rfl, a, ns, rfl, ha, hl, fun d g H0 s0 hh0 nd0 ng0 => ?_⟩
    refine ⟨8, rfl, by decide, by decide, ?_⟩
    refine for_range (lo := 0) (n := 8) (fun i σ H' => ∃ (u2 u3 u4 u5 u6 u7 : Option V), σ = [some (.ref a), some (.ref d), u2, u3, u4, u5, u6, u7, none] ∧ Hand H' d g) ⟨none, none, none, none, none, none, rfl, hh0⟩ ?_ ?_
    · rintro i σ H1 hi ⟨u2, u3, u4, u5, u6, u7, rfl, hh1⟩
      refine ⟨_, rfl, d, g, 4, rfl, by decide, by decide, hh1, fun r H2 hr2 kp2 hh2 => ?_⟩
      refine ⟨1, r, rfl, rfl, ?_⟩
      have em : (1 : Int) + (r : Int) = ((1 + r : Nat) : Int) := by omega
      refine ⟨_, rfl, _, rfl, _, rfl, (by decide : 6 ≤ sizeLine), fun l hl2 => ?_⟩
      have sl := same_new hl2 (.lst [.int 0, .int 1, .int 2, .int 2, .int 3, .int 4])
      have nl := hh2.new hl2
      refine ⟨d, g, l, _, rfl, nl.1, nl.2, upd_same, (by decide : 0 < 6), (by decide : 6 ≤ 1000), hh2.same sl, fun j x H3 hx kp3 hh3 => ?_⟩
      obtain ⟨dep, rfl, hdep⟩ : ∃ u : Nat, x = .int u ∧ u ≤ 4 := by
        have := List.mem_of_getElem? hx
        simp only [List.mem_cons, List.not_mem_nil, or_false] at this
        rcases this with e | e | e | e | e | e
        · exact ⟨0, e, by decide⟩
        · exact ⟨1, e, by decide⟩
        · exact ⟨2, e, by decide⟩
        · exact ⟨2, e, by decide⟩
        · exact ⟨3, e, by decide⟩
        · exact ⟨4, e, by decide⟩
      refine ⟨d, g, 1 + r, dep, by rw [← em]; rfl, by omega, by omega, by omega, hh3, fun v H4 t kp4 hh4 ht hok => ?_⟩
      refine ⟨fun σ' H5 => ∃ (v : V) (t : T) (n : Nat) (u5 u6 u7 : Option V), σ' = [some (.ref a), some (.ref d), some (.int (0 + (i : Int))), some (.int (1 + (r : Int))), some v, u5, u6, u7, none] ∧ Hand H5 d g ∧ TreeAt H5 t v ∧ t.Ok n ∧ n ≤ 4 ∧ t.Small, ?_, ?_⟩
      · refine ⟨_, rfl, v, t, dep, rfl, ht, hok, hdep, fun c H5 s5 hc => ?_⟩
        refine ⟨c, rfl, ?_⟩
        cases c with
        | true => exact ⟨v, t, dep, u5, u6, u7, rfl, hh4.same s5, ht.mono s5, hok, hdep, hc rfl⟩
        | false =>
          refine ⟨(by decide : 2 ≤ sizeLine), fun p hp => ?_⟩
          have s6 := same_new hp (.tup [.str "x", .int 0])
          exact ⟨.ref p, .x 0, 0, u5, u6, u7, rfl, (hh4.same s5).same s6, ⟨p, rfl, upd_same⟩, (by show 0 < 4; decide), by decide, ⟨by decide, by decide⟩⟩
      · rintro σ' H5 ⟨v, t, n, u5, u6, u7, rfl, hh5, ht, hok, hn4, sm⟩
        refine ⟨_, rfl, _, rfl, d, g, v, t, n, 0, rfl, ht, hok, by omega, hn4, sm, by decide, hh5, fun aw H6 ws kp6 hh6 nw1 nw2 haw says => ?_⟩
        have ht6 := ht.keep hh5 kp6
        refine ⟨_, rfl, (by decide : 5 ≤ sizeLine), fun l2 hl3 => ?_⟩
        have sl2 := same_new hl3 (.lst [.int 0, .int 0, .int 0, .int 1, .int 9])
        have nl2 := hh6.new hl3
        refine ⟨d, g, l2, _, rfl, nl2.1, nl2.2, upd_same, (by decide : 0 < 5), (by decide : 5 ≤ 1000), hh6.same sl2, fun j x H7 hx kp7 hh7 => ?_⟩
        obtain ⟨dp, rfl, hdp⟩ : ∃ u : Nat, x = .int u ∧ u ≤ 9 := by
          have := List.mem_of_getElem? hx
          simp only [List.mem_cons, List.not_mem_nil, or_false] at this
          rcases this with e | e | e | e | e
          · exact ⟨0, e, by decide⟩
          · exact ⟨0, e, by decide⟩
          · exact ⟨0, e, by decide⟩
          · exact ⟨1, e, by decide⟩
          · exact ⟨9, e, by decide⟩
        have kpa := (KeepH.of (d := d) (g := g) sl2).trans kp7
        have haw7 := kpa _ _ nw1 nw2 haw
        have ht7 := (ht6.mono sl2).keep (hh6.same sl2) kp7
        have wl := says.len
        have wb := wcF_le hn4
        refine ⟨_, rfl, (by decide : 1 ≤ sizeLine), fun b1 hb1 => ?_⟩
        have t1 := same_new hb1 (.lst [.str "("])
        refine ⟨_, rfl, b1, (dp : Int), _, rfl, rfl, upd_same, by omega, by omega, (by show 1 * dp ≤ _; exact le_line (by omega)), fun b2 hb2 => ?_⟩
        have er1 : (List.replicate ((dp : Int)).toNat [V.str ("(" : Str)]).flatten = (List.replicate dp [40]).map tx := rep_tx [40] dp
        rw [er1]
        have t2 := t1.trans (same_new hb2 (.lst ((List.replicate dp [40]).map tx)))
        have hb2' : (upd (upd H7 b1 (.lst [.str "("])) b2 (.lst ((List.replicate dp [40]).map tx))) b2 = some (.lst ((List.replicate dp [40]).map tx)) := upd_same
        generalize (upd (upd H7 b1 (.lst [.str "("])) b2 (.lst ((List.replicate dp [40]).map tx))) = H8 at *
        refine ⟨_, rfl, b2, aw, _, _, rfl, rfl, hb2', t2 _ _ haw7, ?_, fun b3 hb3 => ?_⟩
        · rw [List.length_map, List.length_map, List.length_replicate]; exact le_line (by omega)
        have t3 := same_new hb3 (.lst ((List.replicate dp [40]).map tx ++ ws.map tx))
        have hb3' : (upd H8 b3 (.lst ((List.replicate dp [40]).map tx ++ ws.map tx))) b3 = some (.lst ((List.replicate dp [40] ++ ws).map tx)) := by rw [upd_same, map2]
        generalize (upd H8 b3 (.lst ((List.replicate dp [40]).map tx ++ ws.map tx))) = H9 at *
        refine ⟨(by decide : 1 ≤ sizeLine), fun b4 hb4 => ?_⟩
        have t4 := same_new hb4 (.lst [.str ")"])
        refine ⟨_, rfl, b4, (dp : Int), _, rfl, rfl, upd_same, by omega, by omega, (by show 1 * dp ≤ _; exact le_line (by omega)), fun b5 hb5 => ?_⟩
        have er2 : (List.replicate ((dp : Int)).toNat [V.str (")" : Str)]).flatten = (List.replicate dp [41]).map tx := rep_tx [41] dp
        rw [er2]
        have t5 := t4.trans (same_new hb5 (.lst ((List.replicate dp [41]).map tx)))
        have hb5' : (upd (upd H9 b4 (.lst [.str ")"])) b5 (.lst ((List.replicate dp [41]).map tx))) b5 = some (.lst ((List.replicate dp [41]).map tx)) := upd_same
        generalize (upd (upd H9 b4 (.lst [.str ")"])) b5 (.lst ((List.replicate dp [41]).map tx))) = H10 at *
        refine ⟨b3, b5, _, _, rfl, rfl, t5 _ _ hb3', hb5', ?_, fun b6 hb6 => ?_⟩
        · rw [List.length_map, List.length_map, List.length_append, List.length_replicate, List.length_replicate]; exact le_line (by omega)
        have t6 := same_new hb6 (.lst ((List.replicate dp [40] ++ ws).map tx ++ (List.replicate dp [41]).map tx))
        have tAll := ((t2.trans t3).trans t5).trans t6
        have hh11 := hh7.same tAll
        have nb6 := (hh7.same ((t2.trans t3).trans t5)).new hb6
        have hb6' : (upd H10 b6 (.lst ((List.replicate dp [40] ++ ws).map tx ++ (List.replicate dp [41]).map tx))) b6 = some (.lst ((List.replicate dp [40] ++ ws ++ List.replicate dp [41]).map tx)) := by rw [upd_same, map2 (List.replicate dp [40] ++ ws)]
        have ht11 := ht7.mono tAll
        generalize (upd H10 b6 (.lst ((List.replicate dp [40] ++ ws).map tx ++ (List.replicate dp [41]).map tx))) = H11 at *
        obtain ⟨nn, bb, rd, hnn, hbb⟩ := says.ex
        have rd2 := (show Rd .sum nn ws (some t.val) bb from rd).deep dp
        have bl := bdF_le hn4
        have wlen : (List.replicate dp [40] ++ ws ++ List.replicate dp ([41] : Word)).length = dp + ws.length + dp := by
          rw [List.length_append, List.length_append, List.length_replicate, List.length_replicate]
        refine ⟨d, g, b6, _, rfl, nb6.1, nb6.2, hb6', fun x hx => ⟨rd2.words x hx, ?_⟩, by omega, hh11, fun cs H12 toks kp12 hh12 tok htok hcs => ?_⟩
        · rcases List.mem_append.mp hx with hx | hx
          · rcases List.mem_append.mp hx with hx | hx
            · rw [List.eq_of_mem_replicate hx]; decide
            · exact says.each x hx
          · rw [List.eq_of_mem_replicate hx]; decide
        have ht12 := ht11.keep hh11 kp12
        refine ⟨_, rfl, cs, toks, nn + dp, some t.val, bb + dp, rfl, by omega, tok, by rw [htok]; exact rd2, by omega, fun a1 H13 s13 ra => ?_⟩
        rw [if_neg (by omega)] at ra
        refine ⟨_, rfl, v, t, n, rfl, ht12.mono s13, hok, by omega, hn4, sm, fun dv H14 nv s14 hv => ?_⟩
        refine ⟨.ref dv, t.val, rfl, hv, Nat.le_trans t.val_len (Nat.le_trans sm.2 (by decide)), fun a2 H15 s15 ht15 => ?_⟩
        refine ⟨polyData t.val, polyData t.val, dp_terms (TermsAt.mono ra (s14.trans s15)), dp_terms ht15, shaped_poly _, shaped_poly _, _, rfl, ?_⟩
        rw [eqv_self (shaped_poly _)]
        exact ⟨_, _, _, _, _, _, rfl, (hh12.same s13).same (s14.trans s15)⟩
    · rintro σ H1 ⟨u2, u3, u4, u5, u6, u7, rfl, hh1⟩
      refine ⟨_, rfl, d, g, rfl, hh1, fun p H2 cs due o kp2 hh2 hp go hdue => ?_⟩
      refine ⟨p, _, rfl, SqT.of hp, rfl, _, _, rfl, _, _, rfl, rfl, ?_⟩
      obtain ⟨hcs, toks, n, v, bb, tok, rd, hb, ho⟩ := go
      refine ⟨_, rfl, cs, toks, n, v, bb, rfl, hcs, tok, rd, hb, fun a1 H3 s3 ra => ?_⟩
      rw [ho] at ra
      cases o with
      | none =>
        have hd : due = .non := hdue
        subst hd
        refine ⟨_, rfl, rfl, _, rfl, ite2 (fun _ => ?_) (fun z => absurd (by decide) z)⟩
        refine ⟨(by decide : 2 ≤ sizeLine), fun p2 hp2 => ?_⟩
        refine ⟨badData, badData, dp_bad ((same_new hp2 _) _ _ ra), dp_bad upd_same, shaped_bad, shaped_bad, ?_⟩
        rw [eqv_self shaped_bad]
        exact q _
      | some t =>
        have gd : GoodP bb t := rd.good t (by
          by_cases c : 20 < n
          · rw [if_pos c] at ho; cases ho
          · rw [if_neg c] at ho; exact ho)
        have hd : PolyD H2 due t := hdue
        refine ⟨_, rfl, rfl, _, rfl, ite2 (fun z => ?_) (fun _ => ?_)⟩
        · obtain ⟨d9, k9, e9, _⟩ := hd
          rw [e9] at z
          cases z
        · refine ⟨_, rfl, due, t, rfl, hd.mono s3, by have := gd.len; omega, fun a2 H4 s4 ht4 => ?_⟩
          refine ⟨polyData t, polyData t, dp_terms (TermsAt.mono ra s4), dp_terms ht4, shaped_poly _, shaped_poly _, ?_⟩
          rw [eqv_self (shaped_poly _)]
          exact q _
end
end K46

/-! # The head: what the top has written -/
namespace K46
open PySem PySem.Spec PyProof.Rows L2
def dF (x : Str) (st : Stmt) : He.DefD := ⟨(x, none), x, x, defArgs st, defBody st, defScope st, [], []⟩
def dMe (c m q : Str) (st : Stmt) : He.DefD := ⟨(c, some m), m, q, defArgs st, defBody st, defScope st, [], []⟩
def fnL1 : List He.DefD := [dF "poly_from" (top 15),
  dF "constant" (top 16),
  dF "powers_of" (top 17),
  dF "unknown_power" (top 18),
  dF "sum_with" (top 19),
  dF "plus" (top 20),
  dF "minus" (top 21),
  dF "times" (top 22),
  dF "degree_by" (top 23),
  dF "figures_behind" (top 31),
  dF "words_of" (top 32),
  dF "check_form" (top 34),
  dF "check_great" (top 35),
  dF "power_told" (top 36),
  dF "read_poly" (top 38),
  dF "_law_hand" (top 40),
  dF "_law_draw" (top 41),
  dF "_law_any" (top 42),
  dF "_law_constant" (top 43),
  dF "_law_unknown" (top 44),
  dF "_law_plus" (top 45),
  dF "_law_times" (top 46),
  dF "_law_power" (top 47)]
def fnL2 : List He.DefD := [dF "_law_terms" (top 48),
  dF "_law_tree" (top 49),
  dF "_law_words" (top 50),
  dF "_law_tree_value" (top 51),
  dF "_law_joined" (top 52),
  dF "_law_great" (top 53),
  dF "_law_is_small" (top 54),
  dF "_law_size" (top 55),
  dF "_law_read" (top 56),
  dF "law" (top 57),
  dMe "RawPoly" "__init__" "RawPoly.__init__" (inClass (top 14) 0),
  dMe "Order" "__init__" "Order.__init__" (inClass (top 33) 0),
  dMe "Order" "take" "Order.take" (inClass (top 33) 1),
  dMe "Order" "take_factor" "Order.take_factor" (inClass (top 33) 2),
  dMe "Order" "take_behind" "Order.take_behind" (inClass (top 33) 3),
  dMe "Order" "is_whole" "Order.is_whole" (inClass (top 33) 4),
  dMe "Reader" "__init__" "Reader.__init__" (inClass (top 37) 0),
  dMe "Reader" "next_word" "Reader.next_word" (inClass (top 37) 1),
  dMe "Reader" "is_next" "Reader.is_next" (inClass (top 37) 2),
  dMe "Reader" "integer" "Reader.integer" (inClass (top 37) 3),
  dMe "Reader" "base" "Reader.base" (inClass (top 37) 4),
  dMe "Reader" "factor" "Reader.factor" (inClass (top 37) 5),
  dMe "Reader" "product" "Reader.product" (inClass (top 37) 6),
  dMe "Reader" "summed" "Reader.summed" (inClass (top 37) 7)]
def fnL : List He.DefD := fnL1 ++ fnL2
def faL0 : List He.Fa := [.glo "poly_from", .glo "constant", .glo "powers_of", .glo "unknown_power", .glo "sum_with", .glo "plus", .glo "minus", .glo "times", .glo "degree_by", .glo "figures_behind", .glo "words_of", .glo "check_form", .glo "check_great", .glo "power_told", .glo "read_poly", .glo "_law_hand", .glo "_law_draw", .glo "_law_any", .glo "_law_constant", .glo "_law_unknown", .glo "_law_plus", .glo "_law_times", .glo "_law_power", .glo "_law_terms", .glo "_law_tree", .glo "_law_words", .glo "_law_tree_value", .glo "_law_joined", .glo "_law_great", .glo "_law_is_small"]
def faL1 : List He.Fa := [.glo "_law_size", .glo "_law_read", .glo "law", .glo "BadText", .glo "RawPoly", .glo "Order", .glo "Reader", .glo "Poly", .glo "NO_POWERS", .free "tuple", .free "sorted", .free "range", .free "max", .free "any", .free "len", .free "super", .free "isinstance", .free "int", .free "str", .free "list", .free "abs", .free "sum", .int "UNKNOWNS" 4, .int "MOST_TERMS" 300, .int "MOST_POWER" 60, .int "MOST_FIGURES" 30, .int "MOST_DEEP" 20, .str "LETTERS" "xyzw", .str "FIGURES" "0123456789", .str "GREAT" "great"]
def faL2 : List He.Fa := [.str "SIGNS" "+-", .cls "RawPoly", .cls "Order", .cls "Reader", .noat "RawPoly" "terms", .noat "Order" "kept_deep", .noat "Order" "kept_wish", .noat "Reader" "kept_words", .noat "Reader" "kept_at", .meth "Order" "take", .meth "Order" "take_factor", .meth "Order" "take_behind", .meth "Order" "is_whole", .meth "Reader" "next_word", .meth "Reader" "is_next", .meth "Reader" "integer", .meth "Reader" "base", .meth "Reader" "factor", .meth "Reader" "product", .meth "Reader" "summed", .mkr "RawPoly", .mkr "Order", .mkr "Reader", .exm "BadText" "BadText" true]
def faL : List He.Fa := faL0 ++ faL1 ++ faL2
/-! ### BadText's own facts -/
abbrev P0 : Program := (PySem.Challenge.rw_boxedroots_k46_whole_polynomials_read_in).prog
abbrev cBad (K : PySem.W.Frag) : Addr := He.ga K "BadText"
abbrev fBad (K : PySem.W.Frag) : Addr := He.ma K (He.ga K "BadText") "__init__"
def eqS (a b : Option Value) : Bool := decide (a = b)
def oexB (K : PySem.W.Frag) (C : Addr) : Bool := match K.lookup C with
  | some ⟨.type t, _, .cls ⟨_, _, mro, _, _, hd, _, _, _, _, del⟩, sl⟩ => (match mro, sl.toList with
    | .ref c :: bm, [_, _, _, _, some (.builtin n), _] => decide (t = "type") && (decide (c = C) && (decide (n = "ValueError.__new__") && (hd && (!del && PySem.HandSPX.refsVE bm))))
    | _, _ => false)
  | _ => false
theorem oexB_ok {K : PySem.W.Frag} {C : Addr} (h : oexB K C = true) : ∃ nm q N bs bm sn sub ab col dd k0 k1 k2 k3 k5, K.lookup C = some (excClassObj nm q C N bs bm true sn sub ab col dd k0 k1 k2 k3 k5 "ValueError.__new__") ∧ PySem.HandSPX.refsVE bm = true := by
  unfold oexB at h
  split at h
  · rename_i t dd nm bs mro ns qn hd sn sub ab col del sl ho
    split at h
    · rename_i c bm k0 k1 k2 k3 n k5 hs
      obtain ⟨h1, h⟩ := He.ba h
      obtain ⟨h2, h⟩ := He.ba h
      obtain ⟨h3, h⟩ := He.ba h
      obtain ⟨h4, h⟩ := He.ba h
      obtain ⟨h5, h6⟩ := He.ba h
      have e1 := of_decide_eq_true h1
      have e2 := of_decide_eq_true h2
      have e3 := of_decide_eq_true h3
      have e5 : del = false := by simpa using h5
      subst e1 e2 e3 h4 e5
      have hsl : sl = #[k0, k1, k2, k3, some (.builtin "ValueError.__new__"), k5] := by
        obtain ⟨l⟩ := sl
        simp only at hs
        rw [hs]
      subst hsl
      exact ⟨nm, qn, ns, bs, bm, sn, sub, ab, col, dd, k0, k1, k2, k3, k5, ho, h6⟩
    · cases h
  · cases h
abbrev FnB : Type := Option (Str × Str × Arguments × FuncBody × Scope × Addr × List Str × Addr)
def badObs (K : PySem.W.Frag) : FnB := match K.lookup (fBad K) with
  | some ⟨_, _, .func fd, _⟩ => some (fd.name, fd.qualname, fd.params, fd.body, fd.scope, fd.globals, fd.closure.map (·.1), fd.builtins)
  | _ => none
def badVal : FnB := some ("__init__", "BadText.__init__", PySem.BadX.iA, .stmts PySem.BadX.iB, PySem.BadX.iS, mainGlobals, ["__class__"], builtinsNs)
def fnB (K : PySem.W.Frag) : Bool := match K.lookup (fBad K) with
  | some ⟨_, _, .func fd, _⟩ => (match fd.code, fd.defaults, fd.closure with
    | .ref cda, .none, [(_, cc)] => PySem.W.codeIn K (.ref cda) "BadText.__init__" && ((match K.lookup cda with
        | some ⟨_, _, .fields vs, _⟩ => (match (vs[2]? : Option Value) with
          | some (Value.str file _) => (P0.main.file : Str) == file
          | _ => false)
        | _ => false) && (match K.lookup cc with
        | some ⟨_, _, .cell (some (.ref c)), _⟩ => decide (c = cBad K)
        | _ => false))
    | _, _, _ => false)
  | _ => false
def moreB (K : PySem.W.Frag) : Bool := oexB K (cBad K) && (He.eqO (PySem.W.findIn K (.ref (cBad K)) "__setattr__") (some (some (.builtin "object.__setattr__"))) && (decide (PySem.W.subIn K (.ref (cBad K)) (.type "BaseException") = some true) && (decide (PySem.W.typeIn K (.ref (cBad K)) = some (.type "type")) && (PySem.W.keepIn K (.ref (cBad K)) &&
  (He.eqO (PySem.W.findIn K (.ref (cBad K)) "__init__") (some (some (.ref (fBad K)))) && (decide (PySem.W.typeIn K (.ref (fBad K)) = some (.type "function")) && (He.eqO (PySem.W.findIn K (.ref (cBad K)) "at") (some none) &&
  (He.eqO (PySem.W.ks_superIn K (cBad K) (cBad K) "__init__") (some (some (.builtin "ValueError.__init__"))) && (decide (PySem.W.mroIn K (cBad K) (.ref (cBad K)) = some true) && (decide (PySem.W.subIn K (.ref (cBad K)) (.type "ValueError") = some true) && (He.eqO (PySem.W.nsIn K cStatics "thirdparty.any") (some none) &&
  (fnB K && (xfB K (cBad K) && (He.tupB K "NO_POWERS" [.int 0, .int 0, .int 0, .int 0] &&
  (He.eqO (PySem.W.findIn K (.ref (He.ga K "RawPoly")) "__class__") (some (some (.builtin "object.__class__"))) && (He.eqO (PySem.W.specialIn K (.builtin "object.__class__") "__get__") (some (some (.builtin "getset_descriptor.__get__"))) && (decide (PySem.W.takesIn K (.builtin "object.__class__") = some true) &&
  (decide (PySem.W.mroIn K (He.ga K "RawPoly") (.type "object") = some true) && decide (PySem.W.kitOne K (.ref (He.ga K "RawPoly")) (.ref (He.ga K "Poly")) = some true)))))))))))))))))))
theorem bad_ok {K : PySem.W.Frag} (h1 : badObs K = badVal) (h : moreB K = true) : PySem.BadX.BadTxt P0 K (cBad K) (fBad K) ∧ XfC K (cBad K) ∧ (∀ H : Hp, SqT K H (He.ga K "NO_POWERS") (mtup (0, 0, 0, 0))) ∧ (Cls K (He.ga K "RawPoly") → InsF K (He.ga K "RawPoly") (He.ga K "Poly")) := by
  obtain ⟨a1, h⟩ := He.ba h
  obtain ⟨a2, h⟩ := He.ba h
  obtain ⟨a3, h⟩ := He.ba h
  obtain ⟨a4, h⟩ := He.ba h
  obtain ⟨a5, h⟩ := He.ba h
  obtain ⟨a6, h⟩ := He.ba h
  obtain ⟨a7, h⟩ := He.ba h
  obtain ⟨a8, h⟩ := He.ba h
  obtain ⟨a9, h⟩ := He.ba h
  obtain ⟨a10, h⟩ := He.ba h
  obtain ⟨a11, h⟩ := He.ba h
  obtain ⟨a12, h⟩ := He.ba h
  obtain ⟨a13, h⟩ := He.ba h
  obtain ⟨a14, h⟩ := He.ba h
  obtain ⟨a15, h⟩ := He.ba h
  obtain ⟨a16, h⟩ := He.ba h
  obtain ⟨a17, h⟩ := He.ba h
  obtain ⟨a18, h⟩ := He.ba h
  obtain ⟨a19, a20⟩ := He.ba h
  refine ⟨⟨⟨oexB_ok a1, He.eqO_ok a2, of_decide_eq_true a3, of_decide_eq_true a4, a5⟩, He.eqO_ok a6, of_decide_eq_true a7, He.eqO_ok a8, He.eqO_ok a9, of_decide_eq_true a10, of_decide_eq_true a11, He.eqO_ok a12, ?_, by kernel_rfl⟩, xfB_ok a14, fun H => He.tupB_ok a15 H,
    fun cl => ⟨cl, He.eqO_ok a16, He.eqO_ok a17, of_decide_eq_true a18, of_decide_eq_true a19, of_decide_eq_true a20⟩⟩
  unfold fnB at a13
  unfold badObs at h1
  cases q : K.lookup (fBad K) with
  | none => rw [q] at a13; cases a13
  | some o =>
    obtain ⟨oc, od, dt, osl⟩ := o
    rw [q] at a13 h1
    cases dt with
    | func fd =>
      obtain ⟨n1, n2, n3, n4, n5, n6, n7, n8, n9, n10, n11, n12, n13, n14, n15⟩ := fd
      have e2 : (some (n1, n2, n3, n4, n5, n6, n7.map (·.1), n15) : FnB) = badVal := h1
      unfold badVal at e2
      simp only [Option.some.injEq, Prod.mk.injEq] at e2
      obtain ⟨h1, h2, h3, h4, h5, h6, h7, h8⟩ := e2
      subst h1 h2 h3 h4 h5 h6 h8
      dsimp only at a13
      split at a13
      · rename_i cda x cc
        obtain ⟨c1, c2⟩ := He.ba a13
        obtain ⟨c3, c4⟩ := He.ba c2
        have ex : x = "__class__" := by simpa using h7
        subst ex
        refine ⟨oc, od, .none, n9, n10, n11, n12, cda, n14, cc, osl, rfl, c1, ?_, ?_⟩
        · split at c3
          · rename_i ccl cdd vs ccs hl
            split at c3
            · rename_i file tf hv
              exact ⟨ccl, cdd, vs, ccs, file, tf, hl, hv, c3⟩
            · cases c3
          · cases c3
        · split at c4
          · rename_i cl cld c csl hl
            have ec := of_decide_eq_true c4
            subst ec
            exact ⟨cl, cld, csl, hl⟩
          · cases c4
      · cases a13
    | _ => cases a13
/-! ### the Hook -/
abbrev AlK : Type := He.AlD × FnB × Bool
def asK (g : Addr → Option Obj) : List Addr := He.asD g 6 ++ [cStatics]
def obsK (K : PySem.W.Frag) : AlK := (He.obsD faL fnL K, badObs K, moreB K)
def valK : AlK := (He.valD fnL, badVal, true)
def obsKG (g : Addr → Option Obj) : AlK := obsK (He.frG g (asK g))
def hookK : PySem.W.Hook where
  α := AlK
  obs := fun s => obsKG s.heap.get?
  val := fun _ => valK
  says := fun _ h => ∃ K : PySem.W.Frag, K.In h ∧ obsK K = valK
  of := fun _ _ e => ⟨_, He.frG_in, e⟩
  keeps := fun _ _ _ ⟨K, hK, c⟩ k => ⟨K, PySem.W.Frag.In.keeps hK k, c⟩
theorem obsKG_eq {g : Addr → Option Obj} {s : Shared} (h : ∀ a, g a = s.heap.get? a) : obsKG g = hookK.obs s := by
  have e : g = s.heap.get? := funext h
  rw [e] <;> rfl
section
variable {K : PySem.W.Frag} {h : Heap} {mg : Str → Option Value}
theorem has_of {x : Str} {st : Stmt} {ps : List Str} {fd : FuncData} (g : mg x = some (.ref (He.ga K x))) (F : FunD K x x (defArgs st) (defBody st) (defScope st) [] [] (He.ga K x) fd) (b : L2.Binds K fd ps []) : Has K mg x st ps := ⟨_, fd, g, He5.fun_of F, b⟩
theorem hasM_of {c m q : Str} {st : Stmt} {ps : List Str} {fd : FuncData} (M : Meth K (He.ga K c) m (He.ma K (He.ga K c) m)) (F : FunD K m q (defArgs st) (defBody st) (defScope st) [] [] (He.ma K (He.ga K c) m) fd) (b : L2.Binds K fd ps []) : HasM K (He.ga K c) m q st ps := ⟨_, fd, M, He5.fun_of F, b⟩
theorem hasI_of {c q : Str} {st : Stmt} {ps : List Str} {fd : FuncData} (g : mg c = some (.ref (He.ga K c))) (M : Mk K (He.ga K c) (He.ma K (He.ga K c) "__init__")) (F : FunD K "__init__" q (defArgs st) (defBody st) (defScope st) [] [] (He.ma K (He.ga K c) "__init__") fd) (b : L2.Binds K fd ps []) : HasI K mg c (He.ga K c) q st ps := ⟨_, fd, g, M, He5.fun_of F, b⟩
end
theorem facts {w : World} {K : PySem.W.Frag} {h : Heap} {mg : Str → Option Value} {f : Addr} (X : K.In h) (G : h.Ns mainGlobals mg) (hfa : mg ("law" : Str) = some (.ref f)) (ck : obsK K = valK) :
    ∃ fd : FuncData, (∀ (s : Shared) (v : Value), BindsTo s fd ⟨[v], []⟩ [("_law_script", v)]) ∧ ∀ base : Heap, K.In base → base.Ns mainGlobals mg → FnOk P0 w K mg base CX0 92 f fd ["_law_script"] (spLaw K) := by
  have c : He.SaysD faL fnL K := congrArg (fun z : AlK => z.1) ck
  obtain ⟨T, XF, hZ, INS⟩ := bad_ok (congrArg (fun z : AlK => z.2.1) ck) (congrArg (fun z : AlK => z.2.2) ck)
  obtain ⟨d_poly_from, F_poly_from⟩ := c.def_ 0 (d := dF "poly_from" (top 15)) rfl
  have h_poly_from : Has K mg "poly_from" (top 15) ["parts"] := has_of (He.glo_ok X G (c.fact 0 (f := .glo "poly_from") rfl)) F_poly_from ((He5.fun_of (st := top 15) F_poly_from).binds (ps := ["parts"]) fun _ _ _ _ _ _ us hl => match us, hl with | [_], _ => rfl)
  obtain ⟨d_constant, F_constant⟩ := c.def_ 1 (d := dF "constant" (top 16)) rfl
  have h_constant : Has K mg "constant" (top 16) ["number"] := has_of (He.glo_ok X G (c.fact 1 (f := .glo "constant") rfl)) F_constant ((He5.fun_of (st := top 16) F_constant).binds (ps := ["number"]) fun _ _ _ _ _ _ us hl => match us, hl with | [_], _ => rfl)
  obtain ⟨d_powers_of, F_powers_of⟩ := c.def_ 2 (d := dF "powers_of" (top 17)) rfl
  have h_powers_of : Has K mg "powers_of" (top 17) ["k", "many"] := has_of (He.glo_ok X G (c.fact 2 (f := .glo "powers_of") rfl)) F_powers_of ((He5.fun_of (st := top 17) F_powers_of).binds (ps := ["k", "many"]) fun _ _ _ _ _ _ us hl => match us, hl with | [_, _], _ => rfl)
  obtain ⟨d_unknown_power, F_unknown_power⟩ := c.def_ 3 (d := dF "unknown_power" (top 18)) rfl
  have h_unknown_power : Has K mg "unknown_power" (top 18) ["k", "many"] := has_of (He.glo_ok X G (c.fact 3 (f := .glo "unknown_power") rfl)) F_unknown_power ((He5.fun_of (st := top 18) F_unknown_power).binds (ps := ["k", "many"]) fun _ _ _ _ _ _ us hl => match us, hl with | [_, _], _ => rfl)
  obtain ⟨d_sum_with, F_sum_with⟩ := c.def_ 4 (d := dF "sum_with" (top 19)) rfl
  have h_sum_with : Has K mg "sum_with" (top 19) ["one", "other", "by"] := has_of (He.glo_ok X G (c.fact 4 (f := .glo "sum_with") rfl)) F_sum_with ((He5.fun_of (st := top 19) F_sum_with).binds (ps := ["one", "other", "by"]) fun _ _ _ _ _ _ us hl => match us, hl with | [_, _, _], _ => rfl)
  obtain ⟨d_plus, F_plus⟩ := c.def_ 5 (d := dF "plus" (top 20)) rfl
  have h_plus : Has K mg "plus" (top 20) ["one", "other"] := has_of (He.glo_ok X G (c.fact 5 (f := .glo "plus") rfl)) F_plus ((He5.fun_of (st := top 20) F_plus).binds (ps := ["one", "other"]) fun _ _ _ _ _ _ us hl => match us, hl with | [_, _], _ => rfl)
  obtain ⟨d_minus, F_minus⟩ := c.def_ 6 (d := dF "minus" (top 21)) rfl
  have h_minus : Has K mg "minus" (top 21) ["one", "other"] := has_of (He.glo_ok X G (c.fact 6 (f := .glo "minus") rfl)) F_minus ((He5.fun_of (st := top 21) F_minus).binds (ps := ["one", "other"]) fun _ _ _ _ _ _ us hl => match us, hl with | [_, _], _ => rfl)
  obtain ⟨d_times, F_times⟩ := c.def_ 7 (d := dF "times" (top 22)) rfl
  have h_times : Has K mg "times" (top 22) ["one", "other"] := has_of (He.glo_ok X G (c.fact 7 (f := .glo "times") rfl)) F_times ((He5.fun_of (st := top 22) F_times).binds (ps := ["one", "other"]) fun _ _ _ _ _ _ us hl => match us, hl with | [_, _], _ => rfl)
  obtain ⟨d_degree_by, F_degree_by⟩ := c.def_ 8 (d := dF "degree_by" (top 23)) rfl
  have h_degree_by : Has K mg "degree_by" (top 23) ["poly", "k"] := has_of (He.glo_ok X G (c.fact 8 (f := .glo "degree_by") rfl)) F_degree_by ((He5.fun_of (st := top 23) F_degree_by).binds (ps := ["poly", "k"]) fun _ _ _ _ _ _ us hl => match us, hl with | [_, _], _ => rfl)
  obtain ⟨d_figures_behind, F_figures_behind⟩ := c.def_ 9 (d := dF "figures_behind" (top 31)) rfl
  have h_figures_behind : Has K mg "figures_behind" (top 31) ["text", "at"] := has_of (He.glo_ok X G (c.fact 9 (f := .glo "figures_behind") rfl)) F_figures_behind ((He5.fun_of (st := top 31) F_figures_behind).binds (ps := ["text", "at"]) fun _ _ _ _ _ _ us hl => match us, hl with | [_, _], _ => rfl)
  obtain ⟨d_words_of, F_words_of⟩ := c.def_ 10 (d := dF "words_of" (top 32)) rfl
  have h_words_of : Has K mg "words_of" (top 32) ["text"] := has_of (He.glo_ok X G (c.fact 10 (f := .glo "words_of") rfl)) F_words_of ((He5.fun_of (st := top 32) F_words_of).binds (ps := ["text"]) fun _ _ _ _ _ _ us hl => match us, hl with | [_], _ => rfl)
  obtain ⟨d_check_form, F_check_form⟩ := c.def_ 11 (d := dF "check_form" (top 34)) rfl
  have h_check_form : Has K mg "check_form" (top 34) ["text", "words"] := has_of (He.glo_ok X G (c.fact 11 (f := .glo "check_form") rfl)) F_check_form ((He5.fun_of (st := top 34) F_check_form).binds (ps := ["text", "words"]) fun _ _ _ _ _ _ us hl => match us, hl with | [_, _], _ => rfl)
  obtain ⟨d_check_great, F_check_great⟩ := c.def_ 12 (d := dF "check_great" (top 35)) rfl
  have h_check_great : Has K mg "check_great" (top 35) ["poly"] := has_of (He.glo_ok X G (c.fact 12 (f := .glo "check_great") rfl)) F_check_great ((He5.fun_of (st := top 35) F_check_great).binds (ps := ["poly"]) fun _ _ _ _ _ _ us hl => match us, hl with | [_], _ => rfl)
  obtain ⟨d_power_told, F_power_told⟩ := c.def_ 13 (d := dF "power_told" (top 36)) rfl
  have h_power_told : Has K mg "power_told" (top 36) ["poly", "many"] := has_of (He.glo_ok X G (c.fact 13 (f := .glo "power_told") rfl)) F_power_told ((He5.fun_of (st := top 36) F_power_told).binds (ps := ["poly", "many"]) fun _ _ _ _ _ _ us hl => match us, hl with | [_, _], _ => rfl)
  obtain ⟨d_read_poly, F_read_poly⟩ := c.def_ 14 (d := dF "read_poly" (top 38)) rfl
  have h_read_poly : Has K mg "read_poly" (top 38) ["text"] := has_of (He.glo_ok X G (c.fact 14 (f := .glo "read_poly") rfl)) F_read_poly ((He5.fun_of (st := top 38) F_read_poly).binds (ps := ["text"]) fun _ _ _ _ _ _ us hl => match us, hl with | [_], _ => rfl)
  obtain ⟨d__law_hand, F__law_hand⟩ := c.def_ 15 (d := dF "_law_hand" (top 40)) rfl
  have h__law_hand : Has K mg "_law_hand" (top 40) ["_law_script"] := has_of (He.glo_ok X G (c.fact 15 (f := .glo "_law_hand") rfl)) F__law_hand ((He5.fun_of (st := top 40) F__law_hand).binds (ps := ["_law_script"]) fun _ _ _ _ _ _ us hl => match us, hl with | [_], _ => rfl)
  obtain ⟨d__law_draw, F__law_draw⟩ := c.def_ 16 (d := dF "_law_draw" (top 41)) rfl
  have h__law_draw : Has K mg "_law_draw" (top 41) ["_law_hand_here", "_law_many"] := has_of (He.glo_ok X G (c.fact 16 (f := .glo "_law_draw") rfl)) F__law_draw ((He5.fun_of (st := top 41) F__law_draw).binds (ps := ["_law_hand_here", "_law_many"]) fun _ _ _ _ _ _ us hl => match us, hl with | [_, _], _ => rfl)
  obtain ⟨d__law_any, F__law_any⟩ := c.def_ 17 (d := dF "_law_any" (top 42)) rfl
  have h__law_any : Has K mg "_law_any" (top 42) ["_law_hand_here", "_law_things"] := has_of (He.glo_ok X G (c.fact 17 (f := .glo "_law_any") rfl)) F__law_any ((He5.fun_of (st := top 42) F__law_any).binds (ps := ["_law_hand_here", "_law_things"]) fun _ _ _ _ _ _ us hl => match us, hl with | [_, _], _ => rfl)
  obtain ⟨d__law_constant, F__law_constant⟩ := c.def_ 18 (d := dF "_law_constant" (top 43)) rfl
  have h__law_constant : Has K mg "_law_constant" (top 43) ["_law_number"] := has_of (He.glo_ok X G (c.fact 18 (f := .glo "_law_constant") rfl)) F__law_constant ((He5.fun_of (st := top 43) F__law_constant).binds (ps := ["_law_number"]) fun _ _ _ _ _ _ us hl => match us, hl with | [_], _ => rfl)
  obtain ⟨d__law_unknown, F__law_unknown⟩ := c.def_ 19 (d := dF "_law_unknown" (top 44)) rfl
  have h__law_unknown : Has K mg "_law_unknown" (top 44) ["_law_k"] := has_of (He.glo_ok X G (c.fact 19 (f := .glo "_law_unknown") rfl)) F__law_unknown ((He5.fun_of (st := top 44) F__law_unknown).binds (ps := ["_law_k"]) fun _ _ _ _ _ _ us hl => match us, hl with | [_], _ => rfl)
  obtain ⟨d__law_plus, F__law_plus⟩ := c.def_ 20 (d := dF "_law_plus" (top 45)) rfl
  have h__law_plus : Has K mg "_law_plus" (top 45) ["_law_one", "_law_other", "_law_by"] := has_of (He.glo_ok X G (c.fact 20 (f := .glo "_law_plus") rfl)) F__law_plus ((He5.fun_of (st := top 45) F__law_plus).binds (ps := ["_law_one", "_law_other", "_law_by"]) fun _ _ _ _ _ _ us hl => match us, hl with | [_, _, _], _ => rfl)
  obtain ⟨d__law_times, F__law_times⟩ := c.def_ 21 (d := dF "_law_times" (top 46)) rfl
  have h__law_times : Has K mg "_law_times" (top 46) ["_law_one", "_law_other"] := has_of (He.glo_ok X G (c.fact 21 (f := .glo "_law_times") rfl)) F__law_times ((He5.fun_of (st := top 46) F__law_times).binds (ps := ["_law_one", "_law_other"]) fun _ _ _ _ _ _ us hl => match us, hl with | [_, _], _ => rfl)
  obtain ⟨d__law_power, F__law_power⟩ := c.def_ 22 (d := dF "_law_power" (top 47)) rfl
  have h__law_power : Has K mg "_law_power" (top 47) ["_law_one", "_law_many"] := has_of (He.glo_ok X G (c.fact 22 (f := .glo "_law_power") rfl)) F__law_power ((He5.fun_of (st := top 47) F__law_power).binds (ps := ["_law_one", "_law_many"]) fun _ _ _ _ _ _ us hl => match us, hl with | [_, _], _ => rfl)
  obtain ⟨d__law_terms, F__law_terms⟩ := c.def_ 23 (d := dF "_law_terms" (top 48)) rfl
  have h__law_terms : Has K mg "_law_terms" (top 48) ["_law_one"] := has_of (He.glo_ok X G (c.fact 23 (f := .glo "_law_terms") rfl)) F__law_terms ((He5.fun_of (st := top 48) F__law_terms).binds (ps := ["_law_one"]) fun _ _ _ _ _ _ us hl => match us, hl with | [_], _ => rfl)
  obtain ⟨d__law_tree, F__law_tree⟩ := c.def_ 24 (d := dF "_law_tree" (top 49)) rfl
  have h__law_tree : Has K mg "_law_tree" (top 49) ["_law_hand_here", "_law_many", "_law_depth"] := has_of (He.glo_ok X G (c.fact 24 (f := .glo "_law_tree") rfl)) F__law_tree ((He5.fun_of (st := top 49) F__law_tree).binds (ps := ["_law_hand_here", "_law_many", "_law_depth"]) fun _ _ _ _ _ _ us hl => match us, hl with | [_, _, _], _ => rfl)
  obtain ⟨d__law_words, F__law_words⟩ := c.def_ 25 (d := dF "_law_words" (top 50)) rfl
  have h__law_words : Has K mg "_law_words" (top 50) ["_law_hand_here", "_law_tree_here", "_law_binds"] := has_of (He.glo_ok X G (c.fact 25 (f := .glo "_law_words") rfl)) F__law_words ((He5.fun_of (st := top 50) F__law_words).binds (ps := ["_law_hand_here", "_law_tree_here", "_law_binds"]) fun _ _ _ _ _ _ us hl => match us, hl with | [_, _, _], _ => rfl)
  obtain ⟨d__law_tree_value, F__law_tree_value⟩ := c.def_ 26 (d := dF "_law_tree_value" (top 51)) rfl
  have h__law_tree_value : Has K mg "_law_tree_value" (top 51) ["_law_tree_here"] := has_of (He.glo_ok X G (c.fact 26 (f := .glo "_law_tree_value") rfl)) F__law_tree_value ((He5.fun_of (st := top 51) F__law_tree_value).binds (ps := ["_law_tree_here"]) fun _ _ _ _ _ _ us hl => match us, hl with | [_], _ => rfl)
  obtain ⟨d__law_joined, F__law_joined⟩ := c.def_ 27 (d := dF "_law_joined" (top 52)) rfl
  have h__law_joined : Has K mg "_law_joined" (top 52) ["_law_hand_here", "_law_words_here"] := has_of (He.glo_ok X G (c.fact 27 (f := .glo "_law_joined") rfl)) F__law_joined ((He5.fun_of (st := top 52) F__law_joined).binds (ps := ["_law_hand_here", "_law_words_here"]) fun _ _ _ _ _ _ us hl => match us, hl with | [_, _], _ => rfl)
  obtain ⟨d__law_great, F__law_great⟩ := c.def_ 28 (d := dF "_law_great" (top 53)) rfl
  have h__law_great : Has K mg "_law_great" (top 53) ["_law_hand_here"] := has_of (He.glo_ok X G (c.fact 28 (f := .glo "_law_great") rfl)) F__law_great ((He5.fun_of (st := top 53) F__law_great).binds (ps := ["_law_hand_here"]) fun _ _ _ _ _ _ us hl => match us, hl with | [_], _ => rfl)
  obtain ⟨d__law_is_small, F__law_is_small⟩ := c.def_ 29 (d := dF "_law_is_small" (top 54)) rfl
  have h__law_is_small : Has K mg "_law_is_small" (top 54) ["_law_tree_here"] := has_of (He.glo_ok X G (c.fact 29 (f := .glo "_law_is_small") rfl)) F__law_is_small ((He5.fun_of (st := top 54) F__law_is_small).binds (ps := ["_law_tree_here"]) fun _ _ _ _ _ _ us hl => match us, hl with | [_], _ => rfl)
  obtain ⟨d__law_size, F__law_size⟩ := c.def_ 30 (d := dF "_law_size" (top 55)) rfl
  have h__law_size : Has K mg "_law_size" (top 55) ["_law_tree_here"] := has_of (He.glo_ok X G (c.fact 30 (f := .glo "_law_size") rfl)) F__law_size ((He5.fun_of (st := top 55) F__law_size).binds (ps := ["_law_tree_here"]) fun _ _ _ _ _ _ us hl => match us, hl with | [_], _ => rfl)
  obtain ⟨d__law_read, F__law_read⟩ := c.def_ 31 (d := dF "_law_read" (top 56)) rfl
  have h__law_read : Has K mg "_law_read" (top 56) ["_law_text"] := has_of (He.glo_ok X G (c.fact 31 (f := .glo "_law_read") rfl)) F__law_read ((He5.fun_of (st := top 56) F__law_read).binds (ps := ["_law_text"]) fun _ _ _ _ _ _ us hl => match us, hl with | [_], _ => rfl)
  obtain ⟨d_law, F_law⟩ := c.def_ 32 (d := dF "law" (top 57)) rfl
  obtain ⟨d_RawPoly_init, F_RawPoly_init⟩ := c.def_ 33 (d := dMe "RawPoly" "__init__" "RawPoly.__init__" (inClass (top 14) 0)) rfl
  have h_RawPoly_init : HasI K mg "RawPoly" (He.ga K "RawPoly") "RawPoly.__init__" (inClass (top 14) 0) ["self", "terms"] := hasI_of (He.glo_ok X G (c.fact 34 (f := .glo "RawPoly") rfl)) (He.mkr_ok (c.fact 80 (f := .mkr "RawPoly") rfl)) F_RawPoly_init ((He5.fun_of (st := inClass (top 14) 0) F_RawPoly_init).binds (ps := ["self", "terms"]) fun _ _ _ _ _ _ us hl => match us, hl with | [_, _], _ => rfl)
  obtain ⟨d_Order_init, F_Order_init⟩ := c.def_ 34 (d := dMe "Order" "__init__" "Order.__init__" (inClass (top 33) 0)) rfl
  have h_Order_init : HasI K mg "Order" (He.ga K "Order") "Order.__init__" (inClass (top 33) 0) ["self"] := hasI_of (He.glo_ok X G (c.fact 35 (f := .glo "Order") rfl)) (He.mkr_ok (c.fact 81 (f := .mkr "Order") rfl)) F_Order_init ((He5.fun_of (st := inClass (top 33) 0) F_Order_init).binds (ps := ["self"]) fun _ _ _ _ _ _ us hl => match us, hl with | [_], _ => rfl)
  obtain ⟨d_Order_take, F_Order_take⟩ := c.def_ 35 (d := dMe "Order" "take" "Order.take" (inClass (top 33) 1)) rfl
  have h_Order_take : HasM K (He.ga K "Order") "take" "Order.take" (inClass (top 33) 1) ["self", "word"] := hasM_of (He.meth_ok (c.fact 69 (f := .meth "Order" "take") rfl)) F_Order_take ((He5.fun_of (st := inClass (top 33) 1) F_Order_take).binds (ps := ["self", "word"]) fun _ _ _ _ _ _ us hl => match us, hl with | [_, _], _ => rfl)
  obtain ⟨d_Order_take_factor, F_Order_take_factor⟩ := c.def_ 36 (d := dMe "Order" "take_factor" "Order.take_factor" (inClass (top 33) 2)) rfl
  have h_Order_take_factor : HasM K (He.ga K "Order") "take_factor" "Order.take_factor" (inClass (top 33) 2) ["self", "word"] := hasM_of (He.meth_ok (c.fact 70 (f := .meth "Order" "take_factor") rfl)) F_Order_take_factor ((He5.fun_of (st := inClass (top 33) 2) F_Order_take_factor).binds (ps := ["self", "word"]) fun _ _ _ _ _ _ us hl => match us, hl with | [_, _], _ => rfl)
  obtain ⟨d_Order_take_behind, F_Order_take_behind⟩ := c.def_ 37 (d := dMe "Order" "take_behind" "Order.take_behind" (inClass (top 33) 3)) rfl
  have h_Order_take_behind : HasM K (He.ga K "Order") "take_behind" "Order.take_behind" (inClass (top 33) 3) ["self", "word"] := hasM_of (He.meth_ok (c.fact 71 (f := .meth "Order" "take_behind") rfl)) F_Order_take_behind ((He5.fun_of (st := inClass (top 33) 3) F_Order_take_behind).binds (ps := ["self", "word"]) fun _ _ _ _ _ _ us hl => match us, hl with | [_, _], _ => rfl)
  obtain ⟨d_Order_is_whole, F_Order_is_whole⟩ := c.def_ 38 (d := dMe "Order" "is_whole" "Order.is_whole" (inClass (top 33) 4)) rfl
  have h_Order_is_whole : HasM K (He.ga K "Order") "is_whole" "Order.is_whole" (inClass (top 33) 4) ["self"] := hasM_of (He.meth_ok (c.fact 72 (f := .meth "Order" "is_whole") rfl)) F_Order_is_whole ((He5.fun_of (st := inClass (top 33) 4) F_Order_is_whole).binds (ps := ["self"]) fun _ _ _ _ _ _ us hl => match us, hl with | [_], _ => rfl)
  obtain ⟨d_Reader_init, F_Reader_init⟩ := c.def_ 39 (d := dMe "Reader" "__init__" "Reader.__init__" (inClass (top 37) 0)) rfl
  have h_Reader_init : HasI K mg "Reader" (He.ga K "Reader") "Reader.__init__" (inClass (top 37) 0) ["self", "words"] := hasI_of (He.glo_ok X G (c.fact 36 (f := .glo "Reader") rfl)) (He.mkr_ok (c.fact 82 (f := .mkr "Reader") rfl)) F_Reader_init ((He5.fun_of (st := inClass (top 37) 0) F_Reader_init).binds (ps := ["self", "words"]) fun _ _ _ _ _ _ us hl => match us, hl with | [_, _], _ => rfl)
  obtain ⟨d_Reader_next_word, F_Reader_next_word⟩ := c.def_ 40 (d := dMe "Reader" "next_word" "Reader.next_word" (inClass (top 37) 1)) rfl
  have h_Reader_next_word : HasM K (He.ga K "Reader") "next_word" "Reader.next_word" (inClass (top 37) 1) ["self"] := hasM_of (He.meth_ok (c.fact 73 (f := .meth "Reader" "next_word") rfl)) F_Reader_next_word ((He5.fun_of (st := inClass (top 37) 1) F_Reader_next_word).binds (ps := ["self"]) fun _ _ _ _ _ _ us hl => match us, hl with | [_], _ => rfl)
  obtain ⟨d_Reader_is_next, F_Reader_is_next⟩ := c.def_ 41 (d := dMe "Reader" "is_next" "Reader.is_next" (inClass (top 37) 2)) rfl
  have h_Reader_is_next : HasM K (He.ga K "Reader") "is_next" "Reader.is_next" (inClass (top 37) 2) ["self", "words"] := hasM_of (He.meth_ok (c.fact 74 (f := .meth "Reader" "is_next") rfl)) F_Reader_is_next ((He5.fun_of (st := inClass (top 37) 2) F_Reader_is_next).binds (ps := ["self", "words"]) fun _ _ _ _ _ _ us hl => match us, hl with | [_, _], _ => rfl)
  obtain ⟨d_Reader_integer, F_Reader_integer⟩ := c.def_ 42 (d := dMe "Reader" "integer" "Reader.integer" (inClass (top 37) 3)) rfl
  have h_Reader_integer : HasM K (He.ga K "Reader") "integer" "Reader.integer" (inClass (top 37) 3) ["self"] := hasM_of (He.meth_ok (c.fact 75 (f := .meth "Reader" "integer") rfl)) F_Reader_integer ((He5.fun_of (st := inClass (top 37) 3) F_Reader_integer).binds (ps := ["self"]) fun _ _ _ _ _ _ us hl => match us, hl with | [_], _ => rfl)
  obtain ⟨d_Reader_base, F_Reader_base⟩ := c.def_ 43 (d := dMe "Reader" "base" "Reader.base" (inClass (top 37) 4)) rfl
  have h_Reader_base : HasM K (He.ga K "Reader") "base" "Reader.base" (inClass (top 37) 4) ["self"] := hasM_of (He.meth_ok (c.fact 76 (f := .meth "Reader" "base") rfl)) F_Reader_base ((He5.fun_of (st := inClass (top 37) 4) F_Reader_base).binds (ps := ["self"]) fun _ _ _ _ _ _ us hl => match us, hl with | [_], _ => rfl)
  obtain ⟨d_Reader_factor, F_Reader_factor⟩ := c.def_ 44 (d := dMe "Reader" "factor" "Reader.factor" (inClass (top 37) 5)) rfl
  have h_Reader_factor : HasM K (He.ga K "Reader") "factor" "Reader.factor" (inClass (top 37) 5) ["self"] := hasM_of (He.meth_ok (c.fact 77 (f := .meth "Reader" "factor") rfl)) F_Reader_factor ((He5.fun_of (st := inClass (top 37) 5) F_Reader_factor).binds (ps := ["self"]) fun _ _ _ _ _ _ us hl => match us, hl with | [_], _ => rfl)
  obtain ⟨d_Reader_product, F_Reader_product⟩ := c.def_ 45 (d := dMe "Reader" "product" "Reader.product" (inClass (top 37) 6)) rfl
  have h_Reader_product : HasM K (He.ga K "Reader") "product" "Reader.product" (inClass (top 37) 6) ["self"] := hasM_of (He.meth_ok (c.fact 78 (f := .meth "Reader" "product") rfl)) F_Reader_product ((He5.fun_of (st := inClass (top 37) 6) F_Reader_product).binds (ps := ["self"]) fun _ _ _ _ _ _ us hl => match us, hl with | [_], _ => rfl)
  obtain ⟨d_Reader_summed, F_Reader_summed⟩ := c.def_ 46 (d := dMe "Reader" "summed" "Reader.summed" (inClass (top 37) 7)) rfl
  have h_Reader_summed : HasM K (He.ga K "Reader") "summed" "Reader.summed" (inClass (top 37) 7) ["self"] := hasM_of (He.meth_ok (c.fact 79 (f := .meth "Reader" "summed") rfl)) F_Reader_summed ((He5.fun_of (st := inClass (top 37) 7) F_Reader_summed).binds (ps := ["self"]) fun _ _ _ _ _ _ us hl => match us, hl with | [_], _ => rfl)
  have n_tuple : mg "tuple" = none := He.free_ok X G (c.fact 39 (f := .free "tuple") rfl)
  have n_sorted : mg "sorted" = none := He.free_ok X G (c.fact 40 (f := .free "sorted") rfl)
  have n_range : mg "range" = none := He.free_ok X G (c.fact 41 (f := .free "range") rfl)
  have n_max : mg "max" = none := He.free_ok X G (c.fact 42 (f := .free "max") rfl)
  have n_any : mg "any" = none := He.free_ok X G (c.fact 43 (f := .free "any") rfl)
  have n_len : mg "len" = none := He.free_ok X G (c.fact 44 (f := .free "len") rfl)
  have n_super : mg "super" = none := He.free_ok X G (c.fact 45 (f := .free "super") rfl)
  have n_isinstance : mg "isinstance" = none := He.free_ok X G (c.fact 46 (f := .free "isinstance") rfl)
  have n_int : mg "int" = none := He.free_ok X G (c.fact 47 (f := .free "int") rfl)
  have n_str : mg "str" = none := He.free_ok X G (c.fact 48 (f := .free "str") rfl)
  have n_list : mg "list" = none := He.free_ok X G (c.fact 49 (f := .free "list") rfl)
  have n_abs : mg "abs" = none := He.free_ok X G (c.fact 50 (f := .free "abs") rfl)
  have n_sum : mg "sum" = none := He.free_ok X G (c.fact 51 (f := .free "sum") rfl)
  have i_UNKNOWNS := He.int_ok X G (c.fact 52 (f := .int "UNKNOWNS" 4) rfl)
  have i_MOST_TERMS := He.int_ok X G (c.fact 53 (f := .int "MOST_TERMS" 300) rfl)
  have i_MOST_POWER := He.int_ok X G (c.fact 54 (f := .int "MOST_POWER" 60) rfl)
  have i_MOST_FIGURES := He.int_ok X G (c.fact 55 (f := .int "MOST_FIGURES" 30) rfl)
  have i_MOST_DEEP := He.int_ok X G (c.fact 56 (f := .int "MOST_DEEP" 20) rfl)
  have s_LETTERS := He.str_ok X G (c.fact 57 (f := .str "LETTERS" "xyzw") rfl)
  have s_FIGURES := He.str_ok X G (c.fact 58 (f := .str "FIGURES" "0123456789") rfl)
  have s_GREAT := He.str_ok X G (c.fact 59 (f := .str "GREAT" "great") rfl)
  have s_SIGNS := He.str_ok X G (c.fact 60 (f := .str "SIGNS" "+-") rfl)
  have c_RawPoly : Cls K (He.ga K "RawPoly") := He.cls_ok (c.fact 61 (f := .cls "RawPoly") rfl)
  have c_Order : Cls K (He.ga K "Order") := He.cls_ok (c.fact 62 (f := .cls "Order") rfl)
  have c_Reader : Cls K (He.ga K "Reader") := He.cls_ok (c.fact 63 (f := .cls "Reader") rfl)
  have a_RawPoly_terms : NoAttr K (He.ga K "RawPoly") "terms" := He.noat_ok (c.fact 64 (f := .noat "RawPoly" "terms") rfl)
  have a_Order_kept_deep : NoAttr K (He.ga K "Order") "kept_deep" := He.noat_ok (c.fact 65 (f := .noat "Order" "kept_deep") rfl)
  have a_Order_kept_wish : NoAttr K (He.ga K "Order") "kept_wish" := He.noat_ok (c.fact 66 (f := .noat "Order" "kept_wish") rfl)
  have a_Reader_kept_words : NoAttr K (He.ga K "Reader") "kept_words" := He.noat_ok (c.fact 67 (f := .noat "Reader" "kept_words") rfl)
  have a_Reader_kept_at : NoAttr K (He.ga K "Reader") "kept_at" := He.noat_ok (c.fact 68 (f := .noat "Reader" "kept_at") rfl)
  have g_Bad : mg "BadText" = some (.ref (He.ga K "BadText")) := He.glo_ok X G (c.fact 33 (f := .glo "BadText") rfl)
  have g_Poly : mg "Poly" = some (.ref (He.ga K "Poly")) := He.glo_ok X G (c.fact 37 (f := .glo "Poly") rfl)
  have g_Z : mg "NO_POWERS" = some (.ref (He.ga K "NO_POWERS")) := He.glo_ok X G (c.fact 38 (f := .glo "NO_POWERS") rfl)
  have g_law : mg "law" = some (.ref (He.ga K "law")) := He.glo_ok X G (c.fact 32 (f := .glo "law") rfl)
  have te := He.exm_ok (c.fact 83 (f := .exm "BadText" "BadText" true) rfl)
  have e := hfa.symm.trans g_law
  cases e
  have bL := (He5.fun_of (st := top 57) F_law).binds (ps := ["_law_script"]) fun _ _ _ _ _ _ us hl => match us, hl with | [_], _ => rfl
  have bA := FunD.bindsA (ps := ["_law_script"]) F_law fun _ _ _ _ _ _ us hl => match us, hl with | [_], _ => rfl
  refine ⟨d_law, fun s v => bA s [v] rfl, fun base _ _ => ?_⟩
  have cO : OrdCls K (He.ga K "Order") := ⟨c_Order, a_Order_kept_deep, a_Order_kept_wish⟩
  have cR : RdCls K (He.ga K "Reader") := ⟨c_Reader, a_Reader_kept_words, a_Reader_kept_at⟩
  have gO : GlOrd mg := ⟨s_SIGNS, s_LETTERS, s_FIGURES⟩
  have gR : GlRd mg := ⟨n_list, n_super, s_SIGNS, s_LETTERS, i_MOST_POWER, s_GREAT⟩
  obtain ⟨_, iU⟩ := i_UNKNOWNS
  obtain ⟨_, sF⟩ := s_FIGURES
  have k_raw := ok_raw (P := P0) (w := w) (base := base) (mg := mg) h_RawPoly_init c_RawPoly a_RawPoly_terms
  have k_from := ok_from (P := P0) (w := w) (base := base) (mg := mg) h_poly_from k_raw n_tuple n_sorted
  have k_const := ok_const (P := P0) (w := w) (base := base) (mg := mg) h_constant k_from g_Z hZ
  have k_pow := ok_pow (P := P0) (w := w) (base := base) (mg := mg) h_powers_of n_tuple n_range iU
  have k_unk := ok_unk (P := P0) (w := w) (base := base) (mg := mg) h_unknown_power k_from k_pow
  have k_sum := ok_sumW (P := P0) (w := w) (base := base) (mg := mg) h_sum_with k_from c_RawPoly a_RawPoly_terms
  have k_plus := ok_plus (P := P0) (w := w) (base := base) (mg := mg) h_plus k_sum
  have k_minus := ok_minus (P := P0) (w := w) (base := base) (mg := mg) h_minus k_sum
  have k_times := ok_times (P := P0) (w := w) (base := base) (mg := mg) h_times k_from c_RawPoly a_RawPoly_terms
  have k_deg := ok_deg (P := P0) (w := w) (base := base) (mg := mg) h_degree_by n_max c_RawPoly a_RawPoly_terms
  have k_chk := ok_chk (P := P0) (w := w) (base := base) (mg := mg) h_check_great k_deg T g_Bad ⟨n_any, n_len, n_range, n_super, i_MOST_TERMS, i_MOST_POWER, s_LETTERS, s_GREAT⟩ c_RawPoly a_RawPoly_terms
  have k_told := ok_told (P := P0) (w := w) (base := base) (mg := mg) h_power_told k_const k_times k_chk n_range
  have k_fig := ok_fig (P := P0) (w := w) (base := base) (mg := mg) h_figures_behind n_len sF
  have k_words := ok_words (P := P0) (w := w) (base := base) (mg := mg) h_words_of k_fig n_len
  have k_oi := ok_oinit (P := P0) (w := w) (base := base) (mg := mg) h_Order_init cO
  have k_ow := ok_owhole (P := P0) (w := w) (base := base) (mg := mg) h_Order_is_whole cO
  have k_of := ok_ofac (P := P0) (w := w) (base := base) (mg := mg) h_Order_take_factor cO gO
  have k_ob := ok_obeh (P := P0) (w := w) (base := base) (mg := mg) h_Order_take_behind cO gO
  have k_ot := ok_otake (P := P0) (w := w) (base := base) (mg := mg) h_Order_take k_of k_ob cO gO
  have k_form := ok_form (P := P0) (w := w) (base := base) (mg := mg) h_check_form k_oi k_ot k_ow cO n_max
  have k_ri := ok_rinit (P := P0) (w := w) (base := base) (mg := mg) h_Reader_init cR
  have k_rn := ok_rnext (P := P0) (w := w) (base := base) (mg := mg) h_Reader_next_word cR
  have k_rs := ok_ris (P := P0) (w := w) (base := base) (mg := mg) h_Reader_is_next cR
  have k_in := ok_rint (P := P0) (w := w) (base := base) (mg := mg) h_Reader_integer k_rn T g_Bad ⟨n_len, n_int, n_super, i_MOST_FIGURES, s_GREAT⟩ cR
  have k_su := ok_sums (P := P0) (w := w) (base := base) (mg := mg) ⟨h_Reader_base, h_Reader_factor, h_Reader_product, h_Reader_summed⟩ k_rn k_rs k_in k_const k_unk k_times k_plus k_minus k_chk k_told T g_Bad gR cR 21
  have k_read := ok_read (P := P0) (w := w) (base := base) (mg := mg) h_read_poly k_words k_form k_ri k_su T g_Bad ⟨n_isinstance, n_str, n_super, i_MOST_DEEP, s_GREAT⟩ cR
  have l_hand := ok_lhand (P := P0) (w := w) (base := base) (mg := mg) h__law_hand ⟨n_abs, n_int, n_len, n_sum⟩
  have l_draw := ok_draw (P := P0) (w := w) (base := base) (mg := mg) h__law_draw n_len n_int
  have l_any := ok_any (P := P0) (w := w) (base := base) (mg := mg) h__law_any l_draw n_len
  have l_const := ok_lconst (P := P0) (w := w) (base := base) (mg := mg) h__law_constant
  have l_unk := ok_lunk (P := P0) (w := w) (base := base) (mg := mg) h__law_unknown n_tuple n_range n_int
  have l_plus := ok_lplus (P := P0) (w := w) (base := base) (mg := mg) h__law_plus
  have l_times := ok_ltimes (P := P0) (w := w) (base := base) (mg := mg) h__law_times n_tuple n_range
  have l_pow := ok_lpow (P := P0) (w := w) (base := base) (mg := mg) h__law_power l_const l_times n_range
  have l_terms := ok_lterms (P := P0) (w := w) (base := base) (mg := mg) h__law_terms n_tuple n_sorted
  have l_t0 := ok_tree0 (P := P0) (w := w) (base := base) (mg := mg) h__law_tree
  have l_t1 := ok_tree (P := P0) (w := w) (base := base) (mg := mg) h__law_tree l_draw l_any l_t0 (by decide)
  have l_t2 := ok_tree (P := P0) (w := w) (base := base) (mg := mg) h__law_tree l_draw l_any l_t1 (by decide)
  have l_t3 := ok_tree (P := P0) (w := w) (base := base) (mg := mg) h__law_tree l_draw l_any l_t2 (by decide)
  have l_t4 := ok_tree (P := P0) (w := w) (base := base) (mg := mg) h__law_tree l_draw l_any l_t3 (by decide)
  have l_t5 := ok_tree (P := P0) (w := w) (base := base) (mg := mg) h__law_tree l_draw l_any l_t4 (by decide)
  have l_s0 := ok_size0 (P := P0) (w := w) (base := base) (mg := mg) h__law_size
  have l_s1 := ok_size (P := P0) (w := w) (base := base) (mg := mg) h__law_size l_s0 n_range n_max
  have l_s2 := ok_size (P := P0) (w := w) (base := base) (mg := mg) h__law_size l_s1 n_range n_max
  have l_s3 := ok_size (P := P0) (w := w) (base := base) (mg := mg) h__law_size l_s2 n_range n_max
  have l_s4 := ok_size (P := P0) (w := w) (base := base) (mg := mg) h__law_size l_s3 n_range n_max
  have l_s5 := ok_size (P := P0) (w := w) (base := base) (mg := mg) h__law_size l_s4 n_range n_max
  have l_small := ok_small (P := P0) (w := w) (base := base) (mg := mg) h__law_is_small l_s5
  have l_v0 := ok_val0 (P := P0) (w := w) (base := base) (mg := mg) h__law_tree_value
  have l_v1 := ok_val (P := P0) (w := w) (base := base) (mg := mg) h__law_tree_value l_v0 l_unk l_const l_pow l_times l_plus (by decide)
  have l_v2 := ok_val (P := P0) (w := w) (base := base) (mg := mg) h__law_tree_value l_v1 l_unk l_const l_pow l_times l_plus (by decide)
  have l_v3 := ok_val (P := P0) (w := w) (base := base) (mg := mg) h__law_tree_value l_v2 l_unk l_const l_pow l_times l_plus (by decide)
  have l_v4 := ok_val (P := P0) (w := w) (base := base) (mg := mg) h__law_tree_value l_v3 l_unk l_const l_pow l_times l_plus (by decide)
  have l_v5 := ok_val (P := P0) (w := w) (base := base) (mg := mg) h__law_tree_value l_v4 l_unk l_const l_pow l_times l_plus (by decide)
  have l_w0 := ok_lwords0 (P := P0) (w := w) (base := base) (mg := mg) h__law_words
  have l_w1 := ok_lwords (P := P0) (w := w) (base := base) (mg := mg) h__law_words l_draw l_any l_w0 (by decide) n_str
  have l_w2 := ok_lwords (P := P0) (w := w) (base := base) (mg := mg) h__law_words l_draw l_any l_w1 (by decide) n_str
  have l_w3 := ok_lwords (P := P0) (w := w) (base := base) (mg := mg) h__law_words l_draw l_any l_w2 (by decide) n_str
  have l_w4 := ok_lwords (P := P0) (w := w) (base := base) (mg := mg) h__law_words l_draw l_any l_w3 (by decide) n_str
  have l_w5 := ok_lwords (P := P0) (w := w) (base := base) (mg := mg) h__law_words l_draw l_any l_w4 (by decide) n_str
  have l_join := ok_join (P := P0) (w := w) (base := base) (mg := mg) h__law_joined l_draw l_any n_range n_len
  have l_read := ok_lread (P := P0) (w := w) (base := base) (mg := mg) h__law_read k_read T g_Bad te XF (INS c_RawPoly) g_Poly n_isinstance a_RawPoly_terms
  have l_great := ok_great (P := P0) (w := w) (base := base) (mg := mg) h__law_great l_draw l_any l_unk l_const l_pow l_plus ⟨n_str, n_range, n_len, n_int⟩
  exact ok_lawF (P := P0) (w := w) (base := base) (mg := mg) (He5.fun_of (st := top 57) F_law) l_hand l_draw l_any l_t5 l_small l_w5 l_join l_v5 l_terms l_great l_read (by decide) (by decide) n_range
end K46

namespace K46
open PySem PySem.W PySem.Calls PyProof.Rows
abbrev R0 : OpenRow := OpenLaw.row PySem.Challenge.rw_boxedroots_k46_whole_polynomials_read_in
abbrev qv : Program := view R0.prog [57]
def names1 : List PySem.Str := ["RootError", "BadPoly", "BadText", "UNKNOWNS", "is_integer", "is_within", "MOST_TERMS", "MOST_POWER", "NO_POWERS", "is_term", "Poly", "RawPoly", "poly_from", "constant", "powers_of", "unknown_power", "sum_with", "plus", "minus", "times", "degree_by", "LETTERS", "FIGURES", "MOST_FIGURES", "MOST_DEEP", "GREAT", "SIGNS"]
def names2 : List PySem.Str := ["figures_behind", "words_of", "Order", "check_form", "check_great", "power_told", "Reader", "read_poly", "_law_hand", "_law_draw", "_law_any", "_law_constant", "_law_unknown", "_law_plus", "_law_times", "_law_power", "_law_terms", "_law_tree", "_law_words", "_law_tree_value", "_law_joined", "_law_great", "_law_is_small", "_law_size", "_law_read"]
def names : List PySem.Str := names1 ++ names2
def obT (s : SharedT) : AlK := obsKG (HandSHeadRun.getT s)
theorem obT_eq (s : SharedT) : obT s = hookK.obs s.abs := obsKG_eq (HandSHeadRun.getT_eq s)
theorem run (w : World) : HandSHeadRun.RunEq R0 qv hookK obT 6000 names w := by
  intro os
  kernel_rfl
end K46

open PySem PySem.W PySem.Calls PyProof.Rows
theorem PySem.Challenge.cw_boxedroots_k46_whole_polynomials_read_in_holds : PySem.Challenge.rw_boxedroots_k46_whole_polynomials_read_in.Holds := by
  w_on; o_law
  refine HandSHeadRun.head_any (r := OpenLaw.row PySem.Challenge.rw_boxedroots_k46_whole_polynomials_read_in) (q := view (OpenLaw.row PySem.Challenge.rw_boxedroots_k46_whole_polynomials_read_in).prog [57]) (H := K46.hookK) (ob := K46.obT) (M := 6000) (loose := K46.names)
    (d := HandSHeadRun.topDef (OpenLaw.row PySem.Challenge.rw_boxedroots_k46_whole_polynomials_read_in).prog 57) (kwd := []) K46.obT_eq
    (by kernel_rfl) (fun s => by kernel_rfl) K46.run (by kernel_rfl) (by kernel_rfl) (by kernel_rfl) (by rfl) (by first | assumption | decide +kernel) (by decide +kernel) ⟨rfl, rfl, rfl, rfl, rfl, by decide +kernel⟩ ?hw ?hc
  case hw => w_witness2
  case hc =>
    refine L2.walk_ofE (l := PySem.Challenge.rw_boxedroots_k46_whole_polynomials_read_in) (n := 63) (k := 92) (x := "_law_script") (CX := L2.CX0) rfl (by decide) (by kernel_rfl) ⟨rfl, by decide, by decide⟩ ?F (fun _ _ _ _ z => z)
    intro w mg fa h Y G hmg0
    obtain ⟨K, KX, c⟩ := Y
    have hmg : mg ("law" : PySem.Str) = some (.ref fa) := by
      have e : (HandSHeadRun.topDef (OpenLaw.row PySem.Challenge.rw_boxedroots_k46_whole_polynomials_read_in).prog 57).name = ("law" : PySem.Str) := by kernel_rfl
      rw [← e]
      exact hmg0
    obtain ⟨fd, hb, hF⟩ := K46.facts (w := w) KX G hmg c
    exact ⟨K, fd, K46.spLaw K, KX, hb, fun H a ns hl _ hS => ⟨a, ns, rfl, hS, hl, fun _ => rfl⟩, hF⟩

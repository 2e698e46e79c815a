import PyProof.Rows.All
import Wide.All
import OpenK.AllK
import Wide.FinOn
import HandS.ForMost
import HandS.TupAny
import HandS.TupLe
import HandS.IsInst
import HandS.DictTup
import HandS.Conv
import HandS.Codes
import HandS.CallRecv
import HandS.Lambda
import HandS.EndTab
import HandS.Walk
import PyProof.DictMoreH
import KE.GoesMore
import KE.GoesEnum
import HandS.Nested
import HandS.SortKw
import HandS.Keys
import KE.KNestM
import KE.SortKeyHeap
import PySem.Challenge.RW_askedthen_k06_trees_ranges_of_entries
set_option linter.all false
/-! Search trees over octets, as plain data: the mathematics alone. -/
namespace Ask

/-! ### order of octets -/
def lx : List Int → List Int → Bool
  | [], [] => false
  | [], _ :: _ => true
  | _ :: _, [] => false
  | x :: xs, y :: ys => if x = y then lx xs ys else decide (x < y)
theorem lx_irrefl : ∀ a : List Int, lx a a = false
  | [] => rfl
  | x :: xs => by rw [lx, if_pos rfl]; exact lx_irrefl xs
theorem lx_trans : ∀ {a b c : List Int}, lx a b = true → lx b c = true → lx a c = true
  | [], [], _, h, _ => by cases h
  | [], _ :: _, [], _, h => by cases h
  | [], _ :: _, _ :: _, _, _ => rfl
  | _ :: _, [], _, h, _ => by cases h
  | _ :: _, _ :: _, [], _, h => by cases h
  | x :: xs, y :: ys, z :: zs, h1, h2 => by
    rw [lx] at h1 h2 ⊢
    by_cases e1 : x = y
    · rw [if_pos e1] at h1
      by_cases e2 : y = z
      · rw [if_pos e2] at h2
        rw [if_pos (e1.trans e2)]
        exact lx_trans h1 h2
      · rw [if_neg e2] at h2
        rw [if_neg (by rw [e1]; exact e2), e1]
        exact h2
    · rw [if_neg e1] at h1
      have l1 : x < y := of_decide_eq_true h1
      by_cases e2 : y = z
      · rw [if_neg (by rw [← e2]; exact e1), ← e2]
        exact h1
      · rw [if_neg e2] at h2
        have l2 : y < z := of_decide_eq_true h2
        rw [if_neg (by omega)]
        exact decide_eq_true (by omega)
theorem lx_asymm {a b : List Int} (h : lx a b = true) : lx b a = false := by
  cases e : lx b a with
  | false => rfl
  | true =>
    have := lx_trans h e
    rw [lx_irrefl] at this
    cases this
theorem lx_tri : ∀ a b : List Int, lx a b = true ∨ a = b ∨ lx b a = true
  | [], [] => .inr (.inl rfl)
  | [], _ :: _ => .inl rfl
  | _ :: _, [] => .inr (.inr rfl)
  | x :: xs, y :: ys => by
    rw [lx, lx]
    by_cases e : x = y
    · rw [if_pos e, if_pos e.symm]
      rcases lx_tri xs ys with h | h | h
      · exact .inl h
      · exact .inr (.inl (by rw [e, h]))
      · exact .inr (.inr h)
    · rw [if_neg e, if_neg (fun q => e q.symm)]
      by_cases l : x < y
      · exact .inl (decide_eq_true l)
      · exact .inr (.inr (decide_eq_true (by omega)))
/-- not greater -/
theorem lx_le_lt {a b c : List Int} (h1 : lx b a = false) (h2 : lx b c = true) : lx a c = true := by
  rcases lx_tri a b with h | h | h
  · exact lx_trans h h2
  · rw [h]; exact h2
  · rw [h1] at h; cases h
theorem lx_lt_le {a b c : List Int} (h1 : lx a b = true) (h2 : lx c b = false) : lx a c = true := by
  rcases lx_tri b c with h | h | h
  · exact lx_trans h1 h
  · rw [← h]; exact h1
  · rw [h2] at h; cases h

/-! ### bits -/
/-- the mask of a turn -/
def msk (j : Nat) : Int := 2 ^ (7 - j)
def bitOf (v : Int) (j : Nat) : Bool := decide (v / msk j % 2 = 1)
def byte (v : Int) : Prop := 0 ≤ v ∧ v < 256
def bytes (o : List Int) : Prop := ∀ v ∈ o, byte v
def bitAt (o : List Int) (n : Nat) : Bool := bitOf (o.getD (n / 8) 0) (n % 8)
def fbO (u v : Int) : Option Nat := (List.range 8).find? fun j => bitOf u j != bitOf v j
def FB : Nat → List Int → List Int → Option Nat
  | at_, u :: us, v :: vs => if u = v then FB (at_ + 1) us vs else match fbO u v with
    | some j => some (8 * at_ + j)
    | none => FB (at_ + 1) us vs
  | _, _, _ => none
theorem msk_pos (j : Nat) : 0 < msk j := by
  unfold msk
  exact Int.pow_pos (by decide)
theorem msk_succ {j : Nat} (h : j < 7) : msk j = msk (j + 1) * 2 := by
  unfold msk
  rw [show 7 - j = (7 - (j + 1)) + 1 by omega, Int.pow_succ]
theorem half (u : Int) {j : Nat} (h : j < 7) : u / msk j = u / msk (j + 1) / 2 := by
  rw [msk_succ h, Int.ediv_ediv_of_nonneg (Int.le_of_lt (msk_pos _))]
theorem bit_eq {u v : Int} {j : Nat} (h : bitOf u j = bitOf v j) : u / msk j % 2 = v / msk j % 2 := by
  unfold bitOf at h
  have := decide_eq_decide.mp h
  omega
theorem pre_eq {u v : Int} (hu : byte u) (hv : byte v) : ∀ j, j < 8 → (∀ i, i ≤ j → bitOf u i = bitOf v i) → u / msk j = v / msk j
  | 0, _, h => by
    have b := bit_eq (h 0 (Nat.le_refl _))
    obtain ⟨u0, u1⟩ := hu
    obtain ⟨v0, v1⟩ := hv
    have e : msk 0 = 128 := rfl
    rw [e] at b ⊢
    omega
  | j + 1, hj, h => by
    have b := bit_eq (h (j + 1) (Nat.le_refl _))
    have ih := pre_eq hu hv j (by omega) fun i hi => h i (by omega)
    rw [half u (by omega), half v (by omega)] at ih
    omega
theorem byte_bits {u v : Int} (hu : byte u) (hv : byte v) (h : ∀ j, j < 8 → bitOf u j = bitOf v j) : u = v := by
  have := pre_eq hu hv 7 (by decide) fun i hi => h i (by omega)
  have e : msk 7 = 1 := rfl
  rw [e, Int.ediv_one, Int.ediv_one] at this
  exact this
theorem byte_lt {u v : Int} (hu : byte u) (hv : byte v) {j : Nat} (hj : j < 8) (h : ∀ i, i < j → bitOf u i = bitOf v i) (hu' : bitOf u j = false) (hv' : bitOf v j = true) : u < v := by
  have c1 : ¬ (u / msk j % 2 = 1) := of_decide_eq_false hu'
  have c2 : v / msk j % 2 = 1 := of_decide_eq_true hv'
  have lt : u / msk j < v / msk j := by
    cases j with
    | zero =>
      obtain ⟨u0, u1⟩ := hu
      obtain ⟨v0, v1⟩ := hv
      have e : msk 0 = 128 := rfl
      rw [e] at c1 c2 ⊢
      omega
    | succ j =>
      have ih := pre_eq hu hv j (by omega) fun i hi => h i (by omega)
      rw [half u (by omega), half v (by omega)] at ih
      omega
  by_cases l : u < v
  · exact l
  · have := Int.ediv_le_ediv (c := msk j) (msk_pos j) (show v ≤ u by omega)
    omega

/-! ### the first bit that differs -/
theorem fbO_some {u v : Int} {j : Nat} (h : fbO u v = some j) : j < 8 ∧ bitOf u j ≠ bitOf v j ∧ ∀ i, i < j → bitOf u i = bitOf v i := by
  unfold fbO at h
  rw [List.find?_range_eq_some] at h
  obtain ⟨h1, h2, h3⟩ := h
  refine ⟨by simpa using h2, by simpa using h1, fun i hi => ?_⟩
  have := h3 i hi
  simpa using this
theorem fbO_none {u v : Int} (hu : byte u) (hv : byte v) (h : fbO u v = none) : u = v := by
  unfold fbO at h
  rw [List.find?_range_eq_none] at h
  exact byte_bits hu hv fun j hj => by simpa using h j hj
/-- n is the first bit in which a and b differ, and it lies in both -/
structure First (a b : List Int) (n : Nat) : Prop where
  ina : n / 8 < a.length
  inb : n / 8 < b.length
  ne : bitAt a n ≠ bitAt b n
  same : ∀ m, m < n → bitAt a m = bitAt b m
theorem First.symm {a b : List Int} {n : Nat} (h : First a b n) : First b a n := ⟨h.inb, h.ina, fun e => h.ne e.symm, fun m hm => (h.same m hm).symm⟩
theorem First.uniq {a b : List Int} {n m : Nat} (h : First a b n) (k : First a b m) : n = m := by
  rcases Nat.lt_trichotomy n m with l | l | l
  · exact absurd (k.same n l) h.ne
  · exact l
  · exact absurd (h.same m l) k.ne
theorem bitAt_cons (u : Int) (us : List Int) (n : Nat) : bitAt (u :: us) (n + 8) = bitAt us n := by
  unfold bitAt
  have e1 : (n + 8) / 8 = n / 8 + 1 := by omega
  have e2 : (n + 8) % 8 = n % 8 := by omega
  rw [e1, e2, List.getD_cons_succ]
theorem bitAt_head (u : Int) (us : List Int) {n : Nat} (h : n < 8) : bitAt (u :: us) n = bitOf u n := by
  unfold bitAt
  have e1 : n / 8 = 0 := by omega
  have e2 : n % 8 = n := by omega
  rw [e1, e2, List.getD_cons_zero]
theorem First.cons {u : Int} {a b : List Int} {n : Nat} (h : First a b n) : First (u :: a) (u :: b) (n + 8) := by
  have e1 : (n + 8) / 8 = n / 8 + 1 := by omega
  refine ⟨by rw [e1, List.length_cons]; exact Nat.succ_lt_succ h.ina, by rw [e1, List.length_cons]; exact Nat.succ_lt_succ h.inb, ?_, fun m hm => ?_⟩
  · rw [bitAt_cons, bitAt_cons]
    exact h.ne
  · by_cases l : m < 8
    · rw [bitAt_head _ _ l, bitAt_head _ _ l]
    · obtain ⟨k, rfl⟩ : ∃ k, m = k + 8 := ⟨m - 8, by omega⟩
      rw [bitAt_cons, bitAt_cons]
      exact h.same k (by omega)
theorem FB_some : ∀ {at_ : Nat} {a b : List Int} {n : Nat}, bytes a → bytes b → FB at_ a b = some n → ∃ k, n = 8 * at_ + k ∧ First a b k
  | _, [], _, _, _, _, h => by simp [FB] at h
  | _, _ :: _, [], _, _, _, h => by simp [FB] at h
  | at_, u :: us, v :: vs, n, ha, hb, h => by
    have ha' : bytes us := fun w hw => ha w (List.mem_cons_of_mem _ hw)
    have hb' : bytes vs := fun w hw => hb w (List.mem_cons_of_mem _ hw)
    rw [FB] at h
    by_cases e : u = v
    · rw [if_pos e] at h
      subst e
      obtain ⟨k, rfl, f⟩ := FB_some ha' hb' h
      exact ⟨k + 8, by omega, f.cons⟩
    · rw [if_neg e] at h
      cases q : fbO u v with
      | none => exact absurd (fbO_none (ha u (List.mem_cons_self ..)) (hb v (List.mem_cons_self ..)) q) e
      | some j =>
        rw [q] at h
        obtain ⟨j8, ne, sm⟩ := fbO_some q
        refine ⟨j, (Option.some.inj h).symm, by rw [List.length_cons]; omega, by rw [List.length_cons]; omega, ?_, fun m hm => ?_⟩
        · rw [bitAt_head _ _ j8, bitAt_head _ _ j8]
          exact ne
        · rw [bitAt_head _ _ (by omega), bitAt_head _ _ (by omega)]
          exact sm m hm
theorem FB_first {a b : List Int} {n : Nat} (ha : bytes a) (hb : bytes b) (h : FB 0 a b = some n) : First a b n := by
  obtain ⟨k, e, f⟩ := FB_some ha hb h
  have : n = k := by omega
  rw [this]
  exact f
theorem FB_none : ∀ {at_ : Nat} {a b : List Int}, bytes a → bytes b → FB at_ a b = none → ∀ n, ¬ First a b n
  | _, [], _, _, _, _, _, f => absurd f.ina (by simp)
  | _, _ :: _, [], _, _, _, _, f => absurd f.inb (by simp)
  | at_, u :: us, v :: vs, ha, hb, h, n, f => by
    have ha' : bytes us := fun w hw => ha w (List.mem_cons_of_mem _ hw)
    have hb' : bytes vs := fun w hw => hb w (List.mem_cons_of_mem _ hw)
    rw [FB] at h
    by_cases e : u = v
    · rw [if_pos e] at h
      subst e
      by_cases l : n < 8
      · have := f.ne
        rw [bitAt_head _ _ l, bitAt_head _ _ l] at this
        exact this rfl
      · obtain ⟨k, rfl⟩ : ∃ k, n = k + 8 := ⟨n - 8, by omega⟩
        refine FB_none ha' hb' h k ⟨?_, ?_, ?_, fun m hm => ?_⟩
        · have := f.ina
          rw [List.length_cons] at this
          omega
        · have := f.inb
          rw [List.length_cons] at this
          omega
        · have := f.ne
          rw [bitAt_cons, bitAt_cons] at this
          exact this
        · have := f.same (m + 8) (by omega)
          rw [bitAt_cons, bitAt_cons] at this
          exact this
    · rw [if_neg e] at h
      cases q : fbO u v with
      | none => exact absurd (fbO_none (ha u (List.mem_cons_self ..)) (hb v (List.mem_cons_self ..)) q) e
      | some j =>
        rw [q] at h
        cases h
theorem FB_of {a b : List Int} {n : Nat} (ha : bytes a) (hb : bytes b) (f : First a b n) : FB 0 a b = some n := by
  cases q : FB 0 a b with
  | none => exact absurd f (FB_none ha hb q n)
  | some m => rw [f.uniq (FB_first ha hb q)]
/-- the first bit that differs decides -/
theorem First.lx : ∀ {a b : List Int} {n : Nat}, bytes a → bytes b → First a b n → bitAt a n = false → lx a b = true
  | [], _, _, _, _, f, _ => absurd f.ina (by simp)
  | _ :: _, [], _, _, _, f, _ => absurd f.inb (by simp)
  | u :: us, v :: vs, n, ha, hb, f, h0 => by
    have ha' : bytes us := fun w hw => ha w (List.mem_cons_of_mem _ hw)
    have hb' : bytes vs := fun w hw => hb w (List.mem_cons_of_mem _ hw)
    have hu := ha u (List.mem_cons_self ..)
    have hv := hb v (List.mem_cons_self ..)
    have h1 : bitAt (v :: vs) n = true := by
      cases q : bitAt (v :: vs) n with
      | true => rfl
      | false => exact absurd (h0.trans q.symm) f.ne
    rw [Ask.lx]
    by_cases l : n < 8
    · rw [bitAt_head _ _ l] at h0 h1
      have lt := byte_lt hu hv l (fun i hi => by
        have := f.same i hi
        rw [bitAt_head _ _ (by omega), bitAt_head _ _ (by omega)] at this
        exact this) h0 h1
      rw [if_neg (by omega)]
      exact decide_eq_true lt
    · have e : u = v := byte_bits hu hv fun j hj => by
        have := f.same j (by omega)
        rw [bitAt_head _ _ hj, bitAt_head _ _ hj] at this
        exact this
      rw [if_pos e]
      obtain ⟨k, rfl⟩ : ∃ k, n = k + 8 := ⟨n - 8, by omega⟩
      rw [bitAt_cons] at h0
      refine First.lx (n := k) ha' hb' ⟨?_, ?_, ?_, fun m hm => ?_⟩ h0
      · have := f.ina
        rw [List.length_cons] at this
        omega
      · have := f.inb
        rw [List.length_cons] at this
        omega
      · have := f.ne
        rw [bitAt_cons, bitAt_cons] at this
        exact this
      · have := f.same (m + 8) (by omega)
        rw [bitAt_cons, bitAt_cons] at this
        exact this

/-! ### trees -/
inductive T (κ γ : Type) where
  | leaf (k : κ) (s : List γ)
  | node (l r : T κ γ)
namespace T
variable {κ γ : Type}
def toL : T κ γ → List (κ × List γ)
  | .leaf k s => [(k, s)]
  | .node l r => l.toL ++ r.toL
def low : T κ γ → κ
  | .leaf k _ => k
  | .node l _ => l.low
def high : T κ γ → κ
  | .leaf k _ => k
  | .node _ r => r.high
def size : T κ γ → Nat
  | .leaf _ _ => 1
  | .node l r => l.size + r.size
theorem size_pos : ∀ t : T κ γ, 0 < t.size
  | .leaf _ _ => Nat.zero_lt_one
  | .node l r => Nat.add_pos_left l.size_pos _
theorem low_mem : ∀ t : T κ γ, ∃ e ∈ t.toL, e.1 = t.low
  | .leaf k s => ⟨(k, s), List.mem_singleton.mpr rfl, rfl⟩
  | .node l r => let ⟨e, h, q⟩ := low_mem l; ⟨e, List.mem_append_left _ h, q⟩
theorem high_mem : ∀ t : T κ γ, ∃ e ∈ t.toL, e.1 = t.high
  | .leaf k s => ⟨(k, s), List.mem_singleton.mpr rfl, rfl⟩
  | .node l r => let ⟨e, h, q⟩ := high_mem r; ⟨e, List.mem_append_right _ h, q⟩
end T
section
variable {κ γ : Type} (oc : κ → List Int)
/-- the keys that occur: octets, and any two differ in a bit that lies in both -/
structure Good (P : κ → Prop) : Prop where
  byt : ∀ k, P k → bytes (oc k)
  apart : ∀ a b, P a → P b → a = b ∨ ∃ n, First (oc a) (oc b) n
def Side (s : Nat) (w : Nat → Bool) (b : Bool) (k : κ) : Prop := s / 8 < (oc k).length ∧ bitAt (oc k) s = b ∧ ∀ m, m < s → bitAt (oc k) m = w m
def WF (P : κ → Prop) : T κ γ → Prop
  | .leaf k _ => P k
  | .node l r => WF P l ∧ WF P r ∧ ∃ (s : Nat) (w : Nat → Bool), (∀ e ∈ l.toL, Side oc s w false e.1) ∧ ∀ e ∈ r.toL, Side oc s w true e.1
def stopT (t : T κ γ) (o : List Int) : Bool := match FB 0 (oc t.low) o, FB 0 (oc t.low) (oc t.high) with
  | some a, some s => decide (a < s)
  | _, _ => false
def rightT (t : T κ γ) (o : List Int) : Bool := match FB 0 (oc t.low) (oc t.high) with
  | some s => bitAt o s
  | none => false
def wayT (o : List Int) : T κ γ → List (T κ γ × Bool) × T κ γ
  | .leaf k s => ([], .leaf k s)
  | .node l r => if stopT oc (.node l r) o = true then ([], .node l r)
    else if rightT oc (.node l r) o = true then ((.node l r, true) :: (wayT o r).1, (wayT o r).2) else ((.node l r, false) :: (wayT o l).1, (wayT o l).2)
def joinT (t : T κ γ) (k : κ) (sp : List γ) : T κ γ := if lx (oc k) (oc t.low) = true then .node (.leaf k sp) t else .node t (.leaf k sp)
/-- what stands at the end of the way, behind the put -/
def baseT (t : T κ γ) (k : κ) (sp : List γ) : Option (T κ γ) :=
  if oc t.low ≠ oc k ∨ oc t.high ≠ oc k then (if sp = [] then some t else some (joinT oc t k sp))
  else if sp = [] then none else some (.leaf k sp)
/-- one step up -/
def upT (x : T κ γ × Bool) (new : Option (T κ γ)) : Option (T κ γ) := match x.1, new with
  | .leaf _ _, n => n
  | .node l r, none => some (if x.2 = true then l else r)
  | .node l r, some n => some (if x.2 = true then .node l n else .node n r)
def putW (k : κ) (sp : List γ) (t : T κ γ) : Option (T κ γ) := (wayT oc (oc k) t).1.foldr upT (baseT oc (wayT oc (oc k) t).2 k sp)
theorem putW_stop {k : κ} {sp : List γ} {l r : T κ γ} (h : stopT oc (.node l r) (oc k) = true) : putW oc k sp (.node l r) = baseT oc (.node l r) k sp := by
  unfold putW
  rw [wayT, if_pos h]
  rfl
theorem putW_right {k : κ} {sp : List γ} {l r : T κ γ} (h : stopT oc (.node l r) (oc k) = false) (h2 : rightT oc (.node l r) (oc k) = true) : putW oc k sp (.node l r) = upT (.node l r, true) (putW oc k sp r) := by
  unfold putW
  rw [wayT, if_neg (by rw [h]; exact Bool.false_ne_true), if_pos h2]
  rfl
theorem putW_left {k : κ} {sp : List γ} {l r : T κ γ} (h : stopT oc (.node l r) (oc k) = false) (h2 : rightT oc (.node l r) (oc k) = false) : putW oc k sp (.node l r) = upT (.node l r, false) (putW oc k sp l) := by
  unfold putW
  rw [wayT, if_neg (by rw [h]; exact Bool.false_ne_true), if_neg (by rw [h2]; exact Bool.false_ne_true)]
  rfl
variable {oc} {P : κ → Prop}
theorem WF.all : ∀ {t : T κ γ}, WF oc P t → ∀ e ∈ t.toL, P e.1
  | .leaf k s, h, e, he => by
    have : e = (k, s) := List.mem_singleton.mp he
    rw [this]
    exact h
  | .node l r, ⟨h1, h2, _⟩, e, he => (List.mem_append.mp he).elim (WF.all h1 e) (WF.all h2 e)
theorem WF.low {t : T κ γ} (h : WF oc P t) : P t.low := let ⟨e, m, q⟩ := t.low_mem; q ▸ h.all e m
theorem WF.high {t : T κ γ} (h : WF oc P t) : P t.high := let ⟨e, m, q⟩ := t.high_mem; q ▸ h.all e m
theorem Side.first {s : Nat} {w : Nat → Bool} {a b : κ} (h : Side oc s w false a) (k : Side oc s w true b) : First (oc a) (oc b) s :=
  ⟨h.1, k.1, by rw [h.2.1, k.2.1]; exact Bool.false_ne_true, fun m hm => (h.2.2 m hm).trans (k.2.2 m hm).symm⟩
/-- the split of a node -/
theorem WF.split (G : Good oc P) {l r : T κ γ} (h : WF oc P (.node l r)) : ∃ (s : Nat) (w : Nat → Bool), FB 0 (oc (T.node l r).low) (oc (T.node l r).high) = some s ∧ (∀ e ∈ l.toL, Side oc s w false e.1) ∧ ∀ e ∈ r.toL, Side oc s w true e.1 := by
  obtain ⟨h1, h2, s, w, hl, hr⟩ := h
  refine ⟨s, w, ?_, hl, hr⟩
  obtain ⟨e, m, q⟩ := l.low_mem
  obtain ⟨f, n, p⟩ := r.high_mem
  have a := hl e m
  have b := hr f n
  rw [q] at a
  rw [p] at b
  exact FB_of (G.byt _ h1.low) (G.byt _ h2.high) (a.first b)
theorem WF.sorted (G : Good oc P) : ∀ {t : T κ γ}, WF oc P t → t.toL.Pairwise (fun a b => lx (oc a.1) (oc b.1) = true)
  | .leaf k s, _ => List.pairwise_singleton _ _
  | .node l r, ⟨h1, h2, s, w, hl, hr⟩ => by
    refine List.pairwise_append.mpr ⟨WF.sorted G h1, WF.sorted G h2, fun a ha b hb => ?_⟩
    exact ((hl a ha).first (hr b hb)).lx (G.byt _ (h1.all a ha)) (G.byt _ (h2.all b hb)) (hl a ha).2.1
/-- the state that a put asks for -/
def Upd (k : κ) (sp : List γ) (old new : List (κ × List γ)) : Prop := ∀ e, e ∈ new ↔ (e.1 ≠ k ∧ e ∈ old) ∨ (sp ≠ [] ∧ e = (k, sp))
theorem join_ok (G : Good oc P) {t : T κ γ} {k : κ} {sp : List γ} (h : WF oc P t) (pk : P k) (hs : sp ≠ []) {n : Nat} (f : First (oc t.low) (oc k) n) (ag : ∀ e ∈ t.toL, n / 8 < (oc e.1).length ∧ ∀ m, m ≤ n → bitAt (oc e.1) m = bitAt (oc t.low) m) :
    WF oc P (joinT oc t k sp) ∧ Upd k sp t.toL (joinT oc t k sp).toL := by
  have ne : ∀ e ∈ t.toL, e.1 ≠ k := fun e he z => by
    have := (ag e he).2 n (Nat.le_refl _)
    rw [z] at this
    exact f.ne this.symm
  have leafS : ∀ b, bitAt (oc k) n = b → ∀ e ∈ (T.leaf k sp : T κ γ).toL, Side oc n (fun m => bitAt (oc t.low) m) b e.1 := fun b hb e he => by
    have : e = (k, sp) := List.mem_singleton.mp he
    rw [this]
    exact ⟨f.inb, hb, fun m hm => (f.same m hm).symm⟩
  have treeS : ∀ b, bitAt (oc t.low) n = b → ∀ e ∈ t.toL, Side oc n (fun m => bitAt (oc t.low) m) b e.1 := fun b hb e he =>
    ⟨(ag e he).1, ((ag e he).2 n (Nat.le_refl _)).trans hb, fun m hm => (ag e he).2 m (Nat.le_of_lt hm)⟩
  unfold joinT
  cases hk : bitAt (oc k) n with
  | false =>
    have hl : bitAt (oc t.low) n = true := by
      cases q : bitAt (oc t.low) n with
      | true => rfl
      | false => exact absurd (q.trans hk.symm) f.ne
    have lt : lx (oc k) (oc t.low) = true := f.symm.lx (G.byt _ pk) (G.byt _ h.low) hk
    rw [if_pos lt]
    refine ⟨⟨pk, h, n, _, leafS _ hk, treeS _ hl⟩, fun e => ?_⟩
    show e ∈ [(k, sp)] ++ t.toL ↔ _
    rw [List.mem_append, List.mem_singleton]
    constructor
    · rintro (q | q)
      · exact .inr ⟨hs, q⟩
      · exact .inl ⟨ne e q, q⟩
    · rintro (⟨_, q⟩ | ⟨_, q⟩)
      · exact .inr q
      · exact .inl q
  | true =>
    have hl : bitAt (oc t.low) n = false := by
      cases q : bitAt (oc t.low) n with
      | false => rfl
      | true => exact absurd (q.trans hk.symm) f.ne
    have lt : lx (oc t.low) (oc k) = true := f.lx (G.byt _ h.low) (G.byt _ pk) hl
    rw [if_neg (by rw [lx_asymm lt]; exact Bool.false_ne_true)]
    refine ⟨⟨h, pk, n, _, treeS _ hl, leafS _ hk⟩, fun e => ?_⟩
    show e ∈ t.toL ++ [(k, sp)] ↔ _
    rw [List.mem_append, List.mem_singleton]
    constructor
    · rintro (q | q)
      · exact .inl ⟨ne e q, q⟩
      · exact .inr ⟨hs, q⟩
    · rintro (⟨_, q⟩ | ⟨_, q⟩)
      · exact .inl q
      · exact .inr q
theorem Good.inj (G : Good oc P) {a b : κ} (ha : P a) (hb : P b) (e : oc a = oc b) : a = b := by
  rcases G.apart a b ha hb with q | ⟨n, f⟩
  · exact q
  · rw [e] at f
    exact absurd rfl f.ne
theorem keep_upd {k : κ} {old : List (κ × List γ)} (h : ∀ e ∈ old, e.1 ≠ k) : Upd k ([] : List γ) old old := fun e =>
  ⟨fun q => .inl ⟨h e q, q⟩, fun q => q.elim (fun z => z.2) fun z => absurd rfl z.1⟩
/-- the end of the way is another place than the key's -/
theorem base_off (G : Good oc P) {t : T κ γ} {k : κ} {sp : List γ} (h : WF oc P t) (pk : P k) {n : Nat} (f : First (oc t.low) (oc k) n) (ag : ∀ e ∈ t.toL, n / 8 < (oc e.1).length ∧ ∀ m, m ≤ n → bitAt (oc e.1) m = bitAt (oc t.low) m) :
    ∃ t', baseT oc t k sp = some t' ∧ WF oc P t' ∧ Upd k sp t.toL t'.toL := by
  have ne : oc t.low ≠ oc k := fun z => by
    rw [z] at f
    exact f.ne rfl
  unfold baseT
  rw [if_pos (.inl ne)]
  by_cases hs : sp = []
  · subst hs
    rw [if_pos rfl]
    refine ⟨t, rfl, h, keep_upd fun e he z => ?_⟩
    have := (ag e he).2 n (Nat.le_refl _)
    rw [z] at this
    exact f.ne this.symm
  · rw [if_neg hs]
    obtain ⟨a, b⟩ := join_ok G h pk hs f ag
    exact ⟨_, rfl, a, b⟩
theorem put_ok (G : Good oc P) {k : κ} {sp : List γ} (pk : P k) : ∀ {t : T κ γ}, WF oc P t →
    (∀ t', putW oc k sp t = some t' → WF oc P t' ∧ Upd k sp t.toL t'.toL) ∧ (putW oc k sp t = none → sp = [] ∧ ∀ e ∈ t.toL, e.1 = k)
  | .leaf k0 s0, h => by
    have e0 : putW oc k sp (.leaf k0 s0) = baseT oc (.leaf k0 s0) k sp := rfl
    rw [e0]
    rcases G.apart k0 k h pk with rfl | ⟨n, f⟩
    · have eb : baseT oc (.leaf k0 s0) k0 sp = if sp = [] then none else some (.leaf k0 sp) := by
        unfold baseT
        rw [if_neg]
        rintro (z | z)
        · exact z rfl
        · exact z rfl
      rw [eb]
      by_cases hs : sp = []
      · rw [if_pos hs]
        refine ⟨fun t' z => (nomatch z), fun _ => ⟨hs, fun e he => ?_⟩⟩
        have : e = (k0, s0) := List.mem_singleton.mp he
        rw [this]
      · rw [if_neg hs]
        refine ⟨fun t' z => ?_, fun z => (nomatch z)⟩
        cases z
        refine ⟨h, fun e => ?_⟩
        show e ∈ [(k0, sp)] ↔ (e.1 ≠ k0 ∧ e ∈ [(k0, s0)]) ∨ _
        rw [List.mem_singleton, List.mem_singleton]
        constructor
        · exact fun q => .inr ⟨hs, q⟩
        · rintro (⟨z, q⟩ | ⟨_, q⟩)
          · rw [q] at z
            exact absurd rfl z
          · exact q
    · obtain ⟨t1, e1, w1, u1⟩ := base_off (sp := sp) G (t := .leaf k0 s0) h pk f fun e he => by
        have : e = (k0, s0) := List.mem_singleton.mp he
        rw [this]
        exact ⟨f.ina, fun _ _ => rfl⟩
      rw [e1]
      exact ⟨fun t' z => by cases z; exact ⟨w1, u1⟩, fun z => (nomatch z)⟩
  | .node l r, h => by
    obtain ⟨s, w, hsp, hl, hr⟩ := h.split G
    obtain ⟨wl, wr, _⟩ := id h
    have bl := G.byt _ h.low
    have bk := G.byt _ pk
    have slow : Side oc s w false (T.node l r).low := by
      obtain ⟨e, m, q⟩ := l.low_mem
      have := hl e m
      rw [q] at this
      exact this
    -- all keys of the node agree with its lowest below s
    have agl : ∀ e ∈ (T.node l r).toL, s / 8 < (oc e.1).length ∧ ∀ m, m < s → bitAt (oc e.1) m = bitAt (oc (T.node l r).low) m := fun e he => by
      rcases List.mem_append.mp he with q | q
      · exact ⟨(hl e q).1, fun m hm => ((hl e q).2.2 m hm).trans (slow.2.2 m hm).symm⟩
      · exact ⟨(hr e q).1, fun m hm => ((hr e q).2.2 m hm).trans (slow.2.2 m hm).symm⟩
    -- going on
    have on_ : stopT oc (.node l r) (oc k) = false → Side oc s w (bitAt (oc k) s) k := fun hst => by
      cases own : FB 0 (oc (T.node l r).low) (oc k) with
      | none =>
        rcases G.apart _ _ h.low pk with q | ⟨n, f⟩
        · rw [← q]
          exact ⟨slow.1, rfl, slow.2.2⟩
        · exact absurd f (FB_none bl bk own n)
      | some a =>
        have f := FB_first bl bk own
        have ge : ¬ a < s := by
          unfold stopT at hst
          rw [own, hsp] at hst
          exact of_decide_eq_false hst
        refine ⟨Nat.lt_of_le_of_lt (Nat.div_le_div_right (by omega)) f.inb, rfl, fun m hm => ?_⟩
        rw [← f.same m (by omega)]
        exact slow.2.2 m hm
    have eR : rightT oc (.node l r) (oc k) = bitAt (oc k) s := by
      unfold rightT
      rw [hsp]
    cases hst : stopT oc (.node l r) (oc k) with
    | true =>
      rw [putW_stop oc hst]
      unfold stopT at hst
      rw [hsp] at hst
      cases own : FB 0 (oc (T.node l r).low) (oc k) with
      | none =>
        rw [own] at hst
        cases hst
      | some a =>
        rw [own] at hst
        have lt : a < s := of_decide_eq_true hst
        have f := FB_first bl bk own
        obtain ⟨t1, e1, w1, u1⟩ := base_off (sp := sp) G h pk f fun e he => ⟨Nat.lt_of_le_of_lt (Nat.div_le_div_right (Nat.le_of_lt lt)) (agl e he).1, fun m hm => (agl e he).2 m (by omega)⟩
        rw [e1]
        exact ⟨fun t' z => by cases z; exact ⟨w1, u1⟩, fun z => (nomatch z)⟩
    | false =>
      have sk := on_ hst
      cases hb : bitAt (oc k) s with
      | true =>
        rw [putW_right oc hst (eR.trans hb)]
        rw [hb] at sk
        have nl : ∀ e ∈ l.toL, e.1 ≠ k := fun e he z => by
          have := (hl e he).2.1
          rw [z, hb] at this
          cases this
        obtain ⟨ih1, ih2⟩ := put_ok G (sp := sp) pk wr
        cases q : putW oc k sp r with
        | none =>
          obtain ⟨hs, hk⟩ := ih2 q
          refine ⟨fun t' z => ?_, fun z => (nomatch z)⟩
          cases z
          refine ⟨wl, fun e => ?_⟩
          show e ∈ l.toL ↔ (e.1 ≠ k ∧ e ∈ l.toL ++ r.toL) ∨ _
          rw [List.mem_append]
          constructor
          · exact fun z => .inl ⟨nl e z, .inl z⟩
          · rintro (⟨z, q | q⟩ | ⟨z, _⟩)
            · exact q
            · exact absurd (hk e q) z
            · exact absurd hs z
        | some r' =>
          obtain ⟨w', u'⟩ := ih1 r' q
          refine ⟨fun t' z => ?_, fun z => (nomatch z)⟩
          cases z
          refine ⟨⟨wl, w', s, w, hl, fun e he => ?_⟩, fun e => ?_⟩
          · rcases (u' e).mp he with ⟨_, z⟩ | ⟨_, z⟩
            · exact hr e z
            · rw [z]
              exact sk
          · show e ∈ l.toL ++ r'.toL ↔ (e.1 ≠ k ∧ e ∈ l.toL ++ r.toL) ∨ _
            rw [List.mem_append, List.mem_append, u' e]
            constructor
            · rintro (z | ⟨a, b⟩ | z)
              · exact .inl ⟨nl e z, .inl z⟩
              · exact .inl ⟨a, .inr b⟩
              · exact .inr z
            · rintro (⟨a, z | z⟩ | z)
              · exact .inl z
              · exact .inr (.inl ⟨a, z⟩)
              · exact .inr (.inr z)
      | false =>
        rw [putW_left oc hst (eR.trans hb)]
        rw [hb] at sk
        have nr : ∀ e ∈ r.toL, e.1 ≠ k := fun e he z => by
          have := (hr e he).2.1
          rw [z, hb] at this
          cases this
        obtain ⟨ih1, ih2⟩ := put_ok G (sp := sp) pk wl
        cases q : putW oc k sp l with
        | none =>
          obtain ⟨hs, hk⟩ := ih2 q
          refine ⟨fun t' z => ?_, fun z => (nomatch z)⟩
          cases z
          refine ⟨wr, fun e => ?_⟩
          show e ∈ r.toL ↔ (e.1 ≠ k ∧ e ∈ l.toL ++ r.toL) ∨ _
          rw [List.mem_append]
          constructor
          · exact fun z => .inl ⟨nr e z, .inr z⟩
          · rintro (⟨z, q | q⟩ | ⟨z, _⟩)
            · exact absurd (hk e q) z
            · exact q
            · exact absurd hs z
        | some l' =>
          obtain ⟨w', u'⟩ := ih1 l' q
          refine ⟨fun t' z => ?_, fun z => (nomatch z)⟩
          cases z
          refine ⟨⟨w', wr, s, w, fun e he => ?_, hr⟩, fun e => ?_⟩
          · rcases (u' e).mp he with ⟨_, z⟩ | ⟨_, z⟩
            · exact hl e z
            · rw [z]
              exact sk
          · show e ∈ l'.toL ++ r.toL ↔ (e.1 ≠ k ∧ e ∈ l.toL ++ r.toL) ∨ _
            rw [List.mem_append, List.mem_append, u' e]
            constructor
            · rintro ((⟨a, b⟩ | z) | z)
              · exact .inl ⟨a, .inl b⟩
              · exact .inr z
              · exact .inl ⟨nr e z, .inr z⟩
            · rintro (⟨a, z | z⟩ | z)
              · exact .inl (.inl ⟨a, z⟩)
              · exact .inr z
              · exact .inl (.inr z)
/-- two lists in order with the same members are one -/
theorem sorted_one {α : Type} {f : α → List Int} : ∀ {xs ys : List α}, xs.Pairwise (fun a b => lx (f a) (f b) = true) → ys.Pairwise (fun a b => lx (f a) (f b) = true) → (∀ e, e ∈ xs ↔ e ∈ ys) → xs = ys
  | [], [], _, _, _ => rfl
  | [], y :: ys, _, _, h => absurd ((h y).mpr (List.mem_cons_self ..)) (by simp)
  | x :: xs, [], _, _, h => absurd ((h x).mp (List.mem_cons_self ..)) (by simp)
  | x :: xs, y :: ys, hx, hy, h => by
    obtain ⟨hx1, hx2⟩ := List.pairwise_cons.mp hx
    obtain ⟨hy1, hy2⟩ := List.pairwise_cons.mp hy
    have e : x = y := by
      rcases List.mem_cons.mp ((h x).mp (List.mem_cons_self ..)) with q | q
      · exact q
      · rcases List.mem_cons.mp ((h y).mpr (List.mem_cons_self ..)) with p | p
        · exact p.symm
        · have a := hy1 x q
          rw [lx_asymm (hx1 y p)] at a
          cases a
    subst e
    have nx : x ∉ xs := fun q => by
      have := hx1 x q
      rw [lx_irrefl] at this
      cases this
    have ny : x ∉ ys := fun q => by
      have := hy1 x q
      rw [lx_irrefl] at this
      cases this
    rw [sorted_one hx2 hy2 fun e => ⟨fun q => ?_, fun q => ?_⟩]
    · rcases List.mem_cons.mp ((h e).mp (List.mem_cons_of_mem _ q)) with p | p
      · rw [p] at q
        exact absurd q nx
      · exact p
    · rcases List.mem_cons.mp ((h e).mpr (List.mem_cons_of_mem _ q)) with p | p
      · rw [p] at q
        exact absurd q ny
      · exact p
end
end Ask

set_option Elab.async false
set_option linter.all false
set_option maxRecDepth 100000
set_option maxHeartbeats 4000000
/-! ### rules of this proof's own, by values -/
namespace AskR
open PySem PySem.Spec PyProof.Rows L2
/-! tuples of ints in order -/
theorem lexAt_shift (e r : Nat → Bool) (z : Bool) : ∀ (k i : Nat), Ob.lexAt e r z (i + 1) k = Ob.lexAt (fun j => e (j + 1)) (fun j => r (j + 1)) z i k
  | 0, _ => rfl
  | k + 1, i => by
    rw [Ob.lexAt_succ, Ob.lexAt_succ, lexAt_shift e r z k (i + 1)]
theorem le_lex : ∀ ns ms : List Int, Ob.lexAt (fun j => decide (ns.getD j 0 = ms.getD j 0)) (fun j => decide (ns.getD j 0 ≤ ms.getD j 0)) (decide (ns.length ≤ ms.length)) 0 (min ns.length ms.length) = !HT.lexLt ms ns
  | [], [] => rfl
  | [], _ :: _ => by
    show Ob.lexAt _ _ _ 0 (min 0 _) = _
    rw [Nat.zero_min]
    rfl
  | _ :: _, [] => by
    show Ob.lexAt _ _ _ 0 (min _ 0) = _
    rw [Nat.min_zero]
    rfl
  | x :: xs, y :: ys => by
    have ih := le_lex xs ys
    rw [show min (x :: xs).length (y :: ys).length = min xs.length ys.length + 1 by simp only [List.length_cons]; omega, Ob.lexAt_succ, lexAt_shift, HT.lexLt_cons]
    by_cases q : x = y
    · rw [if_pos (show decide ((x :: xs).getD 0 0 = (y :: ys).getD 0 0) = true from decide_eq_true q), if_pos q.symm, ← ih]
      have e : decide ((x :: xs).length ≤ (y :: ys).length) = decide (xs.length ≤ ys.length) := by
        simp only [List.length_cons, Nat.add_le_add_iff_right]
      rw [e]
      rfl
    · rw [if_neg (show ¬ decide ((x :: xs).getD 0 0 = (y :: ys).getD 0 0) = true from fun z => q (of_decide_eq_true z)), if_neg (fun z => q z.symm)]
      show decide (x ≤ y) = !decide (y < x)
      by_cases l : x ≤ y
      · rw [decide_eq_true l, decide_eq_false (by omega)]
        rfl
      · rw [decide_eq_false l, decide_eq_true (by omega)]
        rfl
theorem ge_lex : ∀ ns ms : List Int, Ob.lexAt (fun j => decide (ns.getD j 0 = ms.getD j 0)) (fun j => decide (ms.getD j 0 ≤ ns.getD j 0)) (decide (ms.length ≤ ns.length)) 0 (min ns.length ms.length) = !HT.lexLt ns ms
  | [], [] => rfl
  | [], _ :: _ => by
    show Ob.lexAt _ _ _ 0 (min 0 _) = _
    rw [Nat.zero_min]
    rfl
  | _ :: _, [] => by
    show Ob.lexAt _ _ _ 0 (min _ 0) = _
    rw [Nat.min_zero]
    rfl
  | x :: xs, y :: ys => by
    have ih := ge_lex xs ys
    rw [show min (x :: xs).length (y :: ys).length = min xs.length ys.length + 1 by simp only [List.length_cons]; omega, Ob.lexAt_succ, lexAt_shift, HT.lexLt_cons]
    by_cases q : x = y
    · rw [if_pos (show decide ((x :: xs).getD 0 0 = (y :: ys).getD 0 0) = true from decide_eq_true q), if_pos q, ← ih]
      have e : decide ((y :: ys).length ≤ (x :: xs).length) = decide (ys.length ≤ xs.length) := by
        simp only [List.length_cons, Nat.add_le_add_iff_right]
      rw [e]
      rfl
    · rw [if_neg (show ¬ decide ((x :: xs).getD 0 0 = (y :: ys).getD 0 0) = true from fun z => q (of_decide_eq_true z)), if_neg q]
      show decide (y ≤ x) = !decide (x < y)
      by_cases l : y ≤ x
      · rw [decide_eq_true l, decide_eq_false (by omega)]
        rfl
      · rw [decide_eq_false l, decide_eq_true (by omega)]
        rfl
def rLeX (K : PySem.W.Frag) : R2 := fun x y H Q => ∃ (a b : Addr) (ns ms : List Int), x = .ref a ∧ y = .ref b ∧ SqT K H a (ns.map V.int) ∧ SqT K H b (ms.map V.int) ∧ Q (.bl (!HT.lexLt ms ns)) H
theorem op_leX {X : Cx} (hu : X.A.units < cLine) : OpR X (compareOp .LtE) (rLeX X.K) := by
  intro pins s σ H x y v u Q I rx ry h
  obtain ⟨a, b, ns, ms, e1, e2, ha, hb, q⟩ := h
  exact op_leT hu pins s σ H x y v u Q I rx ry ⟨a, b, ns, ms, e1, e2, ha, hb, by rw [le_lex]; exact q⟩
def rGeX (K : PySem.W.Frag) : R2 := fun x y H Q => ∃ (a b : Addr) (ns ms : List Int), x = .ref a ∧ y = .ref b ∧ SqT K H a (ns.map V.int) ∧ SqT K H b (ms.map V.int) ∧ Q (.bl (!HT.lexLt ns ms)) H
theorem op_geX {X : Cx} (hu : X.A.units < cLine) : OpR X (compareOp .GtE) (rGeX X.K) := by
  intro pins s σ H x y v u Q I rx ry h
  obtain ⟨a, b, ns, ms, rfl, rfl, ha, hb, q⟩ := h
  cases rx
  cases ry
  obtain ⟨its, r1, p1, _⟩ := I.tuple ha
  obtain ⟨its2, r2, p2, _⟩ := I.tuple hb
  have i1 : IntsAre its ns := Vals.ints r1
  have i2 : IntsAre its2 ms := Vals.ints r2
  have e1 : its.toArray.size = ns.length := by rw [List.size_toArray]; exact i1.length
  have e2 : its2.toArray.size = ms.length := by rw [List.size_toArray]; exact i2.length
  have at1 : ∀ j (h1 : j < its.toArray.size), ∃ t, its.toArray[j] = .int (ns.getD j 0) t := fun j h1 => PyProof.Rows.IntsAre.int_at i1 _ _ (by simp at h1; simp [h1])
  have at2 : ∀ j (h1 : j < its2.toArray.size), ∃ t, its2.toArray[j] = .int (ms.getD j 0) t := fun j h1 => PyProof.Rows.IntsAre.int_at i2 _ _ (by simp at h1; simp [h1])
  have R := Ob.RcOp.tuples_ge (A := X.A) (s := s) (e := fun j => decide (ns.getD j 0 = ms.getD j 0)) (r := fun j => decide (ms.getD j 0 ≤ ns.getD j 0)) p1 p2 hu (fun j h1 h2 => by
    obtain ⟨t, et⟩ := at1 j h1
    obtain ⟨t', et'⟩ := at2 j h2
    rw [et, et']
    have z : (ns.getD j 0 == ms.getD j 0) = decide (ns.getD j 0 = ms.getD j 0) := by
      by_cases q : ns.getD j 0 = ms.getD j 0
      · rw [decide_eq_true q]; exact beq_iff_eq.mpr q
      · rw [decide_eq_false q]; exact beq_eq_false_iff_ne.mpr q
    rw [← z]
    exact SeqAt.EqAt.int_int _ _ _ _) (fun j h1 h2 _ => by
    obtain ⟨t, et⟩ := at1 j h1
    obtain ⟨t', et'⟩ := at2 j h2
    rw [et, et']
    exact Ob.RcOp.ge_int _ _ _ _)
  rw [e1, e2] at R
  rw [show (decide (ns.length ≥ ms.length)) = decide (ms.length ≤ ns.length) from rfl, ge_lex] at R
  exact R X.prog X.w X.xe _ ⟨.bl _, H, I, rfl, q⟩
/-! a text, n times -/
def rMulS : R2 := fun x y H Q => ∃ (z : Str) (n : Int), x = .str z ∧ y = .int n ∧ MulOk z n ∧ Q (.str (Txt.mul z n)) H
theorem op_mulS {X : Cx} : OpR X (binaryOp .Mult) rMulS := by
  intro pins s σ H x y v u Q I rx ry h
  obtain ⟨z, n, rfl, rfl, hm, q⟩ := h
  obtain ⟨t, rfl⟩ := rx
  obtain ⟨t', rfl⟩ := ry
  exact SB.mul hm fun t' k => ⟨.str _, H, I.tok _, ⟨_, rfl⟩, q⟩
/-! d.pop(k), keys tuples -/
def rPopT1 : V → List V → Hp → VK → Prop := fun x xs H Q => ∃ (a : Addr) (kvs : List (List L2.Key × V)) (k : List L2.Key) (b : Addr) (v : V), x = .ref a ∧ xs = [.ref b] ∧ H a = some (.dT kvs) ∧ H b = some (.tup (k.map kV)) ∧
  valV kvs k = some v ∧ Q v (upd H a (.dT (dropK kvs k)))
theorem mt_popT1 {X : Cx} (hu : X.A.units + 1 < cLine) : MtR X "dict.pop" rPopT1 := by
  intro pins s σ H x xs v us Q I rx rxs h
  obtain ⟨a, kvs, k, b, w0, rfl, rfl, ha, hb, hv, q1⟩ := h
  cases rx
  obtain ⟨u1, rfl, r1⟩ := vals1 rxs
  cases r1
  obtain ⟨z, hd, xs', rel, dd⟩ := dt_of I.hok ha
  have hz : xs'.length ≤ sizeLine := by rw [← Paired.length rel]; exact z
  have r := rel.val k
  rw [hv] at r
  cases hp : atKey xs' k with
  | none =>
    rw [hp] at r
    exact (show False from r).elim
  | some p =>
    rw [hp] at r
    refine PySem.call_pop_heap (knd := tupleKind (mixKind X.prog X.w)) (more := []) (.inl rfl) (PySem.F.args_dict_pop_2 _ _) (tupleKind_room_in1 hu) (key_of I.hok hb) hd dd hp (fun h' dd' hs => ?_) hz
    obtain ⟨o, es, ep, hq, h2, h3, h4, _, h5⟩ := dd'
    have I2 : Inv X pins σ (upd H a (.dT (dropK kvs k))) { s with heap := h', toks := s.toks + (tupleKind (mixKind X.prog X.w)).draws k } :=
      d_write I (by rw [ha]; exact True.intro) hs ⟨o, hq⟩ ⟨Nat.le_trans (dropK_le kvs k) z, hd, _, (DX.KT_drop k rel).keeps (fun c ys ec => (by rw [upd_ne (ne_of ec ha (fun z => nomatch z))]; exact ec)), o, es, ep, hq, h2, h3, h4, h5⟩
    exact ⟨w0, _, I2, r, q1⟩
/-! enumerate(tuple) -/
theorem meets_enumerate_newT (l : Addr) (items : Array Value) (n : Nat) (dct : Option Addr) (sl : Array (Option Value)) :
    Meets (Builtin.«enumerate.__new__» ⟨[.type "enumerate", .ref l], []⟩) (fun _ R s => s.heap.get? l = some { cls := .type "tuple", dict := dct, data := .seq items n, slots := sl } ∧
      R (.ok (.ret (.ref (s.heap.push { cls := .type "tuple_iterator", data := .fields #[.ref l, .int 0 0] }).objs.size)))
        { s with heap := (s.heap.push { cls := .type "tuple_iterator", data := .fields #[.ref l, .int 0 0] }).push { cls := .type "enumerate", data := .fields #[.none, .bool false, .ref s.heap.objs.size, rawInt 0, .none, .none] } }) :=
  .of_wp fun prog w A R s h => by
    obtain ⟨hp, g, d, tk, os⟩ := s; obtain ⟨hl, h⟩ := h
    have hsub := sub_enumerate
    have hL : Heap.IsTuple (Shared.heap ⟨hp, g, d, tk, os⟩) l items := ⟨_, hl, rfl, n, rfl⟩
    wp_walk using AutoSeq1.wpAny_loadPart' hl
    refine wpAny_stack_any fun st => wpAny_pure ?_
    split
    · rename_i c _ _ _ _ _
      cases (c == Value.type "enumerate")
      · wp_walk using AutoSeq1.wpAny_loadPart' hl, wpAny_pyIter_tuple hL
        exact ⟨_, rfl, h⟩
      · wp_walk using AutoSeq1.wpAny_loadPart' hl, wpAny_pyIter_tuple hL
        exact ⟨_, rfl, h⟩
    · wp_walk using AutoSeq1.wpAny_loadPart' hl, wpAny_pyIter_tuple hL
      exact ⟨_, rfl, h⟩
/-- the tuple at a, each item in a new pair -/
def IteT (K : PySem.W.Frag) (a : Addr) : It :=
  ⟨fun i H => ∃ (xs : List V) (x : V), SqT K H a xs ∧ xs[i]? = some x, fun i H v H' => ∃ T x, v = .ref T ∧ H T = none ∧ H' = upd H T (.tup [.int (i : Nat), x]) ∧ ∀ xs, SqT K H a xs → xs[i]? = some x, fun i H => ∃ xs : List V, SqT K H a xs ∧ xs.length = i⟩
theorem turn_enumT {P : Program} {w : World} {K : PySem.W.Frag} {elts : List Expr} {kk : Nat} {tpos : Pos} (a e it : Addr) :
    Turn P w K (.Tuple elts kk tpos) (IteT K a) [e, it] e (fun i h => (∃ old, IsEnum h e it ((i : Nat) : Int) old) ∧ h.IsTupleIter it a i ∧ e ≠ it ∧ a ≠ it ∧ e ≠ a) where
  mem := by simp
  obj := fun i h st b hb => by
    obtain ⟨⟨old, he⟩, ⟨o, ho, hc, hd⟩, _⟩ := st
    have e' : b = e ∨ b = it := by simpa using hb
    rcases e' with z | z
    · rw [z]; exact ⟨_, he, fun v q => nomatch q⟩
    · rw [z]; exact ⟨o, ho, fun v q => by rw [hd] at q; cases q⟩
  keep := fun i h h' st k => let ⟨⟨old, he⟩, hi, hne⟩ := st; ⟨⟨old, k e (by simp) _ he⟩, hi.at fun o q => k it (by simp) o q, hne⟩
  item := by
    intro X hP hw hK hc i pins s σ H E I hf st hg
    subst hP hw hK
    obtain ⟨⟨old, he⟩, hit, hne, hai, hea⟩ := st
    obtain ⟨xs, x, hq, hx⟩ := hg
    obtain ⟨its, rv, p, hz⟩ := I.tuple hq
    obtain ⟨u, hu, ru⟩ := rv.get hx
    have hel : e < s.heap.objs.size := Heap.lt_size he
    have hil : it < s.heap.objs.size := by obtain ⟨_, q, _⟩ := hit; exact Heap.lt_size q
    have hlt : i < its.toArray.size := by
      have := (List.getElem?_eq_some_iff.mp hu).1
      simpa using this
    refine wpAny_pyNext_enum_itemD (Draws.tuple (A := X.A.in1) (show X.A.in1.handled = none from I.ok.hd hc) it a hai its.toArray) he ⟨hit, p⟩ hlt hne (by simp [hne, hea]) fun x' h' tk hP ho hst' hT hsz hk => ?_
    obtain ⟨hit', _⟩ := hst'
    have ex : x' = u := by
      have h1 : its.toArray[i]? = some x' := hP
      have h2 : its.toArray[i]? = some u := by simpa using hu
      rw [h1] at h2
      exact Option.some.inj h2
    subst ex
    refine ⟨_, rfl, wpAny_letOwnedTupleGo_enum (s := { s with heap := h', toks := tk + 1 }) ho fun h'' he' sb => ?_⟩
    have hT2 : h''.get? s.heap.objs.size = some { cls := .type "tuple", data := .seq #[.int i tk, x'] } := (sb.2 _ (Nat.ne_of_gt hel)).trans hT
    have new : ObjOk X.prog X.w (upd H s.heap.objs.size (.tup [.int (i : Nat), x])) h'' s.heap.objs.size (.tup [.int (i : Nat), x]) :=
      ⟨by show 2 ≤ sizeLine; decide, [.int i tk, x'], .cons ⟨_, rfl⟩ (.cons ru .nil), ⟨_, hT2, rfl, _, rfl⟩⟩
    have I1 : Inv X pins σ (upd H s.heap.objs.size (.tup [.int (i : Nat), x])) { s with heap := h'', toks := tk + 1 } :=
      I.turnedNew (ch := [e, it]) (fun b ob hb q => (sb.2 b (fun z => hb (by simp [z]))).trans (hk b ob (fun z => hb (by simp [z])) (fun z => hb (by simp [z])) q)) hf (Nat.le_refl _) new
    refine ⟨.ref s.heap.objs.size, _, I1, rfl, ⟨_, x, rfl, I.hok.fresh (Nat.le_refl _), rfl, fun ys hy => by rw [I.tuple_inj hy hq]; exact hx⟩, ⟨⟨x', ?_⟩, hit'.at fun o q => (sb.2 it (Ne.symm hne)).trans q, hne, hai, hea⟩, fun b hb => ?_⟩
    · have e1 : ((i + 1 : Nat) : Int) = (i : Int) + 1 := by omega
      rw [e1]; exact he'
    · have hb' : b < s.heap.objs.size := by
        have e' : b = e ∨ b = it := by simpa using hb
        rcases e' with z | z
        · rw [z]; exact hel
        · rw [z]; exact hil
      rw [upd_ne (Nat.ne_of_lt hb')]
      exact (hf b hb).1
  done := by
    intro X hP hw hK hc i pins s σ H E I hf st hg
    subst hP hw hK
    obtain ⟨⟨old, he⟩, hit, hne, hai, hea⟩ := st
    obtain ⟨xs, hq, hx⟩ := hg
    obtain ⟨its, rv, p, hz⟩ := I.tuple hq
    obtain ⟨f0, f1, f2, f3, f4, f5⟩ := hf it (by simp)
    have hl := rv.length
    have en : i = its.toArray.size := by rw [List.size_toArray, ← hl, hx]
    have st' : s.heap.IsTupleIter it a its.toArray.size ∧ s.heap.IsTuple a its.toArray := ⟨en ▸ hit, p⟩
    exact wpAny_pyNext_enum_endD (Draws.tuple (A := X.A.in1) (show X.A.in1.handled = none from I.ok.hd hc) it a hai its.toArray) he st' fun h' eb => ⟨rfl, I.turned (t' := s.toks) (fun b o hb q => eb b o hb q) f0 f1 f3 f4 f5⟩
  self := fun A i s Q E st h => let ⟨⟨_, he⟩, _⟩ := st; wpAny_pyIter_enum he h
theorem call_enumerate_tuple {prog : Program} {w : World} {A : Around} {E : Value → Shared → Prop} {s : Shared} {l : Addr} {items : Array Value} {Q : Value → Shared → Prop} (hL : s.heap.IsTuple l items)
    (h : ∀ h', IsEnum h' (s.heap.objs.size + 1) s.heap.objs.size 0 .none → h'.IsTupleIter s.heap.objs.size l 0 → h'.objs.size = s.heap.objs.size + 2 →
      (∀ b o, s.heap.get? b = some o → h'.get? b = some o) → Q (.ref (s.heap.objs.size + 1)) { s with heap := h' }) :
    wpAny (model prog w) A (call (.type "enumerate") [.ref l]) Q E s := by
  obtain ⟨⟨c, dct, dt, sl⟩, hl, hc, n, hd⟩ := hL
  replace hc : c = .type "tuple" := hc
  replace hd : dt = .seq items n := hd
  subst hc hd
  refine callType_new PySem.F.called_enumerate (by decide) (PySem.F.typeCall_enumerate_1 _) (PySem.F.newCall_enumerate_1 _) (fun obj => PySem.F.args_object_init_2 obj _) PySem.F.entry_enumerate_new
    (meets_enumerate_newT l items n dct sl) ⟨hl, ?_⟩
  have hz : (s.heap.push { cls := .type "tuple_iterator", data := .fields #[.ref l, .int 0 0] }).objs.size = s.heap.objs.size + 1 := Heap.size_push ..
  show _ ∧ _
  rw [hz]
  have he : IsEnum ((s.heap.push { cls := .type "tuple_iterator", data := .fields #[.ref l, .int 0 0] }).push
      { cls := .type "enumerate", data := .fields #[.none, .bool false, .ref s.heap.objs.size, rawInt 0, .none, .none] }) (s.heap.objs.size + 1) s.heap.objs.size 0 .none := by
    have := Heap.get?_push_size (s.heap.push { cls := .type "tuple_iterator", data := .fields #[.ref l, .int 0 0] })
      (o := { cls := .type "enumerate", data := .fields #[.none, .bool false, .ref s.heap.objs.size, rawInt 0, .none, .none] }) rfl
    rw [hz] at this; exact this
  refine ⟨⟨_, he, rfl⟩, h _ he ⟨_, Heap.get?_push_of_some _ (Heap.get?_push_size _ rfl), rfl, rfl⟩ (by rw [Heap.size_push, hz]) fun b o x => Heap.get?_push_of_some _ (Heap.get?_push_of_some _ x)⟩
def iEnumT (K : PySem.W.Frag) (ta : TA) : TI := fun σ H R => ta σ H fun vs H1 => ∃ a xs, vs = [.ref a] ∧ SqT K H1 a xs ∧ R (IteT K a) H1
theorem pi_enumT {X : Cx} {e : Expr} {ta : TA} {p pos tpos : Pos} {elts : List Expr} {kk : Nat} (hg : Gl X "enumerate") (hm : X.mg "enumerate" = none) (ha : PA X [e] ta) (hs : starEach [e] X.env = [(false, eval e X.env)] := by rfl) :
    PI X (.Tuple elts kk tpos) (.Call (.Name "enumerate" p) [e] [] pos) (iEnumT X.K ta) := by
  refine ⟨fun pins s σ H R I h => ?_⟩
  refine Call_ (ld_blt I hg hm boot_enumerate (PyProof.Rows.callWith_type1 (thn (ha.run pos pins s σ H _ I h) fun us s1 ⟨vs, H1, I1, r1, q1⟩ => ?_) hs rfl))
  obtain ⟨a, xs, ex, hq, q⟩ := q1
  subst ex
  cases r1 with
  | cons r rr =>
    cases rr
    cases r
    obtain ⟨its, rv, p', hz⟩ := I1.tuple hq
    have hal : a < s1.heap.objs.size := by
      obtain ⟨o, ho, _⟩ := p'
      exact Heap.lt_size ho
    refine call_enumerate_tuple p' fun h' he hit hsz hk => wpAny_pyIter_enum he ?_
    have I2 : Inv X pins σ H1 { s1 with heap := h' } := I1.kept (t' := s1.toks) hk
    refine ⟨s1.heap.objs.size + 1, [s1.heap.objs.size + 1, s1.heap.objs.size], _, _, H1, rfl, I2, turn_enumT a (s1.heap.objs.size + 1) s1.heap.objs.size, ⟨⟨.none, he⟩, hit, Nat.succ_ne_self _, Nat.ne_of_lt hal, Nat.ne_of_gt (Nat.lt_succ_of_lt hal)⟩, fun b hb => ?_, q⟩
    have e' : b = s1.heap.objs.size + 1 ∨ b = s1.heap.objs.size := by simpa using hb
    have hle : s1.heap.objs.size ≤ b := by
      rcases e' with z | z
      · rw [z]; exact Nat.le_add_right _ _
      · rw [z]; exact Nat.le_refl _
    exact I1.fpOk hle (I1.hok.fresh hle)
theorem walk_enumT {K : PySem.W.Frag} {a : Addr} {xs : List V} : Walk (IteT K a) xs.length (fun H => SqT K H a xs) (YPair (fun i => some (.int (i : Nat))) (fun i => xs[i]?)) := by
  refine ⟨fun i _ hi q => ⟨xs, xs[i], q, by simp [hi]⟩, fun _ q => ⟨xs, q, rfl⟩, fun i H v H' _ q y => ?_⟩
  obtain ⟨T, x, h1, h2, h3, h4⟩ := y
  exact ⟨T, .int (i : Nat), x, h1, h2, h3, rfl, h4 xs q⟩
end AskR

set_option Elab.async false
set_option linter.all false
set_option maxRecDepth 100000
set_option maxHeartbeats 4000000
namespace AskR
open PySem PySem.Spec PyProof.Rows L2
abbrev lamO (qual : Str) (params : Arguments) (body : Expr) (scope : Scope) (pm : Value) (c' : Addr) (ctv : Value) : Obj := PySem.W.kla_obj "<lambda>" qual params body scope [] pm c' ctv
/-! a lambda that captures nothing, called -/
theorem lam_run {P : Program} {w : World} {K : PySem.W.Frag} {mg : Str → Option Value} {base : Heap} {k : Nat} {f c' : Addr} {qual : Str} {params : Arguments} {body : Expr} {scope : Scope} {pm ctv : Value} {N ps : List Str}
    {A : Around} {outer : List Env} {s : Shared} {H : Hp} {us : List Value} {vs : List V} {Q : VK}
    (of : s.heap.get? f = some (lamO qual params body scope pm c' ctv)) (hc : s.heap.CodeRec (.ref c') qual) (S : FnScope N ps scope)
    (hb : bindArgs (PySem.W.kla_fn "<lambda>" qual params body scope [] pm (.ref c') ctv) ⟨us, []⟩ = pure (ps.zip us))
    (hr : Room (k + 1) A) (e0 : Env0 P w K mg base A outer s H) (r : Vals vs us) (hl : vs.length = ps.length)
    (hbody : Room k (A.deeper (envOfC qual scope s.heap.objs.size f (.ref c'))) → ∃ t, PE (cxOf CX0 P w K mg base N qual scope f (.ref c') A outer s H E0).nox body t ∧ t (start N vs) H Q) :
    codeAny (model P w) A (.call (.ref f) ⟨us, []⟩) (CR CX0 outer P w H s Q E0) s := by
  have lim : s.heap.NoLimit := e0.mod.nolimit.keeps fun b o e => (e0.bs b o e).1
  have hkind : ∀ y ∈ ps.zip us, scope.names.lookup y.1 = some .local ∨ (scope.names.lookup y.1 = some .cell ∧ ((cellsFrom (s.heap.objs.size + 1) scope.names []).lookup y.1).isSome = true) := fun ⟨n, v⟩ hy => by
    rcases S.par n (List.of_mem_zip hy).1 with q | q
    · exact .inl q
    · exact .inr ⟨q, PySem.W.cellsFrom_some _ _ _ (.inl q)⟩
  refine PySem.W.kla_callFunE hr.depth of rfl S.co S.gen rfl hc ?_
  rw [hb]
  refine wpAny_pure ?_
  refine wpAny_newFunctionEnv_cells S.kind hkind fun env he s1 x => ?_
  subst he
  refine ⟨lim.keeps x.toInCall.keep, PySem.W.kla_codeExpr ?_⟩
  obtain ⟨t, ht, hq⟩ := hbody (hr.deeper _)
  have I : Inv (cxOf CX0 P w K mg base N qual scope f (.ref c') A outer s H E0) [] (start N vs) H s1 := inv_start S hr.hd e0 hl r x
  refine wpAny_mono (ht.nox.run [] s1 (start N vs) H _ I hq) (fun v s' h => ?_) fun e s' h => h
  obtain ⟨z, H', J, rv, q⟩ := h
  exact ⟨z, H', J.os, J.bare, J.base, J.hok, rv, q⟩
/-! sorted(d, ..) is list.sort(..) on a new list of d's keys -/
theorem sorted_from {prog : Program} {w : World} {A : Around} {E : Value → Shared → Prop} {s : Shared} {T : String} {r d : Addr} {n : Nat} {P : Nat → Value → Prop} {OK : Heap → Prop} {kw : List (Str × Value)} {Q : Value → Shared → Prop}
    (K : PySem.W.KdlSrc prog w T r d n P OK) (hh : A.handled = none) (hok : OK s.heap) (hn : n ≤ sizeLine) (ha1 : argsOk "sorted" ⟨[.ref r], kw⟩) (ha2 : ∀ x, argsOk "list.sort" ⟨[.ref x], kw⟩)
    (body : ∀ (E' : Value → Shared → Prop) (h' : Heap) (tk : Nat) (acc : Array Value), (∀ b o, s.heap.get? b = some o → h'.get? b = some o) → ItemsOf P acc n →
      wpAny (model prog w) A.in1.in1 (Builtin.«list.sort» ⟨[.ref h'.objs.size], kw⟩) (fun f s' => f = .done (.ret .none) ∧ Q (.ref h'.objs.size) s') E' { s with heap := h'.push (seqObj "list" acc.toList.toArray 0), toks := tk }) :
    wpAny (model prog w) A (call (.builtin "sorted") [.ref r] kw) Q E s := by
  refine call_function_entry_kw kind_sorted plain_sorted entry_sorted ha1 ?_
  unfold Builtin.«sorted»
  refine wpAny_bind (m := checkCount "sorted" 1 1 _) (wpAny_pure ?_)
  refine wpAny_bind (PySem.W.kdu_collect (A := A.in1) K hh hok hn fun h' tk acc hk hacc => ?_)
  have hz : acc.toList.length ≤ sizeLine := by rw [Array.length_toList, hacc.1]; exact hn
  refine wpAny_bind (wpAny_newList ?_ hz)
  have hoL : (h'.push (seqObj "list" acc.toList.toArray 0)).get? h'.objs.size = some (seqObj "list" acc.toList.toArray 0) := Heap.get?_push_size _ rfl
  show wpAny _ _ _ _ _ { s with heap := h'.push (seqObj "list" acc.toList.toArray 0), toks := tk }
  refine wpAny_bind (wpAny_holding (wpAny_call_entry_kw slot_list_sort ⟨_, hoL, rfl⟩ entry_list_sort ?body (ha2 _)))
  case body =>
    show wpAny (model prog w) A.in1.in1 (Builtin.«list.sort» ⟨[.ref h'.objs.size], kw⟩) _ _ _
    refine wpAny_mono (body _ h' tk acc hk hacc) (fun f s' hf => ?_) fun _ _ e => e
    obtain ⟨rfl, hq⟩ := hf
    exact ⟨_, rfl, wpAny_pure ⟨_, rfl, hq⟩⟩
/-- two objects of the run's own change; the first is known from now on -/
theorem take2 {X : Cx} {pins : List (Addr × Obj)} {σ : L2.St} {H : Hp} {s : Shared} {h' : Heap} {t' : Nat} {a b : Addr} {o : HO} (I : Inv X pins σ H s) (k : ∀ c ob, c ≠ a → c ≠ b → s.heap.get? c = some ob → h'.get? c = some ob) (fa : FpOk X pins H a) (fb : FpOk X pins H b)
    (new : ObjOk X.prog X.w (upd H a o) h' a o) : Inv X pins σ (upd H a o) { s with heap := h', toks := t' } := by
  obtain ⟨na, la, _, a1, a2, a3⟩ := fa
  obtain ⟨nb, lb, _, b1, b2, b3⟩ := fb
  have nota : ∀ c u, H c = some u → c ≠ a := fun c u e => ne_of_none e na
  have notb : ∀ c u, H c = some u → c ≠ b := fun c u e => ne_of_none e nb
  have up : ∀ c u, H c = some u → upd H a o c = some u := fun c u e => (upd_ne (nota c u e)).trans e
  have kk : ∀ c ob, c ∉ [a, b] → s.heap.get? c = some ob → h'.get? c = some ob := fun c ob hc e => k c ob (fun z => hc (by simp [z])) (fun z => hc (by simp [z])) e
  refine I.step (g' := s.gens) (d' := s.drawn) (ch := [a, b]) (fun c hc => ?_) (fun c ob _ _ hc e _ => kk c ob hc e) (fun c ob _ _ hc e _ => ⟨ob.slots, kk c ob hc e⟩)
    (fun c ob hc _ n => (upd_ne (fun z => hc (by simp [z]))).trans n) (fun c ob hc e => ⟨ob, kk c ob hc e⟩) (fun c _ e => up c _ e) (fun c _ _ e => up c _ e) (fun c ps e => ⟨#[], by rw [up c _ e]; simp⟩) (fun m hm => ?_) (fun c u e => ?_) I.bare
  · have z : c = a ∨ c = b := by simpa using hc
    rcases z with rfl | rfl
    · exact ⟨a1, la, a2, a3⟩
    · exact ⟨b1, lb, b2, b3⟩
  · obtain ⟨ob, es, ep, q1, q2⟩ := hm
    exact ⟨ob, es, ep, k _ ob (Ne.symm la) (Ne.symm lb) q1, q2⟩
  · by_cases hc : c = a
    · subst hc
      rw [upd_same] at e
      cases e
      exact new
    · rw [upd_ne hc] at e
      refine (I.hok c u e).stay (fun d v hd q => ?_) (fun d q => up d _ q) fun d xs q => up d _ q
      rcases hd with z | z
      · rw [z] at q ⊢
        exact k c v hc (notb c u e) q
      · exact k d v (nota d _ z) (notb d _ z) q
theorem nostack {X : Cx} {pins : List (Addr × Obj)} {σ : L2.St} {H : Hp} {s : Shared} (I : Inv X pins σ H s) {b : Addr} (hb : s.heap.objs.size ≤ b) : b ∉ frs X.stack := fun z => by
  rcases List.mem_cons.mp (I.stkSub b z) with e | e
  · have := I.lt
    rw [← e] at this
    exact absurd (Nat.lt_of_lt_of_le this hb) (Nat.lt_irrefl _)
  · exact I.nofs hb e
theorem ints_alike (xs ys : List Int) : PySem.W.alikeAll (xs.map .int) (ys.map .int) = true := PySem.W.alike_ints xs ys
/-- a tuple of ints, as data -/
theorem reads_ints {X : Cx} {pins : List (Addr × Obj)} {σ : L2.St} {H : Hp} {s : Shared} (I : Inv X pins σ H s) {q : Addr} {xs : List Int} (h : H q = some (.tup (xs.map V.int))) : ∃ as, Reads s.heap (.ref q) (.tuple (xs.map .int)) as := by
  have all : ∀ l : List Int, DpAll X.K H (l.map V.int) (l.map PyData.int) := fun l => by
    induction l with
    | nil => exact .nil
    | cons x r ih => exact .cons (.int x) ih
  exact Dp.reads I _ (.ref q) (.ref q) (.tup (SqT.of h) (all xs)) rfl
end AskR

set_option Elab.async false
set_option linter.all false
set_option maxRecDepth 100000
set_option maxHeartbeats 4000000
namespace AskR
open PySem PySem.Spec PyProof.Rows L2
/-- a key and its own tuple -/
abbrev KA := List L2.Key × Addr
/-- what stands between two calls of the key function: kS the keys made so far, a the emptied list, f the function -/
structure Mid (X : Cx) (pins : List (Addr × Obj)) (σ : L2.St) (H0 : Hp) (oc : List L2.Key → List Int) (bs : List KA) (kS a f : Addr) (e1 : Nat) (fo : Obj) (j : Nat) (s : Shared) (H : Hp) (kA : Array Value) (e : Nat) : Prop where
  inv : Inv X pins σ H s
  same : Same H0 H
  atS : s.heap.get? kS = some (seqObj "list" kA e)
  noS : H kS = none
  atA : s.heap.get? a = some (seqObj "list" #[] e1)
  noA : H a = none
  atF : s.heap.get? f = some fo
  noF : H f = none
  keys : PySem.W.EachIs (fun (v : Value) (x : KA) => ∃ q, v = .ref q ∧ H q = some (.tup ((oc x.1).map V.int))) kA.toList (bs.take j)
theorem keys_mono {H H' : Hp} {oc : List L2.Key → List Int} {vs : List Value} {bs : List KA} (sm : Same H H') (h : PySem.W.EachIs (fun (v : Value) (x : KA) => ∃ q, v = .ref q ∧ H q = some (.tup ((oc x.1).map V.int))) vs bs) :
    PySem.W.EachIs (fun (v : Value) (x : KA) => ∃ q, v = .ref q ∧ H' q = some (.tup ((oc x.1).map V.int))) vs bs :=
  h.mono fun _ _ ⟨q, e, hq⟩ => ⟨q, e, sm _ _ hq⟩
theorem sort_loop {X : Cx} {pins : List (Addr × Obj)} {σ : L2.St} {H0 : Hp} {s0 s : Shared} {oc : List L2.Key → List Int} {G : List L2.Key → Prop} {bs : List KA} {kS a f c' : Addr} {e1 k : Nat} {qual : Str} {params : Arguments} {body : Expr} {scope : Scope} {pm ctv : Value} {N : List Str} {p1 : Str} {A : Around} {E : Value → Shared → Prop}
    {P : PySem.Fin → Shared → Prop}
    (hA : A.frames = X.A.frames) (hr : Room (k + 1) A) (I0 : Inv X pins σ H0 s0) (fS : s0.heap.objs.size ≤ kS) (fA : s0.heap.objs.size ≤ a) (hka : kS ≠ a) (ff : f ∉ frs X.stack)
    (hc : H0 c' = some (LamX.CodeO c' qual)) (S : FnScope N [p1] scope)
    (hb : ∀ u : Value, bindArgs (PySem.W.kla_fn "<lambda>" qual params body scope [] pm (.ref c') ctv) ⟨[u], []⟩ = pure ([p1].zip [u]))
    (hbs : ∀ x ∈ bs, G x.1 ∧ H0 x.2 = some (.tup (x.1.map kV))) (hne : ∀ k, G k → oc k ≠ []) (hz : bs.length ≤ sizeLine)
    (hbody : ∀ (s : Shared) (H : Hp) (b : Addr) (ks : List L2.Key) (Q : VK), Room k (A.deeper (envOfC qual scope s.heap.objs.size f (.ref c'))) → G ks → H b = some (.tup (ks.map kV)) → (∀ H' p, Same H H' → H' p = some (.tup ((oc ks).map V.int)) → Q (.ref p) H') →
      ∃ t, PE (cxOf CX0 X.prog X.w X.K X.mg X.base N qual scope f (.ref c') A X.stack s H E0).nox body t ∧ t (start N [.ref b]) H Q)
    (st : ∃ H kA e, Mid X pins σ H0 oc bs kS a f e1 (lamO qual params body scope pm c' ctv) 0 s H kA e)
    (done : ∀ (s1 : Shared) (H1 : Hp) (h3 : Heap) (tk3 c : Nat) (out : List Value), Inv X pins σ H1 s1 → Same H0 H1 → (∀ b o, b ≠ a → b ≠ kS → s1.heap.get? b = some o → h3.get? b = some o) → h3.get? a = some (seqObj "list" out.toArray c) → H1 a = none → H1 kS = none →
      PySem.W.KeyedOut false (bs.map fun x => PyData.tuple ((oc x.1).map .int)) (bs.map fun x => Value.ref x.2) out → P (.done (.ret .none)) { s1 with heap := h3, toks := tk3 }) :
    wpAny (model X.prog X.w) A (PyProof.Rows.ksk_rest a (.ref f) false (bs.map fun x => Value.ref x.2).toArray e1 (.ref kS)) P E s := by
  unfold PyProof.Rows.ksk_rest
  refine wpAny_bind (wpAny_rule ?_)
  first
    | rw [List.forIn_toArray]
    | (rw [← Array.forIn_toList]; simp only [List.toList_toArray])
    | rw [← Array.forIn_toList]
  have nS : kS ∉ frs X.stack := nostack I0 fS
  have nA : a ∉ frs X.stack := nostack I0 fA
  refine wpAny_bind (PyProof.Rows.ksk_fold (fun i s' => ∃ H kA e, Mid X pins σ H0 oc bs kS a f e1 (lamO qual params body scope pm c' ctv) i s' H kA e) (bs.map fun x => Value.ref x.2) 0 s st ?step ?fin)
  case step =>
    rintro j x s' hx ⟨H, kA, e, M⟩
    simp only [Nat.zero_add] at M ⊢
    rw [List.getElem?_map] at hx
    obtain ⟨y, hy, ey⟩ := Option.map_eq_some_iff.mp hx
    subst ey
    have my := List.mem_of_getElem? hy
    obtain ⟨g1, g2⟩ := hbs y my
    have hj : j < bs.length := (List.getElem?_eq_some_iff.mp hy).1
    have e0 := M.inv.env0
    have hcode : s'.heap.CodeRec (.ref c') qual := NdefX.codeO_at M.inv.hok (M.same _ _ hc)
    have rc := lam_run (P := X.prog) (w := X.w) (us := [.ref y.2]) (vs := [.ref y.2]) (Q := fun v H' => ∃ p, v = .ref p ∧ Same H H' ∧ H' p = some (.tup ((oc y.1).map V.int))) M.atF hcode S (hb _) hr ⟨hA.trans e0.frames, e0.mod, e0.bs, e0.bsz, e0.funs, e0.frf, e0.hok, e0.bare⟩ (.cons rfl .nil) rfl
      fun hr' => hbody s' H y.2 y.1 _ hr' g1 (M.same _ _ g2) fun H' p sm hp => ⟨p, rfl, sm, hp⟩
    refine wpAny_bind (wpAny_attempt (wpAny_call (codeAny_mono rc fun r s2 hq => ?_)))
    cases r with
    | error e => exact hq.elim
    | ok fl =>
      cases fl with
      | next => exact False.elim hq
      | brk => exact False.elim hq
      | cont => exact False.elim hq
      | ret u =>
        obtain ⟨v, H2, os, bare, un, hok, rv, p, rfl, sm, hp⟩ := hq
        obtain rfl : u = Value.ref p := rv
        have I2 : Inv X pins σ H2 s2 := M.inv.call' (ch := []) os un hok bare (fun b z => absurd z (by simp))
        have s2S : s2.heap.get? kS = some (seqObj "list" kA e) := un.keep _ _ M.atS M.noS nS (by simp)
        have s2A : s2.heap.get? a = some (seqObj "list" #[] e1) := un.keep _ _ M.atA M.noA nA (by simp)
        have s2F := un.keep _ _ M.atF M.noF ff (by simp)
        have n2S : H2 kS = none := un.free _ _ M.atS M.noS (by simp)
        have n2A : H2 a = none := un.free _ _ M.atA M.noA (by simp)
        have n2F : H2 f = none := un.free _ _ M.atF M.noF (by simp)
        have hsz : kA.size = j := by
          have h1 := M.keys.length
          rw [Array.length_toList, List.length_take] at h1
          omega
        try dsimp only
        have s1 := Heap.SameBut.update s2.heap kS (Obj.mapSeq (·.push (Value.ref p)))
        obtain ⟨c2, hc2⟩ : ∃ c2, (s2.heap.update kS (Obj.mapSeq (·.push (Value.ref p)))).get? kS = some (seqObj "list" (kA.push (Value.ref p)) c2) := ⟨_, get?_update_seq s2S (·.push (Value.ref p))⟩
        refine wpAny_bind (listUpdate_at s2S rfl ?_ (by rw [hsz]; omega) (by show (kA.push (Value.ref p)).size ≤ _; rw [Array.size_push, hsz]; omega))
        obtain ⟨f0, f1, _, f3, f4, f5⟩ := I0.fpOk (H' := H2) fS n2S
        have nF : f ≠ kS := fun z => by
          have q1 := s2F
          rw [z, s2S] at q1
          have q2 : Data.seq kA e = Data.func _ := congrArg Obj.data (Option.some.inj q1)
          cases q2
        refine wpAny_pure ⟨rfl, H2, kA.push (Value.ref p), c2, ?_⟩
        have ek : bs.take (j + 1) = bs.take j ++ [y] := by rw [List.take_add_one, hy]; simp
        have ea : (kA.push (Value.ref p)).toList = kA.toList ++ [Value.ref p] := by simp
        refine ⟨I2.turned (t' := s2.toks) (fun b o hb e => (s1.2 b hb).trans e) f0 f1 f3 f4 f5, M.same.trans sm, hc2, n2S, (s1.2 a hka.symm).trans s2A, n2A, (s1.2 f nF).trans s2F, n2F, ?_⟩
        rw [ea, ek]
        exact PySem.W.each_snoc (R := fun (v : Value) (x : KA) => ∃ q, v = .ref q ∧ H2 q = some (.tup ((oc x.1).map V.int))) ⟨p, rfl, hp⟩ (keys_mono sm M.keys)
  case fin =>
    rintro s' ⟨H, kA, e, M⟩
    have e3 : bs.take (0 + (bs.map fun x => Value.ref x.2).length) = bs := List.take_of_length_le (by rw [List.length_map]; omega)
    have hk := M.keys
    rw [e3] at hk
    have hsz : kA.size = bs.length := by
      have h1 := hk.length
      rw [Array.length_toList] at h1
      exact h1
    have hk' : PySem.W.EachIs (fun v k => ∃ as, Reads s'.heap v k as) kA.toList (bs.map fun x => PyData.tuple ((oc x.1).map .int)) := PySem.W.each_map (fun x : KA => PyData.tuple ((oc x.1).map .int)) (hk.mono fun v x ⟨q, ev, hq⟩ => by
      rw [ev]
      exact reads_ints M.inv hq)
    have hal : PySem.W.AllAlike (bs.map fun x => PyData.tuple ((oc x.1).map .int)) := PySem.W.AllAlike.of fun x y => ints_alike _ _
    have hsk : PySem.W.Sortable (bs.map fun x => PyData.tuple ((oc x.1).map .int)) := .inl fun d hd => by
      obtain ⟨x, hx, rfl⟩ := List.mem_map.mp hd
      cases q : oc x.1 with
      | nil => exact absurd q (hne _ (hbs x hx).1)
      | cons z r => exact ⟨.int z, r.map .int, rfl⟩
    have hu : ∀ d, d ∈ (bs.map fun x => PyData.tuple ((oc x.1).map .int)) → A.units + d.depth < cLine := fun d hd => by
      obtain ⟨x, hx, rfl⟩ := List.mem_map.mp hd
      have h1 := hr.un
      have h2 : (PyData.tuple ((oc x.1).map .int)).depth = 1 := by
        show PyData.depthAll ((oc x.1).map .int) + 1 = 1
        rw [PySem.W.depth_ints]
      rw [h2]
      omega
    try dsimp only
    refine wpAny_bind (listItems_at M.atS rfl ?_)
    have kp : PySem.W.KeepsBut a (PySem.W.hideAll s'.heap [kS]) s'.heap := fun b o _ e => PySem.W.of_hideAll _ e
    have hz' : (bs.map fun x => Value.ref x.2).length ≤ sizeLine := by rw [List.length_map]; exact hz
    refine PySem.W.keyH_end (κ := PySem.W.dataKind s'.heap (bs.map fun x => PyData.tuple ((oc x.1).map .int))) (h₁ := PySem.W.hideAll s'.heap [kS]) kp (PySem.W.hideAll_none _ (by simp)) M.atS M.atA hka (PySem.W.SortsAt.data hk' hal hsk hu) (by rw [hsz, List.length_map]) hz' fun h3 tk3 c k3 n3 => ?_
    exact done s' H h3 tk3 c _ M.inv M.same (fun b o h1 h2 e => k3 b o h1 (PySem.W.hideAll_get _ e (by simpa using h2))) n3 M.noA M.noS ⟨s'.heap, kA.toList, hal, rfl, hk'⟩
end AskR

set_option Elab.async false
set_option linter.all false
set_option maxRecDepth 100000
set_option maxHeartbeats 4000000
namespace AskR
open PySem PySem.Spec PyProof.Rows L2
theorem lt_lex : ∀ xs ys : List Int, decide (xs < ys) = HT.lexLt xs ys
  | [], [] => rfl
  | [], y :: ys => by simp [HT.lexLt_nil_cons]
  | x :: xs, [] => by simp [HT.lexLt_cons_nil]
  | x :: xs, y :: ys => by
    rw [HT.lexLt_cons, ← lt_lex xs ys]
    by_cases h : x = y
    · rw [if_pos h]
      simp [h, List.cons_lt_cons_iff]
    · rw [if_neg h]
      simp [h, List.cons_lt_cons_iff]
theorem le_tups {β : Type} (x : β → List Int) : PySem.W.dataLe false (fun b => .tuple ((x b).map .int)) = fun p q => !HT.lexLt (x q) (x p) := by
  funext p q
  show (!PySem.W.dataLt (.tuple ((x q).map .int)) (.tuple ((x p).map .int))) = _
  rw [PySem.W.dataLt_tuple]
  show (!PySem.W.rowLt ((x q).map .int) ((x p).map .int)) = _
  rw [PySem.W.dataLt_ints, lt_lex]
/-- what sorted(d, key=lambda k: f(k)) gives: the keys in order, each with its own tuple -/
def rSortL (T : List (Addr × Str)) (oc : List L2.Key → List Int) (G : List L2.Key → Prop) (v : V) (H1 : Hp) (Q : VK) : Prop := ∃ (d : Addr) (kvs : List (List L2.Key × V)), v = .ref d ∧ H1 d = some (.dT kvs) ∧ (∀ kv ∈ kvs, G kv.1) ∧ LamX.Tabs T H1 ∧
  ∀ (H' : Hp) (p : Addr) (bs : List KA), LamX.ExtN H1 H' → LamX.Tabs T H' → H' p = some (.lst (bs.map fun x => V.ref x.2)) → (∀ x ∈ bs, H' x.2 = some (.tup (x.1.map kV))) →
    bs.map (·.1) = (kvs.map (·.1)).mergeSort (fun a b => !HT.lexLt (oc b) (oc a)) → Q (.ref p) H'
def tSortL (T : List (Addr × Str)) (oc : List L2.Key → List Int) (G : List L2.Key → Prop) (te : TE) : TE := fun σ H Q => te σ H fun v H1 => rSortL T oc G v H1 Q
theorem Paired.mapEq {H : Hp} : ∀ {kvs : List (List L2.Key × V)} {xs : List (List L2.Key × Addr × Value)}, Paired (fun (p : List L2.Key × V) (q : List L2.Key × Addr × Value) => p.1 = q.1 ∧ H q.2.1 = some (.tup (p.1.map kV)) ∧ RelV p.2 q.2.2) kvs xs →
    kvs.map (·.1) = xs.map ((fun x : KA => x.1) ∘ fun x => ((x.1, x.2.1) : KA))
  | _, _, .nil => rfl
  | _, _, .cons h t => by
    rw [List.map_cons, List.map_cons, Paired.mapEq t, h.1]
    rfl
theorem each_refs : ∀ bs : List KA, PySem.W.EachIs (fun (v : Value) (x : KA) => v = Value.ref x.2) (bs.map fun x => Value.ref x.2) bs
  | [] => .nil
  | _ :: r => .cons rfl (each_refs r)
theorem refs_each : ∀ {vs : List Value} {bs : List KA}, PySem.W.EachIs (fun (v : Value) (x : KA) => v = Value.ref x.2) vs bs → vs = bs.map fun x => Value.ref x.2
  | _, _, .nil => rfl
  | _, _, .cons h t => by rw [h, refs_each t]; rfl
theorem vals_refsK : ∀ bs : List KA, Vals (bs.map fun x => V.ref x.2) (bs.map fun x => Value.ref x.2)
  | [] => .nil
  | _ :: r => .cons rfl (vals_refsK r)
theorem pe_sortL {X : Cx} {T : List (Addr × Str)} {oc : List L2.Key → List Int} {G : List L2.Key → Prop} {te : TE} {c P : Addr} {k : Nat} {e : Expr} {params : Arguments} {body : Expr} {scope : Scope} {N : List Str} {p1 : Str} {p lpos kpos pos : Pos}
    (hcalm : X.calm = true) (hr : Room (k + 4) X.A) (hg : Gl X "sorted") (hm : X.mg "sorted" = none) (he : PE X e te)
    (TB : LamX.TabB X.base X.mg c P) (hcode : X.env.code = .ref c) (hmT : (P, X.env.qual ++ "<lambda>") ∈ T) (hu : ∀ p ∈ T, p.1 = P → p.2 = X.env.qual ++ "<lambda>") (S : FnScope N [p1] scope) (hdef : defaultsOf params X.env = ([], []))
    (hcl : ∀ cells : List (Str × Addr), cloFrom cells scope.names [] = []) (hfree : ∀ y ∈ scope.names, y.2 ≠ .free)
    (hb : ∀ (q : Str) (pm cv ctv u : Value), bindArgs (PySem.W.kla_fn "<lambda>" q params body scope [] pm cv ctv) ⟨[u], []⟩ = pure ([p1].zip [u])) (hne : ∀ k, G k → oc k ≠ [])
    (hbody : ∀ (A : Around) (f c' : Addr) (s : Shared) (H : Hp) (b : Addr) (ks : List L2.Key) (Q : VK), Room k (A.deeper (envOfC (X.env.qual ++ "<lambda>") scope s.heap.objs.size f (.ref c'))) → G ks → H b = some (.tup (ks.map kV)) →
      (∀ H' p, Same H H' → H' p = some (.tup ((oc ks).map V.int)) → Q (.ref p) H') →
      ∃ t, PE (cxOf CX0 X.prog X.w X.K X.mg X.base N (X.env.qual ++ "<lambda>") scope f (.ref c') A X.stack s H E0).nox body t ∧ t (start N [.ref b]) H Q)
    (hst : backTo pos (starEach [e] X.env) = (false, eval e X.env) :: backTo pos (starEach [] X.env) := by rfl) (hpl : (backTo pos (starEach [e] X.env)).any (·.1) = false := by rfl) (hs1 : starEach [e] X.env = (false, eval e X.env) :: starEach [] X.env := by rfl) :
    PE X (.Call (.Name "sorted" p) [e] [⟨some "key", .Lambda params body scope lpos, kpos⟩] pos) (tSortL T oc G te) := by
  refine ⟨fun pins s σ H Q I h => ?_⟩
  refine wpAny_Call_Name_kw (ld_blt I hg hm (by decide +kernel : bootBuiltins "sorted" = some (.builtin "sorted")) ?_ (by decide))
  refine PyProof.Rows.callWith_kw (thn ((pa_cons he pa_nil hs1).run pos pins s σ H (fun vs H1 => match vs with | [v] => rSortL T oc G v H1 Q | _ => False) I h) fun us s1 ⟨vs, H1, I1, r1, q1⟩ => ?_) hst hpl
  obtain ⟨v, rfl⟩ : ∃ v, vs = [v] := by
    cases vs with
    | nil => exact q1.elim
    | cons v r =>
      cases r with
      | nil => exact ⟨v, rfl⟩
      | cons v2 r2 => exact q1.elim
  obtain ⟨u, rfl, ru⟩ := vals1 r1
  obtain ⟨d, kvs, rfl, hd, hG, hT, q⟩ := (show rSortL T oc G v H1 Q from q1)
  obtain rfl : u = Value.ref d := ru
  -- the lambda
  show wpAny (model X.prog X.w) X.A (evalAll ((do let v ← eval (.Lambda params body scope lpos) X.env; standAt pos; pure v) :: [])) _ X.xe s1
  refine wpAny_evalAll_cons (wpAny_bind (LamX.lam_make2 I1 TB hcode hmT hu hT hdef (fun y hy z => absurd z (hfree y hy)) fun f c' pm ctv H2 s2 I2 eN T2 hof hfn hff hco => ?_))
  refine wpAny_bind (wpAny_standAt (wpAny_pure (wpAny_evalAll_nil ?_)))
  rw [hcl X.env.cells] at hof
  show wpAny (model X.prog X.w) X.A (call (.builtin "sorted") [.ref d] [(Str.ofString "key", .ref f)]) (EP X pins σ Q) X.xe s2
  have hd2 : H2 d = some (.dT kvs) := eN _ _ hd (fun ps z => by cases z)
  obtain ⟨z, hs, xs, pr, o, es, ep, ho, hx, hdt, hes, hn⟩ := (show ObjOk X.prog X.w H2 s2.heap d (.dT kvs) from I2.hok d _ hd2)
  have l1 : es.size = xs.length := size_of_entries hes
  have l2 : kvs.length = xs.length := Paired.length pr
  have hbs : ∀ x ∈ xs.map (fun x => ((x.1, x.2.1) : KA)), G x.1 ∧ H2 x.2 = some (.tup (x.1.map kV)) := fun x hx => by
    obtain ⟨y, hy, rfl⟩ := List.mem_map.mp hx
    obtain ⟨i, hi⟩ := List.mem_iff_getElem?.mp hy
    obtain ⟨kv, hkv, e1, e2, _⟩ := DX.pget pr hi
    have g := hG kv (List.mem_of_getElem? hkv)
    exact ⟨by rw [← e1]; exact g, by rw [← e1]; exact e2⟩
  have hkeys : (xs.map (fun x => ((x.1, x.2.1) : KA))).map (·.1) = kvs.map (·.1) := by
    rw [List.map_map]
    exact (Paired.mapEq pr).symm
  have hzb : (xs.map (fun x => ((x.1, x.2.1) : KA))).length ≤ sizeLine := by rw [List.length_map, ← l2]; exact z
  refine sorted_from (kdl_raw (prog := X.prog) (w := X.w) hs hx hdt) (I2.ok.hd hcalm) ho (by rw [l1, ← l2]; exact z) (PyProof.Rows.ksk_s1 _ _) (fun _ => PyProof.Rows.ksk_l1 _ _) fun E' h' tk acc hk hacc => ?_
  have ea : acc.toList = (xs.map (fun x => ((x.1, x.2.1) : KA))).map fun x => Value.ref x.2 := by
    apply List.ext_getElem?
    intro j
    rw [List.map_map, List.getElem?_map]
    cases hj : acc.toList[j]? with
    | none =>
      have h1 := List.getElem?_eq_none_iff.mp hj
      rw [Array.length_toList, hacc.1, l1] at h1
      rw [List.getElem?_eq_none h1]
      rfl
    | some v =>
      obtain ⟨en, hen, hv⟩ := hacc.2 j v (by rw [← Array.getElem?_toList]; exact hj)
      have qe := entry_at hes j
      rw [hen] at qe
      cases hb : xs[j]? with
      | none =>
        rw [hb] at qe
        cases qe
      | some b =>
        rw [hb] at qe
        have e2 : en = entryOfKey (tupleKind (mixKind X.prog X.w)) b := Option.some.inj qe
        rw [hv, e2]
        rfl
  rw [ea, PyProof.Rows.ksk_t1]
  generalize hbsd : xs.map (fun x => ((x.1, x.2.1) : KA)) = bs at hbs hkeys hzb ⊢
  have hzl : (bs.map fun x => Value.ref x.2).length ≤ sizeLine := by rw [List.length_map]; exact hzb
  have hof2 := hk _ _ hof
  have I3 : Inv X pins σ H2 { s2 with heap := h', toks := tk } := I2.kept hk
  have hoL : (h'.push (seqObj "list" (bs.map fun x => Value.ref x.2).toArray 0)).get? h'.objs.size = some (seqObj "list" (bs.map fun x => Value.ref x.2).toArray 0) := Heap.get?_push_size _ rfl
  have hkL : ∀ b o, h'.get? b = some o → b ≠ h'.objs.size ∧ (h'.push (seqObj "list" (bs.map fun x => Value.ref x.2).toArray 0)).get? b = some o := fun b o e => ⟨Nat.ne_of_lt (Heap.lt_size e), Heap.get?_push_of_some _ e⟩
  have hsL : (h'.push (seqObj "list" (bs.map fun x => Value.ref x.2).toArray 0)).objs.size = h'.objs.size + 1 := Heap.size_push ..
  generalize h'.push (seqObj "list" (bs.map fun x => Value.ref x.2).toArray 0) = hL at hoL hkL hsL ⊢
  obtain ⟨e1, ho1⟩ : ∃ e1, (hL.update h'.objs.size (Obj.mapSeq fun _ => (#[] : Array Value))).get? h'.objs.size = some (seqObj "list" #[] e1) := ⟨_, get?_update_seq hoL fun _ => #[]⟩
  have hsU : (hL.update h'.objs.size (Obj.mapSeq fun _ => (#[] : Array Value))).objs.size = h'.objs.size + 1 := by rw [Heap.size_update, hsL]
  have hkU : ∀ b o, h'.get? b = some o → (hL.update h'.objs.size (Obj.mapSeq fun _ => (#[] : Array Value))).get? b = some o := fun b o e => (Heap.get?_update_ne _ _ _ _ (hkL b o e).1).trans (hkL b o e).2
  unfold PyProof.Rows.ksk_tree
  refine wpAny_bind (listItems_at hoL rfl ?_)
  refine wpAny_bind (listUpdate_at hoL rfl ?_ (by rw [List.size_toArray]; exact hzl) (Nat.zero_le _))
  refine wpAny_bind (seqEpoch_at ho1 rfl ?_)
  generalize hL.update h'.objs.size (Obj.mapSeq fun _ => (#[] : Array Value)) = hU at ho1 hsU hkU ⊢
  refine wpAny_bind (wpAny_newTuple ?_ hzl)
  refine wpAny_bind (wpAny_newList ?_ (Nat.zero_le _))
  refine wpAny_holding ?_
  have hs4 : (hU.push (seqObj "tuple" (bs.map fun x => Value.ref x.2).toArray 0)).objs.size = h'.objs.size + 2 := by
    show (hU.push _).objs.size = _
    rw [Heap.size_push, hsU]
  have hk4 : ∀ b o, h'.get? b = some o → ((hU.push (seqObj "tuple" (bs.map fun x => Value.ref x.2).toArray 0)).push (seqObj "list" #[] 0)).get? b = some o := fun b o e => Heap.get?_push_of_some _ (Heap.get?_push_of_some _ (hkU b o e))
  have hS4 : ((hU.push (seqObj "tuple" (bs.map fun x => Value.ref x.2).toArray 0)).push (seqObj "list" #[] 0)).get? (h'.objs.size + 2) = some (seqObj "list" #[] 0) := by
    rw [← hs4]
    exact Heap.get?_push_size _ rfl
  have hA4 : ((hU.push (seqObj "tuple" (bs.map fun x => Value.ref x.2).toArray 0)).push (seqObj "list" #[] 0)).get? h'.objs.size = some (seqObj "list" #[] e1) := Heap.get?_push_of_some _ (Heap.get?_push_of_some _ ho1)
  have I4 : Inv X pins σ H2 { s2 with heap := (hU.push (seqObj "tuple" (bs.map fun x => Value.ref x.2).toArray 0)).push (seqObj "list" #[] 0), toks := tk } := I3.kept (t' := tk) hk4
  have nA : H2 h'.objs.size = none := I3.hok.fresh (Nat.le_refl _)
  have nS : H2 (h'.objs.size + 2) = none := I3.hok.fresh (Nat.le_add_right _ _)
  show wpAny _ _ (PyProof.Rows.ksk_rest h'.objs.size (.ref f) false (bs.map fun x => Value.ref x.2).toArray e1 (.ref (hU.push (seqObj "tuple" (bs.map fun x => Value.ref x.2).toArray 0)).objs.size)) _ _ _
  rw [hs4]
  refine sort_loop (G := G) (oc := oc) (k := k + 1) (N := N) (p1 := p1) (qual := X.env.qual ++ "<lambda>") (params := params) (body := body) (scope := scope) (pm := pm) (ctv := ctv) (c' := c') (s0 := { s2 with heap := h', toks := tk }) (H0 := H2) rfl ((hr.in1).in1) I3 (Nat.le_add_right _ 2) (Nat.le_refl _) (show (h'.objs.size + 2 : Nat) ≠ h'.objs.size by omega) hff hco S (fun u => hb _ _ _ _ u) hbs hne hzb (fun s H b ks Q hR g e q => hbody _ f c' s H b ks Q (hR.mono (by omega)) g e q)
    ⟨H2, #[], 0, ⟨I4, Same.refl _, hS4, nS, hA4, nA, hk4 _ _ hof2, hfn, by rw [List.take_zero]; exact .nil⟩⟩ fun s1 H1 h3 tk3 c out J sm k3 n3 nA3 nS3 ko => ⟨rfl, ?_⟩
  have eo := PySem.W.keyedOut_each (R := fun (v : Value) (x : KA) => v = Value.ref x.2) (fun x : KA => PyData.tuple ((oc x.1).map .int)) ko (each_refs bs)
  rw [le_tups (fun x : KA => oc x.1)] at eo
  have eo2 : out = (bs.mergeSort fun p q => !HT.lexLt (oc q.1) (oc p.1)).map fun x => Value.ref x.2 := refs_each eo
  have J2 : Inv X pins σ (upd H1 h'.objs.size (.lst ((bs.mergeSort fun p q => !HT.lexLt (oc q.1) (oc p.1)).map fun x => V.ref x.2))) { s1 with heap := h3, toks := tk3 } :=
    take2 J (fun b o h1 h2 e => k3 b o h1 h2 e) (I3.fpOk (Nat.le_refl _) nA3) (I3.fpOk (Nat.le_add_right _ 2) nS3) ⟨by rw [List.length_map, List.length_mergeSort]; exact hzb, out, c, by rw [eo2]; exact vals_refsK _, n3⟩
  refine ⟨.ref h'.objs.size, _, J2, rfl, q _ h'.objs.size _ (fun b o e n => ?_) (T2.ext fun b o e => ?_) upd_same (fun x hx => ?_) ?_⟩
  · have h1 := sm _ _ (eN b o e n)
    exact (upd_ne (ne_of_none h1 nA3)).trans h1
  · have h1 := sm _ _ e
    exact (upd_ne (ne_of_none h1 nA3)).trans h1
  · have h1 := sm _ _ (hbs x (List.mem_mergeSort.mp hx)).2
    exact (upd_ne (ne_of_none h1 nA3)).trans h1
  · rw [← hkeys]
    exact PySem.W.sort_maps (s := fun a b => !HT.lexLt (oc b) (oc a)) Prod.fst fun _ _ _ _ => rfl
end AskR

set_option Elab.async false
set_option linter.all false
set_option maxRecDepth 100000
set_option maxHeartbeats 4000000
namespace Ask
open PySem PySem.Spec PyProof.Rows L2 AskR
theorem lx_eq : ∀ a b : List Int, lx a b = HT.lexLt a b
  | [], [] => rfl
  | [], _ :: _ => rfl
  | _ :: _, [] => rfl
  | x :: xs, y :: ys => by rw [lx, HT.lexLt_cons, lx_eq xs ys]
/-! ### octets of keys -/
abbrev Ky := List L2.Key
def vOct : L2.Key → List Int
  | .inl n => [1, n / 65536, n / 256 % 256, n % 256]
  | .inr x => 2 :: (x.cps.toList.map (fun c : Nat => (c : Int)) ++ [0])
def bOct (k : Ky) : List Int := k.flatMap vOct
def oct (k : Ky) : List Int := bOct k ++ [0]
def GoodV : L2.Key → Prop
  | .inl n => 0 ≤ n ∧ n ≤ 999999
  | .inr x => x.cps.toList.length ≤ 40 ∧ ∀ c ∈ x.cps.toList, 1 ≤ c ∧ c < 128
def GoodK (k : Ky) : Prop := k.length ≤ 12 ∧ ∀ v ∈ k, GoodV v
theorem vOct_len {v : L2.Key} (g : GoodV v) : (vOct v).length ≤ 42 := by
  cases v with
  | inl n => show 4 ≤ 42; decide
  | inr x =>
    have := g.1
    simp only [vOct, List.length_cons, List.length_append, List.length_map, List.length_nil]
    omega
theorem bOct_nil : bOct [] = [] := rfl
theorem bOct_cons (v : L2.Key) (k : Ky) : bOct (v :: k) = vOct v ++ bOct k := List.flatMap_cons ..
theorem bOct_snoc (k : Ky) (v : L2.Key) : bOct (k ++ [v]) = bOct k ++ vOct v := by
  unfold bOct
  rw [List.flatMap_append, List.flatMap_cons, List.flatMap_nil, List.append_nil]
theorem bOct_len : ∀ {k : Ky}, (∀ v ∈ k, GoodV v) → (bOct k).length ≤ 42 * k.length
  | [], _ => Nat.le_refl _
  | v :: k, h => by
    rw [bOct_cons, List.length_append, List.length_cons]
    have a := vOct_len (h v (List.mem_cons_self ..))
    have b := bOct_len (k := k) fun w hw => h w (List.mem_cons_of_mem _ hw)
    omega
theorem GoodK.blen {k : Ky} (h : GoodK k) : (bOct k).length ≤ 504 := by
  have := bOct_len h.2
  have := h.1
  omega
theorem oct_len {k : Ky} (h : GoodK k) : (oct k).length ≤ 505 := by
  have := h.blen
  unfold oct
  rw [List.length_append, List.length_singleton]
  omega
theorem oct_ne (k : Ky) : oct k ≠ [] := by
  unfold oct
  simp
theorem vOct_byte {v : L2.Key} (g : GoodV v) : bytes (vOct v) := by
  cases v with
  | inl n =>
    obtain ⟨g0, g1⟩ : 0 ≤ n ∧ n ≤ 999999 := g
    intro z hz
    have e : z = 1 ∨ z = n / 65536 ∨ z = n / 256 % 256 ∨ z = n % 256 := by simpa [vOct] using hz
    unfold byte
    rcases e with rfl | rfl | rfl | rfl <;> omega
  | inr x =>
    intro z hz
    have e : z = 2 ∨ (∃ c ∈ x.cps.toList, (c : Int) = z) ∨ z = 0 := by
      simp only [vOct, List.mem_cons, List.mem_append, List.mem_map, List.not_mem_nil, or_false] at hz
      exact hz
    unfold byte
    rcases e with rfl | ⟨c, hc, rfl⟩ | rfl
    · omega
    · have := g.2 c hc
      omega
    · omega
theorem bOct_byte {k : Ky} (h : ∀ v ∈ k, GoodV v) : bytes (bOct k) := fun z hz => by
  obtain ⟨v, hv, hz2⟩ := List.mem_flatMap.mp hz
  exact vOct_byte (h v hv) z hz2
theorem oct_byte {k : Ky} (h : ∀ v ∈ k, GoodV v) : bytes (oct k) := fun z hz => by
  rcases List.mem_append.mp hz with q | q
  · exact bOct_byte h z q
  · rw [List.mem_singleton.mp q]
    exact ⟨by decide, by decide⟩
/-! no octets begin with others -/
theorem text_pre : ∀ {cs ds : List Nat} {X Y : List Int}, (∀ c ∈ cs, 1 ≤ c) → (∀ d ∈ ds, 1 ≤ d) → cs.map (fun c : Nat => (c : Int)) ++ (0 :: X) <+: ds.map (fun c : Nat => (c : Int)) ++ (0 :: Y) → cs = ds ∧ X <+: Y
  | [], [], X, Y, _, _, h => ⟨rfl, by simpa using h⟩
  | [], d :: ds, X, Y, _, hd, h => by
    have e : (0 : Int) = (d : Int) := by
      have := (List.cons_prefix_cons.mp (show (0 : Int) :: X <+: (d : Int) :: (ds.map (fun c : Nat => (c : Int)) ++ (0 :: Y)) from h)).1
      exact this
    have := hd d (List.mem_cons_self ..)
    omega
  | c :: cs, [], X, Y, hc, _, h => by
    have e : (c : Int) = (0 : Int) := (List.cons_prefix_cons.mp (show (c : Int) :: (cs.map (fun c : Nat => (c : Int)) ++ (0 :: X)) <+: (0 : Int) :: Y from h)).1
    have := hc c (List.mem_cons_self ..)
    omega
  | c :: cs, d :: ds, X, Y, hc, hd, h => by
    obtain ⟨e, t⟩ := List.cons_prefix_cons.mp (show (c : Int) :: (cs.map (fun c : Nat => (c : Int)) ++ (0 :: X)) <+: (d : Int) :: (ds.map (fun c : Nat => (c : Int)) ++ (0 :: Y)) from h)
    obtain ⟨e2, t2⟩ := text_pre (fun z hz => hc z (List.mem_cons_of_mem _ hz)) (fun z hz => hd z (List.mem_cons_of_mem _ hz)) t
    have e3 : c = d := by omega
    exact ⟨by rw [e2, e3], t2⟩
theorem oct_cons (v : L2.Key) (k : Ky) : oct (v :: k) = vOct v ++ oct k := by
  unfold oct
  rw [bOct_cons, List.append_assoc]
theorem val_pre {u v : L2.Key} {X Y : List Int} (hu : GoodV u) (hv : GoodV v) (h : vOct u ++ X <+: vOct v ++ Y) : u = v ∧ X <+: Y := by
  cases u with
  | inl n =>
    cases v with
    | inl m =>
      obtain ⟨a0, a1⟩ : 0 ≤ n ∧ n ≤ 999999 := hu
      obtain ⟨b0, b1⟩ : 0 ≤ m ∧ m ≤ 999999 := hv
      have h' : (1 : Int) :: n / 65536 :: n / 256 % 256 :: n % 256 :: X <+: (1 : Int) :: m / 65536 :: m / 256 % 256 :: m % 256 :: Y := h
      simp only [List.cons_prefix_cons] at h'
      obtain ⟨_, e1, e2, e3, t⟩ := h'
      exact ⟨by rw [show n = m by omega], t⟩
    | inr x =>
      have h' : (1 : Int) :: (n / 65536 :: n / 256 % 256 :: n % 256 :: X) <+: (2 : Int) :: (x.cps.toList.map (fun c : Nat => (c : Int)) ++ [0] ++ Y) := h
      have := (List.cons_prefix_cons.mp h').1
      omega
  | inr x =>
    cases v with
    | inl m =>
      have h' : (2 : Int) :: (x.cps.toList.map (fun c : Nat => (c : Int)) ++ [0] ++ X) <+: (1 : Int) :: (m / 65536 :: m / 256 % 256 :: m % 256 :: Y) := h
      have := (List.cons_prefix_cons.mp h').1
      omega
    | inr y =>
      have h' : (2 : Int) :: (x.cps.toList.map (fun c : Nat => (c : Int)) ++ [0] ++ X) <+: (2 : Int) :: (y.cps.toList.map (fun c : Nat => (c : Int)) ++ [0] ++ Y) := h
      have t := (List.cons_prefix_cons.mp h').2
      rw [List.append_assoc, List.append_assoc] at t
      obtain ⟨e, t2⟩ := text_pre (fun c hc => (hu.2 c hc).1) (fun c hc => (hv.2 c hc).1) t
      have e2 : x = y := by
        have e3 : x.cps = y.cps := Array.toList_inj.mp e
        exact congrArg (fun z : Array Nat => (⟨z⟩ : Str)) e3
      exact ⟨by rw [e2], t2⟩
theorem oct_pre : ∀ {a b : Ky}, (∀ v ∈ a, GoodV v) → (∀ v ∈ b, GoodV v) → oct a <+: oct b → a = b
  | [], [], _, _, _ => rfl
  | [], v :: b, _, hb, h => by
    rw [oct_cons] at h
    cases v with
    | inl n =>
      have := (List.cons_prefix_cons.mp (show (0 : Int) :: [] <+: (1 : Int) :: (n / 65536 :: n / 256 % 256 :: n % 256 :: oct b) from h)).1
      omega
    | inr x =>
      have := (List.cons_prefix_cons.mp (show (0 : Int) :: [] <+: (2 : Int) :: (x.cps.toList.map (fun c : Nat => (c : Int)) ++ [0] ++ oct b) from h)).1
      omega
  | u :: a, [], ha, _, h => by
    rw [oct_cons] at h
    cases u with
    | inl n =>
      have := (List.cons_prefix_cons.mp (show (1 : Int) :: (n / 65536 :: n / 256 % 256 :: n % 256 :: oct a) <+: (0 : Int) :: [] from h)).1
      omega
    | inr x =>
      have := (List.cons_prefix_cons.mp (show (2 : Int) :: (x.cps.toList.map (fun c : Nat => (c : Int)) ++ [0] ++ oct a) <+: (0 : Int) :: [] from h)).1
      omega
  | u :: a, v :: b, ha, hb, h => by
    rw [oct_cons, oct_cons] at h
    obtain ⟨e, t⟩ := val_pre (ha u (List.mem_cons_self ..)) (hb v (List.mem_cons_self ..)) h
    rw [e, oct_pre (fun w hw => ha w (List.mem_cons_of_mem _ hw)) (fun w hw => hb w (List.mem_cons_of_mem _ hw)) t]
/-- two lists of octets differ in a bit, or one begins with the other -/
theorem first_or : ∀ {a b : List Int}, bytes a → bytes b → (∃ n, First a b n) ∨ a <+: b ∨ b <+: a
  | [], b, _, _ => .inr (.inl (List.nil_prefix))
  | _ :: _, [], _, _ => .inr (.inr (List.nil_prefix))
  | u :: us, v :: vs, ha, hb => by
    by_cases e : u = v
    · subst e
      rcases first_or (a := us) (b := vs) (fun w hw => ha w (List.mem_cons_of_mem _ hw)) (fun w hw => hb w (List.mem_cons_of_mem _ hw)) with ⟨n, f⟩ | h | h
      · exact .inl ⟨_, f.cons⟩
      · exact .inr (.inl (List.cons_prefix_cons.mpr ⟨rfl, h⟩))
      · exact .inr (.inr (List.cons_prefix_cons.mpr ⟨rfl, h⟩))
    · cases q : fbO u v with
      | none => exact absurd (fbO_none (ha u (List.mem_cons_self ..)) (hb v (List.mem_cons_self ..)) q) e
      | some j =>
        obtain ⟨j8, ne, sm⟩ := fbO_some q
        refine .inl ⟨j, by rw [List.length_cons]; omega, by rw [List.length_cons]; omega, ?_, fun m hm => ?_⟩
        · rw [bitAt_head _ _ j8, bitAt_head _ _ j8]
          exact ne
        · rw [bitAt_head _ _ (by omega), bitAt_head _ _ (by omega)]
          exact sm m hm
theorem goodK : Good oct GoodK where
  byt := fun _ h => oct_byte h.2
  apart := fun a b ha hb => by
    rcases first_or (oct_byte ha.2) (oct_byte hb.2) with h | h | h
    · exact .inr h
    · exact .inl (oct_pre ha.2 hb.2 h)
    · exact .inl (oct_pre hb.2 ha.2 h).symm

/-! ### the text by places -/
def topS (i : Nat) : Stmt := PySem.Challenge.pw_askedthen_k06_trees_ranges_of_entries.main.body.getD i (.Pass ⟨0, 0, 0, 0⟩)
def inCls (s : Stmt) (j : Nat) : Stmt := (C8.clsBody s).getD j (.Pass ⟨0, 0, 0, 0⟩)
/-! ### heaps -/
theorem same_upd {H : Hp} {p : Addr} {o : HO} (h : H p = none) : Same H (upd H p o) := fun b x e => (upd_ne (ne_of_none e h)).trans e
theorem same_at {H H' : Hp} (s : Same H H') {D : Addr} {o : HO} (n : H D = none) : Same H (upd H' D o) := fun b x e => (upd_ne (ne_of_none e n)).trans (s b x e)
abbrev TupA (H : Hp) (p : Addr) (xs : List V) : Prop := H p = some (.tup xs)
abbrev IntsA (H : Hp) (p : Addr) (ns : List Int) : Prop := H p = some (.tup (ns.map V.int))
abbrev KeyA (H : Hp) (p : Addr) (k : Ky) : Prop := H p = some (.tup (k.map kV))
/-- spans: a tuple of pairs of ints -/
abbrev Sps := List (Int × Int)
def PairsA (H : Hp) : List V → Sps → Prop
  | [], [] => True
  | v :: vs, s :: ss => (∃ a, v = .ref a ∧ H a = some (.tup [.int s.1, .int s.2])) ∧ PairsA H vs ss
  | _, _ => False
def SpA (H : Hp) (p : Addr) (s : Sps) : Prop := ∃ vs, H p = some (.tup vs) ∧ PairsA H vs s
theorem PairsA.same {H H' : Hp} (h : Same H H') : ∀ {vs : List V} {s : Sps}, PairsA H vs s → PairsA H' vs s
  | [], [], _ => trivial
  | _ :: _, _ :: _, ⟨⟨a, e, q⟩, t⟩ => ⟨⟨a, e, h _ _ q⟩, PairsA.same h t⟩
theorem PairsA.len {H : Hp} : ∀ {vs : List V} {s : Sps}, PairsA H vs s → vs.length = s.length
  | [], [], _ => rfl
  | _ :: _, _ :: _, ⟨_, t⟩ => by rw [List.length_cons, List.length_cons, PairsA.len t]
theorem PairsA.get {H : Hp} : ∀ {vs : List V} {s : Sps} {i : Nat} {v : V}, PairsA H vs s → vs[i]? = some v → ∃ a x, v = .ref a ∧ s[i]? = some x ∧ H a = some (.tup [.int x.1, .int x.2])
  | [], [], _, _, _, h => by simp at h
  | _ :: _, x :: _, 0, _, ⟨⟨a, e, q⟩, _⟩, h => by
    simp only [List.getElem?_cons_zero] at h
    cases h
    exact ⟨a, x, e, rfl, q⟩
  | _ :: _, _ :: _, i + 1, _, ⟨_, t⟩, h => by
    rw [List.getElem?_cons_succ] at h ⊢
    exact PairsA.get t h
theorem SpA.same {H H' : Hp} (h : Same H H') {p : Addr} {s : Sps} (x : SpA H p s) : SpA H' p s := let ⟨vs, a, b⟩ := x; ⟨vs, h _ _ a, b.same h⟩
/-- t + u, whatever is empty -/
theorem catA_run {K : PySem.W.Frag} {H : Hp} {Q : VK} {a b : Addr} {xs ys : List V} (ha : H a = some (.tup xs)) (hb : H b = some (.tup ys)) (hz : xs.length + ys.length ≤ sizeLine)
    (q : ∀ H' p, Same H H' → H' p = some (.tup (xs ++ ys)) → Q (.ref p) H') : rCatA K (.ref a) (.ref b) H Q := by
  refine ⟨a, b, xs, ys, rfl, rfl, SqT.of ha, SqT.of hb, hz, fun e => ?_, fun _ e => ?_, fun _ _ p np => q _ p (same_upd np) upd_same⟩
  · subst e
    exact q H b (Same.refl H) hb
  · subst e
    exact q H a (Same.refl H) (by rw [List.append_nil]; exact ha)
theorem line_of {n : Nat} (h : n ≤ 1000) : n ≤ sizeLine := Nat.le_of_lt (small1000 h)
/-- a comprehension over a walk, the target a name, no test -/
theorem lc_itN {J : It} {n : Nat} {G : Hp → Prop} {Y : Nat → Hp → V → Hp → Prop} (w : Walk J n G Y) {i0 : Nat} {te : TE} {vs : List Nat} {σ : L2.St} {H1 : Hp} {D : Addr} {Qd : Hp → Prop} (Pv : Nat → Hp → Prop) (h0 : Pv 0 (upd H1 D (.lst []))) (hG : ∀ i H, i ≤ n → Pv i H → G H)
    (hw : ∀ x, wipe ((wipe σ vs).set i0 (some x)) vs = wipe σ vs)
    (hs : ∀ i x H H', i < n → Pv i H → Y i H x H' → te ((wipe σ vs).set i0 (some x)) H' fun y H4 => ∃ acc, H4 D = some (.lst acc) ∧ acc.length < sizeLine ∧ Pv (i + 1) (upd H4 D (.lst (acc ++ [y])))) (hd : ∀ H, Pv n H → Qd H) :
    ∃ W : Nat → Nat → Hp → Prop, (∃ m, W 0 m (upd H1 D (.lst []))) ∧ ∀ i m H, W i m H →
      (J.stop i H ∧ Qd H) ∨ (J.go i H ∧ ∃ Nx : Hp → Prop, (∀ H', Nx H' → ∃ m', m' < m ∧ W (i + 1) m' H') ∧ ∀ x H', J.yld i H x H' → gName i0 x (wipe σ vs) H' fun σ2 H2 => wipe σ2 vs = wipe σ vs ∧ tYes σ2 H2 fun b H3 =>
        if b = true then te σ2 H3 fun y H4 => ∃ acc, H4 D = some (.lst acc) ∧ acc.length < sizeLine ∧ Nx (upd H4 D (.lst (acc ++ [y]))) else Nx H3) :=
  lc_it w Pv h0 hG (fun i x H H' hi p y => ⟨hw x, hs i x H H' hi p y⟩) hd
end Ask

set_option Elab.async false
set_option linter.all false
set_option maxRecDepth 100000
set_option maxHeartbeats 4000000
namespace Ask
open PySem PySem.Spec PyProof.Rows L2 AskR
/-- built-in names that the module does not bind -/
structure Free (mg : Str → Option Value) : Prop where
  isi : mg "isinstance" = none
  str_ : mg "str" = none
  tup : mg "tuple" = none
  ord_ : mg "ord" = none
  rng : mg "range" = none
  min_ : mg "min" = none
  len : mg "len" = none
  enum : mg "enumerate" = none
  lst : mg "list" = none
  rev : mg "reversed" = none
  bool_ : mg "bool" = none
  int_ : mg "int" = none
  srt : mg "sorted" = none
theorem bind1 {x qual : Str} {K : PySem.W.Frag} {st : Stmt} {f : Addr} {fd : FuncData} {a : Str} (F : C8.Fun K x qual st f fd) (df : fd.defaults = .none)
    (h : ∀ (kV doc pm : Value) (an : Option Addr) (cdv ct u : Value), bindArgs (PySem.W.fnOf x qual (C8.fnArgs st) (C8.fnBody st) (C8.fnScope st) .none kV doc pm an cdv ct) ⟨[u], []⟩ = pure [(a, u)]) : Binds K fd [a] [] :=
  F.binds df fun kV doc pm an cdv ct us hl => match us, hl with | [u], _ => h kV doc pm an cdv ct u
section
variable {P : Program} {w : World} {K : PySem.W.Frag} {mg : Str → Option Value} {base : Heap} {f : Addr} {fd : FuncData}
/-! ### value_octets -/
abbrev sValO : Stmt := topS 6
def spValO : Sp := fun vs H Q _ => ∃ v : L2.Key, vs = [kV v] ∧ GoodV v ∧ ∀ H' p, Same H H' → IntsA H' p (vOct v) → Q (.ref p) H'
theorem scValO : FnScope ["value", "sign"] ["value"] (C8.fnScope sValO) := C8.fnScope_by (by decide +kernel)
theorem cal_valO (Z : Free mg) (F : C8.Def K mg "value_octets" sValO f fd) (b : Binds K fd ["value"] []) : C8.Cal P w K mg base 1 "value_octets" spValO [] := by
  refine C8.cal0 F b .nil scValO (fun vs H Q E h => ?_) (fun cdv A outer s H vs Q E hr h => ?_)
  · obtain ⟨v, rfl, _⟩ := h
    rfl
  · obtain ⟨v, rfl, g, k⟩ := h
    refine ⟨_, pss_cons (ps_if (pt_val (pe_callB call_isi (by rfl) Z.isi boot_isinstance (pa_cons (pv 0) (pa_cons (pe_bltn (v := .ty "str") (by rfl) Z.str_ boot_str rfl) pa_nil))))
      (pss_one (ps_ret (pe_op op_catA (pe_op op_catA (pe_tup (pa_cons pe_int pa_nil)) (pe_callTy call_tuple_of (by rfl) Z.tup boot_tuple (pa_cons
        (pe_lc (own := [("sign", 1)]) (g := gName 1) (tt := tYes) rfl scValO.nd (pi_str (pv 0)) (blkOk_by (N := ["value", "sign"]) (sc := C8.fnScope sValO) (by decide +kernel))
          (fun _ _ _ _ _ => pg_name (i := 1) scValO.nd rfl (Or.inl rfl)) (fun _ _ _ _ _ => pts_nil) (fun _ _ _ _ _ => pe_callB call_ord (by rfl) Z.ord_ boot_ord (pa_cons (pv 1) pa_nil))) pa_nil)))
        (pe_tup (pa_cons pe_int pa_nil))))) pss_nil)
      (pss_one (ps_ret (pe_tup (pa_cons pe_int (pa_cons (pe_op op_fdiv (pv 0) pe_int) (pa_cons (pe_op op_mod (pe_op op_fdiv (pv 0) pe_int) pe_int) (pa_cons (pe_op op_mod (pv 0) pe_int) pa_nil))))))), ?_⟩
    cases v with
    | inl n =>
      obtain ⟨g0, g1⟩ : 0 ≤ n ∧ n ≤ 999999 := g
      refine ⟨_, rfl, .int n, .ty "str", .type "int", .type "str", false, rfl, .ty _, .base (.int n), kit_ty (by decide +kernel), false, rfl, iteF ?_⟩
      refine ⟨_, rfl, _, _, rfl, rfl, ⟨by decide, by decide⟩, _, rfl, _, _, rfl, rfl, ⟨by decide, by decide⟩, _, _, rfl, rfl, (show (0 : Int) < 256 by decide), _, rfl, _, _, rfl, rfl, (show (0 : Int) < 256 by decide), (by show 4 ≤ sizeLine; decide), fun p np => ?_⟩
      exact k _ p (same_upd np) upd_same
    | inr x =>
      obtain ⟨gl, gc⟩ := id g
      refine ⟨_, rfl, .str x, .ty "str", .type "str", .type "str", true, rfl, .ty _, .base (.str x), kit_ty (by decide +kernel), true, rfl, iteT ?_⟩
      -- (2,)
      refine ⟨(by show 1 ≤ sizeLine; decide), fun t0 n0 => ?_⟩
      have s0 := same_upd (o := .tup [.int 2]) n0
      refine ⟨_, rfl, x, rfl, fun D nD => ?_⟩
      refine lc_itN walk_str (fun i H' => Same (upd H t0 (.tup [.int 2])) H' ∧ H' D = some (.lst ((x.cps.toList.take i).map fun c : Nat => V.int c))) ⟨same_upd nD, upd_same⟩ (fun _ _ _ _ => trivial) (fun _ => rfl) ?_ ?_
      · rintro i y H1 H2 hi ⟨s1, e1⟩ ⟨rfl, c, hc, rfl⟩
        have hl : i < x.cps.toList.length := by rw [Array.length_toList]; exact hi
        have e2 : x.cps.toList[i]? = some c := by rw [Array.getElem?_toList]; exact hc
        refine ⟨_, rfl, ⟨#[c]⟩, rfl, rfl, _, e1, ?_, same_at s1 nD, ?_⟩
        · rw [List.length_map, List.length_take]
          exact small1000 (by omega)
        · rw [upd_same, List.take_add_one, e2, List.map_append]
          rfl
      · rintro H1 ⟨s1, e1⟩
        have e3 : x.cps.toList.take x.cps.size = x.cps.toList := List.take_of_length_le (by rw [Array.length_toList]; exact Nat.le_refl _)
        rw [e3] at e1
        refine ⟨_, _, rfl, .inl ⟨.inl (.inl e1), fun q nq => ?_⟩⟩
        have s2 : Same H1 (upd H1 q (.tup (x.cps.toList.map fun c : Nat => V.int c))) := same_upd nq
        refine catA_run (s2 _ _ (s1 _ _ upd_same)) upd_same (line_of (by rw [List.length_map, List.length_singleton]; omega)) fun H2 p2 s3 e4 => ?_
        refine ⟨(by show 1 ≤ sizeLine; decide), fun r nr => ?_⟩
        refine catA_run (same_upd nr _ _ e4) upd_same (line_of (by simp only [List.length_append, List.length_map, List.length_singleton]; omega)) fun H3 p3 s4 e5 => ?_
        refine k H3 p3 ((((s0.trans s1).trans s2).trans s3).trans ((same_upd nr).trans s4)) ?_
        show H3 p3 = some (.tup ((vOct (.inr x)).map V.int))
        rw [e5]
        simp [vOct, List.map_map, Function.comp_def]
/-! ### body -/
abbrev sBody : Stmt := topS 7
def spBody : Sp := fun vs H Q _ => ∃ (a : Addr) (k : Ky), vs = [.ref a] ∧ KeyA H a k ∧ GoodK k ∧ ∀ H' p, Same H H' → IntsA H' p (bOct k) → Q (.ref p) H'
theorem scBody : FnScope ["values", "octets", "value"] ["values"] (C8.fnScope sBody) := C8.fnScope_by (by decide +kernel)
theorem cal_body (cV : C8.Cal P w K mg base 1 "value_octets" spValO []) (F : C8.Def K mg "body" sBody f fd) (b : Binds K fd ["values"] []) : C8.Cal P w K mg base 2 "body" spBody [] := by
  refine C8.cal0 F b .nil scBody (fun vs H Q E h => ?_) (fun cdv A outer s H vs Q E hr h => ?_)
  · obtain ⟨a, k, rfl, _⟩ := h
    rfl
  · obtain ⟨a, ky, rfl, hk, g, k⟩ := h
    refine ⟨_, pss_cons (ps_set (i := 1) scBody.nd rfl (.inl rfl) (pe_tup pa_nil))
      (pss_cons (ps_for PassesOwn.never rfl (pi_tup (pv 0)) (pg_name (i := 2) scBody.nd rfl (.inl rfl))
        (pss_one (ps_set (i := 1) scBody.nd rfl (.inl rfl) (pe_op op_catA (pv 1) (C8.pe_c cV hr (Nat.le_refl _) (by rfl) (pa_cons (pv 2) pa_nil))))))
      (pss_one (ps_ret (pv 1)))), ?_⟩
    refine ⟨Nat.zero_le _, fun p0 n0 => ?_⟩
    have s0 : Same H (upd H p0 (.tup [])) := same_upd n0
    refine ⟨_, rfl, a, rfl, ⟨_, SqT.of (s0 _ _ hk)⟩, ?_⟩
    refine for_it (walk_tup (xs := ky.map kV)) (fun i σ H' => ∃ p z, σ = [some (.ref a), some (.ref p), z] ∧ Same H H' ∧ IntsA H' p (bOct (ky.take i))) ⟨p0, none, rfl, s0, upd_same⟩ (fun i σ H' _ ⟨p, z, _, s1, _⟩ => SqT.of (s1 _ _ hk)) ?_ ?_
    · rintro i x σ H1 H2 hi ⟨p, z, rfl, s1, hp⟩ ⟨rfl, hx⟩
      rw [List.getElem?_map] at hx
      obtain ⟨v, hv, rfl⟩ := Option.map_eq_some_iff.mp hx
      have gv := g.2 v (List.mem_of_getElem? hv)
      have et : ky.take (i + 1) = ky.take i ++ [v] := by rw [List.take_add_one, hv]; rfl
      have gl : (bOct (ky.take i)).length ≤ 504 := GoodK.blen ⟨Nat.le_trans (by rw [List.length_take]; exact Nat.min_le_right _ _) g.1, fun u hu => g.2 u (List.mem_of_mem_take hu)⟩
      refine ⟨_, rfl, _, rfl, v, rfl, gv, fun H3 q s3 hq => ?_⟩
      have vl := vOct_len gv
      refine catA_run (s3 _ _ hp) hq (line_of (by rw [List.length_map, List.length_map]; omega)) fun H4 r s4 hr4 => ?_
      refine ⟨r, _, rfl, (s1.trans s3).trans s4, ?_⟩
      show H4 r = some (.tup ((bOct (ky.take (i + 1))).map V.int))
      rw [hr4, et, bOct_snoc, List.map_append]
    · rintro σ H1 ⟨p, z, rfl, s1, hp⟩
      rw [List.length_map, List.take_length] at hp
      exact ⟨_, rfl, k H1 p s1 hp⟩
/-! ### key_octets, range_of, range_of_key -/
abbrev sKeyO : Stmt := topS 8
def spKeyO : Sp := fun vs H Q _ => ∃ (a : Addr) (k : Ky), vs = [.ref a] ∧ KeyA H a k ∧ GoodK k ∧ ∀ H' p, Same H H' → IntsA H' p (oct k) → Q (.ref p) H'
theorem scKeyO : FnScope ["key"] ["key"] (C8.fnScope sKeyO) := C8.fnScope_by (by decide +kernel)
theorem cal_keyO (cB : C8.Cal P w K mg base 2 "body" spBody []) (F : C8.Def K mg "key_octets" sKeyO f fd) (b : Binds K fd ["key"] []) : C8.Cal P w K mg base 3 "key_octets" spKeyO [] := by
  refine C8.cal0 F b .nil scKeyO (fun vs H Q E h => ?_) (fun cdv A outer s H vs Q E hr h => ?_)
  · obtain ⟨a, k, rfl, _⟩ := h
    rfl
  · obtain ⟨a, ky, rfl, hk, g, k⟩ := h
    refine ⟨_, pss_one (ps_ret (pe_op op_catA (C8.pe_c cB hr (Nat.le_refl _) (by rfl) (pa_cons (pv 0) pa_nil)) (pe_tup (pa_cons pe_int pa_nil)))), ?_⟩
    refine ⟨_, rfl, a, ky, rfl, hk, g, fun H1 p s1 hp => ⟨(by show 1 ≤ sizeLine; decide), fun q nq => ?_⟩⟩
    have bl := g.blen
    refine catA_run (same_upd nq _ _ hp) upd_same (line_of (by rw [List.length_map, List.length_singleton]; omega)) fun H2 r s2 hr2 => ?_
    refine k H2 r ((s1.trans (same_upd nq)).trans s2) ?_
    show H2 r = some (.tup ((oct ky).map V.int))
    rw [hr2]
    unfold oct
    rw [List.map_append]
    rfl
/-- a pair of octets -/
def PairO (H : Hp) (p : Addr) (x y : List Int) : Prop := ∃ a b, H p = some (.tup [.ref a, .ref b]) ∧ IntsA H a x ∧ IntsA H b y
abbrev sRangeO : Stmt := topS 9
def spRangeO : Sp := fun vs H Q _ => ∃ (a : Addr) (k : Ky), vs = [.ref a] ∧ KeyA H a k ∧ GoodK k ∧ ∀ H' p, Same H H' → PairO H' p (bOct k) (bOct k ++ [3]) → Q (.ref p) H'
theorem scRangeO : FnScope ["values", "start"] ["values"] (C8.fnScope sRangeO) := C8.fnScope_by (by decide +kernel)
theorem cal_rangeO (cB : C8.Cal P w K mg base 2 "body" spBody []) (F : C8.Def K mg "range_of" sRangeO f fd) (b : Binds K fd ["values"] []) : C8.Cal P w K mg base 3 "range_of" spRangeO [] := by
  refine C8.cal0 F b .nil scRangeO (fun vs H Q E h => ?_) (fun cdv A outer s H vs Q E hr h => ?_)
  · obtain ⟨a, k, rfl, _⟩ := h
    rfl
  · obtain ⟨a, ky, rfl, hk, g, k⟩ := h
    refine ⟨_, pss_cons (ps_set (i := 1) scRangeO.nd rfl (.inl rfl) (C8.pe_c cB hr (Nat.le_refl _) (by rfl) (pa_cons (pv 0) pa_nil)))
      (pss_one (ps_ret (pe_tup (pa_cons (pv 1) (pa_cons (pe_op op_catA (pv 1) (pe_tup (pa_cons pe_int pa_nil))) pa_nil))))), ?_⟩
    refine ⟨_, rfl, a, ky, rfl, hk, g, fun H1 p s1 hp => ⟨_, rfl, _, rfl, (by show 1 ≤ sizeLine; decide), fun q nq => ?_⟩⟩
    have bl := g.blen
    refine catA_run (same_upd nq _ _ hp) upd_same (line_of (by rw [List.length_map, List.length_singleton]; omega)) fun H2 r s2 hr2 => ⟨(by show 2 ≤ sizeLine; decide), fun t nt => ?_⟩
    have s3 := same_upd (o := .tup [.ref p, .ref r]) nt
    refine k _ t (((s1.trans (same_upd nq)).trans s2).trans s3) ⟨p, r, upd_same, s3 _ _ (s2 _ _ (same_upd nq _ _ hp)), s3 _ _ ?_⟩
    rw [hr2, List.map_append]
    rfl
abbrev sRangeK : Stmt := topS 10
def spRangeK : Sp := fun vs H Q _ => ∃ (a : Addr) (k : Ky), vs = [.ref a] ∧ KeyA H a k ∧ GoodK k ∧ ∀ H' p, Same H H' → PairO H' p (oct k) (oct k ++ [0]) → Q (.ref p) H'
theorem scRangeK : FnScope ["key", "octets"] ["key"] (C8.fnScope sRangeK) := C8.fnScope_by (by decide +kernel)
theorem cal_rangeK (cB : C8.Cal P w K mg base 3 "key_octets" spKeyO []) (F : C8.Def K mg "range_of_key" sRangeK f fd) (b : Binds K fd ["key"] []) : C8.Cal P w K mg base 4 "range_of_key" spRangeK [] := by
  refine C8.cal0 F b .nil scRangeK (fun vs H Q E h => ?_) (fun cdv A outer s H vs Q E hr h => ?_)
  · obtain ⟨a, k, rfl, _⟩ := h
    rfl
  · obtain ⟨a, ky, rfl, hk, g, k⟩ := h
    refine ⟨_, pss_cons (ps_set (i := 1) scRangeK.nd rfl (.inl rfl) (C8.pe_c cB hr (Nat.le_refl _) (by rfl) (pa_cons (pv 0) pa_nil)))
      (pss_one (ps_ret (pe_tup (pa_cons (pv 1) (pa_cons (pe_op op_catA (pv 1) (pe_tup (pa_cons pe_int pa_nil))) pa_nil))))), ?_⟩
    refine ⟨_, rfl, a, ky, rfl, hk, g, fun H1 p s1 hp => ⟨_, rfl, _, rfl, (by show 1 ≤ sizeLine; decide), fun q nq => ?_⟩⟩
    have bl := oct_len g
    refine catA_run (same_upd nq _ _ hp) upd_same (line_of (by rw [List.length_map, List.length_singleton]; omega)) fun H2 r s2 hr2 => ⟨(by show 2 ≤ sizeLine; decide), fun t nt => ?_⟩
    have s3 := same_upd (o := .tup [.ref p, .ref r]) nt
    refine k _ t (((s1.trans (same_upd nq)).trans s2).trans s3) ⟨p, r, upd_same, s3 _ _ (s2 _ _ (same_upd nq _ _ hp)), s3 _ _ ?_⟩
    rw [hr2, List.map_append]
    rfl
end
end Ask

set_option Elab.async false
set_option linter.all false
set_option maxRecDepth 100000
set_option maxHeartbeats 4000000
namespace Ask
open PySem PySem.Spec PyProof.Rows L2 AskR
def masks : List Int := [128, 64, 32, 16, 8, 4, 2, 1]
structure MasksAt (K : PySem.W.Frag) (mg : Str → Option Value) (m : Addr) : Prop where
  gl : mg "MASKS" = some (.ref m)
  at_ : ∀ H, SqT K H m (masks.map V.int)
theorem masks_get {j : Nat} (h : j < 8) : masks[j]? = some (msk j) := by
  have : j = 0 ∨ j = 1 ∨ j = 2 ∨ j = 3 ∨ j = 4 ∨ j = 5 ∨ j = 6 ∨ j = 7 := by omega
  rcases this with rfl | rfl | rfl | rfl | rfl | rfl | rfl | rfl <;> rfl
theorem and_all : ∀ (u : _root_.Fin 256) (j : _root_.Fin 8), Builtin.bitAnd (u.val : Int) (msk j.val) = if bitOf (u.val : Int) j.val = true then msk j.val else 0 := by decide +kernel
theorem and_msk {u : Int} (hu : byte u) {j : Nat} (hj : j < 8) : Builtin.bitAnd u (msk j) = if bitOf u j = true then msk j else 0 := by
  obtain ⟨a, b⟩ := hu
  have e : ((⟨u.toNat, by omega⟩ : _root_.Fin 256).val : Int) = u := by
    show ((u.toNat : Nat) : Int) = u
    omega
  have := and_all ⟨u.toNat, by omega⟩ ⟨j, hj⟩
  rw [e] at this
  exact this
theorem and_ne {u v : Int} (hu : byte u) (hv : byte v) {j : Nat} (hj : j < 8) : (Builtin.bitAnd u (msk j) = Builtin.bitAnd v (msk j)) ↔ bitOf u j = bitOf v j := by
  rw [and_msk hu hj, and_msk hv hj]
  have := msk_pos j
  cases bitOf u j <;> cases bitOf v j <;> simp <;> omega
theorem fbO_of {u v : Int} {j : Nat} (hj : j < 8) (ne : bitOf u j ≠ bitOf v j) (sm : ∀ i, i < j → bitOf u i = bitOf v i) : fbO u v = some j := by
  unfold fbO
  rw [List.find?_range_eq_some]
  refine ⟨by simpa using ne, by simpa using hj, fun i hi => ?_⟩
  have := sm i hi
  simpa using this
def fbV (x y : List Int) : V := match FB 0 x y with
  | some n => .int (n : Nat)
  | none => .non
section
variable {P : Program} {w : World} {K : PySem.W.Frag} {mg : Str → Option Value} {base : Heap} {f m : Addr} {fd : FuncData}
abbrev sHas : Stmt := topS 12
def spHas : Sp := fun vs H Q _ => ∃ (a : Addr) (x : List Int) (n : Nat), vs = [.ref a, .int (n : Nat)] ∧ IntsA H a x ∧ bytes x ∧ n / 8 < x.length ∧ ∀ H', Same H H' → Q (.bl (bitAt x n)) H'
theorem scHas : FnScope ["octets", "number"] ["octets", "number"] (C8.fnScope sHas) := C8.fnScope_by (by decide +kernel)
theorem cal_has (M : MasksAt K mg m) (F : C8.Def K mg "has_bit" sHas f fd) (b : Binds K fd ["octets", "number"] []) : C8.Cal P w K mg base 1 "has_bit" spHas [] := by
  refine C8.cal0 F b .nil scHas (fun vs H Q E h => ?_) (fun cdv A outer s H vs Q E hr h => ?_)
  · obtain ⟨a, x, n, rfl, _⟩ := h
    rfl
  · obtain ⟨a, x, n, rfl, ha, hx, hn, k⟩ := h
    refine ⟨_, pss_one (ps_ret (pe_cmpR op_ne (pe_op op_and (pe_ix ix_tup (pv 0) (pe_op op_fdiv (pv 1) pe_int) (fun _ _ => rfl)) (pe_ix ix_tup (pe_glob (v := .ref m) (by rfl) M.gl rfl) (pe_op op_mod (pv 1) pe_int) (fun _ _ => rfl))) pe_int (nomark _))), ?_⟩
    have e1 : ((n : Nat) : Int) / 8 = ((n / 8 : Nat) : Int) := by omega
    have e2 : ((n : Nat) : Int) % 8 = ((n % 8 : Nat) : Int) := by omega
    have hm : n % 8 < 8 := Nat.mod_lt _ (by decide)
    refine ⟨_, rfl, _, rfl, _, _, rfl, rfl, ⟨by decide, by decide⟩, a, _, _, .int (x.getD (n / 8) 0), rfl, rfl, SqT.of ha, at_of e1 ?_, _, rfl, _, _, rfl, rfl, (show (0 : Int) < 8 by decide), m, _, _, .int (msk (n % 8)), rfl, rfl, M.at_ _, at_of e2 ?_, _, _, rfl, rfl, rfl, ?_⟩
    · rw [List.getElem?_map, List.getElem?_eq_getElem hn]
      simp [hn]
    · rw [List.getElem?_map, masks_get hm]
      rfl
    · have hb : byte (x.getD (n / 8) 0) := by
        rw [List.getD_eq_getElem?_getD, List.getElem?_eq_getElem hn]
        exact hx _ (List.getElem_mem hn)
      have := k H (Same.refl H)
      show Q (.bl (!decide (V.int (Builtin.bitAnd (x.getD (n / 8) 0) (msk (n % 8))) = V.int 0))) H
      rw [and_msk hb hm]
      have mp := msk_pos (n % 8)
      have e3 : bitAt x n = bitOf (x.getD (n / 8) 0) (n % 8) := rfl
      rw [e3] at this
      cases q : bitOf (x.getD (n / 8) 0) (n % 8) with
      | true =>
        rw [q] at this
        rw [if_pos rfl, decide_eq_false (fun z => by injection z with z; omega)]
        exact this
      | false =>
        rw [q] at this
        rw [if_neg Bool.false_ne_true, decide_eq_true rfl]
        exact this
/-! ### first_bit -/
abbrev sFirst : Stmt := topS 11
def spFirst : Sp := fun vs H Q _ => ∃ (a c : Addr) (x y : List Int), vs = [.ref a, .ref c] ∧ IntsA H a x ∧ IntsA H c y ∧ bytes x ∧ bytes y ∧ x.length ≤ 1000 ∧ y.length ≤ 1000 ∧ ∀ H', Same H H' → Q (fbV x y) H'
theorem scFirst : FnScope ["one", "other", "at", "turn", "mask"] ["one", "other"] (C8.fnScope sFirst) := C8.fnScope_by (by decide +kernel)
theorem FB_drop {x y : List Int} {i : Nat} (h1 : i < x.length) (h2 : i < y.length) : FB i (x.drop i) (y.drop i) = if x[i] = y[i] then FB (i + 1) (x.drop (i + 1)) (y.drop (i + 1)) else match fbO x[i] y[i] with
    | some j => some (8 * i + j)
    | none => FB (i + 1) (x.drop (i + 1)) (y.drop (i + 1)) := by
  rw [List.drop_eq_getElem_cons h1, List.drop_eq_getElem_cons h2, FB]
  all_goals rfl
theorem FB_end {x y : List Int} {i : Nat} (h : i = min x.length y.length) : FB i (x.drop i) (y.drop i) = none := by
  by_cases q : x.length ≤ y.length
  · rw [List.drop_eq_nil_of_le (as := x) (by omega)]
    simp [FB]
  · rw [List.drop_eq_nil_of_le (as := y) (by omega)]
    cases x.drop i <;> simp [FB]
theorem cal_first (Z : Free mg) (M : MasksAt K mg m) (F : C8.Def K mg "first_bit" sFirst f fd) (b : Binds K fd ["one", "other"] []) : C8.Cal P w K mg base 1 "first_bit" spFirst [] := by
  refine C8.cal0 F b .nil scFirst (fun vs H Q E h => ?_) (fun cdv A outer s H vs Q E hr h => ?_)
  · obtain ⟨a, c, x, y, rfl, _⟩ := h
    rfl
  · obtain ⟨a, c, x, y, rfl, ha, hc, hx, hy, lx', ly', k⟩ := h
    refine ⟨_, pss_cons (ps_for PassesOwn.never rfl (pi_range1 (by rfl) Z.rng (pa_cons (pe_callB (call_min2 rfl) (by rfl) Z.min_ boot_min (pa_cons (pe_callB call_len (by rfl) Z.len boot_len (pa_cons (pv 0) pa_nil)) (pa_cons (pe_callB call_len (by rfl) Z.len boot_len (pa_cons (pv 1) pa_nil)) pa_nil))) pa_nil)) (pg_name (i := 2) scFirst.nd rfl (.inl rfl))
        (pss_one (ps_if (pt_cmpR op_ne (pe_ix ix_tup (pv 0) (pv 2) (fun _ _ => rfl)) (pe_ix ix_tup (pv 1) (pv 2) (fun _ _ => rfl)) (nomark _))
          (pss_one (ps_for PassesOwn.never rfl (pi_enumT (by rfl) Z.enum (pa_cons (pe_glob (v := .ref m) (by rfl) M.gl rfl) pa_nil)) (pg_tup rfl (pgs_cons (pg_name (i := 3) scFirst.nd rfl (.inl rfl)) (pgs_cons (pg_name (i := 4) scFirst.nd rfl (.inl rfl)) pgs_nil)))
            (pss_one (ps_if (pt_cmpR op_ne (pe_op op_and (pe_ix ix_tup (pv 0) (pv 2) (fun _ _ => rfl)) (pv 4)) (pe_op op_and (pe_ix ix_tup (pv 1) (pv 2) (fun _ _ => rfl)) (pv 4)) (nomark _))
              (pss_one (ps_ret (pe_op op_add (pe_op op_mul pe_int (pv 2)) (pv 3)))) pss_nil))))
          pss_nil)))
      (pss_one (ps_ret pe_non)), ?_⟩
    have ml : min x.length y.length ≤ 1000 := Nat.le_trans (Nat.min_le_left _ _) lx'
    have mi : ∀ n m : Nat, (if ((m : Nat) : Int) < ((n : Nat) : Int) then ((m : Nat) : Int) else ((n : Nat) : Int)) = ((min n m : Nat) : Int) := fun n m => by
      by_cases q : ((m : Nat) : Int) < ((n : Nat) : Int)
      · rw [if_pos q, Nat.min_eq_right (by omega)]
      · rw [if_neg q, Nat.min_eq_left (by omega)]
    refine ⟨_, rfl, _, x.length, rfl, .inr ⟨_, SqT.of ha, by rw [List.length_map]⟩, _, rfl, _, y.length, rfl, .inr ⟨_, SqT.of hc, by rw [List.length_map]⟩, _, _, rfl, ((min x.length y.length : Nat) : Int), by rw [mi], by omega, by omega, ?_⟩
    refine for_it (walk_range (lo := 0) (n := min x.length y.length)) (fun i σ H' => (∃ z2 z3 z4, σ = [some (.ref a), some (.ref c), z2, z3, z4]) ∧ Same H H' ∧ FB 0 x y = FB i (x.drop i) (y.drop i)) ⟨⟨_, _, _, rfl⟩, Same.refl H, rfl⟩ (fun _ _ _ _ _ => trivial) ?_ ?_
    · rintro i v σ H1 H2 hi ⟨⟨z2, z3, z4, rfl⟩, s1, hf⟩ ⟨rfl, rfl⟩
      have h1 : i < x.length := by omega
      have h2 : i < y.length := by omega
      have e1 : (0 : Int) + (i : Int) = ((i : Nat) : Int) := by omega
      have gx : (x.map V.int)[i]? = some (.int x[i]) := by rw [List.getElem?_map, List.getElem?_eq_getElem h1]; rfl
      have gy : (y.map V.int)[i]? = some (.int y[i]) := by rw [List.getElem?_map, List.getElem?_eq_getElem h2]; rfl
      have bx := hx _ (List.getElem_mem h1)
      have bY := hy _ (List.getElem_mem h2)
      rw [FB_drop h1 h2] at hf
      refine ⟨_, rfl, _, rfl, a, _, _, _, rfl, rfl, SqT.of (s1 _ _ ha), at_of e1 gx, _, rfl, _, rfl, c, _, _, _, rfl, rfl, SqT.of (s1 _ _ hc), at_of e1 gy, rfl, _, rfl, ?_⟩
      refine ite2 (fun ne => ?_) (fun eq => ?_)
      · have ne' : x[i] ≠ y[i] := fun z => by rw [z] at ne; simp at ne
        rw [if_neg ne'] at hf
        refine ⟨m, masks.map V.int, rfl, M.at_ _, ?_⟩
        refine for_it (walk_enumT (K := K) (a := m) (xs := masks.map V.int)) (fun j σ H' => (∃ z3 z4, σ = [some (.ref a), some (.ref c), some (.int ((i : Nat) : Int)), z3, z4]) ∧ Same H H' ∧ ∀ q, q < j → bitOf x[i] q = bitOf y[i] q) ⟨⟨z3, z4, by show [_, _, some (V.int (0 + (i : Int))), _, _] = _; rw [e1]⟩, s1, fun q z => absurd z (Nat.not_lt_zero q)⟩ (fun _ _ H' _ _ => M.at_ H') ?_ ?_
        · rintro j v σ H2 H3 hj ⟨⟨z3, z4, rfl⟩, s2, sm⟩ ⟨t, w1, w2, rfl, ht, rfl, hw1, hw2⟩
          have j8 : j < 8 := hj
          replace hw2 : (masks.map V.int)[j]? = some w2 := hw2
          rw [List.getElem?_map, masks_get j8] at hw2
          cases hw1
          cases hw2
          have s3 : Same H2 (upd H2 t (.tup [.int ((j : Nat) : Int), .int (msk j)])) := same_upd ht
          have s4 := s2.trans s3
          refine ⟨t, _, rfl, SqT.of upd_same, rfl, _, _, rfl, _, _, rfl, rfl, ?_⟩
          refine ⟨_, rfl, _, rfl, a, _, _, _, rfl, rfl, SqT.of (s4 _ _ ha), at_of rfl gx, _, rfl, _, _, rfl, rfl, ?_⟩
          refine ⟨_, rfl, _, rfl, c, _, _, _, rfl, rfl, SqT.of (s4 _ _ hc), at_of rfl gy, _, rfl, _, _, rfl, rfl, rfl, _, rfl, ?_⟩
          refine ite2 (fun nb => ?_) (fun eb => ?_)
          · have nb' : bitOf x[i] j ≠ bitOf y[i] j := fun z => by
              replace nb : (!decide (V.int (Builtin.bitAnd x[i] (msk j)) = V.int (Builtin.bitAnd y[i] (msk j)))) = true := nb
              rw [(and_ne bx bY j8).mpr z] at nb
              simp at nb
            have := k _ s4
            unfold fbV at this
            rw [hf, fbO_of j8 nb' sm] at this
            have e5 : ((8 * i + j : Nat) : Int) = 8 * (i : Int) + (j : Int) := by omega
            replace this : Q (.int ((8 * i + j : Nat) : Int)) _ := this
            rw [e5] at this
            exact ⟨_, rfl, _, _, rfl, rfl, .inl ⟨by decide, by decide⟩, _, rfl, _, _, rfl, rfl, this⟩
          · have eb' : bitOf x[i] j = bitOf y[i] j := (and_ne bx bY j8).mp (by simpa using eb)
            refine ⟨⟨_, _, rfl⟩, s4, fun q hq => ?_⟩
            by_cases e6 : q = j
            · rw [e6]; exact eb'
            · exact sm q (by omega)
        · rintro σ H2 ⟨_, s2, sm⟩
          exact absurd (byte_bits bx bY sm) ne'
      · have eq' : x[i] = y[i] := by simpa using eq
        rw [if_pos eq'] at hf
        exact ⟨⟨_, _, _, rfl⟩, s1, hf⟩
    · rintro σ H1 ⟨⟨z2, z3, z4, rfl⟩, s1, hf⟩
      have := k H1 s1
      rw [FB_end rfl] at hf
      unfold fbV at this
      rw [hf] at this
      exact this
end
end Ask

set_option Elab.async false
set_option linter.all false
set_option maxRecDepth 100000
set_option maxHeartbeats 4000000
namespace Ask
open PySem PySem.Spec PyProof.Rows L2 AskR
/-! ### the hasher -/
structure HashT (K : PySem.W.Frag) (C : Addr) : Prop where
  cl : Cls K C
  nM : NoAttr K C "modulus"
  nL : NoAttr K C "multiplier"
def hFlds (m k : Int) : List (Str × V) := [("modulus", .int m), ("multiplier", .int k)]
theorem kml : ¬ (("modulus" : Str) = "multiplier") := by decide +kernel
theorem hM (m k : Int) : (hFlds m k).lookup ("modulus" : Str) = some (.int m) := rfl
theorem hL (m k : Int) : (hFlds m k).lookup ("multiplier" : Str) = some (.int k) := rfl
theorem hD (m k : Int) : (hFlds m k).lookup ("digest" : Str) = none := rfl
theorem hPut (m k : Int) : putF "multiplier" (.int k) (putF "modulus" (.int m) []) = hFlds m k := by
  show (if ("modulus" : Str) = "multiplier" then [(("modulus" : Str), V.int k)] else (("modulus" : Str), V.int m) :: putF "multiplier" (V.int k) []) = hFlds m k
  rw [if_neg kml]
  rfl
def HashA (C : Addr) (H : Hp) (h : Addr) : Prop := ∃ (dx : Addr) (m k : Int), H h = some (.ins C dx (hFlds m k)) ∧ 2 ≤ m ∧ m < 2 ^ 31 ∧ 1 ≤ k ∧ k < 2 ^ 31
theorem HashA.same {C : Addr} {H H' : Hp} {h : Addr} (s : Same H H') (x : HashA C H h) : HashA C H' h := let ⟨dx, m, k, e, r⟩ := x; ⟨dx, m, k, s _ _ e, r⟩
/-- a list of ints, not longer than n -/
def LstI (H : Hp) (p : Addr) (n : Nat) : Prop := ∃ ns : List Int, H p = some (.lst (ns.map V.int)) ∧ ns.length ≤ n
theorem LstI.same {H H' : Hp} {p : Addr} {n : Nat} (s : Same H H') (x : LstI H p n) : LstI H' p n := let ⟨ns, e, r⟩ := x; ⟨ns, s _ _ e, r⟩
theorem cat_run {H : Hp} {Q : VK} {a b : Addr} {n m : Nat} (ha : LstI H a n) (hb : LstI H b m) (hz : n + m ≤ 16000)
    (q : ∀ H' p, Same H H' → LstI H' p (n + m) → Q (.ref p) H') : rCat (.ref a) (.ref b) H Q := by
  obtain ⟨xs, h1, l1⟩ := ha
  obtain ⟨ys, h2, l2⟩ := hb
  refine ⟨a, b, _, _, rfl, rfl, h1, h2, ?_, fun p np => q _ p (same_upd np) ⟨xs ++ ys, by rw [upd_same, List.map_append], by rw [List.length_append]; omega⟩⟩
  rw [List.length_map, List.length_map, sizeLine_eq]
  omega
section
variable {P : Program} {w : World} {K : PySem.W.Frag} {mg : Str → Option Value} {base : Heap} {f : Addr} {fd : FuncData} {C : Addr}
abbrev sDig : Stmt := inCls (topS 26) 1
def spDig (C : Addr) : Sp := fun vs H Q _ => ∃ (h l : Addr) (n : Nat), vs = [.ref h, .ref l] ∧ HashA C H h ∧ LstI H l n ∧ ∀ d : Int, Q (.int d) H
theorem scDig : FnScope ["self", "numbers", "value", "number"] ["self", "numbers"] (C8.fnScope sDig) := C8.fnScope_by (by decide +kernel)
theorem met_dig (T : HashT K C) (me : Meth K C "digest" f) (F : C8.Fun K "digest" "Hasher.digest" sDig f fd) (b : Binds K fd ["self", "numbers"] []) : C8.Met P w K mg base 1 C "digest" (spDig C) [] := by
  refine C8.met0 T.cl me F b scDig (fun vs H Q E h => ?_) (fun cdv A outer s H vs Q E hr h => ?_)
  · obtain ⟨h, l, n, rfl, _⟩ := h
    rfl
  · obtain ⟨h, l, n, rfl, ⟨dx, m, kk, hh, m0, m1, k0, k1⟩, ⟨ns, hl, _⟩, k⟩ := h
    refine ⟨_, pss_cons (ps_set (i := 2) scDig.nd rfl (.inl rfl) pe_int)
      (pss_cons (ps_for PassesOwn.never rfl (pi_list (pv 1)) (pg_name (i := 3) scDig.nd rfl (.inl rfl))
        (pss_one (ps_set (i := 2) scDig.nd rfl (.inl rfl) (pe_op op_mod (pe_op op_add (pe_op op_add (pe_op op_mul (pv 2) (pe_fld (pv 0) rfl)) (pv 3)) pe_int) (pe_fld (pv 0) rfl)))))
      (pss_one (ps_ret (pv 2)))), ?_⟩
    refine ⟨_, rfl, l, rfl, ⟨_, SqL.of hl⟩, ?_⟩
    refine for_it (walk_list (K := K) (a := l) (xs := ns.map V.int)) (fun i σ H' => H' = H ∧ ∃ (v : Int) (z : Option V), σ = [some (.ref h), some (.ref l), some (.int v), z] ∧ 0 ≤ v ∧ v < m) ⟨rfl, 0, none, rfl, by omega, by omega⟩ (fun i σ H' _ ⟨e, _⟩ => e ▸ SqL.of hl) ?_ ?_
    · rintro i x σ H1 H2 hi ⟨rfl, v, z, rfl, v0, v1⟩ ⟨rfl, hx⟩
      rw [List.getElem?_map] at hx
      obtain ⟨u, hu, rfl⟩ := Option.map_eq_some_iff.mp hx
      refine ⟨_, rfl, _, rfl, h, C, dx, _, _, rfl, hh, T.cl, T.nL, hL m kk, _, _, rfl, rfl, .inl ⟨by omega, by omega⟩, _, rfl, _, _, rfl, rfl, _, _, rfl, rfl, _, rfl, h, C, dx, _, _, rfl, hh, T.cl, T.nM, hM m kk, _, _, rfl, rfl, (by omega), rfl, _, _, rfl, ?_, ?_⟩
      · exact Int.emod_nonneg _ (by omega)
      · exact Int.emod_lt_of_pos _ (by omega)
    · rintro σ H1 ⟨rfl, v, z, rfl, _, _⟩
      exact ⟨_, rfl, k v⟩
abbrev sHIni : Stmt := inCls (topS 26) 0
def spHIni (C : Addr) : Sp := fun vs H Q _ => ∃ (p dx : Addr) (m k : Int), vs = [.ref p, .int m, .int k] ∧ H p = some (.ins C dx []) ∧ 2 ≤ m ∧ m < 2 ^ 31 ∧ 1 ≤ k ∧ k < 2 ^ 31 ∧
  ∀ H' : Hp, HashA C H' p → (∀ b o, H b = some o → b ≠ p → H' b = some o) → Q .non H'
theorem scHIni : FnScope ["self", "modulus", "multiplier"] ["self", "modulus", "multiplier"] (C8.fnScope sHIni) := C8.fnScope_by (by decide +kernel)
theorem mak_hash (Z : Free mg) (T : HashT K C) (M : Mk K C f) (hm : mg "Hasher" = some (.ref C)) (F : C8.Fun K "__init__" "Hasher.__init__" sHIni f fd) (b : Binds K fd ["self", "modulus", "multiplier"] []) : C8.Mak P w K mg base 1 "Hasher" C (spHIni C) [] := by
  refine C8.mak0 M hm F b .nil scHIni (fun vs H Q E h => ?_) (fun cdv A outer s H vs Q E hr h => ?_)
  · obtain ⟨p, dx, m, k, rfl, _⟩ := h
    rfl
  · obtain ⟨p, dx, m, k, rfl, hp, m0, m1, k0, k1, q⟩ := h
    refine ⟨_, pss_cons (ps_if (PW.pt (pw_or (pt_val (pe_callB call_isi (by rfl) Z.isi boot_isinstance (pa_cons (pv 1) (pa_cons (pe_bltn (v := .ty "bool") (by rfl) Z.bool_ boot_bool rfl) pa_nil)))) (pw_or (pt_not (pt_val (pe_callB call_isi (by rfl) Z.isi boot_isinstance (pa_cons (pv 1) (pa_cons (pe_bltn (v := .ty "int") (by rfl) Z.int_ boot_int rfl) pa_nil))))) (pw_or (pt_cmpR op_lt (pv 1) pe_int (nomark _)) (pw_or1 (pt_cmpR op_ge (pv 1) (pe_op op_pow pe_int pe_int) (nomark _))))))) pss_never pss_nil)
      (pss_cons (ps_if (PW.pt (pw_or (pt_val (pe_callB call_isi (by rfl) Z.isi boot_isinstance (pa_cons (pv 2) (pa_cons (pe_bltn (v := .ty "bool") (by rfl) Z.bool_ boot_bool rfl) pa_nil)))) (pw_or (pt_not (pt_val (pe_callB call_isi (by rfl) Z.isi boot_isinstance (pa_cons (pv 2) (pa_cons (pe_bltn (v := .ty "int") (by rfl) Z.int_ boot_int rfl) pa_nil))))) (pw_or1 (pt_not (pt_chain op_le op_lt pe_int (pv 2) (pe_op op_pow pe_int pe_int))))))) pss_never pss_nil)
      (pss_cons (ps_fld (pv 0) (pv 1) rfl) (pss_one (ps_fld (pv 0) (pv 2) rfl)))), ?_⟩
    have e31 : ((2 : Int) ^ (31 : Int).toNat) = 2 ^ 31 := rfl
    refine ⟨_, rfl, .int m, .ty "bool", .type "int", .type "bool", false, rfl, .ty _, .base (.int m), kit_ty (by decide +kernel), false, rfl, iteF ?_⟩
    refine ⟨_, rfl, .int m, .ty "int", .type "int", .type "int", true, rfl, .ty _, .base (.int m), kit_ty (by decide +kernel), true, rfl, iteF ?_⟩
    refine ⟨_, rfl, _, _, rfl, rfl, _, rfl, ite2 (fun z => absurd (of_decide_eq_true z) (by omega)) fun _ => ?_⟩
    refine ⟨_, rfl, _, _, rfl, rfl, ⟨by decide, by decide, by decide⟩, _, _, rfl, rfl, _, rfl, ite2 (fun z => absurd (of_decide_eq_true z) (by rw [e31]; omega)) fun _ => ?_⟩
    refine ⟨_, rfl, .int k, .ty "bool", .type "int", .type "bool", false, rfl, .ty _, .base (.int k), kit_ty (by decide +kernel), false, rfl, iteF ?_⟩
    refine ⟨_, rfl, .int k, .ty "int", .type "int", .type "int", true, rfl, .ty _, .base (.int k), kit_ty (by decide +kernel), true, rfl, iteF ?_⟩
    refine ⟨_, rfl, _, _, rfl, rfl, _, rfl, ?_⟩
    rw [decide_eq_true k0]
    refine iteT ⟨_, _, rfl, rfl, ⟨by decide, by decide, by decide⟩, _, _, rfl, rfl, _, rfl, ?_⟩
    rw [e31, decide_eq_true k1]
    refine iteF ?_
    refine ⟨_, rfl, _, rfl, p, C, dx, [], rfl, hp, T.cl, T.nM, (by show 0 < 1000; decide), _, rfl, _, rfl, p, C, dx, _, rfl, upd_same, T.cl, T.nL, (by show 1 < 1000; decide), ?_⟩
    rw [hPut]
    exact q _ ⟨dx, m, k, upd_same, m0, m1, k0, k1⟩ fun b o e ne => by rw [upd_ne ne, upd_ne ne]; exact e
end
end Ask

set_option Elab.async false
set_option linter.all false
set_option maxRecDepth 100000
set_option maxHeartbeats 4000000
namespace Ask
open PySem PySem.Spec PyProof.Rows L2 AskR
/-! ### tuples stay -/
def SameT (H H' : Hp) : Prop := ∀ b xs, H b = some (.tup xs) → H' b = some (.tup xs)
theorem SameT.of {H H' : Hp} (s : Same H H') : SameT H H' := fun b xs e => s b _ e
theorem SameT.refl (H : Hp) : SameT H H := fun _ _ e => e
theorem SameT.trans {H H1 H2 : Hp} (a : SameT H H1) (b : SameT H1 H2) : SameT H H2 := fun c o h => b c o (a c o h)
theorem SameT.upd {H : Hp} {d : Addr} {o o' : HO} (h : H d = some o) (n : ∀ xs, o ≠ .tup xs) : SameT H (upd H d o') := fun b xs e => (upd_ne (fun z => n xs (by subst z; rw [h] at e; exact Option.some.inj e))).trans e
theorem PairsA.sameT {H H' : Hp} (h : SameT H H') : ∀ {vs : List V} {s : Sps}, PairsA H vs s → PairsA H' vs s
  | [], [], _ => trivial
  | _ :: _, _ :: _, ⟨⟨a, e, q⟩, t⟩ => ⟨⟨a, e, h _ _ q⟩, PairsA.sameT h t⟩
theorem SpA.sameT {H H' : Hp} (h : SameT H H') {p : Addr} {s : Sps} (x : SpA H p s) : SpA H' p s := let ⟨vs, a, b⟩ := x; ⟨vs, h _ _ a, b.sameT h⟩
/-! ### trees -/
abbrev Tr := T Ky (Int × Int)
def TreeAt (H : Hp) : Addr → Tr → Prop
  | p, .leaf k s => ∃ (o ka sa : Addr) (d : Int), H p = some (.tup [.str "leaf", .int 1, .ref o, .ref o, .int d, .ref ka, .ref sa]) ∧ IntsA H o (oct k) ∧ KeyA H ka k ∧ SpA H sa s
  | p, .node l r => ∃ (lo hi lp rp : Addr) (d : Int), H p = some (.tup [.str "node", .int (((T.node l r).size : Nat) : Int), .ref lo, .ref hi, .int d, .ref lp, .ref rp]) ∧ IntsA H lo (oct l.low) ∧ IntsA H hi (oct r.high) ∧ TreeAt H lp l ∧ TreeAt H rp r
theorem TreeAt.sameT {H H' : Hp} (h : SameT H H') : ∀ {t : Tr} {p : Addr}, TreeAt H p t → TreeAt H' p t
  | .leaf k s, p, ⟨o, ka, sa, d, e, a, b, c⟩ => ⟨o, ka, sa, d, h _ _ e, h _ _ a, h _ _ b, c.sameT h⟩
  | .node l r, p, ⟨lo, hi, lp, rp, d, e, a, b, c, c'⟩ => ⟨lo, hi, lp, rp, d, h _ _ e, h _ _ a, h _ _ b, TreeAt.sameT h c, TreeAt.sameT h c'⟩
theorem TreeAt.same {H H' : Hp} (h : Same H H') {t : Tr} {p : Addr} (x : TreeAt H p t) : TreeAt H' p t := x.sameT (SameT.of h)
/-- what every tree has in its first five places -/
def FiveA (H : Hp) (p : Addr) (t : Tr) (kd : Str) (lo hi : Addr) (d : Int) (x y : V) : Prop := H p = some (.tup [.str kd, .int ((t.size : Nat) : Int), .ref lo, .ref hi, .int d, x, y]) ∧ IntsA H lo (oct t.low) ∧ IntsA H hi (oct t.high)
theorem TreeAt.five {H : Hp} : ∀ {t : Tr} {p : Addr}, TreeAt H p t → ∃ kd lo hi d x y, FiveA H p t kd lo hi d x y ∧ (kd = "leaf" ∨ kd = "node")
  | .leaf k s, p, ⟨o, ka, sa, d, e, a, b, c⟩ => ⟨_, o, o, d, _, _, ⟨e, a, a⟩, .inl rfl⟩
  | .node l r, p, ⟨lo, hi, lp, rp, d, e, a, b, c, c'⟩ => ⟨_, lo, hi, d, _, _, ⟨e, a, b⟩, .inr rfl⟩
/-- all keys good -/
def AllG (t : Tr) : Prop := ∀ e ∈ t.toL, GoodK e.1
theorem AllG.low {t : Tr} (h : AllG t) : GoodK t.low := let ⟨e, m, q⟩ := t.low_mem; q ▸ h e m
theorem AllG.high {t : Tr} (h : AllG t) : GoodK t.high := let ⟨e, m, q⟩ := t.high_mem; q ▸ h e m
theorem AllG.l {l r : Tr} (h : AllG (.node l r)) : AllG l := fun e m => h e (List.mem_append_left _ m)
theorem AllG.r {l r : Tr} (h : AllG (.node l r)) : AllG r := fun e m => h e (List.mem_append_right _ m)
theorem AllG.node {l r : Tr} (h : AllG l) (h' : AllG r) : AllG (.node l r) := fun e m => (List.mem_append.mp m).elim (h e) (h' e)
theorem AllG.leaf {k : Ky} {s : Sps} (g : GoodK k) : AllG (.leaf k s) := fun e m => by rw [List.mem_singleton.mp m]; exact g
theorem rangeT {x : Int} (h : 0 ≤ x ∧ x < 7) : -(2 ^ 62) ≤ x ∧ x < 2 ^ 62 := by omega
section
variable {P : Program} {w : World} {K : PySem.W.Frag} {mg : Str → Option Value} {base : Heap} {f : Addr} {fd : FuncData} {C : Addr}
abbrev sSide : Stmt := topS 14
def spSide : Sp := fun vs H Q _ => ∃ (a : Addr) (t : Tr), vs = [.ref a] ∧ TreeAt H a t ∧ AllG t ∧ ∀ H' p, Same H H' → LstI H' p 2000 → Q (.ref p) H'
theorem scSide : FnScope ["tree", "kind", "count", "low", "high", "digest"] ["tree"] (C8.fnScope sSide) := C8.fnScope_by (by decide +kernel)
theorem cal_side (Z : Free mg) (F : C8.Def K mg "side_input" sSide f fd) (b : Binds K fd ["tree"] []) : C8.Cal P w K mg base 1 "side_input" spSide [] := by
  refine C8.cal0 F b .nil scSide (fun vs H Q E h => ?_) (fun cdv A outer s H vs Q E hr h => ?_)
  · obtain ⟨a, t, rfl, _⟩ := h
    rfl
  · obtain ⟨a, t, rfl, ht, ag, q⟩ := h
    refine ⟨_, pss_cons (ps_asg (pe_slice sl_tupA (pv 0) po_none (po_some pe_int)) (pg_tup rfl (pgs_cons (pg_name (i := 1) scSide.nd rfl (.inl rfl)) (pgs_cons (pg_name (i := 2) scSide.nd rfl (.inl rfl)) (pgs_cons (pg_name (i := 3) scSide.nd rfl (.inl rfl)) (pgs_cons (pg_name (i := 4) scSide.nd rfl (.inl rfl)) (pgs_cons (pg_name (i := 5) scSide.nd rfl (.inl rfl)) pgs_nil)))))))
      (pss_one (ps_ret (pe_op op_cat (pe_op op_cat (pe_op op_cat (pe_op op_cat (pe_lst (pa_cons (pv 2) (pa_cons (pe_callB call_len (by rfl) Z.len boot_len (pa_cons (pv 3) pa_nil)) pa_nil))) (pe_callTy call_list_of (by rfl) Z.lst boot_list (pa_cons (pv 3) pa_nil)))
        (pe_lst (pa_cons (pe_callB call_len (by rfl) Z.len boot_len (pa_cons (pv 4) pa_nil)) pa_nil))) (pe_callTy call_list_of (by rfl) Z.lst boot_list (pa_cons (pv 4) pa_nil))) (pe_lst (pa_cons (pv 5) pa_nil))))), ?_⟩
    obtain ⟨kd, lo, hi, d, x, y, ⟨e, e1, e2⟩, _⟩ := ht.five
    have l1 := oct_len ag.low
    have l2 := oct_len ag.high
    refine ⟨_, rfl, _, rfl, a, _, rfl, SqT.of e, fun z => absurd z.2 (by decide : ¬ (5 = 7)), fun _ t5 n5 => ?_⟩
    have s1 := same_upd (o := .tup [.str kd, .int ((t.size : Nat) : Int), .ref lo, .ref hi, .int d]) n5
    refine ⟨t5, [.str kd, .int ((t.size : Nat) : Int), .ref lo, .ref hi, .int d], rfl, SqT.of upd_same, rfl, _, _, rfl, _, _, rfl, _, _, rfl, _, _, rfl, _, _, rfl, rfl, ?_⟩
    have f1 := s1 _ _ e1
    have f2 := s1 _ _ e2
    have g1 : Same H (upd H t5 (.tup [.str kd, .int ((t.size : Nat) : Int), .ref lo, .ref hi, .int d])) := s1
    refine ⟨_, rfl, _, rfl, _, _, rfl, .inr ⟨_, SqT.of f1, rfl⟩, (by show 2 ≤ sizeLine; decide), fun p1 n1 => ?_⟩
    have g2 := g1.trans (same_upd (o := .lst [.int ((t.size : Nat) : Int), .int (((oct t.low).map V.int).length : Nat)]) n1)
    refine ⟨_, rfl, lo, _, rfl, .inr (SqT.of (g2 _ _ e1)), fun p2 n2 => ?_⟩
    have g3 := g2.trans (same_upd (o := .lst ((oct t.low).map V.int)) n2)
    refine cat_run (n := 2) (m := 505) ⟨[_, _], (same_upd n2) _ _ upd_same, Nat.le_refl _⟩ ⟨oct t.low, upd_same, l1⟩ (by decide) fun H3 p3 s3 q3 => ?_
    have g4 := g3.trans s3
    refine ⟨_, rfl, _, _, rfl, .inr ⟨_, SqT.of (g4 _ _ e2), rfl⟩, (by show 1 ≤ sizeLine; decide), fun p4 n4 => ?_⟩
    have g5 := g4.trans (same_upd (o := .lst [.int (((oct t.high).map V.int).length : Nat)]) n4)
    refine cat_run (n := 2 + 505) (m := 1) (q3.same (same_upd n4)) ⟨[_], upd_same, Nat.le_refl _⟩ (by decide) fun H5 p5 s5 q5 => ?_
    have g6 := g5.trans s5
    refine ⟨_, rfl, hi, _, rfl, .inr (SqT.of (g6 _ _ e2)), fun p6 n6 => ?_⟩
    have g7 := g6.trans (same_upd (o := .lst ((oct t.high).map V.int)) n6)
    refine cat_run (n := 2 + 505 + 1) (m := 505) (q5.same (same_upd n6)) ⟨oct t.high, upd_same, l2⟩ (by decide) fun H7 p7 s7 q7 => ?_
    have g8 := g7.trans s7
    refine ⟨_, rfl, (by show 1 ≤ sizeLine; decide), fun p8 n8 => ?_⟩
    have g9 := g8.trans (same_upd (o := .lst [.int d]) n8)
    refine cat_run (n := 2 + 505 + 1 + 505) (m := 1) (q7.same (same_upd n8)) ⟨[d], upd_same, Nat.le_refl _⟩ (by decide) fun H9 p9 s9 q9 => ?_
    obtain ⟨ns, x1, x2⟩ := q9
    exact q H9 p9 (g9.trans s9) ⟨ns, x1, by omega⟩
/-! ### leaf_input -/
abbrev sLeafI : Stmt := topS 15
def spLeafI : Sp := fun vs H Q _ => ∃ (a c : Addr) (os : List Int) (sp : Sps), vs = [.ref a, .ref c] ∧ IntsA H a os ∧ os.length ≤ 505 ∧ SpA H c sp ∧ sp.length ≤ 100 ∧ ∀ H' p, Same H H' → LstI H' p 2000 → Q (.ref p) H'
theorem scLeafI : FnScope ["octets", "spans", "numbers", "first", "last"] ["octets", "spans"] (C8.fnScope sLeafI) := C8.fnScope_by (by decide +kernel)
theorem cal_leafI (Z : Free mg) (F : C8.Def K mg "leaf_input" sLeafI f fd) (b : Binds K fd ["octets", "spans"] []) : C8.Cal P w K mg base 1 "leaf_input" spLeafI [] := by
  refine C8.cal0 F b .nil scLeafI (fun vs H Q E h => ?_) (fun cdv A outer s H vs Q E hr h => ?_)
  · obtain ⟨a, c, os, sp, rfl, _⟩ := h
    rfl
  · obtain ⟨a, c, os, sp, rfl, ha, lo, ⟨ws, hw, hp⟩, ls, q⟩ := h
    refine ⟨_, pss_cons (ps_set (i := 2) scLeafI.nd rfl (.inl rfl) (pe_op op_cat (pe_op op_cat (pe_lst (pa_cons pe_int (pa_cons (pe_callB call_len (by rfl) Z.len boot_len (pa_cons (pv 0) pa_nil)) pa_nil))) (pe_callTy call_list_of (by rfl) Z.lst boot_list (pa_cons (pv 0) pa_nil)))
        (pe_lst (pa_cons (pe_callB call_len (by rfl) Z.len boot_len (pa_cons (pv 1) pa_nil)) pa_nil))))
      (pss_cons (ps_for PassesOwn.never rfl (pi_tup (pv 1)) (pg_tup rfl (pgs_cons (pg_name (i := 3) scLeafI.nd rfl (.inl rfl)) (pgs_cons (pg_name (i := 4) scLeafI.nd rfl (.inl rfl)) pgs_nil)))
        (pss_one (ps_set (i := 2) scLeafI.nd rfl (.inl rfl) (pe_op op_cat (pv 2) (pe_lst (pa_cons (pv 3) (pa_cons (pv 4) pa_nil)))))))
      (pss_one (ps_ret (pv 2)))), ?_⟩
    refine ⟨_, rfl, _, _, rfl, .inr ⟨_, SqT.of ha, rfl⟩, (by show 2 ≤ sizeLine; decide), fun p1 n1 => ?_⟩
    have g2 := (same_upd (o := .lst [.int 0, .int ((os.map V.int).length : Nat)]) n1)
    refine ⟨_, rfl, a, _, rfl, .inr (SqT.of (g2 _ _ ha)), fun p2 n2 => ?_⟩
    have g3 := g2.trans (same_upd (o := .lst (os.map V.int)) n2)
    refine cat_run (n := 2) (m := 505) ⟨[_, _], (same_upd n2) _ _ upd_same, Nat.le_refl _⟩ ⟨os, upd_same, lo⟩ (by decide) fun H3 p3 s3 q3 => ?_
    have g4 := g3.trans s3
    refine ⟨_, rfl, _, _, rfl, .inr ⟨_, SqT.of (g4 _ _ hw), rfl⟩, (by show 1 ≤ sizeLine; decide), fun p4 n4 => ?_⟩
    have g5 := g4.trans (same_upd (o := .lst [.int (ws.length : Nat)]) n4)
    refine cat_run (n := 2 + 505) (m := 1) (q3.same (same_upd n4)) ⟨[_], upd_same, Nat.le_refl _⟩ (by decide) fun H5 p5 s5 q5 => ?_
    have g6 := g5.trans s5
    refine ⟨_, rfl, c, rfl, ⟨_, SqT.of (g6 _ _ hw)⟩, ?_⟩
    have wl := hp.len
    refine for_it (walk_tup (K := K) (a := c) (xs := ws)) (fun i σ H' => ∃ (p : Addr) (z3 z4 : Option V), σ = [some (.ref a), some (.ref c), some (.ref p), z3, z4] ∧ Same H H' ∧ LstI H' p (508 + 2 * i)) ⟨p5, none, none, rfl, g6, q5⟩ (fun i σ H' _ ⟨_, _, _, _, e, _⟩ => SqT.of (e _ _ hw)) ?_ ?_
    · rintro i x σ H1 H2 hi ⟨p, z3, z4, rfl, s1, hl⟩ ⟨rfl, hx⟩
      obtain ⟨ca, y, rfl, _, hc⟩ := hp.get hx
      refine ⟨ca, _, rfl, SqT.of (s1 _ _ hc), rfl, _, _, rfl, _, _, rfl, rfl, ?_⟩
      refine ⟨_, rfl, _, rfl, _, rfl, (by show 2 ≤ sizeLine; decide), fun p6 n6 => ?_⟩
      refine cat_run (n := 508 + 2 * i) (m := 2) (hl.same (same_upd n6)) ⟨[y.1, y.2], upd_same, Nat.le_refl _⟩ (by omega) fun H7 p7 s7 q7 => ?_
      exact ⟨p7, _, _, rfl, (s1.trans (same_upd n6)).trans s7, q7⟩
    · rintro σ H1 ⟨p, z3, z4, rfl, s1, ⟨ns, x1, x2⟩⟩
      exact ⟨_, rfl, q H1 p s1 ⟨ns, x1, by omega⟩⟩
/-! ### make_leaf, make_node, join -/
abbrev sMkL : Stmt := topS 16
def spMkL (C : Addr) : Sp := fun vs H Q _ => ∃ (h a c : Addr) (k : Ky) (sp : Sps), vs = [.ref h, .ref a, .ref c] ∧ HashA C H h ∧ KeyA H a k ∧ GoodK k ∧ SpA H c sp ∧ sp.length ≤ 100 ∧ ∀ H' p, Same H H' → TreeAt H' p (.leaf k sp) → Q (.ref p) H'
theorem scMkL : FnScope ["hasher", "key", "spans", "octets"] ["hasher", "key", "spans"] (C8.fnScope sMkL) := C8.fnScope_by (by decide +kernel)
theorem cal_mkL (cK : C8.Cal P w K mg base 3 "key_octets" spKeyO []) (cL : C8.Cal P w K mg base 1 "leaf_input" spLeafI []) (cD : C8.Met P w K mg base 1 C "digest" (spDig C) []) (F : C8.Def K mg "make_leaf" sMkL f fd) (b : Binds K fd ["hasher", "key", "spans"] []) : C8.Cal P w K mg base 4 "make_leaf" (spMkL C) [] := by
  refine C8.cal0 F b .nil scMkL (fun vs H Q E h => ?_) (fun cdv A outer s H vs Q E hr h => ?_)
  · obtain ⟨h, a, c, k, sp, rfl, _⟩ := h
    rfl
  · obtain ⟨h, a, c, k, sp, rfl, hh, hk, gk, hs, ls, q⟩ := h
    refine ⟨_, pss_cons (ps_set (i := 3) scMkL.nd rfl (.inl rfl) (C8.pe_c cK hr (Nat.le_refl _) (by rfl) (pa_cons (pv 1) pa_nil)))
      (pss_one (ps_ret (pe_tup (pa_cons pe_str (pa_cons pe_int (pa_cons (pv 3) (pa_cons (pv 3) (pa_cons (C8.pe_mt cD hr (by decide) (pv 0) (pa_cons (C8.pe_c cL hr (by decide) (by rfl) (pa_cons (pv 3) (pa_cons (pv 2) pa_nil))) pa_nil)) (pa_cons (pv 1) (pa_cons (pv 2) pa_nil)))))))))), ?_⟩
    refine ⟨_, rfl, a, k, rfl, hk, gk, fun H1 p1 s1 h1 => ?_⟩
    obtain ⟨dx, m, kk, hh1, _⟩ := hh.same s1
    refine ⟨_, rfl, _, rfl, _, rfl, h, dx, hFlds m kk, rfl, hh1, hD m kk, _, rfl, _, rfl, p1, c, oct k, sp, rfl, h1, oct_len gk, hs.same s1, ls, fun H2 p2 s2 h2 => ?_⟩
    refine ⟨h, p2, 2000, rfl, hh.same (s1.trans s2), h2, fun d => ?_⟩
    refine ⟨_, rfl, _, rfl, (by show 7 ≤ sizeLine; decide), fun p3 n3 => ?_⟩
    have s3 := same_upd (o := .tup [.str "leaf", .int 1, .ref p1, .ref p1, .int d, .ref a, .ref c]) n3
    have s4 := (s1.trans s2).trans s3
    exact q _ p3 s4 ⟨p1, a, c, d, upd_same, s3 _ _ (s2 _ _ h1), s4 _ _ hk, hs.same s4⟩
abbrev sMkN : Stmt := topS 17
def spMkN (C : Addr) : Sp := fun vs H Q _ => ∃ (h a c : Addr) (l r : Tr), vs = [.ref h, .ref a, .ref c] ∧ HashA C H h ∧ TreeAt H a l ∧ AllG l ∧ TreeAt H c r ∧ AllG r ∧ ∀ H' p, Same H H' → TreeAt H' p (.node l r) → Q (.ref p) H'
theorem scMkN : FnScope ["hasher", "left", "right", "digest"] ["hasher", "left", "right"] (C8.fnScope sMkN) := C8.fnScope_by (by decide +kernel)
theorem cal_mkN (cS : C8.Cal P w K mg base 1 "side_input" spSide []) (cD : C8.Met P w K mg base 1 C "digest" (spDig C) []) (F : C8.Def K mg "make_node" sMkN f fd) (b : Binds K fd ["hasher", "left", "right"] []) : C8.Cal P w K mg base 2 "make_node" (spMkN C) [] := by
  refine C8.cal0 F b .nil scMkN (fun vs H Q E h => ?_) (fun cdv A outer s H vs Q E hr h => ?_)
  · obtain ⟨h, a, c, l, r, rfl, _⟩ := h
    rfl
  · obtain ⟨h, a, c, l, r, rfl, hh, hl, al, hc, ar, q⟩ := h
    refine ⟨_, pss_cons (ps_set (i := 3) scMkN.nd rfl (.inl rfl) (C8.pe_mt cD hr (Nat.le_refl _) (pv 0) (pa_cons (pe_op op_cat (pe_op op_cat (pe_lst (pa_cons pe_int pa_nil)) (C8.pe_c cS hr (Nat.le_refl _) (by rfl) (pa_cons (pv 1) pa_nil))) (C8.pe_c cS hr (Nat.le_refl _) (by rfl) (pa_cons (pv 2) pa_nil))) pa_nil)))
      (pss_one (ps_ret (pe_tup (pa_cons pe_str (pa_cons (pe_op op_add (pe_ix ix_tup (pv 1) pe_int (fun _ _ => rfl)) (pe_ix ix_tup (pv 2) pe_int (fun _ _ => rfl))) (pa_cons (pe_ix ix_tup (pv 1) pe_int (fun _ _ => rfl)) (pa_cons (pe_ix ix_tup (pv 2) pe_int (fun _ _ => rfl)) (pa_cons (pv 3) (pa_cons (pv 1) (pa_cons (pv 2) pa_nil)))))))))), ?_⟩
    obtain ⟨dx, m, kk, hh1, _⟩ := id hh
    refine ⟨_, rfl, h, dx, hFlds m kk, rfl, hh1, hD m kk, (by show 1 ≤ sizeLine; decide), fun p1 n1 => ?_⟩
    have s1 := same_upd (o := .lst [.int 1]) n1
    refine ⟨_, rfl, a, l, rfl, hl.same s1, al, fun H2 p2 s2 h2 => ?_⟩
    refine cat_run (n := 1) (m := 2000) ⟨[1], s2 _ _ upd_same, Nat.le_refl _⟩ h2 (by decide) fun H3 p3 s3 h3 => ?_
    have s4 := (s1.trans s2).trans s3
    refine ⟨_, rfl, c, r, rfl, hc.same s4, ar, fun H5 p5 s5 h5 => ?_⟩
    refine cat_run (n := 1 + 2000) (m := 2000) (h3.same s5) h5 (by decide) fun H6 p6 s6 h6 => ?_
    have s7 := (s4.trans s5).trans s6
    refine ⟨h, p6, _, rfl, hh.same s7, h6, fun d => ?_⟩
    obtain ⟨kd, lo, hi, d1, x, y, ⟨e, e1, e2⟩, _⟩ := (hl.same s7).five
    obtain ⟨kd', lo', hi', d1', x', y', ⟨e', e1', e2'⟩, _⟩ := (hc.same s7).five
    refine ⟨_, rfl, a, _, _, _, rfl, rfl, SqT.of e, at_of (j := 1) rfl rfl, _, rfl, c, _, _, _, rfl, rfl, SqT.of e', at_of (j := 1) rfl rfl, _, _, rfl, rfl, ?_⟩
    refine ⟨_, rfl, a, _, _, _, rfl, rfl, SqT.of e, at_of (j := 2) rfl rfl, _, rfl, c, _, _, _, rfl, rfl, SqT.of e', at_of (j := 3) rfl rfl, _, rfl, _, rfl, _, rfl, (by show 7 ≤ sizeLine; decide), fun p8 n8 => ?_⟩
    have ez : ((l.size : Nat) : Int) + ((r.size : Nat) : Int) = (((T.node l r).size : Nat) : Int) := by
      show _ = ((l.size + r.size : Nat) : Int)
      omega
    have s8 := same_upd (o := .tup [.str "node", .int (((T.node l r).size : Nat) : Int), .ref lo, .ref hi', .int d, .ref a, .ref c]) n8
    have s9 := s7.trans s8
    have := q _ p8 s9 ⟨lo, hi', a, c, d, upd_same, s8 _ _ e1, s8 _ _ e2', hl.same s9, hc.same s9⟩
    rw [← ez] at this
    exact this
abbrev sJoin : Stmt := topS 18
def spJoin (C : Addr) : Sp := fun vs H Q _ => ∃ (h a c : Addr) (t : Tr) (k : Ky) (sp : Sps), vs = [.ref h, .ref a, .ref c] ∧ HashA C H h ∧ TreeAt H a t ∧ AllG t ∧ TreeAt H c (.leaf k sp) ∧ GoodK k ∧ ∀ H' p, Same H H' → TreeAt H' p (joinT oct t k sp) → Q (.ref p) H'
theorem scJoin : FnScope ["hasher", "tree", "leaf"] ["hasher", "tree", "leaf"] (C8.fnScope sJoin) := C8.fnScope_by (by decide +kernel)
theorem cal_join (cN : C8.Cal P w K mg base 2 "make_node" (spMkN C) []) (F : C8.Def K mg "join" sJoin f fd) (b : Binds K fd ["hasher", "tree", "leaf"] []) : C8.Cal P w K mg base 3 "join" (spJoin C) [] := by
  refine C8.cal0 F b .nil scJoin (fun vs H Q E h => ?_) (fun cdv A outer s H vs Q E hr h => ?_)
  · obtain ⟨h, a, c, t, k, sp, rfl, _⟩ := h
    rfl
  · obtain ⟨h, a, c, t, k, sp, rfl, hh, ht, at_, hl, gk, q⟩ := h
    have hu := hr.units0
    refine ⟨_, pss_cons (ps_if (pt_cmpR (op_ltT hu) (pe_ix ix_tup (pv 2) pe_int (fun _ _ => rfl)) (pe_ix ix_tup (pv 1) pe_int (fun _ _ => rfl)) (nomark _))
        (pss_one (ps_ret (C8.pe_c cN hr (Nat.le_refl _) (by rfl) (pa_cons (pv 0) (pa_cons (pv 2) (pa_cons (pv 1) pa_nil)))))) pss_nil)
      (pss_one (ps_ret (C8.pe_c cN hr (Nat.le_refl _) (by rfl) (pa_cons (pv 0) (pa_cons (pv 1) (pa_cons (pv 2) pa_nil)))))), ?_⟩
    obtain ⟨kd, lo, hi, d1, x, y, ⟨e, e1, e2⟩, _⟩ := ht.five
    obtain ⟨kd', lo', hi', d1', x', y', ⟨e', e1', e2'⟩, _⟩ := hl.five
    refine ⟨_, rfl, c, _, _, _, rfl, rfl, SqT.of e', at_of (j := 2) rfl rfl, _, rfl, a, _, _, _, rfl, rfl, SqT.of e, at_of (j := 2) rfl rfl, lo', lo, oct k, oct t.low, rfl, rfl, SqT.of e1', SqT.of e1, _, rfl, ?_⟩
    rw [← lx_eq]
    refine ite2 (fun z => ?_) (fun z => ?_)
    · refine ⟨_, rfl, _, rfl, _, rfl, h, c, a, _, _, rfl, hh, hl, AllG.leaf gk, ht, at_, fun H' p s1 t1 => q H' p s1 ?_⟩
      unfold joinT
      rw [if_pos z]
      exact t1
    · refine ⟨_, rfl, _, rfl, _, rfl, h, a, c, _, _, rfl, hh, ht, at_, hl, AllG.leaf gk, fun H' p s1 t1 => q H' p s1 ?_⟩
      unfold joinT
      rw [if_neg z]
      exact t1
end
end Ask

set_option Elab.async false
set_option linter.all false
set_option maxRecDepth 100000
set_option maxHeartbeats 4000000
namespace Ask
open PySem PySem.Spec PyProof.Rows L2 AskR
/-! ### way_to -/
/-- going on at a node, the split lies in the key's octets -/
theorem on_in {l r : Tr} {k : Ky} (wf : WF oct GoodK (.node l r)) (gk : GoodK k) (ns : stopT oct (.node l r) (oct k) = false) {s : Nat} (hs : FB 0 (oct (T.node l r).low) (oct (T.node l r).high) = some s) : s / 8 < (oct k).length := by
  have bl := oct_byte wf.low.2
  have bk := oct_byte gk.2
  have bh := oct_byte wf.high.2
  have f := FB_first bl bh hs
  cases own : FB 0 (oct (T.node l r).low) (oct k) with
  | none =>
    rcases goodK.apart _ _ wf.low gk with q | ⟨n, g⟩
    · rw [← q]; exact f.ina
    · exact absurd g (FB_none bl bk own n)
  | some a =>
    have g := FB_first bl bk own
    unfold stopT at ns
    rw [own, hs] at ns
    have := of_decide_eq_false ns
    have := g.inb
    omega
def EachW (H : Hp) : List V → List (Tr × Bool) → Prop
  | [], [] => True
  | v :: vs, x :: xs => (∃ p a, v = .ref p ∧ H p = some (.tup [.ref a, .bl x.2]) ∧ TreeAt H a x.1) ∧ EachW H vs xs
  | _, _ => False
theorem EachW.sameT {H H' : Hp} (h : SameT H H') : ∀ {vs : List V} {xs : List (Tr × Bool)}, EachW H vs xs → EachW H' vs xs
  | [], [], _ => trivial
  | _ :: _, _ :: _, ⟨⟨p, a, e, q, t⟩, r⟩ => ⟨⟨p, a, e, h _ _ q, t.sameT h⟩, EachW.sameT h r⟩
theorem EachW.len {H : Hp} : ∀ {vs : List V} {xs : List (Tr × Bool)}, EachW H vs xs → vs.length = xs.length
  | [], [], _ => rfl
  | _ :: _, _ :: _, ⟨_, r⟩ => by rw [List.length_cons, List.length_cons, EachW.len r]
theorem EachW.snoc {H : Hp} {p a : Addr} {x : Tr × Bool} (h1 : H p = some (.tup [.ref a, .bl x.2])) (h2 : TreeAt H a x.1) : ∀ {vs : List V} {xs : List (Tr × Bool)}, EachW H vs xs → EachW H (vs ++ [.ref p]) (xs ++ [x])
  | [], [], _ => ⟨⟨p, a, rfl, h1, h2⟩, trivial⟩
  | _ :: _, _ :: _, ⟨q, r⟩ => ⟨q, EachW.snoc h1 h2 r⟩
theorem EachW.get {H : Hp} : ∀ {vs : List V} {xs : List (Tr × Bool)} {i : Nat} {v : V}, EachW H vs xs → vs[i]? = some v → ∃ p a x, v = .ref p ∧ xs[i]? = some x ∧ H p = some (.tup [.ref a, .bl x.2]) ∧ TreeAt H a x.1
  | [], [], _, _, _, h => by simp at h
  | _ :: _, x :: _, 0, _, ⟨⟨p, a, e, q, t⟩, _⟩, h => by
    simp only [List.getElem?_cons_zero] at h
    cases h
    exact ⟨p, a, x, e, rfl, q, t⟩
  | _ :: _, _ :: _, i + 1, _, ⟨_, r⟩, h => by
    rw [List.getElem?_cons_succ] at h ⊢
    exact EachW.get r h
/-- all trees of a way are well formed -/
theorem way_all : ∀ {t : Tr} (o : List Int), WF oct GoodK t → (∀ x ∈ (wayT oct o t).1, WF oct GoodK x.1 ∧ ∃ l r, x.1 = .node l r) ∧ WF oct GoodK (wayT oct o t).2
  | .leaf k s, o, h => ⟨fun x m => by simp [wayT] at m, h⟩
  | .node l r, o, h => by
    obtain ⟨hl, hr, _⟩ := id h
    rw [wayT]
    by_cases a : stopT oct (.node l r) o = true
    · rw [if_pos a]
      exact ⟨fun x m => by simp at m, h⟩
    · rw [if_neg a]
      by_cases b : rightT oct (.node l r) o = true
      · rw [if_pos b]
        obtain ⟨p, q⟩ := way_all o hr
        refine ⟨fun x m => ?_, q⟩
        rcases List.mem_cons.mp m with e | m
        · rw [e]; exact ⟨h, l, r, rfl⟩
        · exact p x m
      · rw [if_neg b]
        obtain ⟨p, q⟩ := way_all o hl
        refine ⟨fun x m => ?_, q⟩
        rcases List.mem_cons.mp m with e | m
        · rw [e]; exact ⟨h, l, r, rfl⟩
        · exact p x m
def WayA (H : Hp) (p : Addr) (w : List (Tr × Bool) × Tr) : Prop := ∃ (wa pl : Addr) (vs : List V), H p = some (.tup [.ref wa, .ref pl]) ∧ H wa = some (.lst vs) ∧ EachW H vs w.1 ∧ TreeAt H pl w.2
theorem lenW {t : Tr} : ∀ (o : List Int), (wayT oct o t).1.length < t.size := by
  intro o
  induction t with
  | leaf k s => exact Nat.zero_lt_one
  | node l r hl hr =>
    rw [wayT]
    have pl := l.size_pos
    have pr := r.size_pos
    show _ < l.size + r.size
    split
    · show 0 < _
      omega
    · split
      · show (wayT oct o r).1.length + 1 < _
        omega
      · show (wayT oct o l).1.length + 1 < _
        omega
section
variable {P : Program} {w : World} {K : PySem.W.Frag} {mg : Str → Option Value} {base : Heap} {f : Addr} {fd : FuncData} {C : Addr}
/-- the word of the way's loop -/
def WayI (H : Hp) (o wa : Addr) (k : Ky) (t0 : Tr) (m : Nat) (σ : L2.St) (H' : Hp) : Prop := ∃ (a : Addr) (t : Tr) (vs : List V) (done : List (Tr × Bool)) (z3 z4 z5 : Option V), σ = [some (.ref a), some (.ref o), some (.ref wa), z3, z4, z5] ∧ m = t.size ∧ Same H H' ∧ H' wa = some (.lst vs) ∧ EachW H' vs done ∧ TreeAt H' a t ∧ WF oct GoodK t ∧ done.length + t.size ≤ 100 ∧
      wayT oct (oct k) t0 = (done ++ (wayT oct (oct k) t).1, (wayT oct (oct k) t).2)
theorem fbV_some {x y : List Int} {n : Nat} (h : FB 0 x y = some n) : fbV x y = .int (n : Nat) := by
  unfold fbV
  rw [h]
theorem fbV_none {x y : List Int} (h : FB 0 x y = none) : fbV x y = .non := by
  unfold fbV
  rw [h]
theorem way_test {σ : L2.St} {H : Hp} {R : Bool → Hp → Prop} {x : V} {sp : Nat} {b : Bool} (h3 : σ[3]? = some (some x)) (h4 : σ[4]? = some (some (.int (sp : Nat)))) (h : (x = .non ∧ b = false) ∨ ∃ n : Nat, x = .int (n : Nat) ∧ b = decide (n < sp)) (q : R b H) :
    tAnd (tB (tNotN (tVar 3))) (tTest (tOp (rI0 fun i j => .bl (decide (i < j))) (tVar 3) (tVar 4))) σ H R := by
  rcases h with ⟨rfl, rfl⟩ | ⟨n, rfl, rfl⟩
  · refine ⟨_, h3, _, rfl, ?_⟩
    rw [decide_eq_true (rfl : V.non = V.non)]
    exact iteF q
  · refine ⟨_, h3, _, rfl, ?_⟩
    rw [decide_eq_false (fun z => by cases z)]
    refine iteT ⟨_, h3, _, h4, _, _, rfl, rfl, _, rfl, ?_⟩
    have e : decide (((n : Nat) : Int) < ((sp : Nat) : Int)) = decide (n < sp) := by
      by_cases z : n < sp
      · rw [decide_eq_true z, decide_eq_true (by omega)]
      · rw [decide_eq_false z, decide_eq_false (by omega)]
    rw [e]
    exact q
abbrev sWay : Stmt := topS 19
def spWay : Sp := fun vs H Q _ => ∃ (a o : Addr) (t : Tr) (k : Ky), vs = [.ref a, .ref o] ∧ TreeAt H a t ∧ WF oct GoodK t ∧ t.size ≤ 100 ∧ IntsA H o (oct k) ∧ GoodK k ∧ ∀ H' p, Same H H' → WayA H' p (wayT oct (oct k) t) → Q (.ref p) H'
theorem scWay : FnScope ["tree", "octets", "way", "own", "split", "right"] ["tree", "octets"] (C8.fnScope sWay) := C8.fnScope_by (by decide +kernel)
theorem cal_way (cF : C8.Cal P w K mg base 1 "first_bit" spFirst []) (cH : C8.Cal P w K mg base 1 "has_bit" spHas []) (F : C8.Def K mg "way_to" sWay f fd) (b : Binds K fd ["tree", "octets"] []) : C8.Cal P w K mg base 2 "way_to" spWay [] := by
  refine C8.cal0 F b .nil scWay (fun vs H Q E h => ?_) (fun cdv A outer s H vs Q E hr h => ?_)
  · obtain ⟨a, o, t, k, rfl, _⟩ := h
    rfl
  · obtain ⟨a0, o, t0, k, rfl, ht0, wf0, sz0, ho, gk, q⟩ := h
    refine ⟨_, pss_cons (ps_set (i := 2) scWay.nd rfl (.inl rfl) (pe_lst pa_nil))
      (pss_cons (ps_while PassesOwn.never (pt_cmpR op_gt (pe_ix ix_tup (pv 0) pe_int (fun _ _ => rfl)) pe_int (nomark _))
        (pss_cons (ps_set (i := 3) scWay.nd rfl (.inl rfl) (C8.pe_c cF hr (Nat.le_refl _) (by rfl) (pa_cons (pe_ix ix_tup (pv 0) pe_int (fun _ _ => rfl)) (pa_cons (pv 1) pa_nil))))
        (pss_cons (ps_set (i := 4) scWay.nd rfl (.inl rfl) (C8.pe_c cF hr (Nat.le_refl _) (by rfl) (pa_cons (pe_ix ix_tup (pv 0) pe_int (fun _ _ => rfl)) (pa_cons (pe_ix ix_tup (pv 0) pe_int (fun _ _ => rfl)) pa_nil))))
        (pss_cons (ps_if (PW.pt (pw_and (pt_cmp (pc_notN (pv 3))) (pw_and1 (pt_cmpR op_lt (pv 3) (pv 4) (nomark _))))) (pss_one (ps_ret (pe_tup (pa_cons (pv 2) (pa_cons (pv 0) pa_nil))))) pss_nil)
        (pss_cons (ps_if (pt_cmpR op_eq (pe_ix ix_tup (pv 0) pe_int (fun _ _ => rfl)) pe_str (nomark _)) pss_never pss_nil)
        (pss_cons (ps_set (i := 5) scWay.nd rfl (.inl rfl) (C8.pe_c cH hr (Nat.le_refl _) (by rfl) (pa_cons (pv 1) (pa_cons (pv 4) pa_nil))))
        (pss_cons (ps_expr (pe_bm PySem.F.plainAttrs_list PySem.F.slot_list_append PySem.F.type_list_append mt_append (pv 2) (pa_cons (pe_tup (pa_cons (pv 0) (pa_cons (pv 5) pa_nil))) pa_nil)))
        (pss_one (ps_set (i := 0) scWay.nd rfl (.inl rfl) (pe_ifExp (pt_val (pv 5)) (pe_ix ix_tup (pv 0) pe_int (fun _ _ => rfl)) (pe_ix ix_tup (pv 0) pe_int (fun _ _ => rfl))))))))))))
      (pss_one (ps_ret (pe_tup (pa_cons (pv 2) (pa_cons (pv 0) pa_nil)))))), ?_⟩
    refine ⟨(by show 0 ≤ sizeLine; decide), fun wa nwa => ?_⟩
    have s0 := same_upd (o := .lst []) nwa
    refine ⟨WayI H o wa k t0, ⟨t0.size, a0, t0, [], [], none, none, none, rfl, rfl, s0, upd_same, trivial, ht0.same s0, wf0, by rw [List.length_nil]; omega, rfl⟩, ?_⟩
    rintro m σ H1 ⟨a, t, vs, done, z3, z4, z5, rfl, rfl, s1, hw, hE, ht, wf, sz, ew⟩
    cases t with
    | leaf k0 sp0 =>
      obtain ⟨o1, ka, sa, d, e, _⟩ := id ht
      refine ⟨_, rfl, a, _, _, _, rfl, rfl, SqT.of e, at_of (j := 1) rfl rfl, _, _, rfl, rfl, _, rfl, iteF ?_⟩
      refine ⟨_, rfl, _, rfl, (by show 2 ≤ sizeLine; decide), fun p np => ?_⟩
      have s2 := same_upd (o := .tup [.ref wa, .ref a]) np
      refine q _ p (s1.trans s2) ?_
      rw [ew]
      refine ⟨wa, a, vs, upd_same, s2 _ _ hw, ?_, ht.same s2⟩
      show EachW _ vs (done ++ [])
      rw [List.append_nil]
      exact hE.sameT (SameT.of s2)
    | node l r =>
      obtain ⟨lo, hi, lp, rp, d, e, e1, e2, hl, hr'⟩ := id ht
      obtain ⟨wl, wr, _⟩ := id wf
      have pl := l.size_pos
      have pr := r.size_pos
      have gt1 : (1 : Int) < (((T.node l r).size : Nat) : Int) := by
        show (1 : Int) < ((l.size + r.size : Nat) : Int)
        omega
      refine ⟨_, rfl, a, _, _, _, rfl, rfl, SqT.of e, at_of (j := 1) rfl rfl, _, _, rfl, rfl, _, rfl, ite2 (fun _ => ?_) (fun z => absurd (decide_eq_true gt1) z)⟩
      refine ⟨fun σ' H' => ∃ m', m' < (T.node l r).size ∧ WayI H o wa k t0 m' σ' H', fun _ _ x => x, ?_⟩
      obtain ⟨sp, ww, hsp, _, _⟩ := wf.split goodK
      have eS : fbV (oct l.low) (oct r.high) = .int (sp : Nat) := fbV_some hsp
      have bl := oct_byte wl.low.2
      have bh := oct_byte wr.high.2
      have bk := oct_byte gk.2
      have nl := oct_len wl.low
      have nh := oct_len wr.high
      have nk := oct_len gk
      have swa : ∀ {H' : Hp}, Same H1 H' → Same H H' := fun x => s1.trans x
      refine ⟨_, rfl, a, _, _, _, rfl, rfl, SqT.of e, at_of (j := 2) rfl rfl, _, rfl, lo, o, oct l.low, oct k, rfl, e1, s1 _ _ ho, bl, bk, by omega, by omega, fun H2 s2 => ?_⟩
      refine ⟨_, rfl, a, _, _, _, rfl, rfl, SqT.of (s2 _ _ e), at_of (j := 2) rfl rfl, _, rfl, a, _, _, _, rfl, rfl, SqT.of (s2 _ _ e), at_of (j := 3) rfl rfl, lo, hi, oct l.low, oct r.high, rfl, s2 _ _ e1, s2 _ _ e2, bl, bh, by omega, by omega, fun H3 s3 => ?_⟩
      rw [eS]
      have s4 := s2.trans s3
      refine way_test (b := stopT oct (.node l r) (oct k)) rfl rfl ?_ ?_
      · cases own : FB 0 (oct l.low) (oct k) with
        | none =>
          refine .inl ⟨fbV_none own, ?_⟩
          unfold stopT
          rw [show FB 0 (oct (T.node l r).low) (oct k) = none from own]
        | some n =>
          refine .inr ⟨n, fbV_some own, ?_⟩
          unfold stopT
          rw [show FB 0 (oct (T.node l r).low) (oct k) = some n from own, hsp]
      · refine ite2 (fun hst => ?_) (fun hst => ?_)
        · refine ⟨_, rfl, _, rfl, (by show 2 ≤ sizeLine; decide), fun p np => ?_⟩
          have s5 := s4.trans (same_upd (o := .tup [.ref wa, .ref a]) np)
          refine q _ p (s1.trans s5) ?_
          rw [ew, wayT, if_pos hst]
          refine ⟨wa, a, vs, upd_same, s5 _ _ hw, ?_, ht.same s5⟩
          show EachW _ vs (done ++ [])
          rw [List.append_nil]
          exact hE.sameT (SameT.of s5)
        · have hst' : stopT oct (.node l r) (oct k) = false := by
            cases x : stopT oct (.node l r) (oct k) with
            | true => exact absurd x hst
            | false => rfl
          have inb := on_in wf gk hst' hsp
          refine ⟨_, rfl, a, _, _, _, rfl, rfl, SqT.of (s4 _ _ e), at_of (j := 0) rfl rfl, rfl, _, rfl, ite2 (fun z => absurd (of_decide_eq_true z) (fun y => ?_)) (fun _ => ?_)⟩
          · injection y with y
            exact absurd y (by decide +kernel)
          refine ⟨_, rfl, _, rfl, o, oct k, sp, rfl, (s1.trans s4) _ _ ho, bk, inb, fun H4 s5 => ?_⟩
          have s6 := s4.trans s5
          refine ⟨_, rfl, .inl ⟨rfl, _, SqL.of (s6 _ _ hw)⟩, _, rfl, _, rfl, (by show 2 ≤ sizeLine; decide), fun p np => ?_⟩
          have s7 := same_upd (o := .tup [.ref a, .bl (bitAt (oct k) sp)]) np
          have s8 := s6.trans s7
          have vl := hE.len
          have sz' : done.length + (l.size + r.size) ≤ 100 := sz
          refine ⟨wa, vs, _, rfl, rfl, s8 _ _ hw, small1000 (by omega), ?_⟩
          have s9 : SameT H1 (upd (upd H4 p (.tup [.ref a, .bl (bitAt (oct k) sp)])) wa (.lst (vs ++ [.ref p]))) := (SameT.of s8).trans (SameT.upd (s8 _ _ hw) (fun xs z => by cases z))
          have s10 : Same H (upd (upd H4 p (.tup [.ref a, .bl (bitAt (oct k) sp)])) wa (.lst (vs ++ [.ref p]))) := same_at (s1.trans s8) nwa
          have pw : p ≠ wa := fun z => by rw [z] at np; rw [s6 _ _ hw] at np; cases np
          have hE2 := (hE.sameT s9).snoc (x := (.node l r, bitAt (oct k) sp)) (p := p) (a := a) (by rw [upd_ne pw, upd_same]) (ht.sameT s9)
          have er : rightT oct (.node l r) (oct k) = bitAt (oct k) sp := by
            unfold rightT
            rw [hsp]
          rw [wayT, if_neg hst, er] at ew
          refine ⟨_, rfl, _, rfl, ite2 (fun hb => ?_) (fun hb => ?_)⟩
          · rw [if_pos hb] at ew
            refine ⟨_, rfl, a, _, _, _, rfl, rfl, SqT.of (s9 _ _ e), at_of (j := 6) rfl rfl, r.size, ?_, rp, r, _, done ++ [(.node l r, bitAt (oct k) sp)], _, _, _, rfl, rfl, s10, upd_same, hE2, hr'.sameT s9, wr, ?_, ?_⟩
            · show r.size < l.size + r.size
              omega
            · rw [List.length_append, List.length_singleton]
              omega
            · rw [ew, hb, List.append_assoc]
              rfl
          · rw [if_neg hb] at ew
            have hb' : bitAt (oct k) sp = false := by
              cases x : bitAt (oct k) sp with
              | true => exact absurd x hb
              | false => rfl
            refine ⟨_, rfl, a, _, _, _, rfl, rfl, SqT.of (s9 _ _ e), at_of (j := 5) rfl rfl, l.size, ?_, lp, l, _, done ++ [(.node l r, bitAt (oct k) sp)], _, _, _, rfl, rfl, s10, upd_same, hE2, hl.sameT s9, wl, ?_, ?_⟩
            · show l.size < l.size + r.size
              omega
            · rw [List.length_append, List.length_singleton]
              omega
            · rw [ew, hb', List.append_assoc]
              rfl
end
end Ask

set_option Elab.async false
set_option linter.all false
set_option maxRecDepth 100000
set_option maxHeartbeats 4000000
namespace Ask
open PySem PySem.Spec PyProof.Rows L2 AskR
/-! ### data -/
def iD (ns : List Int) : PyData := .tuple (ns.map PyData.int)
def kD1 : L2.Key → PyData
  | .inl n => .int n
  | .inr x => .str x
def kD (k : Ky) : PyData := .tuple (k.map kD1)
def sD1 (s : Int × Int) : PyData := .tuple [.int s.1, .int s.2]
def sD (s : Sps) : PyData := .tuple (s.map sD1)
def eD1 (e : Ky × Sps) : PyData := .tuple [kD e.1, sD e.2]
def eD (es : List (Ky × Sps)) : PyData := .list (es.map eD1)
theorem lay_int : ∀ ns : List Int, PyData.canLayAll0 (ns.map PyData.int) = true ∧ PyData.depthAll (ns.map PyData.int) ≤ 10
  | [] => ⟨by simp [PyData.canLayAll0], by simp [PyData.depthAll]⟩
  | n :: ns => by
    obtain ⟨a, b⟩ := lay_int ns
    refine ⟨by simp [PyData.canLayAll0, PyData.canLay0, a], ?_⟩
    simp only [List.map_cons, PyData.depthAll, PyData.depth]
    omega
theorem iD_shaped (ns : List Int) : SeqAt.shaped (iD ns) = true := by
  obtain ⟨a, b⟩ := lay_int ns
  refine Bool.and_eq_true_iff.mpr ⟨?_, decide_eq_true ?_⟩
  · simp only [iD, PyData.canLay0, a]
  · simp only [iD, PyData.depth]
    omega
theorem lay_key : ∀ k : Ky, (∀ v ∈ k, GoodV v) → PyData.canLayAll0 (k.map kD1) = true ∧ PyData.depthAll (k.map kD1) ≤ 10
  | [], _ => ⟨by simp [PyData.canLayAll0], by simp [PyData.depthAll]⟩
  | n :: ns, g => by
    obtain ⟨a, b⟩ := lay_key ns fun v hv => g v (List.mem_cons_of_mem _ hv)
    have gn := g n (List.mem_cons_self ..)
    cases n with
    | inl n =>
      refine ⟨by simp [PyData.canLayAll0, PyData.canLay0, a, kD1], ?_⟩
      simp only [List.map_cons, kD1, PyData.depthAll, PyData.depth]
      omega
    | inr n =>
      have ok : PyData.strOk n = true := by
        unfold PyData.strOk
        rw [← Array.all_toList, List.all_eq_true]
        intro c hc
        have := gn.2 c hc
        exact decide_eq_true (by omega)
      refine ⟨by simp [PyData.canLayAll0, PyData.canLay0, a, kD1, ok], ?_⟩
      simp only [List.map_cons, kD1, PyData.depthAll, PyData.depth]
      omega
theorem lay_sp : ∀ k : Sps, PyData.canLayAll0 (k.map sD1) = true ∧ PyData.depthAll (k.map sD1) ≤ 11
  | [] => ⟨by simp [PyData.canLayAll0], by simp [PyData.depthAll]⟩
  | n :: ns => by
    obtain ⟨a, b⟩ := lay_sp ns
    refine ⟨by simp [PyData.canLayAll0, PyData.canLay0, a, sD1], ?_⟩
    simp only [List.map_cons, sD1, PyData.depthAll, PyData.depth]
    omega
theorem lay_en : ∀ k : List (Ky × Sps), (∀ e ∈ k, GoodK e.1) → PyData.canLayAll0 (k.map eD1) = true ∧ PyData.depthAll (k.map eD1) ≤ 20
  | [], _ => ⟨by simp [PyData.canLayAll0], by simp [PyData.depthAll]⟩
  | n :: ns, g => by
    obtain ⟨a, b⟩ := lay_en ns fun v hv => g v (List.mem_cons_of_mem _ hv)
    obtain ⟨c, d⟩ := lay_key n.1 (g n (List.mem_cons_self ..)).2
    obtain ⟨e, f⟩ := lay_sp n.2
    refine ⟨by simp [PyData.canLayAll0, PyData.canLay0, a, c, e, eD1, kD, sD], ?_⟩
    simp only [List.map_cons, eD1, kD, sD, PyData.depthAll, PyData.depth]
    omega
theorem eD_shaped {es : List (Ky × Sps)} (g : ∀ e ∈ es, GoodK e.1) : SeqAt.shaped (eD es) = true := by
  obtain ⟨a, b⟩ := lay_en es g
  refine Bool.and_eq_true_iff.mpr ⟨?_, decide_eq_true ?_⟩
  · simp only [eD, PyData.canLay0, a]
  · simp only [eD, PyData.depth]
    omega
theorem iD_eqv (ns ms : List Int) : PyData.eqv (iD ns) (iD ms) = decide (ns = ms) := by
  unfold iD
  rw [PyData.eqv, PySem.W.ked_eqvAll]
/-! ### entries in the heap -/
def EntsA (H : Hp) : List V → List (Ky × Sps) → Prop
  | [], [] => True
  | v :: vs, e :: es => (∃ p ka sa, v = .ref p ∧ H p = some (.tup [.ref ka, .ref sa]) ∧ KeyA H ka e.1 ∧ SpA H sa e.2) ∧ EntsA H vs es
  | _, _ => False
theorem EntsA.sameT {H H' : Hp} (h : SameT H H') : ∀ {vs : List V} {es : List (Ky × Sps)}, EntsA H vs es → EntsA H' vs es
  | [], [], _ => trivial
  | _ :: _, _ :: _, ⟨⟨p, a, b, e, q, t, u⟩, r⟩ => ⟨⟨p, a, b, e, h _ _ q, h _ _ t, u.sameT h⟩, EntsA.sameT h r⟩
theorem EntsA.len {H : Hp} : ∀ {vs : List V} {es : List (Ky × Sps)}, EntsA H vs es → vs.length = es.length
  | [], [], _ => rfl
  | _ :: _, _ :: _, ⟨_, r⟩ => by rw [List.length_cons, List.length_cons, EntsA.len r]
theorem EntsA.snoc {H : Hp} {p ka sa : Addr} {e : Ky × Sps} (h : H p = some (.tup [.ref ka, .ref sa])) (h1 : KeyA H ka e.1) (h2 : SpA H sa e.2) : ∀ {vs : List V} {es : List (Ky × Sps)}, EntsA H vs es → EntsA H (vs ++ [.ref p]) (es ++ [e])
  | [], [], _ => ⟨⟨p, ka, sa, rfl, h, h1, h2⟩, trivial⟩
  | _ :: _, _ :: _, ⟨q, r⟩ => ⟨q, EntsA.snoc h h1 h2 r⟩
theorem EntsA.get {H : Hp} : ∀ {vs : List V} {xs : List (Ky × Sps)} {i : Nat} {v : V}, EntsA H vs xs → vs[i]? = some v → ∃ p ka sa x, v = .ref p ∧ xs[i]? = some x ∧ H p = some (.tup [.ref ka, .ref sa]) ∧ KeyA H ka x.1 ∧ SpA H sa x.2
  | [], [], _, _, _, h => by simp at h
  | _ :: _, x :: _, 0, _, ⟨⟨p, ka, sa, e, q, t, u⟩, _⟩, h => by
    simp only [List.getElem?_cons_zero] at h
    cases h
    exact ⟨p, ka, sa, x, e, rfl, q, t, u⟩
  | _ :: _, _ :: _, i + 1, _, ⟨_, r⟩, h => by
    rw [List.getElem?_cons_succ] at h ⊢
    exact EntsA.get r h
section
variable {K : PySem.W.Frag} {H : Hp}
theorem dp_ints : ∀ ns : List Int, DpAll K H (ns.map V.int) (ns.map PyData.int)
  | [] => .nil
  | n :: ns => .cons (.int n) (dp_ints ns)
theorem dpI {a : Addr} {ns : List Int} (h : IntsA H a ns) : Dp K H (.ref a) (iD ns) := .tup (SqT.of h) (dp_ints ns)
theorem dp_key : ∀ k : Ky, DpAll K H (k.map kV) (k.map kD1)
  | [] => .nil
  | .inl n :: k => .cons (.int n) (dp_key k)
  | .inr x :: k => .cons (.str x) (dp_key k)
theorem dp_sp : ∀ {vs : List V} {s : Sps}, PairsA H vs s → DpAll K H vs (s.map sD1)
  | [], [], _ => .nil
  | _ :: _, s :: _, ⟨⟨a, e, q⟩, t⟩ => .cons (by rw [e]; exact .tup (SqT.of q) (.cons (.int _) (.cons (.int _) .nil))) (dp_sp t)
theorem dp_en : ∀ {vs : List V} {es : List (Ky × Sps)}, EntsA H vs es → DpAll K H vs (es.map eD1)
  | [], [], _ => .nil
  | _ :: _, e :: _, ⟨⟨p, ka, sa, ev, q, hk, ws, hw, hp⟩, t⟩ => .cons (by
      rw [ev]
      exact .tup (SqT.of q) (.cons (.tup (SqT.of hk) (dp_key e.1)) (.cons (.tup (SqT.of hw) (dp_sp hp)) .nil))) (dp_en t)
theorem dpE {a : Addr} {vs : List V} {es : List (Ky × Sps)} (h : H a = some (.lst vs)) (he : EntsA H vs es) : Dp K H (.ref a) (eD es) := .lst (SqL.of h) (dp_en he)
end
theorem eD_eqv {es : List (Ky × Sps)} (g : ∀ e ∈ es, GoodK e.1) : PyData.eqv (eD es) (eD es) = true := by
  have := eD_shaped g
  exact SeqAt.eqv_refl _ (SeqAt.canLay_of_shaped this)
end Ask

set_option Elab.async false
set_option linter.all false
set_option maxRecDepth 100000
set_option maxHeartbeats 4000000
namespace Ask
open PySem PySem.Spec PyProof.Rows L2 AskR
/-! ### put -/
def OptA (H : Hp) (v : V) : Option Tr → Prop
  | none => v = .non
  | some t => ∃ a, v = .ref a ∧ TreeAt H a t
theorem OptA.sameT {H H' : Hp} (h : SameT H H') {v : V} : ∀ {t : Option Tr}, OptA H v t → OptA H' v t
  | none, e => e
  | some _, ⟨a, e, q⟩ => ⟨a, e, q.sameT h⟩
def OAll (o : Option Tr) : Prop := ∀ t, o = some t → AllG t
def putO (k : Ky) (sp : Sps) : Option Tr → Option Tr
  | none => if sp = [] then none else some (.leaf k sp)
  | some t => putW oct k sp t
theorem WF.allG {t : Tr} (h : WF oct GoodK t) : AllG t := h.all
theorem way_back (o : List Int) : ∀ t : Tr, (wayT oct o t).1.foldr upT (some (wayT oct o t).2) = some t
  | .leaf k s => rfl
  | .node l r => by
    rw [wayT]
    by_cases a : stopT oct (.node l r) o = true
    · rw [if_pos a]; rfl
    · rw [if_neg a]
      by_cases b : rightT oct (.node l r) o = true
      · rw [if_pos b]
        show upT (.node l r, true) ((wayT oct o r).1.foldr upT (some (wayT oct o r).2)) = _
        rw [way_back o r]
        rfl
      · rw [if_neg b]
        show upT (.node l r, false) ((wayT oct o l).1.foldr upT (some (wayT oct o l).2)) = _
        rw [way_back o l]
        rfl
theorem join_all {t : Tr} {k : Ky} {sp : Sps} (h : AllG t) (g : GoodK k) : AllG (joinT oct t k sp) := by
  unfold joinT
  split
  · exact AllG.node (AllG.leaf g) h
  · exact AllG.node h (AllG.leaf g)
theorem SpA.emp {H : Hp} {p : Addr} {s : Sps} (h : SpA H p s) (K : PySem.W.Frag) : TruV K (.ref p) H (!s.isEmpty) := by
  obtain ⟨vs, a, b⟩ := h
  refine .inr (.inl ⟨vs, SqT.of a, ?_⟩)
  have := b.len
  cases vs with
  | nil => cases s with
    | nil => rfl
    | cons _ _ => simp at this
  | cons _ _ => cases s with
    | nil => simp at this
    | cons _ _ => rfl
theorem put_test {K : PySem.W.Frag} {σ : L2.St} {H : Hp} {R : Bool → Hp → Prop} {pl o lo hi : Addr} {kd : Str} {n d : Int} {u v : V} {x1 x2 y : List Int} (h6 : σ[6]? = some (some (.ref pl))) (h4 : σ[4]? = some (some (.ref o)))
    (e : H pl = some (.tup [.str kd, .int n, .ref lo, .ref hi, .int d, u, v])) (e1 : IntsA H lo x1) (e2 : IntsA H hi x2) (e3 : IntsA H o y) (q : R (decide (x1 ≠ y ∨ x2 ≠ y)) H) :
    tOr (tTest (tOp (rNeD K) (tOp (rIxT K) (tVar 6) (tC (.int 2))) (tVar 4))) (tTest (tOp (rNeD K) (tOp (rIxT K) (tVar 6) (tC (.int 3))) (tVar 4))) σ H R := by
  refine ⟨_, h6, pl, _, _, _, rfl, rfl, SqT.of e, at_of (j := 2) rfl rfl, _, h4, iD x1, iD y, dpI e1, dpI e3, iD_shaped _, iD_shaped _, _, rfl, ?_⟩
  rw [iD_eqv]
  by_cases c : x1 = y
  · rw [decide_eq_true c]
    refine iteF ⟨_, h6, pl, _, _, _, rfl, rfl, SqT.of e, at_of (j := 3) rfl rfl, _, h4, iD x2, iD y, dpI e2, dpI e3, iD_shaped _, iD_shaped _, _, rfl, ?_⟩
    rw [iD_eqv]
    by_cases c2 : x2 = y
    · rw [decide_eq_false (by rintro (z | z); exact z c; exact z c2)] at q
      rw [decide_eq_true c2]
      exact q
    · rw [decide_eq_true (.inr c2)] at q
      rw [decide_eq_false c2]
      exact q
  · rw [decide_eq_true (.inl c)] at q
    rw [decide_eq_false c]
    exact iteT q
section
variable {P : Program} {w : World} {K : PySem.W.Frag} {mg : Str → Option Value} {base : Heap} {f : Addr} {fd : FuncData} {C : Addr}
abbrev sPut : Stmt := topS 20
def spPut (C : Addr) : Sp := fun vs H Q _ => ∃ (h ka sa : Addr) (tv : V) (ot : Option Tr) (k : Ky) (sp : Sps), vs = [.ref h, tv, .ref ka, .ref sa] ∧ HashA C H h ∧ OptA H tv ot ∧ (∀ t, ot = some t → WF oct GoodK t ∧ t.size ≤ 100) ∧ KeyA H ka k ∧ GoodK k ∧ SpA H sa sp ∧ sp.length ≤ 100 ∧
  ∀ H' v, Same H H' → OptA H' v (putO k sp ot) → Q v H'
theorem scPut : FnScope ["hasher", "tree", "key", "spans", "octets", "way", "place", "new", "node", "right", "sibling"] ["hasher", "tree", "key", "spans"] (C8.fnScope sPut) := C8.fnScope_by (by decide +kernel)
theorem cal_put (Z : Free mg) (cK : C8.Cal P w K mg base 3 "key_octets" spKeyO []) (cW : C8.Cal P w K mg base 2 "way_to" spWay []) (cL : C8.Cal P w K mg base 4 "make_leaf" (spMkL C) []) (cN : C8.Cal P w K mg base 2 "make_node" (spMkN C) []) (cJ : C8.Cal P w K mg base 3 "join" (spJoin C) []) (F : C8.Def K mg "put" sPut f fd) (b : Binds K fd ["hasher", "tree", "key", "spans"] []) : C8.Cal P w K mg base 5 "put" (spPut C) [] := by
  refine C8.cal0 F b .nil scPut (fun vs H Q E h => ?_) (fun cdv A outer s H vs Q E hr h => ?_)
  · obtain ⟨h, ka, sa, tv, ot, k, sp, rfl, _⟩ := h
    rfl
  · obtain ⟨h, ka, sa, tv, ot, k, sp, rfl, hh, hot, wfo, hk, gk, hs, ls, q⟩ := h
    refine ⟨_, pss_cons (ps_if (pt_cmp (pc_isN (pv 1))) (pss_one (ps_ret (pe_ifExp (pt_truth (pv 3) (fun _ => rfl)) (C8.pe_c cL hr (Nat.le_refl _) (by rfl) (pa_cons (pv 0) (pa_cons (pv 2) (pa_cons (pv 3) pa_nil)))) pe_non))) pss_nil)
      (pss_cons (ps_set (i := 4) scPut.nd rfl (.inl rfl) (C8.pe_c cK hr (by decide) (by rfl) (pa_cons (pv 2) pa_nil)))
      (pss_cons (ps_asg (C8.pe_c cW hr (by decide) (by rfl) (pa_cons (pv 1) (pa_cons (pv 4) pa_nil))) (pg_tup rfl (pgs_cons (pg_name (i := 5) scPut.nd rfl (.inl rfl)) (pgs_cons (pg_name (i := 6) scPut.nd rfl (.inl rfl)) pgs_nil))))
      (pss_cons (ps_set (i := 7) scPut.nd rfl (.inl rfl) pe_non)
      (C8.pss_cut (ps_if (PW.pt (pw_or (pt_cmpR (op_neD hr.units) (pe_ix ix_tup (pv 6) pe_int (fun _ _ => rfl)) (pv 4) (nomark _)) (pw_or1 (pt_cmpR (op_neD hr.units) (pe_ix ix_tup (pv 6) pe_int (fun _ _ => rfl)) (pv 4) (nomark _)))))
        (pss_cons (ps_if (pt_not (pt_truth (pv 3) (fun _ => rfl))) (pss_one (ps_ret (pv 1))) pss_nil)
          (pss_one (ps_set (i := 7) scPut.nd rfl (.inl rfl) (C8.pe_c cJ hr (by decide) (by rfl) (pa_cons (pv 0) (pa_cons (pv 6) (pa_cons (C8.pe_c cL hr (by decide) (by rfl) (pa_cons (pv 0) (pa_cons (pv 2) (pa_cons (pv 3) pa_nil)))) pa_nil)))))))
        (pss_one (ps_if (pt_truth (pv 3) (fun _ => rfl)) (pss_one (ps_set (i := 7) scPut.nd rfl (.inl rfl) (C8.pe_c cL hr (by decide) (by rfl) (pa_cons (pv 0) (pa_cons (pv 2) (pa_cons (pv 3) pa_nil)))))) pss_nil)))
      (pss_cons (ps_for PassesOwn.never rfl (pi_reversed (by rfl) Z.rev (pa_cons (pv 5) pa_nil)) (pg_tup rfl (pgs_cons (pg_name (i := 8) scPut.nd rfl (.inl rfl)) (pgs_cons (pg_name (i := 9) scPut.nd rfl (.inl rfl)) pgs_nil)))
        (pss_cons (ps_set (i := 10) scPut.nd rfl (.inl rfl) (pe_ifExp (pt_val (pv 9)) (pe_ix ix_tup (pv 8) pe_int (fun _ _ => rfl)) (pe_ix ix_tup (pv 8) pe_int (fun _ _ => rfl))))
        (pss_one (ps_if (pt_cmp (pc_isN (pv 7))) (pss_one (ps_set (i := 7) scPut.nd rfl (.inl rfl) (pv 10)))
          (pss_one (ps_if (pt_val (pv 9)) (pss_one (ps_set (i := 7) scPut.nd rfl (.inl rfl) (C8.pe_c cN hr (by decide) (by rfl) (pa_cons (pv 0) (pa_cons (pv 10) (pa_cons (pv 7) pa_nil))))))
            (pss_one (ps_set (i := 7) scPut.nd rfl (.inl rfl) (C8.pe_c cN hr (by decide) (by rfl) (pa_cons (pv 0) (pa_cons (pv 7) (pa_cons (pv 10) pa_nil))))))))))))
      (pss_one (ps_ret (pv 7)))))))), ?_⟩
    cases ot with
    | none =>
      obtain rfl : tv = .non := hot
      refine ⟨_, rfl, _, rfl, iteT ⟨_, rfl, _, hs.emp K, ?_⟩⟩
      cases sp with
      | nil => exact iteF (q H .non (Same.refl H) rfl)
      | cons s1 sp => exact iteT ⟨_, rfl, _, rfl, _, rfl, h, ka, sa, k, _, rfl, hh, hk, gk, hs, ls, fun H' p s1 t1 => q H' _ s1 ⟨p, rfl, t1⟩⟩
    | some t0 =>
      obtain ⟨a0, rfl, ht0⟩ := hot
      obtain ⟨wf0, sz0⟩ := wfo t0 rfl
      refine ⟨_, rfl, _, rfl, iteF ?_⟩
      refine ⟨_, rfl, ka, k, rfl, hk, gk, fun H1 o s1 ho => ?_⟩
      refine ⟨_, rfl, _, rfl, a0, o, t0, k, rfl, ht0.same s1, wf0, sz0, ho, gk, fun H2 p2 s2 hw2 => ?_⟩
      obtain ⟨wa, pl, vs, hp2, hwa, hE, hpl⟩ := hw2
      obtain ⟨wall, wpl⟩ := way_all (oct k) wf0
      refine ⟨p2, _, rfl, SqT.of hp2, rfl, _, _, rfl, _, _, rfl, rfl, ?_⟩
      have s12 := s1.trans s2
      have eput : putO k sp (some t0) = (wayT oct (oct k) t0).1.foldr upT (baseT oct (wayT oct (oct k) t0).2 k sp) := rfl
      have back := way_back (oct k) t0
      have wlen := lenW (t := t0) (oct k)
      refine ⟨fun σ' H' => ∃ (nv : V) (z8 z9 z10 : Option V), σ' = [some (.ref h), some (.ref a0), some (.ref ka), some (.ref sa), some (.ref o), some (.ref wa), some (.ref pl), some nv, z8, z9, z10] ∧ Same H2 H' ∧ OptA H' nv (baseT oct (wayT oct (oct k) t0).2 k sp) ∧ OAll (baseT oct (wayT oct (oct k) t0).2 k sp), ?_, ?_⟩
      · generalize (wayT oct (oct k) t0).2 = t at *
        obtain ⟨kd, lo, hi, d, x, y, ⟨e, e1, e2⟩, _⟩ := hpl.five
        refine put_test rfl rfl e e1 e2 (s2 _ _ ho) ?_
        refine ite2 (fun c => ?_) (fun c => ?_)
        · have c' := of_decide_eq_true c
          have eb : baseT oct t k sp = if sp = [] then some t else some (joinT oct t k sp) := by
            unfold baseT
            rw [if_pos c']
          refine ⟨_, rfl, _, (hs.same s12).emp K, ?_⟩
          cases sp with
          | nil =>
            refine iteT ⟨_, rfl, q H2 _ s12 ?_⟩
            rw [eput, eb, if_pos rfl, back]
            exact ⟨a0, rfl, ht0.same s12⟩
          | cons y1 sp =>
            refine iteF ?_
            rw [if_neg (List.cons_ne_nil _ _)] at eb
            refine ⟨_, rfl, _, rfl, _, rfl, _, rfl, _, rfl, h, ka, sa, k, _, rfl, hh.same s12, s12 _ _ hk, gk, hs.same s12, ls, fun H3 p3 s3 h3 => ?_⟩
            refine ⟨h, pl, p3, t, k, _, rfl, hh.same (s12.trans s3), hpl.same s3, wpl.allG, h3, gk, fun H4 p4 s4 h4 => ?_⟩
            refine ⟨_, _, _, _, rfl, s3.trans s4, ?_, ?_⟩
            · rw [eb]
              exact ⟨p4, rfl, h4⟩
            · rw [eb]
              intro t' z
              cases z
              exact join_all wpl.allG gk
        · have c' : ¬ (oct t.low ≠ oct k ∨ oct t.high ≠ oct k) := fun z => c (decide_eq_true z)
          have eb : baseT oct t k sp = if sp = [] then none else some (.leaf k sp) := by
            unfold baseT
            rw [if_neg c']
          refine ⟨_, rfl, _, (hs.same s12).emp K, ?_⟩
          cases sp with
          | nil =>
            rw [if_pos rfl] at eb
            refine iteF ⟨.non, _, _, _, rfl, Same.refl H2, ?_, ?_⟩
            · rw [eb]
              exact rfl
            · rw [eb]
              intro t' z
              cases z
          | cons y1 sp =>
            refine iteT ?_
            rw [if_neg (List.cons_ne_nil _ _)] at eb
            refine ⟨_, rfl, _, rfl, _, rfl, h, ka, sa, k, _, rfl, hh.same s12, s12 _ _ hk, gk, hs.same s12, ls, fun H3 p3 s3 h3 => ?_⟩
            refine ⟨_, _, _, _, rfl, s3, ?_, ?_⟩
            · rw [eb]
              exact ⟨p3, rfl, h3⟩
            · rw [eb]
              intro t' z
              cases z
              exact AllG.leaf gk
      · rintro σ' H3 ⟨nv, z8, z9, z10, rfl, s3, hnv, hal⟩
        have vl := hE.len
        refine ⟨_, rfl, wa, vs, rfl, SqL.of (s3 _ _ hwa), ?_⟩
        generalize hW : (wayT oct (oct k) t0).1 = W at *
        generalize hB : baseT oct (wayT oct (oct k) t0).2 k sp = B at *
        refine for_it (walk_rev (K := K) (a := wa) (xs := vs)) (fun i σ H' => ∃ (nv : V) (z8 z9 z10 : Option V), σ = [some (.ref h), some (.ref a0), some (.ref ka), some (.ref sa), some (.ref o), some (.ref wa), some (.ref pl), some nv, z8, z9, z10] ∧ Same H2 H' ∧ OptA H' nv ((W.drop (W.length - i)).foldr upT B) ∧ OAll ((W.drop (W.length - i)).foldr upT B)) ⟨nv, z8, z9, z10, rfl, s3, ?_, ?_⟩ (fun i σ H' _ ⟨_, _, _, _, _, s4, _⟩ => SqL.of (s4 _ _ hwa)) ?_ ?_
        · rw [Nat.sub_zero, List.drop_length]
          exact hnv
        · rw [Nat.sub_zero, List.drop_length]
          exact hal
        · rintro i x σ H4 H5 hi ⟨nv, z8, z9, z10, rfl, s4, hv, ha⟩ ⟨rfl, hx⟩
          obtain ⟨p, a, w0, rfl, hw0, hp, ht⟩ := hE.get hx
          rw [vl] at hw0 hi
          have hlt : W.length - 1 - i < W.length := by omega
          have ew : W[W.length - 1 - i] = w0 := by
            rw [List.getElem?_eq_getElem hlt] at hw0
            exact Option.some.inj hw0
          have ed : W.drop (W.length - (i + 1)) = w0 :: W.drop (W.length - i) := by
            have e1 : W.length - (i + 1) = W.length - 1 - i := by omega
            have e2 : W.length - 1 - i + 1 = W.length - i := by omega
            rw [e1, List.drop_eq_getElem_cons hlt, ew, e2]
          obtain ⟨wfx, l, r, ex⟩ := wall w0 (List.mem_of_getElem? hw0)
          obtain ⟨tn, rb⟩ := w0
          obtain rfl : tn = .node l r := ex
          rw [ed, List.foldr_cons]
          generalize hN : (W.drop (W.length - i)).foldr upT B = N at *
          obtain ⟨lo, hi', lp, rp, d, e, _, _, hl, hr'⟩ := ht
          have al : AllG l := (WF.allG wfx).l
          have ar : AllG r := (WF.allG wfx).r
          have s14 := s12.trans s4
          refine ⟨p, _, rfl, SqT.of (s4 _ _ hp), rfl, _, _, rfl, _, _, rfl, rfl, ?_⟩
          cases rb with
          | true =>
            refine ⟨_, rfl, _, rfl, iteT ⟨_, rfl, a, _, _, _, rfl, rfl, SqT.of (s4 _ _ e), at_of (j := 5) rfl rfl, ?_⟩⟩
            cases N with
            | none =>
              obtain rfl : nv = .non := hv
              exact ⟨_, rfl, _, rfl, iteT ⟨_, rfl, _, _, _, _, rfl, s4, ⟨lp, rfl, hl.same s4⟩, fun t z => by cases z; exact al⟩⟩
            | some tn =>
              obtain ⟨an, rfl, hn⟩ := hv
              have an' := ha tn rfl
              refine ⟨_, rfl, _, rfl, iteF ⟨_, rfl, _, rfl, iteT ⟨_, rfl, _, rfl, _, rfl, h, lp, an, l, tn, rfl, hh.same s14, hl.same s4, al, hn, an', fun H6 p6 s6 h6 => ?_⟩⟩⟩
              exact ⟨_, _, _, _, rfl, s4.trans s6, ⟨p6, rfl, h6⟩, fun t z => by cases z; exact al.node an'⟩
          | false =>
            refine ⟨_, rfl, _, rfl, iteF ⟨_, rfl, a, _, _, _, rfl, rfl, SqT.of (s4 _ _ e), at_of (j := 6) rfl rfl, ?_⟩⟩
            cases N with
            | none =>
              obtain rfl : nv = .non := hv
              exact ⟨_, rfl, _, rfl, iteT ⟨_, rfl, _, _, _, _, rfl, s4, ⟨rp, rfl, hr'.same s4⟩, fun t z => by cases z; exact ar⟩⟩
            | some tn =>
              obtain ⟨an, rfl, hn⟩ := hv
              have an' := ha tn rfl
              refine ⟨_, rfl, _, rfl, iteF ⟨_, rfl, _, rfl, iteF ⟨_, rfl, _, rfl, _, rfl, h, an, rp, tn, r, rfl, hh.same s14, hn, an', hr'.same s4, ar, fun H6 p6 s6 h6 => ?_⟩⟩⟩
              exact ⟨_, _, _, _, rfl, s4.trans s6, ⟨p6, rfl, h6⟩, fun t z => by cases z; exact an'.node ar⟩
        · rintro σ H4 ⟨nv, z8, z9, z10, rfl, s4, hv, _⟩
          rw [vl, Nat.sub_self] at hv
          refine ⟨_, rfl, q H4 nv (s12.trans s4) ?_⟩
          rw [eput]
          exact hv
end
end Ask

set_option Elab.async false
set_option linter.all false
set_option maxRecDepth 100000
set_option maxHeartbeats 4000000
namespace Ask
open PySem PySem.Spec PyProof.Rows L2 AskR
/-! ### meets -/
def inR (fs ls : List Int) (e : Ky × Sps) : Bool := !lx (oct e.1) fs && lx (oct e.1) ls
def toR (fs ls : List Int) (l : List (Ky × Sps)) : List (Ky × Sps) := l.filter (inR fs ls)
def mtB (fs ls : List Int) (t : Tr) : Bool := lx (oct t.low) ls && !lx (oct t.high) fs
theorem key_low : ∀ {t : Tr}, WF oct GoodK t → ∀ e ∈ t.toL, lx (oct e.1) (oct t.low) = false
  | .leaf k s, _, e, m => by
    rw [List.mem_singleton.mp m]
    exact lx_irrefl _
  | .node l r, h, e, m => by
    obtain ⟨hl, hr, _⟩ := id h
    rcases List.mem_append.mp m with m | m
    · exact key_low hl e m
    · obtain ⟨e0, m0, q0⟩ := l.low_mem
      have := (List.pairwise_append.mp (WF.sorted goodK h)).2.2 e0 m0 e m
      rw [q0] at this
      exact lx_asymm this
theorem key_high : ∀ {t : Tr}, WF oct GoodK t → ∀ e ∈ t.toL, lx (oct t.high) (oct e.1) = false
  | .leaf k s, _, e, m => by
    rw [List.mem_singleton.mp m]
    exact lx_irrefl _
  | .node l r, h, e, m => by
    obtain ⟨hl, hr, _⟩ := id h
    rcases List.mem_append.mp m with m | m
    · obtain ⟨e0, m0, q0⟩ := r.high_mem
      have := (List.pairwise_append.mp (WF.sorted goodK h)).2.2 e m e0 m0
      rw [q0] at this
      exact lx_asymm this
    · exact key_high hr e m
theorem toR_none {fs ls : List Int} {t : Tr} (h : WF oct GoodK t) (hm : mtB fs ls t = false) : toR fs ls t.toL = [] := by
  unfold toR
  rw [List.filter_eq_nil_iff]
  intro e he hin
  unfold inR at hin
  obtain ⟨a, b⟩ := Bool.and_eq_true_iff.mp hin
  have a' : lx (oct e.1) fs = false := by simpa using a
  have lo := key_low h e he
  have hi := key_high h e he
  have h1 : lx (oct t.low) ls = true := lx_le_lt lo b
  have h2 : lx (oct t.high) fs = false := by
    cases z : lx (oct t.high) fs with
    | false => rfl
    | true => rw [lx_le_lt hi z] at a'; cases a'
  unfold mtB at hm
  rw [h1, h2] at hm
  cases hm
theorem toR_app (fs ls : List Int) (a b : List (Ky × Sps)) : toR fs ls (a ++ b) = toR fs ls a ++ toR fs ls b := List.filter_append ..
theorem toR_leaf {fs ls : List Int} {k : Ky} {s : Sps} (hm : mtB fs ls (.leaf k s) = true) : toR fs ls (T.leaf k s : Tr).toL = [(k, s)] := by
  have : inR fs ls (k, s) = true := by
    unfold mtB at hm
    unfold inR
    rw [Bool.and_comm]
    exact hm
  show List.filter _ [(k, s)] = _
  rw [List.filter_cons_of_pos this]
  rfl
/-! ### the stack -/
def nd : Tr → Nat
  | .leaf _ _ => 1
  | .node l r => nd l + nd r + 1
theorem nd_pos : ∀ t : Tr, 0 < nd t
  | .leaf _ _ => Nat.zero_lt_one
  | .node _ _ => Nat.succ_pos _
theorem nd_size : ∀ t : Tr, nd t + 1 = 2 * t.size
  | .leaf _ _ => rfl
  | .node l r => by
    have := nd_size l
    have := nd_size r
    show nd l + nd r + 1 + 1 = 2 * (l.size + r.size)
    omega
theorem toL_len : ∀ t : Tr, t.toL.length = t.size
  | .leaf _ _ => rfl
  | .node l r => by
    show (l.toL ++ r.toL).length = l.size + r.size
    rw [List.length_append, toL_len l, toL_len r]
def nds (ts : List Tr) : Nat := (ts.map nd).sum
theorem nds_app (a b : List Tr) : nds (a ++ b) = nds a + nds b := by
  unfold nds
  rw [List.map_append, List.sum_append]
theorem nds_one (t : Tr) : nds [t] = nd t := by simp [nds]
theorem nds_len : ∀ ts : List Tr, ts.length ≤ nds ts
  | [] => Nat.zero_le _
  | t :: ts => by
    have := nds_len ts
    have := nd_pos t
    have e : nds (t :: ts) = nd t + nds ts := by simp [nds]
    rw [List.length_cons, e]
    omega
def StkA (H : Hp) : List V → List Tr → Prop
  | [], [] => True
  | v :: vs, t :: ts => (∃ a, v = .ref a ∧ TreeAt H a t) ∧ StkA H vs ts
  | _, _ => False
theorem StkA.sameT {H H' : Hp} (h : SameT H H') : ∀ {vs : List V} {ts : List Tr}, StkA H vs ts → StkA H' vs ts
  | [], [], _ => trivial
  | _ :: _, _ :: _, ⟨⟨a, e, t⟩, r⟩ => ⟨⟨a, e, t.sameT h⟩, StkA.sameT h r⟩
theorem StkA.len {H : Hp} : ∀ {vs : List V} {ts : List Tr}, StkA H vs ts → vs.length = ts.length
  | [], [], _ => rfl
  | _ :: _, _ :: _, ⟨_, r⟩ => by rw [List.length_cons, List.length_cons, StkA.len r]
theorem StkA.snoc {H : Hp} {a : Addr} {t : Tr} (h : TreeAt H a t) : ∀ {vs : List V} {ts : List Tr}, StkA H vs ts → StkA H (vs ++ [.ref a]) (ts ++ [t])
  | [], [], _ => ⟨⟨a, rfl, h⟩, trivial⟩
  | _ :: _, _ :: _, ⟨q, r⟩ => ⟨q, StkA.snoc h r⟩
/-- the last of a stack -/
theorem StkA.last {H : Hp} : ∀ {vs : List V} {ts : List Tr}, StkA H vs ts → vs ≠ [] → ∃ us a ss t, vs = us ++ [.ref a] ∧ ts = ss ++ [t] ∧ TreeAt H a t ∧ StkA H us ss
  | [], [], _, n => absurd rfl n
  | [_], [t], ⟨⟨a, e, h⟩, _⟩, _ => ⟨[], a, [], t, by rw [e]; rfl, rfl, h, trivial⟩
  | v :: v2 :: vs, t :: t2 :: ts, ⟨q, r⟩, _ => by
    obtain ⟨us, a, ss, u, e1, e2, h, k⟩ := StkA.last r (List.cons_ne_nil _ _)
    exact ⟨v :: us, a, t :: ss, u, by rw [e1]; rfl, by rw [e2]; rfl, h, q, k⟩
  | [_], _ :: _ :: _, h, _ => (show False from h.2).elim
  | _ :: _ :: _, [_], h, _ => (show False from h.2).elim
def restL (ts : List Tr) : List (Ky × Sps) := ts.reverse.flatMap T.toL
theorem restL_snoc (ts : List Tr) (t : Tr) : restL (ts ++ [t]) = t.toL ++ restL ts := by
  unfold restL
  rw [List.reverse_append, List.reverse_singleton, List.singleton_append, List.flatMap_cons]
def toLO : Option Tr → List (Ky × Sps)
  | none => []
  | some t => t.toL
section
variable {P : Program} {w : World} {K : PySem.W.Frag} {mg : Str → Option Value} {base : Heap} {f : Addr} {fd : FuncData} {C : Addr}
abbrev sMeets : Stmt := topS 21
def spMeets : Sp := fun vs H Q _ => ∃ (a x y : Addr) (t : Tr) (fs ls : List Int), vs = [.ref a, .ref x, .ref y] ∧ TreeAt H a t ∧ IntsA H x fs ∧ IntsA H y ls ∧ Q (.bl (mtB fs ls t)) H
theorem scMeets : FnScope ["tree", "first", "last"] ["tree", "first", "last"] (C8.fnScope sMeets) := C8.fnScope_by (by decide +kernel)
theorem cal_meets (F : C8.Def K mg "meets" sMeets f fd) (b : Binds K fd ["tree", "first", "last"] []) : C8.Cal P w K mg base 1 "meets" spMeets [] := by
  refine C8.cal0 F b .nil scMeets (fun vs H Q E h => ?_) (fun cdv A outer s H vs Q E hr h => ?_)
  · obtain ⟨a, x, y, t, fs, ls, rfl, _⟩ := h
    rfl
  · obtain ⟨a, x, y, t, fs, ls, rfl, ht, hx, hy, q⟩ := h
    have hu := hr.units0
    refine ⟨_, pss_one (ps_ret (pe_and (pe_cmpR (op_ltT hu) (pe_ix ix_tup (pv 0) pe_int (fun _ _ => rfl)) (pv 2) (nomark _)) (pe_one (pe_cmpR (op_geX hu) (pe_ix ix_tup (pv 0) pe_int (fun _ _ => rfl)) (pv 1) (nomark _))))), ?_⟩
    obtain ⟨kd, lo, hi, d1, x', y', ⟨e, e1, e2⟩, _⟩ := ht.five
    unfold mtB at q
    rw [lx_eq, lx_eq] at q
    refine ⟨_, rfl, a, _, _, _, rfl, rfl, SqT.of e, at_of (j := 2) rfl rfl, _, rfl, lo, y, oct t.low, ls, rfl, rfl, SqT.of e1, SqT.of hy, _, rfl, ?_⟩
    cases z : HT.lexLt (oct t.low) ls with
    | false =>
      rw [z] at q
      exact iteF q
    | true =>
      rw [z] at q
      exact iteT ⟨_, rfl, a, _, _, _, rfl, rfl, SqT.of e, at_of (j := 3) rfl rfl, _, rfl, hi, x, oct t.high, fs, rfl, rfl, SqT.of e2, SqT.of hx, q⟩
/-! ### entries -/
abbrev sEnts : Stmt := topS 22
def spEnts : Sp := fun vs H Q _ => ∃ (tv : V) (x y : Addr) (ot : Option Tr) (fs ls : List Int), vs = [tv, .ref x, .ref y] ∧ OptA H tv ot ∧ (∀ t, ot = some t → WF oct GoodK t ∧ t.size ≤ 100) ∧ IntsA H x fs ∧ IntsA H y ls ∧ ∀ H' p vs', Same H H' → H' p = some (.lst vs') → EntsA H' vs' (toR fs ls (toLO ot)) → Q (.ref p) H'
theorem scEnts : FnScope ["tree", "first", "last", "found", "waiting", "part"] ["tree", "first", "last"] (C8.fnScope sEnts) := C8.fnScope_by (by decide +kernel)
/-- the word of the loop -/
def EntI (H : Hp) (tv : V) (x y fo wa : Addr) (fs ls : List Int) (ot : Option Tr) (m : Nat) (σ : L2.St) (H' : Hp) : Prop := ∃ (vs us : List V) (done : List (Ky × Sps)) (ts : List Tr) (z5 : Option V),
  σ = [some tv, some (.ref x), some (.ref y), some (.ref fo), some (.ref wa), z5] ∧ m = nds ts ∧ Same H H' ∧ H' fo = some (.lst vs) ∧ H' wa = some (.lst us) ∧ EntsA H' vs done ∧ StkA H' us ts ∧ (∀ t ∈ ts, WF oct GoodK t) ∧ nds ts ≤ 200 ∧ done ++ toR fs ls (restL ts) = toR fs ls (toLO ot)
theorem toLO_len {ot : Option Tr} (h : ∀ t, ot = some t → WF oct GoodK t ∧ t.size ≤ 100) : (toLO ot).length ≤ 100 := by
  cases ot with
  | none => exact Nat.zero_le _
  | some t => rw [show toLO (some t) = t.toL from rfl, toL_len]; exact (h t rfl).2
theorem toR_len (fs ls : List Int) (l : List (Ky × Sps)) : (toR fs ls l).length ≤ l.length := List.length_filter_le ..
theorem cal_ents (cM : C8.Cal P w K mg base 1 "meets" spMeets []) (F : C8.Def K mg "entries" sEnts f fd) (b : Binds K fd ["tree", "first", "last"] []) : C8.Cal P w K mg base 2 "entries" spEnts [] := by
  refine C8.cal0 F b .nil scEnts (fun vs H Q E h => ?_) (fun cdv A outer s H vs Q E hr h => ?_)
  · obtain ⟨tv, x, y, ot, fs, ls, rfl, _⟩ := h
    rfl
  · obtain ⟨tv, x, y, ot, fs, ls, rfl, hot, wfo, hx, hy, q⟩ := h
    refine ⟨_, pss_cons (ps_set (i := 3) scEnts.nd rfl (.inl rfl) (pe_lst pa_nil))
      (C8.pss_cut (ps_set (i := 4) scEnts.nd rfl (.inl rfl) (pe_ifExp (pt_cmp (pc_isN (pv 0))) (pe_lst pa_nil) (pe_lst (pa_cons (pv 0) pa_nil))))
      (pss_cons (ps_while PassesOwn.never (pt_truth (pv 4) (fun _ => rfl))
        (pss_cons (ps_set (i := 5) scEnts.nd rfl (.inl rfl) (pe_bm0 PySem.F.plainAttrs_list PySem.F.slot_list_pop PySem.F.type_list_pop mt_pop (pv 4)))
        (pss_one (ps_if (pt_val (C8.pe_c cM hr (Nat.le_refl _) (by rfl) (pa_cons (pv 5) (pa_cons (pv 1) (pa_cons (pv 2) pa_nil)))))
          (pss_cons (ps_if (pt_cmpR op_eq (pe_ix ix_tup (pv 5) pe_int (fun _ _ => rfl)) pe_str (nomark _)) pss_never pss_nil)
          (pss_one (ps_if (pt_cmpR op_eq (pe_ix ix_tup (pv 5) pe_int (fun _ _ => rfl)) pe_str (nomark _))
            (pss_one (ps_expr (pe_bm PySem.F.plainAttrs_list PySem.F.slot_list_append PySem.F.type_list_append mt_append (pv 3) (pa_cons (pe_tup (pa_cons (pe_ix ix_tup (pv 5) pe_int (fun _ _ => rfl)) (pa_cons (pe_ix ix_tup (pv 5) pe_int (fun _ _ => rfl)) pa_nil))) pa_nil))))
            (pss_cons (ps_expr (pe_bm PySem.F.plainAttrs_list PySem.F.slot_list_append PySem.F.type_list_append mt_append (pv 4) (pa_cons (pe_ix ix_tup (pv 5) pe_int (fun _ _ => rfl)) pa_nil)))
            (pss_one (ps_expr (pe_bm PySem.F.plainAttrs_list PySem.F.slot_list_append PySem.F.type_list_append mt_append (pv 4) (pa_cons (pe_ix ix_tup (pv 5) pe_int (fun _ _ => rfl)) pa_nil))))))))
          pss_nil))))
      (pss_one (ps_ret (pv 3))))), ?_⟩
    refine ⟨(by show 0 ≤ sizeLine; decide), fun fo nfo => ?_⟩
    have s0 := same_upd (o := .lst []) nfo
    have tl := toLO_len wfo
    refine ⟨fun σ' H' => ∃ (wa : Addr) (m : Nat), wa ≠ fo ∧ H wa = none ∧ EntI H tv x y fo wa fs ls ot m σ' H', ?_, ?_⟩
    · refine ⟨_, rfl, ?_⟩
      cases ot with
      | none =>
        obtain rfl : tv = .non := hot
        refine ⟨_, rfl, iteT ⟨(by show 0 ≤ sizeLine; decide), fun wa nwa => ⟨wa, 0, ne_of_none upd_same nwa |>.symm, s0.free nwa, ?_⟩⟩⟩
        have s1 := same_upd (o := .lst []) nwa
        exact ⟨[], [], [], [], none, rfl, rfl, s0.trans s1, s1 _ _ upd_same, upd_same, trivial, trivial, (fun _ m => by cases m), Nat.zero_le _, rfl⟩
      | some t =>
        obtain ⟨a, rfl, ht⟩ := hot
        refine ⟨_, rfl, iteF ⟨_, rfl, (by show 1 ≤ sizeLine; decide), fun wa nwa => ⟨wa, nds [t], ne_of_none upd_same nwa |>.symm, s0.free nwa, ?_⟩⟩⟩
        have s1 := same_upd (o := .lst [.ref a]) nwa
        have nz := nd_size t
        have tz := (wfo t rfl).2
        refine ⟨[], [.ref a], [], [t], none, rfl, rfl, s0.trans s1, s1 _ _ upd_same, upd_same, trivial, ⟨⟨a, rfl, ht.same (s0.trans s1)⟩, trivial⟩, (fun u m => by rw [List.mem_singleton.mp m]; exact (wfo t rfl).1), by rw [nds_one]; omega, ?_⟩
        show [] ++ toR fs ls (restL [t]) = toR fs ls t.toL
        rw [show restL [t] = t.toL by simp [restL]]
        rfl
    · rintro σ' H0 ⟨wa, m0, nwf, nwa, i0⟩
      refine ⟨EntI H tv x y fo wa fs ls ot, ⟨m0, i0⟩, ?_⟩
      rintro m σ H1 ⟨vs, us, done, ts, z5, rfl, rfl, s1, hfo, hwa, hE, hS, wts, n2, eq⟩
      refine ⟨_, rfl, !us.isEmpty, .inl ⟨us, SqL.of hwa, rfl⟩, ?_⟩
      have dl : done.length ≤ 100 := by
        have h1 := toR_len fs ls (toLO ot)
        rw [← eq, List.length_append] at h1
        omega
      have vl := hE.len
      by_cases ne : us = []
      · subst ne
        have : ts = [] := List.eq_nil_of_length_eq_zero hS.len.symm
        subst this
        refine iteF ⟨_, rfl, q H1 fo vs s1 hfo ?_⟩
        rw [← eq]
        show EntsA H1 vs (done ++ [])
        rw [List.append_nil]
        exact hE
      · obtain ⟨us', a, ts', t, rfl, rfl, ht, hS'⟩ := hS.last ne
        have em : (!(us' ++ [V.ref a]).isEmpty) = true := by simp
        rw [em]
        have wft := wts t (List.mem_append_right _ (List.mem_singleton.mpr rfl))
        have wts' : ∀ u ∈ ts', WF oct GoodK u := fun u hu => wts u (List.mem_append_left _ hu)
        have en : nds (ts' ++ [t]) = nds ts' + nd t := by rw [nds_app, nds_one]
        have np := nd_pos t
        have lt1 := nds_len ts'
        have ul := hS'.len
        rw [restL_snoc, toR_app] at eq
        refine iteT ⟨fun σ' H' => ∃ m', m' < nds (ts' ++ [t]) ∧ EntI H tv x y fo wa fs ls ot m' σ' H', fun _ _ z => z, ?_⟩
        refine ⟨_, rfl, .inl ⟨rfl, _, SqL.of hwa⟩, wa, _, .ref a, rfl, rfl, hwa, by simp, ?_⟩
        rw [List.dropLast_concat]
        have st2 : SameT H1 (upd H1 wa (.lst us')) := SameT.upd hwa (fun _ z => by cases z)
        have sH2 : Same H (upd H1 wa (.lst us')) := same_at s1 nwa
        have fo2 : (upd H1 wa (.lst us')) fo = some (.lst vs) := by rw [upd_ne nwf.symm]; exact hfo
        generalize hH2 : upd H1 wa (.lst us') = H2 at *
        have wa2 : H2 wa = some (.lst us') := by rw [← hH2]; exact upd_same
        refine ⟨_, rfl, _, rfl, _, rfl, a, x, y, t, fs, ls, rfl, ht.sameT st2, sH2 _ _ hx, sH2 _ _ hy, _, rfl, ite2 (fun hm => ?_) (fun hm => ?_)⟩
        · cases t with
          | leaf k s =>
            obtain ⟨o, ka, sa, d, e, ho, hk, hs⟩ := id (ht.sameT st2)
            refine ⟨_, rfl, a, _, _, _, rfl, rfl, SqT.of e, at_of (j := 0) rfl rfl, rfl, _, rfl, ite2 (fun z => absurd (of_decide_eq_true z) (fun y => ?_)) (fun _ => ?_)⟩
            · injection y with y
              exact absurd y (by decide +kernel)
            refine ⟨_, rfl, a, _, _, _, rfl, rfl, SqT.of e, at_of (j := 0) rfl rfl, rfl, _, rfl, ite2 (fun _ => ?_) (fun z => absurd (decide_eq_true rfl) z)⟩
            refine ⟨_, rfl, .inl ⟨rfl, _, SqL.of fo2⟩, _, rfl, a, _, _, _, rfl, rfl, SqT.of e, at_of (j := 5) rfl rfl, _, rfl, a, _, _, _, rfl, rfl, SqT.of e, at_of (j := 6) rfl rfl, (by show 2 ≤ sizeLine; decide), fun p np => ?_⟩
            have s3 := same_upd (o := .tup [.ref ka, .ref sa]) np
            have pf : p ≠ fo := fun z => by rw [z, fo2] at np; cases np
            have pw : p ≠ wa := fun z => by rw [z, wa2] at np; cases np
            refine ⟨fo, vs, _, rfl, rfl, s3 _ _ fo2, small1000 (by omega), ?_⟩
            have s4 : SameT H2 (upd (upd H2 p (.tup [.ref ka, .ref sa])) fo (.lst (vs ++ [.ref p]))) := (SameT.of s3).trans (SameT.upd (s3 _ _ fo2) (fun _ z => by cases z))
            have s5 : Same H (upd (upd H2 p (.tup [.ref ka, .ref sa])) fo (.lst (vs ++ [.ref p]))) := same_at (sH2.trans s3) nfo
            refine ⟨nds ts', by omega, vs ++ [.ref p], us', done ++ [(k, s)], ts', _, rfl, rfl, s5, upd_same, ?_, ?_, (hS'.sameT st2).sameT s4, wts', by omega, ?_⟩
            · rw [upd_ne nwf, upd_ne pw.symm]
              exact wa2
            · refine ((hE.sameT st2).sameT s4).snoc (ka := ka) (sa := sa) ?_ (s4 _ _ hk) (hs.sameT s4)
              rw [upd_ne pf, upd_same]
            · rw [← eq, toR_leaf hm, List.append_assoc]
          | node l r =>
            obtain ⟨lo, hi, lp, rp, d, e, e1, e2, hl, hr'⟩ := id (ht.sameT st2)
            obtain ⟨wl, wr, _⟩ := id wft
            refine ⟨_, rfl, a, _, _, _, rfl, rfl, SqT.of e, at_of (j := 0) rfl rfl, rfl, _, rfl, ite2 (fun z => absurd (of_decide_eq_true z) (fun y => ?_)) (fun _ => ?_)⟩
            · injection y with y
              exact absurd y (by decide +kernel)
            refine ⟨_, rfl, a, _, _, _, rfl, rfl, SqT.of e, at_of (j := 0) rfl rfl, rfl, _, rfl, ite2 (fun z => absurd (of_decide_eq_true z) (fun y => ?_)) (fun _ => ?_)⟩
            · injection y with y
              exact absurd y (by decide +kernel)
            refine ⟨_, rfl, .inl ⟨rfl, _, SqL.of wa2⟩, _, rfl, a, _, _, _, rfl, rfl, SqT.of e, at_of (j := 6) rfl rfl, wa, us', _, rfl, rfl, wa2, small1000 (by omega), ?_⟩
            have s3 : SameT H2 (upd H2 wa (.lst (us' ++ [.ref rp]))) := SameT.upd wa2 (fun _ z => by cases z)
            refine ⟨_, rfl, .inl ⟨rfl, _, SqL.of upd_same⟩, _, rfl, a, _, _, _, rfl, rfl, SqT.of (s3 _ _ e), at_of (j := 5) rfl rfl, wa, us' ++ [.ref rp], _, rfl, rfl, upd_same, small1000 (by rw [List.length_append, List.length_singleton]; omega), ?_⟩
            have s4 : SameT H2 (upd (upd H2 wa (.lst (us' ++ [.ref rp]))) wa (.lst (us' ++ [.ref rp] ++ [.ref lp]))) := s3.trans (SameT.upd upd_same (fun _ z => by cases z))
            have s5 : Same H (upd (upd H2 wa (.lst (us' ++ [.ref rp]))) wa (.lst (us' ++ [.ref rp] ++ [.ref lp]))) := same_at (same_at sH2 nwa) nwa
            have e3 : nds (ts' ++ [r] ++ [l]) + 1 = nds (ts' ++ [.node l r]) := by
              rw [nds_app, nds_app, nds_one, nds_one, en]
              show nds ts' + nd r + nd l + 1 = nds ts' + (nd l + nd r + 1)
              omega
            refine ⟨nds (ts' ++ [r] ++ [l]), by omega, vs, us' ++ [.ref rp] ++ [.ref lp], done, ts' ++ [r] ++ [l], _, rfl, rfl, s5, ?_, upd_same, (hE.sameT st2).sameT s4, (((hS'.sameT st2).sameT s4).snoc (hr'.sameT s4)).snoc (hl.sameT s4), ?_, by omega, ?_⟩
            · rw [upd_ne nwf.symm, upd_ne nwf.symm]
              exact fo2
            · intro u hu
              rcases List.mem_append.mp hu with hu | hu
              · rcases List.mem_append.mp hu with hu | hu
                · exact wts' u hu
                · rw [List.mem_singleton.mp hu]; exact wr
              · rw [List.mem_singleton.mp hu]; exact wl
            · rw [← eq, restL_snoc, restL_snoc, toR_app, toR_app, show (T.node l r : Tr).toL = l.toL ++ r.toL from rfl, toR_app, List.append_assoc]
        · have hm' : mtB fs ls t = false := by
            cases z : mtB fs ls t with
            | true => exact absurd z hm
            | false => rfl
          rw [toR_none wft hm', List.nil_append] at eq
          exact ⟨nds ts', by omega, vs, us', done, ts', _, rfl, rfl, sH2, fo2, wa2, hE.sameT st2, hS'.sameT st2, wts', by omega, eq⟩
end
end Ask

set_option Elab.async false
set_option linter.all false
set_option maxRecDepth 100000
set_option maxHeartbeats 4000000
namespace Ask
open PySem PySem.Spec PyProof.Rows L2 AskR
/-! ### TreeSource -/
structure SrcT (K : PySem.W.Frag) (D : Addr) : Prop where
  cl : Cls K D
  nT : NoAttr K D "tree"
def sFlds (v : V) : List (Str × V) := [("tree", v)]
section
variable {P : Program} {w : World} {K : PySem.W.Frag} {mg : Str → Option Value} {base : Heap} {f : Addr} {fd : FuncData} {D : Addr}
theorem cal_alias {k : Nat} {x y : Str} {sp : Sp} (c : C8.Cal P w K mg base k x sp []) (h : mg y = mg x) : C8.Cal P w K mg base k y sp [] := by
  obtain ⟨f, fd, ps, ds, F, hm, r⟩ := c.ex
  exact ⟨f, fd, ps, ds, F, h.trans hm, r⟩
abbrev sSIni : Stmt := inCls (topS 24) 0
def spSIni (D : Addr) : Sp := fun vs H Q _ => ∃ (p dx : Addr) (v : V), vs = [.ref p, v] ∧ H p = some (.ins D dx []) ∧ Q .non (upd H p (.ins D dx (sFlds v)))
theorem scSIni : FnScope ["self", "tree"] ["self", "tree"] (C8.fnScope sSIni) := C8.fnScope_by (by decide +kernel)
theorem mak_src (T : SrcT K D) (M : Mk K D f) (hm : mg "TreeSource" = some (.ref D)) (F : C8.Fun K "__init__" "TreeSource.__init__" sSIni f fd) (b : Binds K fd ["self", "tree"] []) : C8.Mak P w K mg base 1 "TreeSource" D (spSIni D) [] := by
  refine C8.mak0 M hm F b .nil scSIni (fun vs H Q E h => ?_) (fun cdv A outer s H vs Q E hr h => ?_)
  · obtain ⟨p, dx, v, rfl, _⟩ := h
    rfl
  · obtain ⟨p, dx, v, rfl, hp, q⟩ := h
    exact ⟨_, pss_one (ps_fld (pv 0) (pv 1) rfl), _, rfl, _, rfl, p, D, dx, [], rfl, hp, T.cl, T.nT, (by show 0 < 1000; decide), q⟩
abbrev sSEnt : Stmt := inCls (topS 24) 1
def spSEnt (D : Addr) : Sp := fun vs H Q _ => ∃ (p dx : Addr) (tv : V) (x y : Addr) (ot : Option Tr) (fs ls : List Int), vs = [.ref p, .ref x, .ref y] ∧ H p = some (.ins D dx (sFlds tv)) ∧ OptA H tv ot ∧ (∀ t, ot = some t → WF oct GoodK t ∧ t.size ≤ 100) ∧ IntsA H x fs ∧ IntsA H y ls ∧ ∀ H' p vs', Same H H' → H' p = some (.lst vs') → EntsA H' vs' (toR fs ls (toLO ot)) → Q (.ref p) H'
theorem scSEnt : FnScope ["self", "first", "last"] ["self", "first", "last"] (C8.fnScope sSEnt) := C8.fnScope_by (by decide +kernel)
theorem met_src (T : SrcT K D) (cE : C8.Cal P w K mg base 2 "entries_trees" spEnts []) (me : Meth K D "entries" f) (F : C8.Fun K "entries" "TreeSource.entries" sSEnt f fd) (b : Binds K fd ["self", "first", "last"] []) : C8.Met P w K mg base 3 D "entries" (spSEnt D) [] := by
  refine C8.met0 T.cl me F b scSEnt (fun vs H Q E h => ?_) (fun cdv A outer s H vs Q E hr h => ?_)
  · obtain ⟨p, dx, tv, x, y, ot, fs, ls, rfl, _⟩ := h
    rfl
  · obtain ⟨p, dx, tv, x, y, ot, fs, ls, rfl, hp, hot, wfo, hx, hy, q⟩ := h
    refine ⟨_, pss_one (ps_ret (C8.pe_c cE hr (Nat.le_refl _) (by rfl) (pa_cons (pe_fld (pv 0) rfl) (pa_cons (pv 1) (pa_cons (pv 2) pa_nil))))), ?_⟩
    exact ⟨_, rfl, p, D, dx, _, _, rfl, hp, T.cl, T.nT, rfl, _, rfl, _, rfl, tv, x, y, ot, fs, ls, rfl, hot, wfo, hx, hy, q⟩
end
end Ask

set_option Elab.async false
set_option linter.all false
set_option maxRecDepth 100000
set_option maxHeartbeats 4000000
namespace Ask
open PySem PySem.Spec PyProof.Rows L2 AskR
/-! ### the law's own defs: cells, draws, the hasher -/
theorem ints_at {ns : List Int} {z : Int} (h0 : 0 ≤ z) (h1 : z < ns.length) : ∃ m ∈ ns, atI (ns.map V.int) z = some (.int m) := by
  have hl : z.toNat < ns.length := by omega
  refine ⟨ns[z.toNat], List.getElem_mem hl, at_of (j := z.toNat) (by omega) ?_⟩
  rw [List.getElem?_map, List.getElem?_eq_getElem hl]
  rfl
def DrawsA (H : Hp) (p : Addr) (n : Nat) : Prop := ∃ ds : List Int, H p = some (.lst (ds.map V.int)) ∧ ds.length = n ∧ ∀ d ∈ ds, 0 ≤ d ∧ d < 1000
theorem DrawsA.same {H H' : Hp} {p : Addr} {n : Nat} (s : Same H H') (x : DrawsA H p n) : DrawsA H' p n := let ⟨ds, e, r⟩ := x; ⟨ds, s _ _ e, r⟩
theorem DrawsA.get {H : Hp} {p : Addr} {n : Nat} (x : DrawsA H p n) {z : Int} (h0 : 0 ≤ z) (h1 : z < n) : ∃ (xs : List V) (d : Int), H p = some (.lst xs) ∧ atI xs z = some (.int d) ∧ 0 ≤ d ∧ d < 1000 := by
  obtain ⟨ds, e, l, b⟩ := x
  obtain ⟨m, hm, ha⟩ := ints_at (ns := ds) h0 (by omega)
  exact ⟨_, m, e, ha, b m hm⟩
section
variable {P : Program} {w : World} {K : PySem.W.Frag} {mg : Str → Option Value} {base : Heap} {f : Addr} {fd : FuncData} {C : Addr}
abbrev sCell : Stmt := topS 28
def spCellL (K : PySem.W.Frag) : Sp := fun vs H Q _ => ∃ (a : Addr) (ns : List Int) (k : Nat), vs = [.ref a, .int (k : Nat)] ∧ SqL K H a (ns.map V.int) ∧ ∀ c : Int, Q (.int c) H
theorem scCell : FnScope ["_law_script", "_law_k"] ["_law_script", "_law_k"] (C8.fnScope sCell) := C8.fnScope_by (by decide +kernel)
theorem cal_cell (Z : Free mg) (F : C8.Def K mg "_law_cell" sCell f fd) (b : Binds K fd ["_law_script", "_law_k"] []) : C8.Cal P w K mg base 1 "_law_cell" (spCellL K) [] := by
  refine C8.cal0 F b .nil scCell (fun vs H Q E h => ?_) (fun cdv A outer s H vs Q E hr h => ?_)
  · obtain ⟨a, ns, k, rfl, _⟩ := h
    rfl
  · obtain ⟨a, ns, k, rfl, hs, q⟩ := h
    refine ⟨_, pss_cons (ps_if (pt_cmpR op_lt (pv 1) (pe_callB call_len (by rfl) Z.len boot_len (pa_cons (pv 0) pa_nil)) (nomark _)) (pss_one (ps_ret (pe_callTy call_int1 (by rfl) Z.int_ boot_int (pa_cons (pe_ix ix_list (pv 0) (pv 1) (fun _ _ => rfl)) pa_nil)))) pss_nil)
      (pss_one (ps_ret pe_int)), ?_⟩
    refine ⟨_, rfl, _, rfl, _, _, rfl, .inl ⟨_, hs, rfl⟩, _, _, rfl, rfl, _, rfl, ite2 (fun z => ?_) (fun _ => ?_)⟩
    · have z' := of_decide_eq_true z
      rw [List.length_map] at z'
      obtain ⟨m, _, hm⟩ := ints_at (ns := ns) (z := (k : Nat)) (by omega) z'
      exact ⟨_, rfl, _, rfl, a, _, _, _, rfl, rfl, hs, hm, .inl ⟨_, rfl, q m⟩⟩
    · exact q 0
abbrev sDraws : Stmt := topS 29
def spDraws : Sp := fun vs H Q _ => ∃ (c : Int) (n : Nat), vs = [.int c, .int (n : Nat)] ∧ n ≤ 10 ∧ ∀ H' p, Same H H' → DrawsA H' p n → Q (.ref p) H'
theorem scDraws : FnScope ["_law_cell_here", "_law_many", "_law_rows_here", "_law_rest", "_law_k", "_law_state_here"] ["_law_cell_here", "_law_many"] (C8.fnScope sDraws) := C8.fnScope_by (by decide +kernel)
/-- a list of draws, not longer than n, at least m -/
def Drw (H' : Hp) (p : Addr) (m n : Nat) : Prop := ∃ ds : List Int, H' p = some (.lst (ds.map V.int)) ∧ m ≤ ds.length ∧ ds.length ≤ n ∧ ∀ d ∈ ds, 0 ≤ d ∧ d < 1000
theorem Drw.add {H' : Hp} {p : Addr} {ds : List Int} {m n : Nat} {d : Int} (h1 : m ≤ ds.length + 1) (h2 : ds.length + 1 ≤ n) (h3 : ∀ d ∈ ds, 0 ≤ d ∧ d < 1000) (h4 : 0 ≤ d ∧ d < 1000) : Drw (upd H' p (.lst (ds.map V.int ++ [.int d]))) p m n := by
  refine ⟨ds ++ [d], by rw [upd_same, List.map_append]; rfl, by rw [List.length_append, List.length_singleton]; exact h1, by rw [List.length_append, List.length_singleton]; exact h2, fun e he => ?_⟩
  rcases List.mem_append.mp he with he | he
  · exact h3 e he
  · rw [List.mem_singleton.mp he]; exact h4
theorem mod1000 (z : Int) : 0 ≤ z % 1000 ∧ z % 1000 < 1000 := by omega
theorem cal_draws (Z : Free mg) (F : C8.Def K mg "_law_draws" sDraws f fd) (b : Binds K fd ["_law_cell_here", "_law_many"] []) : C8.Cal P w K mg base 1 "_law_draws" spDraws [] := by
  refine C8.cal0 F b .nil scDraws (fun vs H Q E h => ?_) (fun cdv A outer s H vs Q E hr h => ?_)
  · obtain ⟨c, n, rfl, _⟩ := h
    rfl
  · obtain ⟨c, n, rfl, n10, q⟩ := h
    refine ⟨_, pss_cons (ps_set (i := 2) scDraws.nd rfl (.inl rfl) (pe_lst pa_nil))
      (pss_cons (ps_set (i := 3) scDraws.nd rfl (.inl rfl) (pe_callTy call_int1 (by rfl) Z.int_ boot_int (pa_cons (pv 0) pa_nil)))
      (C8.pss_cut (ps_if (pt_cmpR op_ge (pv 3) (pe_op op_pow pe_int pe_int) (nomark _))
        (pss_one (ps_for PassesOwn.never rfl (pi_range1 (by rfl) Z.rng (pa_cons (pv 1) pa_nil)) (pg_name (i := 4) scDraws.nd rfl (.inl rfl))
          (pss_one (ps_if (pt_cmpR op_gt (pv 3) pe_int (nomark _))
            (pss_cons (ps_expr (pe_bm PySem.F.plainAttrs_list PySem.F.slot_list_append PySem.F.type_list_append mt_append (pv 2) (pa_cons (pe_op op_mod (pe_callTy call_int1 (by rfl) Z.int_ boot_int (pa_cons (pv 3) pa_nil)) pe_int) pa_nil)))
            (pss_one (ps_set (i := 3) scDraws.nd rfl (.inl rfl) (pe_op op_fdiv (pv 3) pe_int)))) pss_nil)))) pss_nil)
      (pss_cons (ps_set (i := 5) scDraws.nd rfl (.inl rfl) (pe_op op_mod (pe_callTy call_int1 (by rfl) Z.int_ boot_int (pa_cons (pe_op op_add (pe_op op_mul (pe_callTy call_int1 (by rfl) Z.int_ boot_int (pa_cons (pv 0) pa_nil)) pe_int) pe_int) pa_nil)) pe_int))
      (pss_cons (ps_for PassesOwn.never rfl (pi_range1 (by rfl) Z.rng (pa_cons (pv 1) pa_nil)) (pg_name (i := 4) scDraws.nd rfl (.inl rfl))
        (pss_cons (ps_set (i := 5) scDraws.nd rfl (.inl rfl) (pe_op op_mod (pe_callTy call_int1 (by rfl) Z.int_ boot_int (pa_cons (pe_op op_add (pe_op op_add (pe_op op_mul (pv 5) pe_int) (pe_op op_mul (pv 4) pe_int)) pe_int) pa_nil)) pe_int))
        (pss_one (ps_if (pt_cmpR op_lt (pe_callB call_len (by rfl) Z.len boot_len (pa_cons (pv 2) pa_nil)) (pv 1) (nomark _))
          (pss_one (ps_expr (pe_bm PySem.F.plainAttrs_list PySem.F.slot_list_append PySem.F.type_list_append mt_append (pv 2) (pa_cons (pe_op op_mod (pe_callTy call_int1 (by rfl) Z.int_ boot_int (pa_cons (pe_op op_mod (pe_callTy call_int1 (by rfl) Z.int_ boot_int (pa_cons (pe_op op_add (pe_op op_mul (pv 5) pe_int) pe_int) pa_nil)) pe_int) pa_nil)) pe_int) pa_nil)))) pss_nil))))
      (pss_one (ps_ret (pv 2))))))), ?_⟩
    refine ⟨(by show 0 ≤ sizeLine; decide), fun l nl => ?_⟩
    refine ⟨_, rfl, .inl ⟨_, rfl, ?_⟩⟩
    refine ⟨fun σ' H' => ∃ (z3 z4 : Option V), σ' = [some (.int c), some (.int (n : Nat)), some (.ref l), z3, z4, none] ∧ Same H H' ∧ Drw H' l 0 n, ?_, ?_⟩
    · refine ⟨_, rfl, _, _, rfl, rfl, ⟨by decide, by decide, by decide⟩, _, _, rfl, rfl, _, rfl, ite2 (fun _ => ?_) (fun _ => ?_)⟩
      · refine ⟨_, rfl, ((n : Nat) : Int), rfl, by omega, by omega, ?_⟩
        refine for_it (walk_range (lo := 0) (n := n)) (fun i σ H' => ∃ (z3 : Int) (z4 : Option V), σ = [some (.int c), some (.int (n : Nat)), some (.ref l), some (.int z3), z4, none] ∧ Same H H' ∧ Drw H' l 0 i) ⟨c, none, rfl, same_upd nl, [], upd_same, Nat.le_refl _, Nat.le_refl _, fun _ m => by cases m⟩ (fun _ _ _ _ _ => trivial) ?_ ?_
        · rintro i v σ H1 H2 hi ⟨z3, z4, rfl, s1, ds, e, _, dl, db⟩ ⟨rfl, rfl⟩
          refine ⟨_, rfl, _, _, rfl, rfl, _, rfl, ite2 (fun _ => ?_) (fun _ => ?_)⟩
          · refine ⟨_, rfl, .inl ⟨rfl, _, SqL.of e⟩, _, rfl, .inl ⟨_, rfl, _, _, rfl, rfl, (by decide : (0 : Int) < 1000), l, _, _, rfl, rfl, e, small1000 (by rw [List.length_map]; omega), ?_⟩⟩
            refine ⟨_, rfl, _, _, rfl, rfl, ⟨by decide, by decide⟩, ?_⟩
            exact ⟨_, _, rfl, same_at s1 nl, Drw.add (Nat.zero_le _) (by omega) db (mod1000 z3)⟩
          · exact ⟨_, _, rfl, s1, ds, e, Nat.zero_le _, by omega, db⟩
        · rintro σ H1 ⟨z3, z4, rfl, s1, d1⟩
          exact ⟨_, _, rfl, s1, d1⟩
      · exact ⟨_, _, rfl, same_upd nl, [], upd_same, Nat.le_refl _, Nat.zero_le _, fun _ m => by cases m⟩
    · rintro σ' H1 ⟨z3, z4, rfl, s1, d1⟩
      refine ⟨_, rfl, .inl ⟨_, rfl, _, _, rfl, rfl, .inr ⟨by decide, by decide⟩, _, _, rfl, rfl, .inl ⟨_, rfl, _, _, rfl, rfl, (by decide : (0 : Int) < 2147483647), ?_⟩⟩⟩
      refine ⟨_, rfl, ((n : Nat) : Int), rfl, by omega, by omega, ?_⟩
      refine for_it (walk_range (lo := 0) (n := n)) (fun i σ H' => ∃ (z5 : Int) (z3 z4 : Option V), σ = [some (.int c), some (.int (n : Nat)), some (.ref l), z3, z4, some (.int z5)] ∧ Same H H' ∧ Drw H' l i n) ⟨_, _, _, rfl, s1, d1⟩ (fun _ _ _ _ _ => trivial) ?_ ?_
      · rintro i v σ H1 H2 hi ⟨z5, z3, z4, rfl, s1, ds, e, dm, dl, db⟩ ⟨rfl, rfl⟩
        refine ⟨_, rfl, _, _, rfl, rfl, .inr ⟨by decide, by decide⟩, _, rfl, _, _, rfl, rfl, .inr ⟨by decide, by decide⟩, _, _, rfl, rfl, _, _, rfl, rfl, .inl ⟨_, rfl, _, _, rfl, rfl, (by decide : (0 : Int) < 2147483647), ?_⟩⟩
        refine ⟨_, rfl, _, _, rfl, .inl ⟨_, SqL.of e, rfl⟩, _, rfl, _, _, rfl, rfl, _, rfl, ite2 (fun z => ?_) (fun z => ?_)⟩
        · have z' := of_decide_eq_true z
          rw [List.length_map] at z'
          refine ⟨_, rfl, .inl ⟨rfl, _, SqL.of e⟩, _, rfl, _, _, rfl, rfl, .inr ⟨by decide, by decide⟩, _, _, rfl, rfl, .inl ⟨_, rfl, _, _, rfl, rfl, (by decide : (0 : Int) < 2147483629), .inl ⟨_, rfl, _, _, rfl, rfl, (by decide : (0 : Int) < 1000), l, _, _, rfl, rfl, e, small1000 (by rw [List.length_map]; omega), ?_⟩⟩⟩
          exact ⟨_, _, _, rfl, same_at s1 nl, Drw.add (by omega) (by omega) db (mod1000 _)⟩
        · have z' : ¬ ((((ds.map V.int).length : Nat) : Int) < ((n : Nat) : Int)) := fun y => z (decide_eq_true y)
          rw [List.length_map] at z'
          exact ⟨_, _, _, rfl, s1, ds, e, by omega, dl, db⟩
      · rintro σ H1 ⟨z5, z3, z4, rfl, s1, ds, e, dm, dl, db⟩
        exact ⟨_, rfl, q H1 l s1 ⟨ds, e, by omega, db⟩⟩
end
end Ask

set_option Elab.async false
set_option linter.all false
set_option maxRecDepth 100000
set_option maxHeartbeats 4000000
namespace Ask
open PySem PySem.Spec PyProof.Rows L2 AskR
/-! ### hasher, values, keys, spans, rows -/
def mods : List Int := [2, 3, 5, 7, 13, 101, 997, 1000003, 2147483647]
def mulsL : List Int := [1, 1000, 2000000]
theorem mods_ok : ∀ m ∈ mods, 2 ≤ m ∧ m < 2 ^ 31 := by decide +kernel
theorem muls_ok : ∀ m ∈ mulsL, 1 ≤ m ∧ m ≤ 2000000 := by decide +kernel
def nums : List Int := [0, 1, 2, 7, 255, 256, 65535, 65536, 999999]
theorem nums_ok : ∀ n ∈ nums, 0 ≤ n ∧ n ≤ 999999 := by decide +kernel
def txts : List Str := ["", "a", "ab", "b", "a b", "old mill", "Mill", "te", "tea", "tea-time", "x1", "~", " ", "abc", "mill weir"]
theorem txts_ok : ∀ x ∈ txts, x.cps.toList.length ≤ 40 ∧ ∀ c ∈ x.cps.toList, 1 ≤ c ∧ c < 128 := by decide +kernel
theorem abs_ok : (Txt.mul "ab" 20).cps.toList.length ≤ 40 ∧ ∀ c ∈ (Txt.mul "ab" 20).cps.toList, 1 ≤ c ∧ c < 128 := by decide +kernel
theorem abs_mul : MulOk "ab" 20 := by
  refine ⟨by decide, fun _ _ => by decide +kernel, fun _ _ => by decide +kernel⟩
theorem strs_at {xs : List Str} {z : Int} (h0 : 0 ≤ z) (h1 : z < xs.length) : ∃ m ∈ xs, atI (xs.map V.str) z = some (.str m) := by
  have hl : z.toNat < xs.length := by omega
  refine ⟨xs[z.toNat], List.getElem_mem hl, at_of (j := z.toNat) (by omega) ?_⟩
  rw [List.getElem?_map, List.getElem?_eq_getElem hl]
  rfl
section
variable {P : Program} {w : World} {K : PySem.W.Frag} {mg : Str → Option Value} {base : Heap} {f : Addr} {fd : FuncData} {C : Addr}
abbrev sHash : Stmt := topS 30
def spHash (C : Addr) : Sp := fun vs H Q _ => ∃ (c : Int), vs = [.int c] ∧ ∀ H' h, Same H H' → HashA C H' h → Q (.ref h) H'
theorem scHash : FnScope ["_law_cell_here", "_law_draws_here", "_law_modulus"] ["_law_cell_here"] (C8.fnScope sHash) := C8.fnScope_by (by decide +kernel)
theorem cal_hash (Z : Free mg) (cD : C8.Cal P w K mg base 1 "_law_draws" spDraws []) (mH : C8.Mak P w K mg base 1 "Hasher" C (spHIni C) []) (F : C8.Def K mg "_law_hasher" sHash f fd) (b : Binds K fd ["_law_cell_here"] []) : C8.Cal P w K mg base 3 "_law_hasher" (spHash C) [] := by
  refine C8.cal0 F b .nil scHash (fun vs H Q E h => ?_) (fun cdv A outer s H vs Q E hr h => ?_)
  · obtain ⟨c, rfl, _⟩ := h
    rfl
  · obtain ⟨c, rfl, q⟩ := h
    refine ⟨_, pss_cons (ps_set (i := 1) scHash.nd rfl (.inl rfl) (C8.pe_c cD hr (by decide) (by rfl) (pa_cons (pv 0) (pa_cons pe_int pa_nil))))
      (pss_cons (ps_set (i := 2) scHash.nd rfl (.inl rfl) (pe_ix ix_list (pe_lst (pa_cons pe_int (pa_cons pe_int (pa_cons pe_int (pa_cons pe_int (pa_cons pe_int (pa_cons pe_int (pa_cons pe_int (pa_cons pe_int (pa_cons pe_int pa_nil)))))))))) (pe_op op_mod (pe_callTy call_int1 (by rfl) Z.int_ boot_int (pa_cons (pe_ix ix_list (pv 1) pe_int (fun _ _ => rfl)) pa_nil)) pe_int) (fun _ _ => rfl)))
      (pss_one (ps_ret (C8.pe_mk mH hr (by decide) (by rfl) (pa_cons (pv 2) (pa_cons (pe_op op_add pe_int (pe_op op_mul (pe_callTy call_int1 (by rfl) Z.int_ boot_int (pa_cons (pe_ix ix_list (pv 1) pe_int (fun _ _ => rfl)) pa_nil))
        (pe_ix ix_list (pe_lst (pa_cons pe_int (pa_cons pe_int (pa_cons pe_int pa_nil)))) (pe_op op_mod (pe_op op_fdiv (pe_callTy call_int1 (by rfl) Z.int_ boot_int (pa_cons (pe_ix ix_list (pv 1) pe_int (fun _ _ => rfl)) pa_nil)) pe_int) pe_int) (fun _ _ => rfl)))) pa_nil)))))), ?_⟩
    refine ⟨_, rfl, c, 2, rfl, by decide, fun H1 p1 s1 d1 => ?_⟩
    obtain ⟨xs, d0, e0, a0, b0, b0'⟩ := d1.get (z := 0) (by decide) (by decide)
    obtain ⟨xs', d1', e1, a1, b1, b1'⟩ := d1.get (z := 1) (by decide) (by decide)
    refine ⟨(by show 9 ≤ sizeLine; decide), fun l1 n1 => ?_⟩
    have s2 := same_upd (o := .lst (mods.map V.int)) n1
    obtain ⟨m, mm, hm⟩ := ints_at (ns := mods) (z := d0 % 9) (by omega) (show d0 % 9 < ((9 : Nat) : Int) by omega)
    have mo := mods_ok m mm
    refine ⟨_, rfl, p1, xs, _, _, rfl, rfl, SqL.of (s2 _ _ e0), a0, .inl ⟨d0, rfl, _, _, rfl, rfl, (by decide : (0 : Int) < 9), l1, mods.map V.int, _, _, rfl, rfl, SqL.of upd_same, hm, ?_⟩⟩
    refine ⟨_, rfl, _, rfl, p1, xs', _, _, rfl, rfl, SqL.of (s2 _ _ e1), a1, .inl ⟨d1', rfl, (by show 3 ≤ sizeLine; decide), fun l2 n2 => ?_⟩⟩
    have s3 := s2.trans (same_upd (o := .lst (mulsL.map V.int)) n2)
    obtain ⟨u, mu, hu⟩ := ints_at (ns := mulsL) (z := d0 / 9 % 3) (by omega) (show d0 / 9 % 3 < ((3 : Nat) : Int) by omega)
    have uo := muls_ok u mu
    have pb : 0 ≤ d1' * u ∧ d1' * u ≤ 999 * 2000000 := ⟨Int.mul_nonneg b1 (by omega), Int.mul_le_mul (by omega) uo.2 (by omega) (by omega)⟩
    refine ⟨_, rfl, p1, xs, _, _, rfl, rfl, SqL.of (s3 _ _ e0), a0, .inl ⟨d0, rfl, _, _, rfl, rfl, ⟨by decide, by decide⟩, _, _, rfl, rfl, (by decide : (0 : Int) < 3), l2, mulsL.map V.int, _, _, rfl, rfl, SqL.of upd_same, hu, _, _, rfl, rfl, .inl ⟨by omega, by omega⟩, _, _, rfl, rfl, ?_⟩⟩
    intro x dx nx ndx nex
    refine ⟨x, dx, m, 1 + d1' * u, rfl, upd_same, mo.1, mo.2, by omega, by omega, fun H' hh kp => ⟨rfl, q H' x ?_ hh⟩⟩
    intro b o e
    have e' := (s1.trans s3) _ _ e
    refine kp b o ?_ (ne_of_none e' nx)
    rw [upd_ne (ne_of_none e' nx), upd_ne (ne_of_none e' ndx)]
    exact e'
abbrev sVal : Stmt := topS 31
def spVal : Sp := fun vs H Q _ => ∃ (d : Int), vs = [.int d] ∧ ∀ H' v, Same H H' → GoodV v → Q (kV v) H'
theorem scVal : FnScope ["_law_draw", "_law_numbers", "_law_texts"] ["_law_draw"] (C8.fnScope sVal) := C8.fnScope_by (by decide +kernel)
theorem cal_val (Z : Free mg) (F : C8.Def K mg "_law_value" sVal f fd) (b : Binds K fd ["_law_draw"] []) : C8.Cal P w K mg base 1 "_law_value" spVal [] := by
  refine C8.cal0 F b .nil scVal (fun vs H Q E h => ?_) (fun cdv A outer s H vs Q E hr h => ?_)
  · obtain ⟨d, rfl, _⟩ := h
    rfl
  · obtain ⟨d, rfl, q⟩ := h
    refine ⟨_, pss_cons (ps_set (i := 1) scVal.nd rfl (.inl rfl) (pe_lst (pa_cons pe_int (pa_cons pe_int (pa_cons pe_int (pa_cons pe_int (pa_cons pe_int (pa_cons pe_int (pa_cons pe_int (pa_cons pe_int (pa_cons pe_int pa_nil)))))))))))
      (pss_cons (ps_set (i := 2) scVal.nd rfl (.inl rfl) (pe_lst (pa_cons pe_str (pa_cons pe_str (pa_cons pe_str (pa_cons pe_str (pa_cons pe_str (pa_cons pe_str (pa_cons pe_str (pa_cons pe_str (pa_cons pe_str (pa_cons pe_str (pa_cons pe_str (pa_cons pe_str (pa_cons pe_str (pa_cons pe_str (pa_cons pe_str pa_nil)))))))))))))))))
      (pss_cons (ps_if (pt_cmpR op_eq (pe_op op_mod (pe_callTy call_int1 (by rfl) Z.int_ boot_int (pa_cons (pv 0) pa_nil)) pe_int) pe_int (nomark _))
        (pss_one (ps_ret (pe_ix ix_list (pv 1) (pe_op op_mod (pe_op op_fdiv (pe_callTy call_int1 (by rfl) Z.int_ boot_int (pa_cons (pv 0) pa_nil)) pe_int) pe_int) (fun _ _ => rfl)))) pss_nil)
      (pss_cons (ps_if (pt_cmpR op_eq (pe_op op_mod (pe_callTy call_int1 (by rfl) Z.int_ boot_int (pa_cons (pv 0) pa_nil)) pe_int) pe_int (nomark _))
        (pss_one (ps_ret (pe_op op_mulS pe_str pe_int))) pss_nil)
      (pss_one (ps_ret (pe_ix ix_list (pv 2) (pe_op op_mod (pe_op op_fdiv (pe_callTy call_int1 (by rfl) Z.int_ boot_int (pa_cons (pv 0) pa_nil)) pe_int) pe_int) (fun _ _ => rfl))))))), ?_⟩
    refine ⟨(by show 9 ≤ sizeLine; decide), fun l1 n1 => ⟨(by show 15 ≤ sizeLine; decide), fun l2 n2 => ?_⟩⟩
    have s1 := same_upd (o := .lst (nums.map V.int)) n1
    have s2 := same_upd (o := .lst (txts.map V.str)) n2
    have s3 := s1.trans s2
    refine ⟨_, rfl, .inl ⟨_, rfl, _, _, rfl, rfl, (by decide : (0 : Int) < 3), rfl, _, rfl, ite2 (fun _ => ?_) (fun _ => ?_)⟩⟩
    · obtain ⟨m, mm, hm⟩ := ints_at (ns := nums) (z := d / 3 % 9) (by omega) (show d / 3 % 9 < ((9 : Nat) : Int) by omega)
      exact ⟨_, rfl, _, rfl, .inl ⟨_, rfl, _, _, rfl, rfl, ⟨by decide, by decide⟩, _, _, rfl, rfl, (by decide : (0 : Int) < 9), l1, nums.map V.int, _, _, rfl, rfl, SqL.of (s2 _ _ upd_same), hm, q _ (.inl m) s3 (nums_ok m mm)⟩⟩
    · refine ⟨_, rfl, .inl ⟨_, rfl, _, _, rfl, rfl, (by decide : (0 : Int) < 100), rfl, _, rfl, ite2 (fun _ => ?_) (fun _ => ?_)⟩⟩
      · exact ⟨_, _, rfl, rfl, abs_mul, q _ (.inr _) s3 abs_ok⟩
      · obtain ⟨m, mm, hm⟩ := strs_at (xs := txts) (z := d / 3 % 15) (by omega) (show d / 3 % 15 < ((15 : Nat) : Int) by omega)
        exact ⟨_, rfl, _, rfl, .inl ⟨_, rfl, _, _, rfl, rfl, ⟨by decide, by decide⟩, _, _, rfl, rfl, (by decide : (0 : Int) < 15), l2, txts.map V.str, _, _, rfl, rfl, SqL.of upd_same, hm, q _ (.inr m) s3 (txts_ok m mm)⟩⟩
end
end Ask

set_option Elab.async false
set_option linter.all false
set_option maxRecDepth 100000
set_option maxHeartbeats 4000000
namespace Ask
open PySem PySem.Spec PyProof.Rows L2 AskR
/-! ### keys, spans, rows -/
section
variable {P : Program} {w : World} {K : PySem.W.Frag} {mg : Str → Option Value} {base : Heap} {f : Addr} {fd : FuncData} {C : Addr}
abbrev sKey : Stmt := topS 32
def spKeyL : Sp := fun vs H Q _ => ∃ (p : Addr), vs = [.ref p] ∧ DrawsA H p 6 ∧ ∀ H' a k, Same H H' → KeyA H' a k → GoodK k → Q (.ref a) H'
theorem scKey : FnScope ["_law_draws_here", "_law_k"] ["_law_draws_here"] (C8.fnScope sKey) := C8.fnScope_by (by decide +kernel)
theorem cal_key (Z : Free mg) (cV : C8.Cal P w K mg base 1 "_law_value" spVal []) (F : C8.Def K mg "_law_key" sKey f fd) (b : Binds K fd ["_law_draws_here"] []) : C8.Cal P w K mg base 2 "_law_key" spKeyL [] := by
  refine C8.cal0 F b .nil scKey (fun vs H Q E h => ?_) (fun cdv A outer s H vs Q E hr h => ?_)
  · obtain ⟨p, rfl, _⟩ := h
    rfl
  · obtain ⟨p, rfl, dr, q⟩ := h
    refine ⟨_, pss_one (ps_ret (pe_callTy call_tuple_of (by rfl) Z.tup boot_tuple (pa_cons (pe_lc (own := [("_law_k", 1)]) (g := gName 1) (tt := tYes) rfl scKey.nd
      (pi_range1 (by rfl) Z.rng (pa_cons (pe_op op_add pe_int (pe_op op_mod (pe_callTy call_int1 (by rfl) Z.int_ boot_int (pa_cons (pe_ix ix_list (pv 0) pe_int (fun _ _ => rfl)) pa_nil)) pe_int)) pa_nil)) (blkOk_by (N := ["_law_draws_here", "_law_k"]) (sc := C8.fnScope sKey) (by decide +kernel))
          (fun _ _ _ _ _ => pg_name (i := 1) scKey.nd rfl (Or.inl rfl)) (fun _ _ _ _ _ => pts_nil) (fun _ _ _ _ _ => C8.pe_c cV hr (Nat.le_refl _) (by rfl) (pa_cons (pe_ix (r := rIxL K) ix_list (pv 0) (pe_op op_add pe_int (pv 1)) (fun _ _ => rfl)) pa_nil))) pa_nil))), ?_⟩
    obtain ⟨xs, d0, e0, a0, b0, b0'⟩ := dr.get (z := 0) (by decide) (by decide)
    refine ⟨_, rfl, p, xs, _, _, rfl, rfl, SqL.of e0, a0, .inl ⟨d0, rfl, _, _, rfl, rfl, (by decide : (0 : Int) < 3), _, _, rfl, rfl, _, rfl, (show -(2 ^ 62) ≤ 1 + d0 % 3 by omega), (show 1 + d0 % 3 < 2 ^ 62 by omega), fun D nD => ?_⟩⟩
    have hn : (1 + d0 % 3).toNat ≤ 3 := by omega
    generalize (1 + d0 % 3).toNat = n at *
    refine lc_itN (walk_range (lo := 0) (n := n)) (fun i H' => Same H H' ∧ ∃ ks : Ky, H' D = some (.lst (ks.map kV)) ∧ ks.length = i ∧ ∀ v ∈ ks, GoodV v) ⟨same_upd nD, [], upd_same, rfl, fun _ m => by cases m⟩ (fun _ _ _ _ => trivial) (fun _ => rfl) ?_ ?_
    · rintro i y H1 H2 hi ⟨s1, ks, e1, l1, g1⟩ ⟨rfl, rfl⟩
      obtain ⟨xs', d, e', a', _, _⟩ := (dr.same s1).get (z := 1 + (0 + (i : Int))) (by omega) (by omega)
      refine ⟨_, rfl, _, rfl, _, _, rfl, rfl, p, xs', _, _, rfl, rfl, SqL.of e', a', d, rfl, fun H3 v s3 gv => ⟨ks.map kV, s3 _ _ e1, small1000 (by rw [List.length_map]; omega), same_at (s1.trans s3) nD, ks ++ [v], by rw [upd_same, List.map_append]; rfl, by rw [List.length_append, List.length_singleton, l1], fun u hu => ?_⟩⟩
      rcases List.mem_append.mp hu with hu | hu
      · exact g1 u hu
      · rw [List.mem_singleton.mp hu]; exact gv
    · rintro H1 ⟨s1, ks, e1, l1, g1⟩
      refine ⟨_, _, rfl, .inl ⟨SqL.of e1, fun a na => q _ a ks (s1.trans (same_upd na)) upd_same ⟨by omega, g1⟩⟩⟩
abbrev sSpans : Stmt := topS 33
def spSpans : Sp := fun vs H Q _ => ∃ (a b : Int), vs = [.int a, .int b] ∧ ∀ H' p s, Same H H' → SpA H' p s → s.length ≤ 2 → Q (.ref p) H'
theorem scSpans : FnScope ["_law_first", "_law_second", "_law_start", "_law_stop"] ["_law_first", "_law_second"] (C8.fnScope sSpans) := C8.fnScope_by (by decide +kernel)
theorem cal_spans (Z : Free mg) (F : C8.Def K mg "_law_spans" sSpans f fd) (b : Binds K fd ["_law_first", "_law_second"] []) : C8.Cal P w K mg base 1 "_law_spans" spSpans [] := by
  refine C8.cal0 F b .nil scSpans (fun vs H Q E h => ?_) (fun cdv A outer s H vs Q E hr h => ?_)
  · obtain ⟨a, b, rfl, _⟩ := h
    rfl
  · obtain ⟨a, b, rfl, q⟩ := h
    refine ⟨_, pss_cons (ps_set (i := 2) scSpans.nd rfl (.inl rfl) (pe_op op_mod (pe_callTy call_int1 (by rfl) Z.int_ boot_int (pa_cons (pv 0) pa_nil)) pe_int))
      (pss_cons (ps_set (i := 3) scSpans.nd rfl (.inl rfl) (pe_op op_add (pe_op op_add (pv 2) pe_int) (pe_op op_mod (pe_callTy call_int1 (by rfl) Z.int_ boot_int (pa_cons (pv 1) pa_nil)) pe_int)))
      (pss_cons (ps_if (pt_cmpR op_eq (pe_op op_mod (pe_callTy call_int1 (by rfl) Z.int_ boot_int (pa_cons (pv 1) pa_nil)) pe_int) pe_int (nomark _))
        (pss_one (ps_ret (pe_tup (pa_cons (pe_tup (pa_cons (pv 2) (pa_cons (pv 3) pa_nil))) (pa_cons (pe_tup (pa_cons (pe_op op_add (pe_op op_add (pv 3) pe_int) (pe_op op_mod (pe_op op_fdiv (pe_callTy call_int1 (by rfl) Z.int_ boot_int (pa_cons (pv 0) pa_nil)) pe_int) pe_int))
          (pa_cons (pe_op op_add (pe_op op_add (pv 3) pe_int) (pe_op op_mod (pe_op op_fdiv (pe_callTy call_int1 (by rfl) Z.int_ boot_int (pa_cons (pv 1) pa_nil)) pe_int) pe_int)) pa_nil))) pa_nil))))) pss_nil)
      (pss_cons (ps_if (pt_cmpR op_eq (pe_op op_mod (pe_callTy call_int1 (by rfl) Z.int_ boot_int (pa_cons (pv 1) pa_nil)) pe_int) pe_int (nomark _))
        (pss_one (ps_ret (pe_tup (pa_cons (pe_tup (pa_cons pe_int (pa_cons pe_int pa_nil))) pa_nil)))) pss_nil)
      (pss_one (ps_ret (pe_tup (pa_cons (pe_tup (pa_cons (pv 2) (pa_cons (pv 3) pa_nil))) pa_nil))))))), ?_⟩
    refine ⟨_, rfl, .inl ⟨_, rfl, _, _, rfl, rfl, (by decide : (0 : Int) < 9), _, rfl, _, _, rfl, rfl, _, rfl, .inl ⟨_, rfl, _, _, rfl, rfl, (by decide : (0 : Int) < 4), _, _, rfl, rfl, ?_⟩⟩⟩
    have one : ∀ (u v : Int) (p r : Addr), H p = none → (upd H p (.tup [.int u, .int v])) r = none → Q (.ref r) (upd (upd H p (.tup [.int u, .int v])) r (.tup [.ref p])) := fun u v p r np nr => by
      have s1 := same_upd (o := .tup [.int u, .int v]) np
      have s2 := same_upd (o := .tup [.ref p]) nr
      exact q _ r [(u, v)] (s1.trans s2) ⟨[.ref p], upd_same, ⟨p, rfl, s2 _ _ upd_same⟩, trivial⟩ (by show 1 ≤ 2; decide)
    refine ⟨_, rfl, .inl ⟨_, rfl, _, _, rfl, rfl, (by decide : (0 : Int) < 3), rfl, _, rfl, ite2 (fun _ => ?_) (fun _ => ?_)⟩⟩
    · refine ⟨_, rfl, _, rfl, (by show 2 ≤ sizeLine; decide), fun p np => ?_⟩
      refine ⟨_, rfl, _, _, rfl, rfl, _, rfl, .inl ⟨_, rfl, _, _, rfl, rfl, ⟨by decide, by decide⟩, _, _, rfl, rfl, (by decide : (0 : Int) < 3), _, _, rfl, rfl, ?_⟩⟩
      refine ⟨_, rfl, _, _, rfl, rfl, _, rfl, .inl ⟨_, rfl, _, _, rfl, rfl, ⟨by decide, by decide⟩, _, _, rfl, rfl, (by decide : (0 : Int) < 3), _, _, rfl, rfl, (by show 2 ≤ sizeLine; decide), fun p2 np2 => ⟨(by show 2 ≤ sizeLine; decide), fun r nr => ?_⟩⟩⟩
      have s1 := same_upd np (o := .tup [.int (a % 9), .int (a % 9 + 1 + b % 4)])
      refine q _ r [(_, _), (_, _)] ((s1.trans (same_upd np2)).trans (same_upd nr)) ⟨[.ref p, .ref p2], upd_same, ⟨p, rfl, ((same_upd np2).trans (same_upd nr)) _ _ upd_same⟩, ⟨p2, rfl, (same_upd nr) _ _ upd_same⟩, trivial⟩ (by show 2 ≤ 2; decide)
    · refine ⟨_, rfl, .inl ⟨_, rfl, _, _, rfl, rfl, (by decide : (0 : Int) < 50), rfl, _, rfl, ite2 (fun _ => ?_) (fun _ => ?_)⟩⟩
      · exact ⟨(by show 2 ≤ sizeLine; decide), fun p np => ⟨(by show 1 ≤ sizeLine; decide), fun r nr => one _ _ p r np nr⟩⟩
      · exact ⟨_, rfl, _, rfl, (by show 2 ≤ sizeLine; decide), fun p np => ⟨(by show 1 ≤ sizeLine; decide), fun r nr => one _ _ p r np nr⟩⟩
abbrev sRows : Stmt := topS 34
/-- rows, as the law draws them -/
def RowsOk (rows : List (Ky × Sps)) : Prop := rows.length ≤ 24 ∧ ∀ e ∈ rows, GoodK e.1 ∧ e.2.length ≤ 2
def spRows (K : PySem.W.Frag) : Sp := fun vs H Q _ => ∃ (a : Addr) (ns : List Int), vs = [.ref a, .int 1] ∧ SqL K H a (ns.map V.int) ∧ ∀ H' p vs' rows, Same H H' → H' p = some (.lst vs') → EntsA H' vs' rows → RowsOk rows → Q (.ref p) H'
theorem scRows : FnScope ["_law_script", "_law_start", "_law_rows_here", "_law_cell_here", "_law_draws_here", "_law_spans_here"] ["_law_script", "_law_start"] (C8.fnScope sRows) := C8.fnScope_by (by decide +kernel)
theorem cut24 (ns : List Int) : ∃ ms : List Int, cutV (ns.map V.int) (some 1) (some (1 + 24)) = ms.map V.int ∧ ms.length ≤ 24 := by
  refine ⟨(ns.drop (HT.sIx (ns.map V.int).length 0 (some 1))).take (HT.sIx (ns.map V.int).length (ns.map V.int).length (some (1 + 24)) - HT.sIx (ns.map V.int).length 0 (some 1)), ?_, ?_⟩
  · unfold cutV
    rw [List.map_take, List.map_drop]
  · have e1 : HT.sIx (ns.map V.int).length 0 (some 1) = min 1 (ns.map V.int).length := rfl
    have e2 : HT.sIx (ns.map V.int).length (ns.map V.int).length (some (1 + 24)) = min 25 (ns.map V.int).length := rfl
    rw [List.length_take, List.length_drop, e1, e2]
    rw [List.length_map]
    omega
theorem cal_rows (Z : Free mg) (cD : C8.Cal P w K mg base 1 "_law_draws" spDraws []) (cK : C8.Cal P w K mg base 2 "_law_key" spKeyL []) (cS : C8.Cal P w K mg base 1 "_law_spans" spSpans []) (F : C8.Def K mg "_law_rows" sRows f fd) (b : Binds K fd ["_law_script", "_law_start"] []) : C8.Cal P w K mg base 3 "_law_rows" (spRows K) [] := by
  refine C8.cal0 F b .nil scRows (fun vs H Q E h => ?_) (fun cdv A outer s H vs Q E hr h => ?_)
  · obtain ⟨a, ns, rfl, _⟩ := h
    rfl
  · obtain ⟨a, ns, rfl, hs, q⟩ := h
    refine ⟨_, pss_cons (ps_set (i := 2) scRows.nd rfl (.inl rfl) (pe_lst pa_nil))
      (pss_cons (ps_for PassesOwn.never rfl (pi_list (pe_slice sl_list (pv 0) (po_some (pv 1)) (po_some (pe_op op_add (pv 1) pe_int)))) (pg_name (i := 3) scRows.nd rfl (.inl rfl))
        (pss_cons (ps_set (i := 4) scRows.nd rfl (.inl rfl) (C8.pe_c cD hr (by decide) (by rfl) (pa_cons (pv 3) (pa_cons pe_int pa_nil))))
        (C8.pss_cut (ps_set (i := 5) scRows.nd rfl (.inl rfl) (pe_ifExp (pt_cmpR op_eq (pe_op op_mod (pe_ix ix_list (pv 4) pe_int (fun _ _ => rfl)) pe_int) pe_int (nomark _)) (pe_tup pa_nil) (C8.pe_c cS hr (by decide) (by rfl) (pa_cons (pe_ix ix_list (pv 4) pe_int (fun _ _ => rfl)) (pa_cons (pe_ix ix_list (pv 4) pe_int (fun _ _ => rfl)) pa_nil)))))
        (pss_one (ps_expr (pe_bm PySem.F.plainAttrs_list PySem.F.slot_list_append PySem.F.type_list_append mt_append (pv 2) (pa_cons (pe_tup (pa_cons (C8.pe_c cK hr (by decide) (by rfl) (pa_cons (pv 4) pa_nil)) (pa_cons (pv 5) pa_nil))) pa_nil)))))))
      (pss_one (ps_ret (pv 2)))), ?_⟩
    refine ⟨(by show 0 ≤ sizeLine; decide), fun l nl => ?_⟩
    have s0 := same_upd (o := .lst []) nl
    obtain ⟨ms, em, lm⟩ := cut24 ns
    refine ⟨_, rfl, _, rfl, _, rfl, _, rfl, _, _, rfl, rfl, _, rfl, a, _, rfl, s0.seq hs, fun c nc => ?_⟩
    rw [em]
    have s1 := s0.trans (same_upd (o := .lst (ms.map V.int)) nc)
    have ncl : c ≠ l := (ne_of_none upd_same nc).symm
    refine ⟨c, rfl, ⟨_, SqL.of upd_same⟩, ?_⟩
    refine for_it (walk_list (K := K) (a := c) (xs := ms.map V.int)) (fun i σ H' => ∃ (vs' : List V) (rows : List (Ky × Sps)) (z3 z4 z5 : Option V), σ = [some (.ref a), some (.int 1), some (.ref l), z3, z4, z5] ∧ Same H H' ∧ H' c = some (.lst (ms.map V.int)) ∧ H' l = some (.lst vs') ∧ EntsA H' vs' rows ∧ rows.length = i ∧ ∀ e ∈ rows, GoodK e.1 ∧ e.2.length ≤ 2)
      ⟨[], [], none, none, none, rfl, s1, upd_same, by rw [upd_ne ncl.symm, upd_same], trivial, rfl, fun _ m => by cases m⟩ (fun i σ H' _ ⟨_, _, _, _, _, _, _, e, _⟩ => SqL.of e) ?_ ?_
    · rintro i x σ H1 H2 hi ⟨vs', rows, z3, z4, z5, rfl, s2, ec, el, hE, rl, rg⟩ ⟨rfl, hx⟩
      rw [List.getElem?_map] at hx
      obtain ⟨u, hu, rfl⟩ := Option.map_eq_some_iff.mp hx
      rw [List.length_map] at hi
      have vl := hE.len
      refine ⟨_, rfl, u, 6, rfl, by decide, fun H3 p3 s3 d3 => ?_⟩
      obtain ⟨xs4, d4, e4, a4, _, _⟩ := d3.get (z := 4) (by decide) (by decide)
      obtain ⟨xs5, d5, e5, a5, _, _⟩ := d3.get (z := 5) (by decide) (by decide)
      refine ⟨fun σ' H' => ∃ (p4 : Addr) (sp : Sps), σ' = [some (.ref a), some (.int 1), some (.ref l), some (.int u), some (.ref p3), some (.ref p4)] ∧ Same H3 H' ∧ SpA H' p4 sp ∧ sp.length ≤ 2, ?_, ?_⟩
      · refine ⟨_, rfl, p3, xs4, _, _, rfl, rfl, SqL.of e4, a4, _, _, rfl, rfl, (by decide : (0 : Int) < 5), rfl, _, rfl, ite2 (fun _ => ?_) (fun _ => ?_)⟩
        · exact ⟨(by show 0 ≤ sizeLine; decide), fun p np => ⟨p, [], rfl, same_upd np, ⟨[], upd_same, trivial⟩, (by show 0 ≤ 2; decide)⟩⟩
        · exact ⟨_, rfl, p3, xs4, _, _, rfl, rfl, SqL.of e4, a4, _, rfl, p3, xs5, _, _, rfl, rfl, SqL.of e5, a5, d4, d5, rfl, fun H4 p4 sp s4 h4 l4 => ⟨p4, sp, rfl, s4, h4, l4⟩⟩
      · rintro σ' H4 ⟨p4, sp, rfl, s4, h4, l4⟩
        have s34 := s3.trans s4
        refine ⟨_, rfl, .inl ⟨rfl, _, SqL.of (s34 _ _ el)⟩, _, rfl, p3, rfl, d3.same s4, fun H5 ka k s5 hk gk => ?_⟩
        refine ⟨_, rfl, (by show 2 ≤ sizeLine; decide), fun p np => ?_⟩
        have s6 := same_upd (o := .tup [.ref ka, .ref p4]) np
        have s7 := (s34.trans s5).trans s6
        refine ⟨l, vs', _, rfl, rfl, s7 _ _ el, small1000 (by omega), ?_⟩
        have pl : p ≠ l := fun z => by rw [z, (s34.trans s5) _ _ el] at np; cases np
        have s8 : SameT _ (upd (upd H5 p (.tup [.ref ka, .ref p4])) l (.lst (vs' ++ [.ref p]))) := SameT.upd (s7 _ _ el) (fun _ z => by cases z)
        refine ⟨vs' ++ [.ref p], rows ++ [(k, sp)], _, _, _, rfl, same_at (s2.trans s7) nl, ?_, upd_same, ((hE.sameT (SameT.of s7)).sameT s8).snoc (ka := ka) (sa := p4) ?_ ((SameT.of s6).trans s8 _ _ hk) ((h4.same (s5.trans s6)).sameT s8), by rw [List.length_append, List.length_singleton, rl], fun e he => ?_⟩
        · rw [upd_ne ncl]
          exact s7 _ _ ec
        · rw [upd_ne pl, upd_same]
        · rcases List.mem_append.mp he with he | he
          · exact rg e he
          · rw [List.mem_singleton.mp he]; exact ⟨gk, l4⟩
    · rintro σ H1 ⟨vs', rows, z3, z4, z5, rfl, s2, ec, el, hE, rl, rg⟩
      rw [List.length_map] at rl
      exact ⟨_, rfl, q H1 l vs' rows s2 el hE ⟨by omega, rg⟩⟩
end
end Ask

set_option Elab.async false
set_option linter.all false
set_option maxRecDepth 100000
set_option maxHeartbeats 4000000
namespace Ask
open PySem PySem.Spec PyProof.Rows L2 AskR
/-! ### the law's own octets -/
theorem cat_ex {H : Hp} {Q : VK} {a b : Addr} {xs ys : List Int} (ha : H a = some (.lst (xs.map V.int))) (hb : H b = some (.lst (ys.map V.int))) (hz : xs.length + ys.length ≤ 1000)
    (q : ∀ H' p, Same H H' → H' p = some (.lst ((xs ++ ys).map V.int)) → Q (.ref p) H') : rCat (.ref a) (.ref b) H Q := by
  refine ⟨a, b, _, _, rfl, rfl, ha, hb, line_of (by rw [List.length_map, List.length_map]; omega), fun p np => q _ p (same_upd np) (by rw [upd_same, List.map_append])⟩
section
variable {P : Program} {w : World} {K : PySem.W.Frag} {mg : Str → Option Value} {base : Heap} {f : Addr} {fd : FuncData} {C : Addr}
abbrev sOctL : Stmt := topS 36
def spOctL : Sp := fun vs H Q _ => ∃ (a : Addr) (k : Ky), vs = [.ref a] ∧ KeyA H a k ∧ GoodK k ∧ ∀ H' p, Same H H' → IntsA H' p (oct k) → Q (.ref p) H'
theorem scOctL : FnScope ["_law_key_here", "_law_octets_here", "_law_value_here", "_law_sign", "_law_unit"] ["_law_key_here"] (C8.fnScope sOctL) := C8.fnScope_by (by decide +kernel)
theorem cal_octL (Z : Free mg) (F : C8.Def K mg "_law_octets" sOctL f fd) (b : Binds K fd ["_law_key_here"] []) : C8.Cal P w K mg base 1 "_law_octets" spOctL [] := by
  refine C8.cal0 F b .nil scOctL (fun vs H Q E h => ?_) (fun cdv A outer s H vs Q E hr h => ?_)
  · obtain ⟨a, k, rfl, _⟩ := h
    rfl
  · obtain ⟨a, ky, rfl, hk, g, q⟩ := h
    refine ⟨_, pss_cons (ps_set (i := 1) scOctL.nd rfl (.inl rfl) (pe_lst pa_nil))
      (pss_cons (ps_for PassesOwn.never rfl (pi_tup (pv 0)) (pg_name (i := 2) scOctL.nd rfl (.inr rfl))
        (pss_one (ps_if (pt_val (pe_callB call_isi (by rfl) Z.isi boot_isinstance (pa_cons (pv 2) (pa_cons (pe_bltn (v := .ty "str") (by rfl) Z.str_ boot_str rfl) pa_nil))))
          (pss_one (ps_set (i := 1) scOctL.nd rfl (.inl rfl) (pe_op op_cat (pe_op op_cat (pe_op op_cat (pv 1) (pe_lst (pa_cons pe_int pa_nil)))
            (pe_lc (own := [("_law_sign", 3)]) (g := gName 3) (tt := tYes) rfl scOctL.nd (pi_str (pv 2)) (blkOk_by (N := ["_law_key_here", "_law_octets_here", "_law_value_here", "_law_sign", "_law_unit"]) (sc := C8.fnScope sOctL) (by decide +kernel))
              (fun _ _ _ _ _ => pg_name (i := 3) scOctL.nd rfl (Or.inl rfl)) (fun _ _ _ _ _ => pts_nil) (fun _ _ _ _ _ => pe_callB call_ord (by rfl) Z.ord_ boot_ord (pa_cons (pv 3) pa_nil)))) (pe_lst (pa_cons pe_int pa_nil)))))
          (pss_one (ps_set (i := 1) scOctL.nd rfl (.inl rfl) (pe_op op_cat (pe_op op_cat (pv 1) (pe_lst (pa_cons pe_int pa_nil)))
            (pe_lc (own := [("_law_unit", 4)]) (g := gName 4) (tt := tYes) rfl scOctL.nd (pi_tup (pe_tup (pa_cons pe_int (pa_cons pe_int (pa_cons pe_int pa_nil))))) (blkOk_by (N := ["_law_key_here", "_law_octets_here", "_law_value_here", "_law_sign", "_law_unit"]) (sc := C8.fnScope sOctL) (by decide +kernel))
              (fun _ _ _ _ _ => pg_name (i := 4) scOctL.nd rfl (Or.inl rfl)) (fun _ _ _ _ _ => pts_nil) (fun _ _ _ _ _ => pe_op op_mod (pe_op op_fdiv (pe_callTy call_int1 (by rfl) Z.int_ boot_int (pa_cons (pv 2) pa_nil)) (pv 4)) pe_int))))))))
      (pss_one (ps_ret (pe_callTy call_tuple_of (by rfl) Z.tup boot_tuple (pa_cons (pe_op op_cat (pv 1) (pe_lst (pa_cons pe_int pa_nil))) pa_nil))))), ?_⟩
    refine ⟨Nat.zero_le _, fun p0 n0 => ?_⟩
    have s0 : Same H (upd H p0 (.lst [])) := same_upd n0
    refine ⟨_, rfl, a, rfl, ⟨_, SqT.of (s0 _ _ hk)⟩, ?_⟩
    refine for_it (walk_tup (xs := ky.map kV)) (fun i σ H' => ∃ p z2 z3 z4, σ = [some (.ref a), some (.ref p), z2, z3, z4] ∧ Same H H' ∧ H' p = some (.lst ((bOct (ky.take i)).map V.int))) ⟨p0, none, none, none, rfl, s0, upd_same⟩ (fun i σ H' _ ⟨p, _, _, _, _, s1, _⟩ => SqT.of (s1 _ _ hk)) ?_ ?_
    · rintro i x σ H1 H2 hi ⟨p, z2, z3, z4, rfl, s1, hp⟩ ⟨rfl, hx⟩
      rw [List.getElem?_map] at hx
      obtain ⟨v, hv, rfl⟩ := Option.map_eq_some_iff.mp hx
      have gv := g.2 v (List.mem_of_getElem? hv)
      have et : ky.take (i + 1) = ky.take i ++ [v] := by rw [List.take_add_one, hv]; rfl
      have gl : (bOct (ky.take i)).length ≤ 504 := GoodK.blen ⟨Nat.le_trans (by rw [List.length_take]; exact Nat.min_le_right _ _) g.1, fun u hu => g.2 u (List.mem_of_mem_take hu)⟩
      rw [et, bOct_snoc]
      generalize bOct (ky.take i) = bs at *
      cases v with
      | inl n =>
        obtain ⟨g0, g1⟩ : 0 ≤ n ∧ n ≤ 999999 := gv
        refine ⟨_, rfl, .int n, .ty "str", .type "int", .type "str", false, rfl, .ty _, .base (.int n), kit_ty (by decide +kernel), false, rfl, iteF ?_⟩
        refine ⟨_, rfl, (by show 1 ≤ sizeLine; decide), fun p1 n1 => ?_⟩
        have s2 := s1.trans (same_upd (o := .lst [.int 1]) n1)
        refine cat_ex (ys := [1]) ((same_upd n1) _ _ hp) upd_same (by rw [List.length_singleton]; omega) fun H3 p3 s3 h3 => ?_
        have s4 := s2.trans s3
        refine ⟨(by show 3 ≤ sizeLine; decide), fun t nt => ⟨t, rfl, ⟨_, SqT.of upd_same⟩, fun D nD => ?_⟩⟩
        have s5 := same_upd (o := .tup [.int 65536, .int 256, .int 1]) nt
        refine lc_itN (walk_tup (K := K) (a := t) (xs := [65536, 256, 1].map V.int)) (fun i H' => Same (upd H3 t (.tup [.int 65536, .int 256, .int 1])) H' ∧ H' D = some (.lst ((([65536, 256, 1].take i).map fun u : Int => n / u % 256).map V.int))) ⟨same_upd nD, upd_same⟩ (fun _ _ _ e => SqT.of (e.1 _ _ upd_same)) (fun _ => rfl) ?_ ?_
        · rintro i y H4 H5 hi ⟨s6, e6⟩ ⟨rfl, hy⟩
          rw [List.getElem?_map] at hy
          obtain ⟨u, hu, rfl⟩ := Option.map_eq_some_iff.mp hy
          have um : u ∈ ([65536, 256, 1] : List Int) := List.mem_of_getElem? hu
          have ud : u = 65536 ∨ u = 256 ∨ u = 1 := by simpa using um
          have e7 : ([65536, 256, 1] : List Int).take (i + 1) = ([65536, 256, 1] : List Int).take i ++ [u] := by rw [List.take_add_one, hu]; rfl
          refine ⟨_, rfl, .inl ⟨n, rfl, _, rfl, _, _, rfl, rfl, ?_, _, _, rfl, rfl, (by decide : (0 : Int) < 256), _, e6, ?_, same_at s6 nD, ?_⟩⟩
          · rcases ud with rfl | rfl | rfl <;> exact ⟨by decide, by decide⟩
          · rw [List.length_map, List.length_map, List.length_take]
            exact small1000 (by show min i 3 ≤ 1000; omega)
          · rw [upd_same, e7, List.map_append, List.map_append]
            rfl
        · rintro H4 ⟨s6, e6⟩
          have e8 : (([65536, 256, 1].take (([65536, 256, 1] : List Int).map V.int).length).map fun u : Int => n / u % 256) = [n / 65536, n / 256 % 256, n % 256] := by
            show [n / 65536 % 256, n / 256 % 256, n / 1 % 256] = _
            rw [show n / 65536 % 256 = n / 65536 by omega, show n / 1 = n by omega]
          rw [e8] at e6
          have s7 := (s5.trans s6)
          refine cat_ex (s7 _ _ h3) e6 (by rw [List.length_append]; show bs.length + 1 + 3 ≤ 1000; omega) fun H5 p5 s8 h5 => ?_
          refine ⟨p5, _, _, _, rfl, (s4.trans s7).trans s8, ?_⟩
          rw [h5, List.append_assoc]
          rfl
      | inr x =>
        obtain ⟨xl, xc⟩ := id gv
        refine ⟨_, rfl, .str x, .ty "str", .type "str", .type "str", true, rfl, .ty _, .base (.str x), kit_ty (by decide +kernel), true, rfl, iteT ?_⟩
        refine ⟨_, rfl, (by show 1 ≤ sizeLine; decide), fun p1 n1 => ?_⟩
        have s2 := s1.trans (same_upd (o := .lst [.int 2]) n1)
        refine cat_ex (ys := [2]) ((same_upd n1) _ _ hp) upd_same (by rw [List.length_singleton]; omega) fun H3 p3 s3 h3 => ?_
        have s4 := s2.trans s3
        refine ⟨_, rfl, x, rfl, fun D nD => ?_⟩
        refine lc_itN walk_str (fun i H' => Same H3 H' ∧ H' D = some (.lst (((x.cps.toList.take i).map fun c : Nat => (c : Int)).map V.int))) ⟨same_upd nD, upd_same⟩ (fun _ _ _ _ => trivial) (fun _ => rfl) ?_ ?_
        · rintro i y H4 H5 hi ⟨s6, e6⟩ ⟨rfl, c, hc, rfl⟩
          have e2 : x.cps.toList[i]? = some c := by rw [Array.getElem?_toList]; exact hc
          refine ⟨_, rfl, ⟨#[c]⟩, rfl, rfl, _, e6, ?_, same_at s6 nD, ?_⟩
          · rw [List.length_map, List.length_map, List.length_take]
            exact small1000 (by omega)
          · rw [upd_same, List.take_add_one, e2, List.map_append, List.map_append]
            rfl
        · rintro H4 ⟨s6, e6⟩
          have e3 : x.cps.toList.take x.cps.size = x.cps.toList := List.take_of_length_le (by rw [Array.length_toList]; exact Nat.le_refl _)
          rw [e3] at e6
          refine cat_ex (s6 _ _ h3) e6 (by rw [List.length_append, List.length_map]; show bs.length + 1 + _ ≤ 1000; omega) fun H5 p5 s8 h5 => ?_
          refine ⟨(by show 1 ≤ sizeLine; decide), fun r nr => ?_⟩
          refine cat_ex (ys := [0]) ((same_upd nr) _ _ h5) upd_same (by rw [List.length_append, List.length_append, List.length_map]; show bs.length + 1 + _ + 1 ≤ 1000; omega) fun H6 p6 s9 h6 => ?_
          refine ⟨p6, _, _, _, rfl, (((s4.trans s6).trans s8).trans (same_upd nr)).trans s9, ?_⟩
          rw [h6, List.append_assoc, List.append_assoc]
          rfl
    · rintro σ H1 ⟨p, z2, z3, z4, rfl, s1, hp⟩
      rw [List.length_map, List.take_length] at hp
      have bl := g.blen
      refine ⟨_, rfl, (by show 1 ≤ sizeLine; decide), fun r nr => ?_⟩
      refine cat_ex (ys := [0]) ((same_upd nr) _ _ hp) upd_same (by rw [List.length_singleton]; omega) fun H6 p6 s9 h6 => ?_
      exact ⟨_, _, rfl, .inl ⟨SqL.of h6, fun t nt => q _ t (((s1.trans (same_upd nr)).trans s9).trans (same_upd nt)) upd_same⟩⟩
end
end Ask

set_option Elab.async false
set_option linter.all false
set_option maxRecDepth 100000
set_option maxHeartbeats 4000000
namespace Ask
open PySem PySem.Spec PyProof.Rows L2 AskR
/-! ### the dict of the law, by entries -/
def DicA (H : Hp) : List (Ky × V) → List (Ky × Sps) → Prop
  | [], [] => True
  | kv :: r, e :: s => (kv.1 = e.1 ∧ ∃ sa, kv.2 = .ref sa ∧ SpA H sa e.2) ∧ DicA H r s
  | _, _ => False
theorem DicA.sameT {H H' : Hp} (h : SameT H H') : ∀ {kvs : List (Ky × V)} {es : List (Ky × Sps)}, DicA H kvs es → DicA H' kvs es
  | [], [], _ => trivial
  | _ :: _, _ :: _, ⟨⟨a, sa, e, q⟩, r⟩ => ⟨⟨a, sa, e, q.sameT h⟩, DicA.sameT h r⟩
theorem DicA.keys {H : Hp} : ∀ {kvs : List (Ky × V)} {es : List (Ky × Sps)}, DicA H kvs es → kvs.map (·.1) = es.map (·.1)
  | [], [], _ => rfl
  | _ :: _, _ :: _, ⟨⟨a, _⟩, r⟩ => by rw [List.map_cons, List.map_cons, a, DicA.keys r]
theorem DicA.get {H : Hp} {k : Ky} : ∀ {kvs : List (Ky × V)} {es : List (Ky × Sps)}, DicA H kvs es → k ∈ kvs.map (·.1) → ∃ sa e, valV kvs k = some (.ref sa) ∧ e ∈ es ∧ e.1 = k ∧ SpA H sa e.2
  | [], [], _, m => by simp at m
  | kv :: r, e :: s, ⟨⟨a, sa, ev, q⟩, t⟩, m => by
    by_cases c : kv.1 = k
    · exact ⟨sa, e, by rw [valV_pos c, ev], List.mem_cons_self .., a.symm.trans c, q⟩
    · rw [List.map_cons] at m
      rcases List.mem_cons.mp m with z | m
      · exact absurd z.symm c
      · obtain ⟨sb, e', h1, h2, h3, h4⟩ := DicA.get t m
        exact ⟨sb, e', by rw [valV_neg c]; exact h1, List.mem_cons_of_mem _ h2, h3, h4⟩
def putG (es : List (Ky × Sps)) (k : Ky) (s : Sps) : List (Ky × Sps) := if (es.any fun e => decide (e.1 = k)) = true then es.map (fun e => if e.1 = k then (e.1, s) else e) else es ++ [(k, s)]
def dropG (es : List (Ky × Sps)) (k : Ky) : List (Ky × Sps) := es.filter fun e => decide (e.1 ≠ k)
theorem DicA.any {H : Hp} {k : Ky} : ∀ {kvs : List (Ky × V)} {es : List (Ky × Sps)}, DicA H kvs es → (kvs.any fun kv => decide (kv.1 = k)) = es.any fun e => decide (e.1 = k)
  | [], [], _ => rfl
  | kv :: r, e :: s, ⟨⟨a, _⟩, t⟩ => by rw [List.any_cons, List.any_cons, a, DicA.any t]
theorem DicA.map {H : Hp} {k : Ky} {sa : Addr} {s : Sps} (h : SpA H sa s) : ∀ {kvs : List (Ky × V)} {es : List (Ky × Sps)}, DicA H kvs es → DicA H (kvs.map fun kv => if kv.1 = k then (kv.1, .ref sa) else kv) (es.map fun e => if e.1 = k then (e.1, s) else e)
  | [], [], _ => trivial
  | kv :: r, e :: t, ⟨⟨a, sb, ev, q⟩, u⟩ => by
    refine ⟨?_, DicA.map h u⟩
    dsimp only
    by_cases c : e.1 = k
    · rw [if_pos c, if_pos (a.trans c)]
      exact ⟨a, sa, rfl, h⟩
    · rw [if_neg c, if_neg (fun z => c (a.symm.trans z))]
      exact ⟨a, sb, ev, q⟩
theorem DicA.snoc {H : Hp} {k : Ky} {sa : Addr} {s : Sps} (h : SpA H sa s) : ∀ {kvs : List (Ky × V)} {es : List (Ky × Sps)}, DicA H kvs es → DicA H (kvs ++ [(k, .ref sa)]) (es ++ [(k, s)])
  | [], [], _ => ⟨⟨rfl, sa, rfl, h⟩, trivial⟩
  | _ :: _, _ :: _, ⟨a, u⟩ => ⟨a, DicA.snoc h u⟩
theorem DicA.put {H : Hp} {k : Ky} {sa : Addr} {s : Sps} (h : SpA H sa s) {kvs : List (Ky × V)} {es : List (Ky × Sps)} (d : DicA H kvs es) : DicA H (putK kvs k (.ref sa)) (putG es k s) := by
  unfold putK putG
  rw [d.any]
  split
  · exact d.map h
  · exact d.snoc h
theorem DicA.drop {H : Hp} {k : Ky} : ∀ {kvs : List (Ky × V)} {es : List (Ky × Sps)}, DicA H kvs es → DicA H (dropK kvs k) (dropG es k)
  | [], [], _ => trivial
  | kv :: r, e :: s, ⟨⟨a, b⟩, t⟩ => by
    unfold dropK dropG
    by_cases c : e.1 = k
    · rw [List.filter_cons_of_neg (by simp [a, c]), List.filter_cons_of_neg (by simp [c])]
      exact DicA.drop t
    · rw [List.filter_cons_of_pos (by simp [a, c]), List.filter_cons_of_pos (by simp [c])]
      exact ⟨⟨a, b⟩, DicA.drop t⟩
theorem putG_mem {es : List (Ky × Sps)} {k : Ky} {s : Sps} (e : Ky × Sps) : e ∈ putG es k s ↔ (e.1 ≠ k ∧ e ∈ es) ∨ e = (k, s) := by
  unfold putG
  split
  · rename_i a
    obtain ⟨x, hx, ex⟩ := List.any_eq_true.mp a
    have ex := of_decide_eq_true ex
    rw [List.mem_map]
    constructor
    · rintro ⟨y, hy, rfl⟩
      by_cases c : y.1 = k
      · rw [if_pos c, c]; exact .inr rfl
      · rw [if_neg c]; exact .inl ⟨c, hy⟩
    · rintro (⟨n, m⟩ | rfl)
      · exact ⟨e, m, if_neg n⟩
      · exact ⟨x, hx, by rw [if_pos ex, ex]⟩
  · rename_i a
    rw [List.mem_append, List.mem_singleton]
    constructor
    · rintro (m | r)
      · exact .inl ⟨fun z => a (List.any_eq_true.mpr ⟨e, m, decide_eq_true z⟩), m⟩
      · exact .inr r
    · rintro (⟨_, m⟩ | r)
      · exact .inl m
      · exact .inr r
theorem dropG_mem {es : List (Ky × Sps)} {k : Ky} (e : Ky × Sps) : e ∈ dropG es k ↔ e.1 ≠ k ∧ e ∈ es := by
  unfold dropG
  rw [List.mem_filter, decide_eq_true_eq, And.comm]
theorem putG_nd {es : List (Ky × Sps)} {k : Ky} {s : Sps} (h : (es.map (·.1)).Nodup) : ((putG es k s).map (·.1)).Nodup := by
  unfold putG
  split
  · rw [List.map_map]
    have : ((fun e : Ky × Sps => e.1) ∘ fun e => if e.1 = k then (e.1, s) else e) = fun e => e.1 := by
      funext e
      show (if e.1 = k then (e.1, s) else e).1 = e.1
      split <;> rfl
    rw [this]
    exact h
  · rename_i a
    rw [List.map_append]
    refine nd_snoc h fun m => a ?_
    obtain ⟨x, hx, ex⟩ := List.mem_map.mp m
    exact List.any_eq_true.mpr ⟨x, hx, decide_eq_true ex⟩
theorem dropG_nd {es : List (Ky × Sps)} {k : Ky} (h : (es.map (·.1)).Nodup) : ((dropG es k).map (·.1)).Nodup := h.sublist (List.Sublist.map _ List.filter_sublist)
theorem putG_len {es : List (Ky × Sps)} {k : Ky} {s : Sps} : (putG es k s).length ≤ es.length + 1 := by
  unfold putG
  split
  · rw [List.length_map]; omega
  · rw [List.length_append, List.length_singleton]; exact Nat.le_refl _
theorem dropG_len {es : List (Ky × Sps)} {k : Ky} : (dropG es k).length ≤ es.length := List.length_filter_le ..
theorem nd_key {es : List (Ky × Sps)} (h : (es.map (·.1)).Nodup) {a b : Ky × Sps} (ha : a ∈ es) (hb : b ∈ es) (e : a.1 = b.1) : a = b := by
  induction es with
  | nil => cases ha
  | cons x xs ih =>
    rw [List.map_cons, List.nodup_cons] at h
    rcases List.mem_cons.mp ha with p | p
    · rcases List.mem_cons.mp hb with q | q
      · rw [p, q]
      · exact absurd (List.mem_map.mpr ⟨b, q, by rw [← e, p]⟩) h.1
    · rcases List.mem_cons.mp hb with q | q
      · exact absurd (List.mem_map.mpr ⟨a, p, by rw [e, q]⟩) h.1
      · exact ih h.2 p q
/-! ### in order -/
def SortE (es : List (Ky × Sps)) : Prop := es.Pairwise fun a b => lx (oct a.1) (oct b.1) = true
def leK (a b : Ky) : Bool := !HT.lexLt (oct b) (oct a)
theorem sort_keys {ks : List Ky} (nd : ks.Nodup) (g : ∀ k ∈ ks, GoodK k) : (ks.mergeSort leK).Pairwise fun a b => lx (oct a) (oct b) = true := by
  have tr : ∀ a b c : Ky, leK a b = true → leK b c = true → leK a c = true := fun a b c h1 h2 => by
    unfold leK at *
    rw [← lx_eq] at *
    rw [Bool.not_eq_true'] at *
    cases z : lx (oct c) (oct a) with
    | false => rfl
    | true => rw [lx_lt_le z h1] at h2; cases h2
  have tot : ∀ a b : Ky, (leK a b || leK b a) = true := fun a b => by
    unfold leK
    rw [← lx_eq, ← lx_eq]
    cases z : lx (oct b) (oct a) with
    | false => rfl
    | true => rw [lx_asymm z]; rfl
  have so := List.pairwise_mergeSort tr tot ks
  have pm := List.mergeSort_perm ks leK
  have nd2 : (ks.mergeSort leK).Nodup := pm.nodup_iff.mpr nd
  have g2 : ∀ k ∈ ks.mergeSort leK, GoodK k := fun k hk => g k (pm.mem_iff.mp hk)
  generalize ks.mergeSort leK = l at *
  clear pm
  induction l with
  | nil => exact List.Pairwise.nil
  | cons x xs ih =>
    rw [List.pairwise_cons] at so ⊢
    rw [List.nodup_cons] at nd2
    refine ⟨fun y hy => ?_, ih so.2 nd2.2 fun k hk => g2 k (List.mem_cons_of_mem _ hk)⟩
    have h := so.1 y hy
    unfold leK at h
    rw [← lx_eq, Bool.not_eq_true'] at h
    rcases lx_tri (oct x) (oct y) with q | q | q
    · exact q
    · have := goodK.inj (g2 x (List.mem_cons_self ..)) (g2 y (List.mem_cons_of_mem _ hy)) q
      rw [this] at nd2
      exact absurd hy nd2.1
    · rw [h] at q; cases q
end Ask

set_option Elab.async false
set_option linter.all false
set_option maxRecDepth 100000
set_option maxHeartbeats 4000000
namespace Ask
open PySem PySem.Spec PyProof.Rows L2 AskR
/-! ### _law_sorted -/
/-- a def of the module, its code object at c -/
structure DefC (K : PySem.W.Frag) (mg : Str → Option Value) (x : Str) (st : Stmt) (f : Addr) (fd : FuncData) (c : Addr) : Prop where
  ex : ∃ (oc : Value) (od : Option Addr) (dV kV doc pm : Value) (an : Option Addr) (ct : Value) (osl : Array (Option Value)),
    fd = PySem.W.fnOf x x (C8.fnArgs st) (C8.fnBody st) (C8.fnScope st) dV kV doc pm an (.ref c) ct ∧ K.lookup f = some ⟨oc, od, .func fd, osl⟩ ∧ PySem.W.codeIn K (.ref c) x = true
  mgf : mg x = some (.ref f)
  kp : PySem.W.keepIn K (.ref f) = true
theorem DefC.def_ {K : PySem.W.Frag} {mg : Str → Option Value} {x : Str} {st : Stmt} {f : Addr} {fd : FuncData} {c : Addr} (F : DefC K mg x st f fd c) : C8.Def K mg x st f fd := by
  obtain ⟨oc, od, dV, kV, doc, pm, an, ct, osl, e, l, h⟩ := F.ex
  exact ⟨⟨oc, od, dV, kV, doc, pm, an, .ref c, ct, osl, e, l, h⟩, F.mgf, F.kp⟩
theorem SameT.ofN {H H' : Hp} (e : LamX.ExtN H H') : SameT H H' := fun b xs h => e b _ h fun ps z => by cases z
section
variable {P : Program} {w : World} {K : PySem.W.Frag} {mg : Str → Option Value} {base : Heap} {f : Addr} {fd : FuncData} {C : Addr}
theorem cal_c {x : Str} {st : Stmt} {c : Addr} {N ps : List Str} {ds : List Value} {dvs : List V} {k : Nat} {sp : Sp} (F : DefC K mg x st f fd c) (b : Binds K fd ps ds) (d : Vals dvs ds) (S : FnScope N ps (C8.fnScope st)) (len : ∀ vs H Q E, sp vs H Q E → vs.length = ps.length)
    (hbody : ∀ (A : Around) (outer : List Env) (s : Shared) (H : Hp) (vs : List V) (Q : VK) (E : XK), Room k (A.deeper (envOfC x (C8.fnScope st) s.heap.objs.size f (.ref c))) → sp vs H Q E →
      ∃ t, PSs (cxOf C8.CX0 P w K mg base N x (C8.fnScope st) f (.ref c) A outer s H E).nox (C8.fnBody st) t ∧ t { nx := fun _ H' => Q .non H', rt := Q } (start N vs) H) : C8.Cal P w K mg base (k + 1) x sp dvs := by
  obtain ⟨oc, od, dV, kV, doc, pm, an, ct, osl, rfl, lk, hcd⟩ := F.ex
  refine ⟨f, _, ps, ds, fn_of lk hcd S len fun A outer s H vs Q E hr hsp => ?_, F.mgf, F.kp, b, d⟩
  obtain ⟨t, h, q⟩ := hbody A outer s H vs Q E hr hsp
  exact ⟨t, h.nox, q⟩
abbrev sSrt : Stmt := topS 39
def lamQ : Str := (envOfC "_law_sorted" (C8.fnScope sSrt) 0 0 .none).qual ++ "<lambda>"
def lamT (p : Addr) : List (Addr × Str) := [(p, lamQ)]
def spSrt (tp : Addr) : Sp := fun vs H Q _ => ∃ (d : Addr) (kvs : List (Ky × V)) (es : List (Ky × Sps)), vs = [.ref d] ∧ H d = some (.dT kvs) ∧ DicA H kvs es ∧ (∀ e ∈ es, GoodK e.1) ∧ (es.map (·.1)).Nodup ∧ es.length ≤ 100 ∧ LamX.Tabs (lamT tp) H ∧
  ∀ H' p vs' es', LamX.ExtN H H' → LamX.Tabs (lamT tp) H' → H' p = some (.lst vs') → EntsA H' vs' es' → SortE es' → (∀ e, e ∈ es' ↔ e ∈ es) → Q (.ref p) H'
theorem scSrt : FnScope ["_law_state_here", "_law_keys", "_law_key_here"] ["_law_state_here"] (C8.fnScope sSrt) := C8.fnScope_by (by decide +kernel)
theorem cal_srt {c tp : Addr} (Z : Free mg) (TB : LamX.TabB base mg c tp) (cO : C8.Cal P w K mg base 1 "_law_octets" spOctL []) (F : DefC K mg "_law_sorted" sSrt f fd c) (b : Binds K fd ["_law_state_here"] []) : C8.Cal P w K mg base 6 "_law_sorted" (spSrt tp) [] := by
  refine cal_c F b .nil scSrt (fun vs H Q E h => ?_) (fun A outer s H vs Q E hr h => ?_)
  · obtain ⟨d, kvs, es, rfl, _⟩ := h
    rfl
  · obtain ⟨d, kvs, es, rfl, hd, hD, hg, nd, hl, hT, q⟩ := h
    have hu := hu_of hr
    refine ⟨_, pss_cons (ps_set (i := 1) scSrt.nd rfl (.inl rfl) (pe_sortL (T := lamT tp) (oc := oct) (G := GoodK) (k := 1) (N := ["_law_key_here"]) (p1 := "_law_key_here") rfl hr (by rfl) Z.srt (pv 0) TB rfl (List.mem_singleton.mpr rfl) (fun p hp _ => by rw [List.mem_singleton.mp hp]; rfl)
        (C8.fnScope_by (by decide +kernel)) rfl (fun _ => rfl) (by decide +kernel) (fun _ _ _ _ _ => rfl) (fun k _ => oct_ne k)
        (fun A f c' s H b ks Q hr g hb qq => ⟨_, C8.pe_c cO hr (Nat.le_refl _) (by rfl) (pa_cons (pv 0) pa_nil), _, rfl, b, ks, rfl, hb, g, qq⟩)))
      (pss_one (ps_ret (pe_lc (own := [("_law_key_here", 2)]) (g := gName 2) (tt := tYes) rfl scSrt.nd (pi_list (pv 1)) (blkOk_by (N := ["_law_state_here", "_law_keys", "_law_key_here"]) (sc := C8.fnScope sSrt) (by decide +kernel))
        (fun _ _ _ _ _ => pg_name (i := 2) scSrt.nd rfl (Or.inl rfl)) (fun _ _ _ _ _ => pts_nil) (fun _ _ _ _ _ => pe_tup (pa_cons (pv 2) (pa_cons (pe_dget hu (pv 0) (pv 2) (fun _ _ => rfl)) pa_nil)))))), ?_⟩
    have hk := hD.keys
    have gk : ∀ k ∈ kvs.map (·.1), GoodK k := fun k m => by
      rw [hk] at m
      obtain ⟨e, he, rfl⟩ := List.mem_map.mp m
      exact hg e he
    refine ⟨_, rfl, d, kvs, rfl, hd, fun kv hkv => gk _ (List.mem_map.mpr ⟨kv, hkv, rfl⟩), hT, fun H1 p bs eN T1 hp hbs hks => ?_⟩
    have hks' : bs.map (·.1) = (es.map (·.1)).mergeSort leK := by rw [← hk]; exact hks
    have so := sort_keys nd (fun k m => gk k (by rw [hk]; exact m))
    rw [← hks'] at so
    have bl : bs.length = es.length := by
      have := congrArg List.length hks'
      rw [List.length_mergeSort, List.length_map, List.length_map] at this
      exact this
    have bm : ∀ k, k ∈ bs.map (·.1) ↔ k ∈ es.map (·.1) := fun k => by rw [hks']; exact (List.mergeSort_perm _ _).mem_iff
    have d1 : H1 d = some (.dT kvs) := eN _ _ hd fun ps z => by cases z
    have D1 := hD.sameT (SameT.ofN eN)
    refine ⟨_, rfl, p, rfl, ⟨_, SqL.of hp⟩, fun D nD => ?_⟩
    refine lc_itN (walk_list (K := K) (a := p) (xs := bs.map fun x => V.ref x.2)) (fun i H' => Same H1 H' ∧ ∃ (acc : List V) (ee : List (Ky × Sps)), H' D = some (.lst acc) ∧ EntsA H' acc ee ∧ ee.map (·.1) = (bs.map (·.1)).take i ∧ ∀ e ∈ ee, e ∈ es) ⟨same_upd nD, [], [], upd_same, trivial, rfl, fun _ m => by cases m⟩ (fun _ _ _ ⟨s1, _⟩ => SqL.of (s1 _ _ hp)) (fun _ => rfl) ?_ ?_
    · rintro i y H2 H3 hi ⟨s1, acc, ee, ea, hE, ek, em⟩ ⟨rfl, hy⟩
      rw [List.getElem?_map] at hy
      obtain ⟨x, hx, rfl⟩ := Option.map_eq_some_iff.mp hy
      have xm := List.mem_of_getElem? hx
      have kx := s1 _ _ (hbs x xm)
      have xk : x.1 ∈ kvs.map (·.1) := by rw [hk]; exact (bm _).mp (List.mem_map.mpr ⟨x, xm, rfl⟩)
      obtain ⟨sa, e, hv, he, e1, hsa⟩ := D1.get xk
      have hsa := hsa.same s1
      have al := hE.len
      have eel : ee.length ≤ 100 := by
        have := congrArg List.length ek
        rw [List.length_map, List.length_take, List.length_map] at this
        omega
      refine ⟨_, rfl, _, rfl, _, rfl, d, _, rfl, (by rw [← hv]; exact DGet.t (s1 _ _ d1) kx), (by show 2 ≤ sizeLine; decide), fun t nt => ?_⟩
      have s2 := same_upd (o := .tup [.ref x.2, .ref sa]) nt
      have s3 := s1.trans s2
      have tD : t ≠ D := fun z => by rw [z, ea] at nt; cases nt
      refine ⟨acc, s2 _ _ ea, small1000 (by omega), same_at s3 nD, acc ++ [.ref t], ee ++ [e], upd_same, ?_, ?_, fun u hu => ?_⟩
      · have s4 : SameT _ (upd (upd H3 t (.tup [.ref x.2, .ref sa])) D (.lst (acc ++ [.ref t]))) := SameT.upd (s2 _ _ ea) (fun _ z => by cases z)
        refine ((hE.sameT (SameT.of s2)).sameT s4).snoc (ka := x.2) (sa := sa) ?_ (s4 _ _ (s2 _ _ ?_)) ((hsa.same s2).sameT s4)
        · rw [upd_ne tD, upd_same]
        · rw [e1]
          exact kx
      · rw [List.map_append, ek, List.take_add_one, List.getElem?_map, hx]
        show _ ++ [e.1] = _ ++ [x.1]
        rw [e1]
      · rcases List.mem_append.mp hu with hu | hu
        · exact em u hu
        · rw [List.mem_singleton.mp hu]; exact he
    · rintro H2 ⟨s1, acc, ee, ea, hE, ek, em⟩
      rw [List.length_map, ← List.length_map (f := fun x : KA => x.1) (as := bs), List.take_length] at ek
      refine q H2 D acc ee (eN.trans (LamX.ExtN.of s1)) (T1.ext s1) ea hE ?_ fun e => ⟨em e, fun he => ?_⟩
      · rw [← ek] at so
        exact List.pairwise_map.mp so
      · have : e.1 ∈ ee.map (·.1) := by rw [ek]; exact (bm _).mpr (List.mem_map.mpr ⟨e, he, rfl⟩)
        obtain ⟨e', he', e2⟩ := List.mem_map.mp this
        rw [← nd_key nd (em e' he') he e2]
        exact he'
end
end Ask

set_option Elab.async false
set_option linter.all false
set_option maxRecDepth 100000
set_option maxHeartbeats 4000000
namespace Ask
open PySem PySem.Spec PyProof.Rows L2 AskR
/-! ### bounds -/
def KeysA (H : Hp) : List V → List Ky → Prop
  | [], [] => True
  | v :: vs, k :: ks => (∃ a, v = .ref a ∧ KeyA H a k) ∧ KeysA H vs ks
  | _, _ => False
theorem KeysA.sameT {H H' : Hp} (h : SameT H H') : ∀ {vs : List V} {ks : List Ky}, KeysA H vs ks → KeysA H' vs ks
  | [], [], _ => trivial
  | _ :: _, _ :: _, ⟨⟨a, e, t⟩, r⟩ => ⟨⟨a, e, h _ _ t⟩, KeysA.sameT h r⟩
theorem KeysA.len {H : Hp} : ∀ {vs : List V} {ks : List Ky}, KeysA H vs ks → vs.length = ks.length
  | [], [], _ => rfl
  | _ :: _, _ :: _, ⟨_, r⟩ => by rw [List.length_cons, List.length_cons, KeysA.len r]
theorem KeysA.snoc {H : Hp} {a : Addr} {k : Ky} (h : KeyA H a k) : ∀ {vs : List V} {ks : List Ky}, KeysA H vs ks → KeysA H (vs ++ [.ref a]) (ks ++ [k])
  | [], [], _ => ⟨⟨a, rfl, h⟩, trivial⟩
  | _ :: _, _ :: _, ⟨q, r⟩ => ⟨q, KeysA.snoc h r⟩
theorem KeysA.get {H : Hp} : ∀ {vs : List V} {ks : List Ky} {i : Nat}, KeysA H vs ks → i < vs.length → ∃ a k, vs[i]? = some (.ref a) ∧ k ∈ ks ∧ KeyA H a k
  | [], [], _, _, h => absurd h (Nat.not_lt_zero _)
  | v :: vs, k :: ks, 0, ⟨⟨a, e, t⟩, _⟩, _ => ⟨a, k, by rw [e]; rfl, List.mem_cons_self .., t⟩
  | v :: vs, k :: ks, i + 1, ⟨_, r⟩, h => by
    obtain ⟨a, k', h1, h2, h3⟩ := KeysA.get (i := i) r (by rw [List.length_cons] at h; omega)
    exact ⟨a, k', by rw [List.getElem?_cons_succ]; exact h1, List.mem_cons_of_mem _ h2, h3⟩
theorem KeysA.at_ {H : Hp} {vs : List V} {ks : List Ky} (x : KeysA H vs ks) {z : Int} (h0 : 0 ≤ z) (h1 : z < vs.length) : ∃ a k, atI vs z = some (.ref a) ∧ k ∈ ks ∧ KeyA H a k := by
  obtain ⟨a, k, e1, e2, e3⟩ := x.get (i := z.toNat) (by omega)
  exact ⟨a, k, at_of (j := z.toNat) (by omega) e1, e2, e3⟩
theorem GoodK.cut {k : Ky} (g : GoodK k) (i j : Nat) : GoodK ((k.drop i).take j) := by
  refine ⟨?_, fun v hv => g.2 v (List.mem_of_mem_drop (List.mem_of_mem_take hv))⟩
  have := g.1
  rw [List.length_take, List.length_drop]
  omega
section
variable {P : Program} {w : World} {K : PySem.W.Frag} {mg : Str → Option Value} {base : Heap} {f : Addr} {fd : FuncData} {C : Addr}
abbrev sBnd : Stmt := topS 40
def spBnd : Sp := fun vs H Q _ => ∃ (p l : Addr) (us : List V) (ks : List Ky), vs = [.ref p, .ref l] ∧ DrawsA H p 3 ∧ H l = some (.lst us) ∧ KeysA H us ks ∧ ks ≠ [] ∧ (∀ k ∈ ks, GoodK k) ∧ ∀ H' r x y, Same H H' → PairO H' r x y → Q (.ref r) H'
theorem scBnd : FnScope ["_law_draws_here", "_law_keys"] ["_law_draws_here", "_law_keys"] (C8.fnScope sBnd) := C8.fnScope_by (by decide +kernel)
theorem cal_bnd (Z : Free mg) (cK : C8.Cal P w K mg base 3 "key_octets" spKeyO []) (cR : C8.Cal P w K mg base 3 "range_of" spRangeO []) (cRK : C8.Cal P w K mg base 4 "range_of_key" spRangeK []) (F : C8.Def K mg "_law_bounds" sBnd f fd) (b : Binds K fd ["_law_draws_here", "_law_keys"] []) : C8.Cal P w K mg base 5 "_law_bounds" spBnd [] := by
  refine C8.cal0 F b .nil scBnd (fun vs H Q E h => ?_) (fun cdv A outer s H vs Q E hr h => ?_)
  · obtain ⟨p, l, us, ks, rfl, _⟩ := h
    rfl
  · obtain ⟨p, l, us, ks, rfl, hd, hl, hK, ne, hg, q⟩ := h
    have ul := hK.len
    have up : (0 : Int) < ((us.length : Nat) : Int) := by
      have : 0 < ks.length := List.length_pos_iff.mpr ne
      omega
    have rng : ∀ z : Int, 0 ≤ z % ((us.length : Nat) : Int) ∧ z % ((us.length : Nat) : Int) < us.length := fun z => ⟨Int.emod_nonneg _ (by omega), Int.emod_lt_of_pos _ up⟩
    obtain ⟨xs0, d0, e0, a0, _, _⟩ := hd.get (z := 0) (by decide) (by decide)
    obtain ⟨xs1, d1, e1, a1, _, _⟩ := hd.get (z := 1) (by decide) (by decide)
    obtain ⟨xs2, d2, e2, a2, _, _⟩ := hd.get (z := 2) (by decide) (by decide)
    obtain ⟨ka, k, hka, hkm, hkA⟩ := hK.at_ (rng d1).1 (rng d1).2
    refine ⟨_, pss_cons (ps_if (pt_cmpR op_eq (pe_op op_mod (pe_ix ix_list (pv 0) pe_int (fun _ _ => rfl)) pe_int) pe_int (nomark _))
        (pss_one (ps_ret (C8.pe_c cR hr (by decide) (by rfl) (pa_cons (pe_slice sl_tupA (pe_ix ix_list (pv 1) (pe_op op_mod (pe_ix ix_list (pv 0) pe_int (fun _ _ => rfl)) (pe_callB call_len (by rfl) Z.len boot_len (pa_cons (pv 1) pa_nil))) (fun _ _ => rfl)) po_none (po_some (pe_op op_mod (pe_ix ix_list (pv 0) pe_int (fun _ _ => rfl)) pe_int))) pa_nil)))) pss_nil)
      (pss_cons (ps_if (pt_cmpR op_eq (pe_op op_mod (pe_ix ix_list (pv 0) pe_int (fun _ _ => rfl)) pe_int) pe_int (nomark _))
        (pss_one (ps_ret (C8.pe_c cRK hr (by decide) (by rfl) (pa_cons (pe_ix ix_list (pv 1) (pe_op op_mod (pe_ix ix_list (pv 0) pe_int (fun _ _ => rfl)) (pe_callB call_len (by rfl) Z.len boot_len (pa_cons (pv 1) pa_nil))) (fun _ _ => rfl)) pa_nil)))) pss_nil)
      (pss_one (ps_ret (pe_tup (pa_cons (C8.pe_c cK hr (by decide) (by rfl) (pa_cons (pe_ix ix_list (pv 1) (pe_op op_mod (pe_ix ix_list (pv 0) pe_int (fun _ _ => rfl)) (pe_callB call_len (by rfl) Z.len boot_len (pa_cons (pv 1) pa_nil))) (fun _ _ => rfl)) pa_nil))
        (pa_cons (C8.pe_c cK hr (by decide) (by rfl) (pa_cons (pe_ix ix_list (pv 1) (pe_op op_mod (pe_ix ix_list (pv 0) pe_int (fun _ _ => rfl)) (pe_callB call_len (by rfl) Z.len boot_len (pa_cons (pv 1) pa_nil))) (fun _ _ => rfl)) pa_nil)) pa_nil)))))), ?_⟩
    refine ⟨_, rfl, p, xs0, _, _, rfl, rfl, SqL.of e0, a0, _, _, rfl, rfl, (by decide : (0 : Int) < 3), rfl, _, rfl, ite2 (fun _ => ?_) (fun _ => ?_)⟩
    · refine ⟨_, rfl, _, rfl, p, xs1, _, _, rfl, rfl, SqL.of e1, a1, _, rfl, _, us.length, rfl, .inl ⟨us, SqL.of hl, rfl⟩, _, _, rfl, rfl, up, l, us, _, _, rfl, rfl, SqL.of hl, hka, ?_⟩
      refine ⟨_, rfl, p, xs2, _, _, rfl, rfl, SqL.of e2, a2, _, _, rfl, rfl, (by decide : (0 : Int) < 2), _, rfl, ka, _, rfl, SqT.of hkA, fun _ => ?_, fun _ np nnp => ?_⟩
      · exact ⟨ka, k, rfl, hkA, hg k hkm, fun H' r s1 h1 => q H' r _ _ s1 h1⟩
      · have s1 := same_upd (o := .tup (cutV (k.map kV) none (some (d2 % 2)))) nnp
        refine ⟨np, _, rfl, ?_, (hg k hkm).cut (HT.sIx (k.map kV).length 0 none) (HT.sIx (k.map kV).length (k.map kV).length (some (d2 % 2)) - HT.sIx (k.map kV).length 0 none), fun H' r s2 h2 => q H' r _ _ (s1.trans s2) h2⟩
        show upd H np _ np = _
        rw [upd_same]
        unfold cutV
        rw [List.map_take, List.map_drop]
    · refine ⟨_, rfl, p, xs0, _, _, rfl, rfl, SqL.of e0, a0, _, _, rfl, rfl, (by decide : (0 : Int) < 3), rfl, _, rfl, ite2 (fun _ => ?_) (fun _ => ?_)⟩
      · refine ⟨_, rfl, _, rfl, p, xs1, _, _, rfl, rfl, SqL.of e1, a1, _, rfl, _, us.length, rfl, .inl ⟨us, SqL.of hl, rfl⟩, _, _, rfl, rfl, up, l, us, _, _, rfl, rfl, SqL.of hl, hka, ?_⟩
        exact ⟨ka, k, rfl, hkA, hg k hkm, fun H' r s1 h1 => q H' r _ _ s1 h1⟩
      · refine ⟨_, rfl, _, rfl, p, xs1, _, _, rfl, rfl, SqL.of e1, a1, _, rfl, _, us.length, rfl, .inl ⟨us, SqL.of hl, rfl⟩, _, _, rfl, rfl, up, l, us, _, _, rfl, rfl, SqL.of hl, hka, ?_⟩
        refine ⟨ka, k, rfl, hkA, hg k hkm, fun H1 x s1 hx => ?_⟩
        obtain ⟨kb, k2, hkb, hkm2, hkB⟩ := hK.at_ (rng d2).1 (rng d2).2
        refine ⟨_, rfl, _, rfl, p, xs2, _, _, rfl, rfl, SqL.of (s1 _ _ e2), a2, _, rfl, _, us.length, rfl, .inl ⟨us, SqL.of (s1 _ _ hl), rfl⟩, _, _, rfl, rfl, up, l, us, _, _, rfl, rfl, SqL.of (s1 _ _ hl), hkb, ?_⟩
        refine ⟨kb, k2, rfl, s1 _ _ hkB, hg k2 hkm2, fun H2 y s2 hy => ⟨(by show 2 ≤ sizeLine; decide), fun r nr => ?_⟩⟩
        have s3 := same_upd (o := .tup [.ref x, .ref y]) nr
        exact q _ r _ _ ((s1.trans s2).trans s3) ⟨x, y, upd_same, s3 _ _ (s2 _ _ hx), s3 _ _ hy⟩
end
end Ask

set_option Elab.async false
set_option linter.all false
set_option maxRecDepth 100000
set_option maxHeartbeats 4000000
namespace Ask
open PySem PySem.Spec PyProof.Rows L2 AskR
/-! ### the plain law -/
theorem putO_ok {k : Ky} {sp : Sps} (g : GoodK k) {ot : Option Tr} (h : ∀ t, ot = some t → WF oct GoodK t) :
    (∀ t', putO k sp ot = some t' → WF oct GoodK t') ∧ ∀ e, e ∈ toLO (putO k sp ot) ↔ (e.1 ≠ k ∧ e ∈ toLO ot) ∨ (sp ≠ [] ∧ e = (k, sp)) := by
  cases ot with
  | none =>
    by_cases c : sp = []
    · have e : putO k sp none = none := if_pos c
      rw [e]
      refine ⟨fun _ z => (nomatch z), fun e => ?_⟩
      show e ∈ [] ↔ (e.1 ≠ k ∧ e ∈ []) ∨ _
      simp [c]
    · have e : putO k sp none = some (.leaf k sp) := if_neg c
      rw [e]
      refine ⟨fun t z => (by cases z; exact g), fun e => ?_⟩
      show e ∈ [(k, sp)] ↔ (e.1 ≠ k ∧ e ∈ []) ∨ _
      simp [c]
  | some t =>
    have w := h t rfl
    obtain ⟨p1, p2⟩ := put_ok (sp := sp) goodK g w
    show (∀ t', putW oct k sp t = some t' → _) ∧ ∀ e, e ∈ toLO (putW oct k sp t) ↔ (e.1 ≠ k ∧ e ∈ t.toL) ∨ _
    cases z : putW oct k sp t with
    | none =>
      obtain ⟨c, ak⟩ := p2 z
      refine ⟨fun _ z => (nomatch z), fun e => ?_⟩
      show e ∈ [] ↔ _
      constructor
      · intro m; cases m
      · rintro (⟨n, m⟩ | ⟨n, _⟩)
        · exact absurd (ak e m) n
        · exact absurd c n
    | some t' =>
      obtain ⟨w', u⟩ := p1 t' z
      exact ⟨fun t2 e => (by cases e; exact w'), u⟩
def WFo (ot : Option Tr) : Prop := ∀ t, ot = some t → WF oct GoodK t
theorem toLO_sort {ot : Option Tr} (h : WFo ot) : SortE (toLO ot) := by
  cases ot with
  | none => exact List.Pairwise.nil
  | some t => exact WF.sorted goodK (h t rfl)
theorem toLO_good {ot : Option Tr} (h : WFo ot) : ∀ e ∈ toLO ot, GoodK e.1 := by
  cases ot with
  | none => intro e m; cases m
  | some t => exact (h t rfl).all
theorem sort_nd {es : List (Ky × Sps)} (h : SortE es) : es.Nodup := by
  unfold SortE at h
  refine h.imp fun {a b} q z => ?_
  rw [z, lx_irrefl] at q
  cases q
theorem toLO_size {ot : Option Tr} (h : WFo ot) {es : List (Ky × Sps)} (nd : (es.map (·.1)).Nodup) (m : ∀ e, e ∈ toLO ot ↔ e ∈ es) : (toLO ot).length = es.length := by
  have n2 : es.Nodup := List.Pairwise.of_map (fun x : Ky × Sps => x.1) (fun a b h z => h (by rw [z])) nd
  exact ((List.perm_ext_iff_of_nodup (sort_nd (toLO_sort h)) n2).mpr m).length_eq
theorem both {ot : Option Tr} (h : WFo ot) {es : List (Ky × Sps)} (so : SortE es) (m : ∀ e, e ∈ es ↔ e ∈ toLO ot) : es = toLO ot :=
  sorted_one (f := fun e : Ky × Sps => oct e.1) so (toLO_sort h) m
theorem oct_four (k : Ky) : lx (oct k) [4] = true ∧ lx (oct k) [] = false := by
  cases k with
  | nil => exact ⟨by decide, rfl⟩
  | cons v k =>
    rw [oct_cons]
    cases v with
    | inl n => exact ⟨rfl, rfl⟩
    | inr x => exact ⟨rfl, rfl⟩
theorem toR_all (es : List (Ky × Sps)) : toR [] [4] es = es := by
  unfold toR
  rw [List.filter_eq_self]
  intro e _
  obtain ⟨a, b⟩ := oct_four e.1
  unfold inR
  rw [a, b]
  rfl
theorem toR_good {fs ls : List Int} {es : List (Ky × Sps)} (g : ∀ e ∈ es, GoodK e.1) : ∀ e ∈ toR fs ls es, GoodK e.1 := fun e m => g e (List.mem_filter.mp m).1
/-! ### heaps that keep all but the dict at d and the tables -/
def ExtD (d : Addr) (H H' : Hp) : Prop := ∀ b o, H b = some o → b ≠ d → (∀ ps, o ≠ .tbl ps) → H' b = some o
theorem ExtD.refl (d : Addr) (H : Hp) : ExtD d H H := fun _ _ e _ _ => e
theorem ExtD.trans {d : Addr} {H H1 H2 : Hp} (a : ExtD d H H1) (b : ExtD d H1 H2) : ExtD d H H2 := fun c o h n t => b c o (a c o h n t) n t
theorem ExtD.of {d : Addr} {H H' : Hp} (s : Same H H') : ExtD d H H' := fun b o e _ _ => s b o e
theorem ExtD.ofN {d : Addr} {H H' : Hp} (s : LamX.ExtN H H') : ExtD d H H' := fun b o e _ t => s b o e t
theorem ExtD.upd {d : Addr} {H : Hp} {o : HO} : ExtD d H (upd H d o) := fun b u e n _ => (upd_ne n).trans e
theorem ExtD.sameT {d : Addr} {H H' : Hp} (x : ExtD d H H') {kvs : List (Ky × V)} (h : H d = some (.dT kvs)) : SameT H H' := fun b xs e => x b _ e (fun z => by rw [z, h] at e; cases e) fun ps z => by cases z
theorem ExtD.lst {d : Addr} {H H' : Hp} (x : ExtD d H H') {kvs : List (Ky × V)} (h : H d = some (.dT kvs)) {b : Addr} {vs : List V} (e : H b = some (.lst vs)) : H' b = some (.lst vs) := x b _ e (fun z => by rw [z, h] at e; cases e) fun ps z => by cases z
theorem tabs_upd {T : List (Addr × Str)} {H : Hp} {d : Addr} {kvs kvs' : List (Ky × V)} (t : LamX.Tabs T H) (h : H d = some (.dT kvs)) : LamX.Tabs T (upd H d (.dT kvs')) := fun p hp => by
  obtain ⟨ps, h1, h2, h3⟩ := t p hp
  refine ⟨ps, by rw [upd_ne (fun z => by rw [z, h] at h1; cases h1)]; exact h1, h2, fun pos cv hc => ?_⟩
  obtain ⟨c, e1, e2⟩ := h3 pos cv hc
  exact ⟨c, e1, by rw [upd_ne (fun z => by rw [z, h] at e2; cases e2)]; exact e2⟩
theorem seq_ext {K : PySem.W.Frag} {H H' : Hp} {a : Addr} {xs : List V} (e : LamX.ExtN H H') (h : SqL K H a xs) : SqL K H' a xs := by
  rcases h with (h | ⟨o, h⟩) | h
  · exact .inl (.inl (e _ _ h fun ps z => by cases z))
  · exact .inl (.inr ⟨o, e _ _ h fun ps z => by cases z⟩)
  · exact .inr h
end Ask

set_option Elab.async false
set_option linter.all false
set_option maxRecDepth 100000
set_option maxHeartbeats 4000000
namespace Ask
open PySem PySem.Spec PyProof.Rows L2 AskR
/-! ### the law -/
section
variable {P : Program} {w : World} {K : PySem.W.Frag} {mg : Str → Option Value} {base : Heap} {f : Addr} {fd : FuncData} {C D : Addr}
abbrev sLaw : Stmt := topS 41
def lawN : List Str := ["_law_script", "_law_hasher_here", "_law_rows_here", "_law_row", "_law_keys", "_law_tree", "_law_state_here", "_law_k", "_law_before", "_law_known", "_law_first", "_law_last", "_law_due", "_law_entry"]
def spLaw (K : PySem.W.Frag) (tp : Addr) : Sp := fun vs H Q _ => ∃ (a : Addr) (ns : List Int), vs = [.ref a] ∧ SqL K H a (ns.map V.int) ∧ LamX.Tabs (lamT tp) H ∧ ∀ H', Q (.bl true) H'
theorem scLaw : FnScope lawN ["_law_script"] (C8.fnScope sLaw) := C8.fnScope_by (by decide +kernel)
/-- what the law calls -/
structure Calls (P : Program) (w : World) (K : PySem.W.Frag) (mg : Str → Option Value) (base : Heap) (C D tp : Addr) : Prop where
  cC : C8.Cal P w K mg base 1 "_law_cell" (spCellL K) []
  cH : C8.Cal P w K mg base 3 "_law_hasher" (spHash C) []
  cR : C8.Cal P w K mg base 3 "_law_rows" (spRows K) []
  cS : C8.Cal P w K mg base 6 "_law_sorted" (spSrt tp) []
  cP : C8.Cal P w K mg base 5 "put" (spPut C) []
  cB : C8.Cal P w K mg base 5 "_law_bounds" spBnd []
  cD : C8.Cal P w K mg base 1 "_law_draws" spDraws []
  cO : C8.Cal P w K mg base 1 "_law_octets" spOctL []
  cE : C8.Cal P w K mg base 2 "entries_trees" spEnts []
  mS : C8.Mak P w K mg base 1 "TreeSource" D (spSIni D) []
  mE : C8.Met P w K mg base 3 D "entries" (spSEnt D) []
def LawI (H0 : Hp) (a h ra kl d tp : Addr) (i : Nat) (σ : L2.St) (H' : Hp) : Prop := ∃ (tv : V) (ot : Option Tr) (kvs : List (Ky × V)) (es : List (Ky × Sps)) (z3 z7 z8 z9 z10 z11 z12 : Option V),
  σ = [some (.ref a), some (.ref h), some (.ref ra), z3, some (.ref kl), some tv, some (.ref d), z7, z8, z9, z10, z11, z12, none] ∧ LamX.ExtN H0 H' ∧ LamX.Tabs (lamT tp) H' ∧ OptA H' tv ot ∧ WFo ot ∧ H' d = some (.dT kvs) ∧ DicA H' kvs es ∧ (∀ e ∈ es, GoodK e.1) ∧ (es.map (·.1)).Nodup ∧ es.length ≤ i ∧ ∀ e, e ∈ toLO ot ↔ e ∈ es
theorem HashA.ext {C : Addr} {H H' : Hp} {h : Addr} (s : LamX.ExtN H H') (x : HashA C H h) : HashA C H' h := let ⟨dx, m, k, e, r⟩ := x; ⟨dx, m, k, s _ _ e (fun ps z => by cases z), r⟩
theorem ext_lst {H H' : Hp} {p : Addr} {vs : List V} (s : LamX.ExtN H H') (x : H p = some (.lst vs)) : H' p = some (.lst vs) := s _ _ x fun ps z => by cases z
theorem ext_dic {H H' : Hp} {p : Addr} {kvs : List (Ky × V)} (s : LamX.ExtN H H') (x : H p = some (.dT kvs)) : H' p = some (.dT kvs) := s _ _ x fun ps z => by cases z
theorem ext_upd {H0 H : Hp} {d : Addr} {o : HO} (s : LamX.ExtN H0 H) (n : H0 d = none) : LamX.ExtN H0 (upd H d o) := fun b u e t => (upd_ne (ne_of_none e n)).trans (s b u e t)
theorem sizes {ot : Option Tr} (h : WFo ot) {es : List (Ky × Sps)} (nd : (es.map (·.1)).Nodup) (m : ∀ e, e ∈ toLO ot ↔ e ∈ es) (l : es.length ≤ 100) : ∀ t, ot = some t → WF oct GoodK t ∧ t.size ≤ 100 := fun t e => by
  refine ⟨h t e, ?_⟩
  have := toLO_size h nd m
  subst e
  rw [show toLO (some t) = t.toL from rfl, toL_len] at this
  omega
theorem ok_law {tp : Addr} (Z : Free mg) (c : Calls P w K mg base C D tp) (F : C8.Def K mg "law" sLaw f fd) : FnOk P w K mg base C8.CX0 7 f fd ["_law_script"] (spLaw K tp) := by
  refine C8.fn0 F.fn scLaw (fun vs H Q E h => ?_) (fun cdv A outer s H vs Q E hr h => ?_)
  · obtain ⟨a, ns, rfl, _⟩ := h
    rfl
  · obtain ⟨a, ns, rfl, hs, hT, q⟩ := h
    have hu := hu_of hr
    have hu0 := hr.units0
    refine ⟨_, pss_cons (ps_set (i := 1) scLaw.nd rfl (.inl rfl) (C8.pe_c c.cH hr (by decide) (by rfl) (pa_cons (C8.pe_c c.cC hr (by decide) (by rfl) (pa_cons (pv 0) (pa_cons pe_int pa_nil))) pa_nil)))
      (pss_cons (ps_set (i := 2) scLaw.nd rfl (.inl rfl) (C8.pe_c c.cR hr (by decide) (by rfl) (pa_cons (pv 0) (pa_cons pe_int pa_nil))))
      (pss_cons (ps_setLc (i := 4) (own := [("_law_row", 3)]) (g := gName 3) (tt := tYes) rfl scLaw.nd rfl rfl (sw_true rfl rfl rfl (by decide +kernel)) (pi_list (pv 2)) (blkOk_by (N := lawN) (sc := C8.fnScope sLaw) (by decide +kernel))
        (fun _ _ _ _ _ => pg_name (i := 3) scLaw.nd rfl (Or.inl rfl)) (fun _ _ _ _ _ => pts_nil) (fun _ _ _ _ _ => pe_ix (r := rIxT K) ix_tup (pv 3) pe_int (fun _ _ => rfl)))
      (pss_cons (ps_set (i := 5) scLaw.nd rfl (.inl rfl) pe_non)
      (pss_cons (ps_set (i := 6) scLaw.nd rfl (.inl rfl) pe_dnewT)
      (pss_cons (ps_for PassesOwn.never rfl (pi_enum (by rfl) Z.enum (pa_cons (pv 2) pa_nil)) (pg_tup rfl (pgs_cons (pg_name (i := 7) scLaw.nd rfl (.inl rfl)) (pgs_cons (pg_name (i := 3) scLaw.nd rfl (.inl rfl)) pgs_nil)))
        (pss_cons (ps_set (i := 8) scLaw.nd rfl (.inl rfl) (pv 5))
        (pss_cons (ps_set (i := 9) scLaw.nd rfl (.inl rfl) (C8.pe_c c.cS hr (by decide) (by rfl) (pa_cons (pv 6) pa_nil)))
        (pss_cons (ps_set (i := 5) scLaw.nd rfl (.inl rfl) (C8.pe_c c.cP hr (by decide) (by rfl) (pa_cons (pv 1) (pa_cons (pv 5) (pa_cons (pe_ix ix_tup (pv 3) pe_int (fun _ _ => rfl)) (pa_cons (pe_ix ix_tup (pv 3) pe_int (fun _ _ => rfl)) pa_nil))))))
        (pss_cons (ps_dput hu (pv 6) (pe_ix ix_tup (pv 3) pe_int (fun _ _ => rfl)) (pe_ix ix_tup (pv 3) pe_int (fun _ _ => rfl)) rfl)
        (C8.pss_cut (ps_if (pt_not (pt_truth (pe_ix ix_tup (pv 3) pe_int (fun _ _ => rfl)) (fun _ => rfl))) (pss_one (ps_expr (pe_bm PySem.F.plainAttrs_dict PySem.F.slot_dict_pop PySem.F.type_dict_pop (mt_popT1 hu) (pv 6) (pa_cons (pe_ix ix_tup (pv 3) pe_int (fun _ _ => rfl)) pa_nil)))) pss_nil)
        (pss_cons (ps_asg (C8.pe_c c.cB hr (by decide) (by rfl) (pa_cons (C8.pe_c c.cD hr (by decide) (by rfl) (pa_cons (pe_op op_add (C8.pe_c c.cC hr (by decide) (by rfl) (pa_cons (pv 0) (pa_cons (pe_op op_add pe_int (pv 7)) pa_nil))) pe_int) (pa_cons pe_int pa_nil))) (pa_cons (pv 4) pa_nil))) (pg_tup rfl (pgs_cons (pg_name (i := 10) scLaw.nd rfl (.inr rfl)) (pgs_cons (pg_name (i := 11) scLaw.nd rfl (.inr rfl)) pgs_nil))))
        (pss_cons (ps_setLc (i := 12) (own := [("_law_entry", 13)]) (g := gName 13) rfl scLaw.nd rfl rfl (sw_true rfl rfl rfl (by decide +kernel)) (pi_list (C8.pe_c c.cS hr (by decide) (by rfl) (pa_cons (pv 6) pa_nil))) (blkOk_by (N := lawN) (sc := C8.fnScope sLaw) (by decide +kernel))
          (fun _ _ _ _ _ => pg_name (i := 13) scLaw.nd rfl (Or.inl rfl)) (fun _ _ _ _ _ => pts_one (pt_chain (r := rLeX K) (r' := rLtT K) (op_leX hu0) (op_ltT hu0) (pv 10) (C8.pe_c c.cO hr (by decide) (by rfl) (pa_cons (pe_ix (r := rIxT K) ix_tup (pv 13) pe_int (fun _ _ => rfl)) pa_nil)) (pv 11))) (fun _ _ _ _ _ => pv 13))
        (pss_cons (ps_if (PW.pt (pw_or (pt_cmpR (op_neD hr.units) (C8.pe_c c.cE hr (by decide) (by rfl) (pa_cons (pv 5) (pa_cons (pv 10) (pa_cons (pv 11) pa_nil)))) (pv 12) (nomark _)) (pw_or1 (pt_cmpR (op_neD hr.units) (C8.pe_mt c.mE hr (by decide) (C8.pe_mk c.mS hr (by decide) (by rfl) (pa_cons (pv 5) pa_nil)) (pa_cons (pv 10) (pa_cons (pv 11) pa_nil))) (pv 12) (nomark _))))) (pss_one (ps_ret pe_bl)) pss_nil)
        (pss_one (ps_if (pt_cmpR (op_neD hr.units) (C8.pe_c c.cE hr (by decide) (by rfl) (pa_cons (pv 8) (pa_cons (pe_tup pa_nil) (pa_cons (pe_tup (pa_cons pe_int pa_nil)) pa_nil)))) (pv 9) (nomark _)) (pss_one (ps_ret pe_bl)) pss_nil)))))))))))
      (pss_one (ps_ret pe_bl))))))), ?_⟩
    refine ⟨_, rfl, a, ns, 0, rfl, hs, fun c0 => ⟨c0, rfl, fun H1 h s1 hh => ?_⟩⟩
    refine ⟨_, rfl, a, ns, rfl, s1.seq hs, fun H2 ra vsr rows s2 hra hEr hRo => ?_⟩
    obtain ⟨rl, rg⟩ := hRo
    have vl := hEr.len
    refine ⟨_, rfl, ra, rfl, ⟨_, SqL.of hra⟩, fun kl nkl => ?_⟩
    refine lc_itN (walk_list (K := K) (a := ra) (xs := vsr)) (fun i H' => Same H2 H' ∧ ∃ us, H' kl = some (.lst us) ∧ KeysA H' us ((rows.map (·.1)).take i)) ⟨same_upd nkl, [], upd_same, trivial⟩ (fun _ _ _ ⟨s3, _⟩ => SqL.of (s3 _ _ hra)) (fun _ => rfl) ?_ ?_
    · rintro i y H3 H4 hi ⟨s3, us, eu, hK⟩ ⟨rfl, hy⟩
      obtain ⟨p, ka, sa, e, rfl, he, hp, hka, hsa⟩ := hEr.get hy
      have ul := hK.len
      rw [List.length_take, List.length_map] at ul
      refine ⟨_, rfl, p, _, _, _, rfl, rfl, SqT.of (s3 _ _ hp), at_of (j := 0) rfl rfl, us, eu, small1000 (by omega), same_at s3 nkl, us ++ [.ref ka], upd_same, ?_⟩
      have s4 : SameT _ (upd H4 kl (.lst (us ++ [.ref ka]))) := SameT.upd eu (fun _ z => by cases z)
      rw [List.take_add_one, List.getElem?_map, he]
      exact (hK.sameT s4).snoc (s4 _ _ (s3 _ _ hka))
    · rintro H3 ⟨s3, us, eu, hK⟩
      have s123 := (s1.trans s2).trans s3
      rw [vl, ← List.length_map (f := fun x : Ky × Sps => x.1) (as := rows), List.take_length] at hK
      have ul := hK.len
      rw [List.length_map] at ul
      have hra3 := s3 _ _ hra
      have hEr3 := hEr.sameT (SameT.of s3)
      have hh3 := hh.same (s2.trans s3)
      have hs3 := s123.seq hs
      have hT3 := hT.ext s123
      intro d nd
      have s4 := same_upd (o := .dT []) nd
      refine ⟨_, rfl, ra, vsr, rfl, SqL.of (s4 _ _ hra3), ?_⟩
      refine for_it (walk_enum (K := K) (a := ra) (xs := vsr)) (LawI H3 a h ra kl d tp) ⟨.non, none, [], [], none, none, none, none, none, none, none, rfl, LamX.ExtN.of s4, hT3.ext s4, rfl, (fun _ z => by cases z), upd_same, trivial, (fun _ m => by cases m), List.nodup_nil, Nat.le_refl _, fun e => Iff.rfl⟩ (fun i σ H' _ ⟨_, _, _, _, _, _, _, _, _, _, _, _, eN, _⟩ => SqL.of (ext_lst eN hra3)) ?_ ?_
      · rintro i x σ H1' H2' hi ⟨tv, ot, kvs, es, z3, z7, z8, z9, z10, z11, z12, rfl, eN1, hT1, hot, wfo, hd, hD, hg, hnd, hl, hm⟩ ⟨T, w1, w2, rfl, nT, rfl, hw1, hw2⟩
        replace hw1 : some (V.int (i : Nat)) = some w1 := hw1
        cases hw1
        have i24 : i < 24 := by omega
        have sT := same_upd (o := .tup [.int (i : Nat), w2]) nT
        obtain ⟨p, ka, sa, e, rfl, he, hp3, hka3, hsa3⟩ := hEr3.get hw2
        have em := List.mem_of_getElem? he
        obtain ⟨gk, gl⟩ := rg e em
        have eN2 := eN1.trans (LamX.ExtN.of sT)
        refine ⟨T, _, rfl, SqT.of upd_same, rfl, _, _, rfl, _, _, rfl, rfl, ?_⟩
        generalize hH2 : upd H1' T (.tup [.int (i : Nat), .ref p]) = H2' at *
        have hd2 := sT _ _ hd
        have hD2 := hD.sameT (SameT.of sT)
        refine ⟨_, rfl, ?_⟩
        refine ⟨_, rfl, d, kvs, es, rfl, hd2, hD2, hg, hnd, by omega, hT1.ext sT, fun H4 kn vk ek eN T4 hkn hEk soK mK => ?_⟩
        have eN4 := eN2.trans eN
        have t3 : SameT H3 H4 := SameT.ofN eN4
        have hot4 : OptA H4 tv ot := (hot.sameT (SameT.of sT)).sameT (SameT.ofN eN)
        have hd4 := ext_dic eN hd2
        have hD4 := hD2.sameT (SameT.ofN eN)
        have hp4 := t3 _ _ hp3
        refine ⟨_, rfl, _, rfl, _, rfl, p, _, _, _, rfl, rfl, SqT.of hp4, at_of (j := 0) rfl rfl, _, rfl, p, _, _, _, rfl, rfl, SqT.of hp4, at_of (j := 1) rfl rfl, ?_⟩
        refine ⟨h, ka, sa, tv, ot, e.1, e.2, rfl, hh3.ext eN4, hot4, sizes wfo hnd hm (by omega), t3 _ _ hka3, gk, hsa3.sameT t3, by omega, fun H5 tv' s5 hot5 => ?_⟩
        have eN5 := eN4.trans (LamX.ExtN.of s5)
        have t5 : SameT H3 H5 := SameT.ofN eN5
        have hp5 := t5 _ _ hp3
        have hka5 := t5 _ _ hka3
        have hsa5 := hsa3.sameT t5
        have hd5 := s5 _ _ hd4
        have hD5 := hD4.sameT (SameT.of s5)
        have T5 := T4.ext s5
        have kl' : kvs.length = es.length := by
          have := congrArg List.length hD5.keys
          rw [List.length_map, List.length_map] at this
          exact this
        refine ⟨_, rfl, p, _, _, _, rfl, rfl, SqT.of hp5, at_of (j := 1) rfl rfl, _, rfl, _, rfl, p, _, _, _, rfl, rfl, SqT.of hp5, at_of (j := 0) rfl rfl, ?_⟩
        refine ⟨d, _, rfl, DPut.t (k := e.1) hd5 hka5 (small1000 (by omega)), ?_⟩
        have st6 : SameT H5 (upd H5 d (.dT (putK kvs e.1 (.ref sa)))) := SameT.upd hd5 (fun _ z => by cases z)
        have hD6 := (hD5.put (k := e.1) hsa5).sameT st6
        refine ⟨fun σ' G => ∃ (kvs' : List (Ky × V)) (es' : List (Ky × Sps)), σ' = [some (.ref a), some (.ref h), some (.ref ra), some (.ref p), some (.ref kl), some tv', some (.ref d), some (.int (i : Nat)), some tv, some (.ref kn), z10, z11, z12, none] ∧ LamX.ExtN H3 G ∧ ExtD d H5 G ∧ LamX.Tabs (lamT tp) G ∧ G d = some (.dT kvs') ∧ DicA G kvs' es' ∧ (∀ e ∈ es', GoodK e.1) ∧ (es'.map (·.1)).Nodup ∧ es'.length ≤ i + 1 ∧
          ∀ e', e' ∈ es' ↔ (e'.1 ≠ e.1 ∧ e' ∈ es) ∨ (e.2 ≠ [] ∧ e' = (e.1, e.2)), ?_, ?_⟩
        · refine ⟨_, rfl, p, _, _, _, rfl, rfl, SqT.of (st6 _ _ hp5), at_of (j := 1) rfl rfl, _, (hsa5.sameT st6).emp K, ?_⟩
          obtain ⟨ek1, ek2⟩ := e
          have pg : ∀ e' ∈ putG es ek1 ek2, GoodK e'.1 := fun e' m => by
            rcases (putG_mem e').mp m with ⟨_, m⟩ | rfl
            · exact hg e' m
            · exact gk
          have pl := putG_len (es := es) (k := ek1) (s := ek2)
          cases ek2 with
          | nil =>
            refine iteT ?_
            refine ⟨_, rfl, .inr (.inr (.inl ⟨rfl, .inr ⟨_, upd_same⟩⟩)), _, rfl, p, _, _, _, rfl, rfl, SqT.of (st6 _ _ hp5), at_of (j := 0) rfl rfl, d, _, ek1, ka, .ref sa, rfl, rfl, upd_same, st6 _ _ hka5, ?_, ?_⟩
            · rw [valV_put, if_pos rfl]
            · have st7 : SameT _ (upd (upd H5 d (.dT (putK kvs ek1 (.ref sa)))) d (.dT (dropK (putK kvs ek1 (.ref sa)) ek1))) := SameT.upd upd_same (fun _ z => by cases z)
              have dl := dropG_len (es := putG es ek1 []) (k := ek1)
              refine ⟨_, _, rfl, ext_upd (ext_upd eN5 nd) nd, ExtD.upd.trans ExtD.upd, tabs_upd (tabs_upd T5 hd5) upd_same, upd_same, (hD6.drop).sameT st7, fun e' m => pg e' ((dropG_mem e').mp m).2, dropG_nd (putG_nd hnd), Nat.le_trans dl (Nat.le_trans pl (by omega)), fun e' => ?_⟩
              rw [dropG_mem, putG_mem]
              constructor
              · rintro ⟨n, m | m⟩
                · exact .inl m
                · rw [m] at n; exact absurd rfl n
              · rintro (m | ⟨m, _⟩)
                · exact ⟨m.1, .inl m⟩
                · exact absurd rfl m
          | cons y1 ys =>
            refine iteF ?_
            refine ⟨_, _, rfl, ext_upd eN5 nd, ExtD.upd, tabs_upd T5 hd5, upd_same, hD6, pg, putG_nd hnd, Nat.le_trans pl (by omega), fun e' => ?_⟩
            rw [putG_mem]
            constructor
            · rintro (m | m)
              · exact .inl m
              · exact .inr ⟨List.cons_ne_nil _ _, m⟩
            · rintro (m | ⟨_, m⟩)
              · exact .inl m
              · exact .inr m
        · rintro σ' G ⟨kvs', es', rfl, eNG, xG, TG, hdG, hDG, hgG, hndG, hlG, hmG⟩
          obtain ⟨w5, m5⟩ := putO_ok (sp := e.2) gk wfo
          generalize hot' : putO e.1 e.2 ot = ot' at *
          have hm' : ∀ e', e' ∈ toLO ot' ↔ e' ∈ es' := fun e' => by rw [m5, hmG, hm]
          have tG := xG.sameT hd5
          have hotG := hot5.sameT tG
          have hot0 := (hot4.sameT (SameT.of s5)).sameT tG
          have hknG := xG.lst hd5 (s5 _ _ hkn)
          have hEkG := (hEk.sameT (SameT.of s5)).sameT tG
          have szs := sizes w5 hndG hm' (by omega)
          have szs0 := sizes wfo hnd hm (by omega)
          have ev : ([.ref a, .int (1 + (i : Int))] : List V) = [.ref a, .int ((1 + i : Nat) : Int)] := by
            rw [show (1 + (i : Int)) = ((1 + i : Nat) : Int) by omega]
          refine ⟨_, rfl, _, rfl, _, _, rfl, rfl, a, ns, 1 + i, ev, seq_ext eNG hs3, fun c1 => ⟨_, _, rfl, rfl, c1 + 5, 3, rfl, by decide, fun H7 dp s7 hd7 => ?_⟩⟩
          have eN7 := eNG.trans (LamX.ExtN.of s7)
          have rne : rows.map (·.1) ≠ [] := fun z => by
            rw [List.map_eq_nil_iff] at z
            rw [z] at em
            cases em
          refine ⟨_, rfl, dp, kl, us, rows.map (·.1), rfl, hd7, ext_lst eN7 eu, hK.sameT (SameT.ofN eN7), rne, (fun k m => by obtain ⟨y, hy, rfl⟩ := List.mem_map.mp m; exact (rg y hy).1), fun H8 r x1 y1 s8 hP => ?_⟩
          obtain ⟨f1, f2, hr8, hf1, hf2⟩ := hP
          have sG8 := s7.trans s8
          refine ⟨r, _, rfl, SqT.of hr8, rfl, _, _, rfl, _, _, rfl, rfl, ?_⟩
          refine ⟨_, rfl, d, kvs', es', rfl, sG8 _ _ hdG, hDG.sameT (SameT.of sG8), hgG, hndG, by omega, TG.ext sG8, fun H9 d0 vd ed eN9 T9 hd0 hEd soD mD => ⟨d0, rfl, ⟨_, SqL.of hd0⟩, fun D9 nD9 => ?_⟩⟩
          have t9 := SameT.ofN eN9
          have edEq : ed = toLO ot' := both w5 soD fun e' => (mD e').trans (hm' e').symm
          have gd : ∀ e' ∈ ed, GoodK e'.1 := fun e' m => hgG e' ((mD e').mp m)
          have edl : ed.length ≤ 24 := by
            rw [edEq, toLO_size w5 hndG hm']
            omega
          have vdl := hEd.len
          refine lc_it (walk_list (K := K) (a := d0) (xs := vd)) (fun j H' => Same H9 H' ∧ ∃ acc, H' D9 = some (.lst acc) ∧ EntsA H' acc (toR x1 y1 (ed.take j))) ⟨same_upd nD9, [], upd_same, trivial⟩ (fun _ _ _ ⟨s, _⟩ => SqL.of (s _ _ hd0)) ?_ ?_
          · rintro j y H10 H11 hj ⟨sD, acc, ea, hE⟩ ⟨rfl, hy⟩
            obtain ⟨p', ka', sa', u, rfl, hu', hp', hka', hsa'⟩ := hEd.get hy
            have um := List.mem_of_getElem? hu'
            have e7 : ed.take (j + 1) = ed.take j ++ [u] := by rw [List.take_add_one, hu']; rfl
            have al := hE.len
            have al2 := toR_len x1 y1 (ed.take j)
            rw [List.length_take] at al2
            refine ⟨rfl, ?_⟩
            refine ⟨_, rfl, _, rfl, p', _, _, _, rfl, rfl, SqT.of (sD _ _ hp'), at_of (j := 0) rfl rfl, ka', u.1, rfl, sD _ _ hka', gd u um, fun H12 o s12 ho => ?_⟩
            have sD2 := sD.trans s12
            refine ⟨f1, o, x1, oct u.1, rfl, rfl, SqT.of (sD2 _ _ (t9 _ _ hf1)), SqT.of ho, _, rfl, ?_⟩
            rw [← lx_eq, e7, toR_app]
            have one : toR x1 y1 [u] = if inR x1 y1 u = true then [u] else [] := by
              unfold toR
              by_cases c : inR x1 y1 u = true
              · rw [List.filter_cons_of_pos c, if_pos c]; rfl
              · rw [List.filter_cons_of_neg c, if_neg c]; rfl
            have ea2 := s12 _ _ ea
            have hE2 := hE.sameT (SameT.of s12)
            have no : inR x1 y1 u = false → (∃ acc, H12 D9 = some (.lst acc) ∧ EntsA H12 acc (toR x1 y1 (ed.take j) ++ toR x1 y1 [u])) := fun z => by
              rw [one, if_neg (by rw [z]; exact Bool.false_ne_true), List.append_nil]
              exact ⟨acc, ea2, hE2⟩
            have yes : inR x1 y1 u = true → ∃ acc0, H12 D9 = some (.lst acc0) ∧ acc0.length < sizeLine ∧ (Same H9 (upd H12 D9 (.lst (acc0 ++ [.ref p']))) ∧ ∃ acc, (upd H12 D9 (.lst (acc0 ++ [.ref p']))) D9 = some (.lst acc) ∧ EntsA (upd H12 D9 (.lst (acc0 ++ [.ref p']))) acc (toR x1 y1 (ed.take j) ++ toR x1 y1 [u])) := fun z => by
              rw [one, if_pos z]
              have s13 : SameT H12 (upd H12 D9 (.lst (acc ++ [.ref p']))) := SameT.upd ea2 (fun _ z => by cases z)
              exact ⟨acc, ea2, small1000 (by omega), same_at sD2 nD9, acc ++ [.ref p'], upd_same, (hE2.sameT s13).snoc (s13 _ _ (sD2 _ _ hp')) (s13 _ _ (sD2 _ _ hka')) ((hsa'.same sD2).sameT s13)⟩
            cases h1 : lx (oct u.1) x1 with
            | true =>
              have z : inR x1 y1 u = false := by unfold inR; rw [h1]; rfl
              exact ⟨_, rfl, sD2, no z⟩
            | false =>
              refine ⟨_, rfl, o, f2, oct u.1, y1, rfl, rfl, SqT.of ho, SqT.of (sD2 _ _ (t9 _ _ hf2)), _, rfl, ?_⟩
              rw [← lx_eq]
              cases h2 : lx (oct u.1) y1 with
              | true =>
                have z : inR x1 y1 u = true := by unfold inR; rw [h1, h2]; rfl
                exact ⟨_, rfl, yes z⟩
              | false =>
                have z : inR x1 y1 u = false := by unfold inR; rw [h1, h2]; rfl
                exact ⟨sD2, no z⟩
          · rintro H10 ⟨sD, vdue, hdue, hEdue⟩
            rw [vdl, List.take_length, edEq] at hEdue
            have x10 : ExtD d H5 H10 := ((xG.trans (ExtD.of sG8)).trans (ExtD.ofN eN9)).trans (ExtD.of sD)
            have tG10 : SameT G H10 := ((SameT.of sG8).trans t9).trans (SameT.of sD)
            have hot10 := hotG.sameT tG10
            have hot010 := hot0.sameT tG10
            have hd10 : H10 d = some (.dT kvs') := sD _ _ (ext_dic eN9 (sG8 _ _ hdG))
            have hD10 := hDG.sameT tG10
            have hkn10 := x10.lst hd5 (s5 _ _ hkn)
            have hEk10 := hEkG.sameT tG10
            have T10 := T9.ext sD
            have eN10 := ((eN7.trans (LamX.ExtN.of s8)).trans eN9).trans (LamX.ExtN.of sD)
            have hf110 := (t9.trans (SameT.of sD)) _ _ hf1
            have hf210 := (t9.trans (SameT.of sD)) _ _ hf2
            have gR : ∀ e' ∈ toR x1 y1 (toLO ot'), GoodK e'.1 := toR_good (toLO_good w5)
            refine ⟨_, rfl, _, rfl, _, rfl, tv', f1, f2, ot', x1, y1, rfl, hot10, szs, hf110, hf210, fun H11 pe ve s11 hpe hEe => ?_⟩
            refine ⟨_, rfl, eD _, eD _, dpE hpe hEe, dpE (s11 _ _ hdue) (hEdue.sameT (SameT.of s11)), eD_shaped gR, eD_shaped gR, _, rfl, ?_⟩
            rw [eD_eqv gR]
            refine iteF ?_
            refine ⟨_, rfl, fun x dx nx ndx nex => ⟨x, dx, tv', rfl, upd_same, rfl, ?_⟩⟩
            have sO : Same H11 (upd (upd (upd H11 dx (.own x)) x (.ins D dx [])) x (.ins D dx (sFlds tv'))) := fun b o e => by
              rw [upd_ne (ne_of_none e nx), upd_ne (ne_of_none e nx), upd_ne (ne_of_none e ndx)]
              exact e
            have s10O := s11.trans sO
            refine ⟨x, dx, sFlds tv', rfl, upd_same, rfl, _, rfl, _, rfl, x, dx, tv', f1, f2, ot', x1, y1, rfl, upd_same, hot10.sameT (SameT.of s10O), szs, s10O _ _ hf110, s10O _ _ hf210, fun H12 pe2 ve2 s12 hpe2 hEe2 => ?_⟩
            have s1012 := s10O.trans s12
            refine ⟨_, rfl, eD _, eD _, dpE hpe2 hEe2, dpE (s1012 _ _ hdue) (hEdue.sameT (SameT.of s1012)), eD_shaped gR, eD_shaped gR, _, rfl, ?_⟩
            rw [eD_eqv gR]
            refine iteF ?_
            have ekEq : ek = toLO ot := both wfo soK fun e' => (mK e').trans (hm e').symm
            refine ⟨_, rfl, (by show 0 ≤ sizeLine; decide), fun t0 n0 => ⟨(by show 1 ≤ sizeLine; decide), fun t4 n4 => ?_⟩⟩
            have sa := same_upd (o := .tup []) n0
            have sb := same_upd (o := .tup [.int 4]) n4
            have sc := (s1012.trans sa).trans sb
            refine ⟨tv, t0, t4, ot, [], [4], rfl, hot010.sameT (SameT.of sc), szs0, sb _ _ upd_same, upd_same, fun H13 pe3 ve3 s13 hpe3 hEe3 => ?_⟩
            have sd := sc.trans s13
            have gO := toLO_good wfo
            rw [toR_all] at hEe3
            rw [ekEq] at hEk10
            refine ⟨_, rfl, eD _, eD _, dpE hpe3 hEe3, dpE (sd _ _ hkn10) (hEk10.sameT (SameT.of sd)), eD_shaped gO, eD_shaped gO, _, rfl, ?_⟩
            rw [eD_eqv gO]
            refine iteF ?_
            exact ⟨tv', ot', kvs', es', _, _, _, _, _, _, _, rfl, eN10.trans (LamX.ExtN.of sd), T10.ext sd, hot10.sameT (SameT.of sd), w5, sd _ _ hd10, hD10.sameT (SameT.of sd), hgG, hndG, hlG, hm'⟩
      · rintro σ H4 ⟨tv, ot, kvs, es, z3, z7, z8, z9, z10, z11, z12, rfl, _⟩
        exact q H4
end
end Ask

set_option Elab.async false
set_option linter.all false
set_option maxRecDepth 100000
set_option maxHeartbeats 4000000
namespace Ask
open PySem PySem.Spec PyProof.Rows L2 AskR
/-! ### how the parameters are bound; what the top has left -/
section
variable {K : PySem.W.Frag} {mg : Str → Option Value} {f : Addr} {fd : FuncData}

theorem b6 (F : C8.Fun K "value_octets" "value_octets" (topS 6) f fd) (df : fd.defaults = .none) : Binds K fd ["value"] [] := F.binds df fun _ _ _ _ _ _ us hl => match us, hl with | [_], _ => rfl
theorem b7 (F : C8.Fun K "body" "body" (topS 7) f fd) (df : fd.defaults = .none) : Binds K fd ["values"] [] := F.binds df fun _ _ _ _ _ _ us hl => match us, hl with | [_], _ => rfl
theorem b8 (F : C8.Fun K "key_octets" "key_octets" (topS 8) f fd) (df : fd.defaults = .none) : Binds K fd ["key"] [] := F.binds df fun _ _ _ _ _ _ us hl => match us, hl with | [_], _ => rfl
theorem b9 (F : C8.Fun K "range_of" "range_of" (topS 9) f fd) (df : fd.defaults = .none) : Binds K fd ["values"] [] := F.binds df fun _ _ _ _ _ _ us hl => match us, hl with | [_], _ => rfl
theorem b10 (F : C8.Fun K "range_of_key" "range_of_key" (topS 10) f fd) (df : fd.defaults = .none) : Binds K fd ["key"] [] := F.binds df fun _ _ _ _ _ _ us hl => match us, hl with | [_], _ => rfl
theorem b11 (F : C8.Fun K "first_bit" "first_bit" (topS 11) f fd) (df : fd.defaults = .none) : Binds K fd ["one", "other"] [] := F.binds df fun _ _ _ _ _ _ us hl => match us, hl with | [_, _], _ => rfl
theorem b12 (F : C8.Fun K "has_bit" "has_bit" (topS 12) f fd) (df : fd.defaults = .none) : Binds K fd ["octets", "number"] [] := F.binds df fun _ _ _ _ _ _ us hl => match us, hl with | [_, _], _ => rfl
theorem b14 (F : C8.Fun K "side_input" "side_input" (topS 14) f fd) (df : fd.defaults = .none) : Binds K fd ["tree"] [] := F.binds df fun _ _ _ _ _ _ us hl => match us, hl with | [_], _ => rfl
theorem b15 (F : C8.Fun K "leaf_input" "leaf_input" (topS 15) f fd) (df : fd.defaults = .none) : Binds K fd ["octets", "spans"] [] := F.binds df fun _ _ _ _ _ _ us hl => match us, hl with | [_, _], _ => rfl
theorem b16 (F : C8.Fun K "make_leaf" "make_leaf" (topS 16) f fd) (df : fd.defaults = .none) : Binds K fd ["hasher", "key", "spans"] [] := F.binds df fun _ _ _ _ _ _ us hl => match us, hl with | [_, _, _], _ => rfl
theorem b17 (F : C8.Fun K "make_node" "make_node" (topS 17) f fd) (df : fd.defaults = .none) : Binds K fd ["hasher", "left", "right"] [] := F.binds df fun _ _ _ _ _ _ us hl => match us, hl with | [_, _, _], _ => rfl
theorem b18 (F : C8.Fun K "join" "join" (topS 18) f fd) (df : fd.defaults = .none) : Binds K fd ["hasher", "tree", "leaf"] [] := F.binds df fun _ _ _ _ _ _ us hl => match us, hl with | [_, _, _], _ => rfl
theorem b19 (F : C8.Fun K "way_to" "way_to" (topS 19) f fd) (df : fd.defaults = .none) : Binds K fd ["tree", "octets"] [] := F.binds df fun _ _ _ _ _ _ us hl => match us, hl with | [_, _], _ => rfl
theorem b20 (F : C8.Fun K "put" "put" (topS 20) f fd) (df : fd.defaults = .none) : Binds K fd ["hasher", "tree", "key", "spans"] [] := F.binds df fun _ _ _ _ _ _ us hl => match us, hl with | [_, _, _, _], _ => rfl
theorem b21 (F : C8.Fun K "meets" "meets" (topS 21) f fd) (df : fd.defaults = .none) : Binds K fd ["tree", "first", "last"] [] := F.binds df fun _ _ _ _ _ _ us hl => match us, hl with | [_, _, _], _ => rfl
theorem b22 (F : C8.Fun K "entries" "entries" (topS 22) f fd) (df : fd.defaults = .none) : Binds K fd ["tree", "first", "last"] [] := F.binds df fun _ _ _ _ _ _ us hl => match us, hl with | [_, _, _], _ => rfl
theorem b28 (F : C8.Fun K "_law_cell" "_law_cell" (topS 28) f fd) (df : fd.defaults = .none) : Binds K fd ["_law_script", "_law_k"] [] := F.binds df fun _ _ _ _ _ _ us hl => match us, hl with | [_, _], _ => rfl
theorem b29 (F : C8.Fun K "_law_draws" "_law_draws" (topS 29) f fd) (df : fd.defaults = .none) : Binds K fd ["_law_cell_here", "_law_many"] [] := F.binds df fun _ _ _ _ _ _ us hl => match us, hl with | [_, _], _ => rfl
theorem b30 (F : C8.Fun K "_law_hasher" "_law_hasher" (topS 30) f fd) (df : fd.defaults = .none) : Binds K fd ["_law_cell_here"] [] := F.binds df fun _ _ _ _ _ _ us hl => match us, hl with | [_], _ => rfl
theorem b31 (F : C8.Fun K "_law_value" "_law_value" (topS 31) f fd) (df : fd.defaults = .none) : Binds K fd ["_law_draw"] [] := F.binds df fun _ _ _ _ _ _ us hl => match us, hl with | [_], _ => rfl
theorem b32 (F : C8.Fun K "_law_key" "_law_key" (topS 32) f fd) (df : fd.defaults = .none) : Binds K fd ["_law_draws_here"] [] := F.binds df fun _ _ _ _ _ _ us hl => match us, hl with | [_], _ => rfl
theorem b33 (F : C8.Fun K "_law_spans" "_law_spans" (topS 33) f fd) (df : fd.defaults = .none) : Binds K fd ["_law_first", "_law_second"] [] := F.binds df fun _ _ _ _ _ _ us hl => match us, hl with | [_, _], _ => rfl
theorem b34 (F : C8.Fun K "_law_rows" "_law_rows" (topS 34) f fd) (df : fd.defaults = .none) : Binds K fd ["_law_script", "_law_start"] [] := F.binds df fun _ _ _ _ _ _ us hl => match us, hl with | [_, _], _ => rfl
theorem b36 (F : C8.Fun K "_law_octets" "_law_octets" (topS 36) f fd) (df : fd.defaults = .none) : Binds K fd ["_law_key_here"] [] := F.binds df fun _ _ _ _ _ _ us hl => match us, hl with | [_], _ => rfl
theorem b40 (F : C8.Fun K "_law_bounds" "_law_bounds" (topS 40) f fd) (df : fd.defaults = .none) : Binds K fd ["_law_draws_here", "_law_keys"] [] := F.binds df fun _ _ _ _ _ _ us hl => match us, hl with | [_, _], _ => rfl
theorem b39 (F : C8.Fun K "_law_sorted" "_law_sorted" (topS 39) f fd) (df : fd.defaults = .none) : Binds K fd ["_law_state_here"] [] := F.binds df fun _ _ _ _ _ _ us hl => match us, hl with | [_], _ => rfl
theorem b41 (F : C8.Fun K "law" "law" (topS 41) f fd) (df : fd.defaults = .none) : Binds K fd ["_law_script"] [] := F.binds df fun _ _ _ _ _ _ us hl => match us, hl with | [_], _ => rfl
theorem b26_0 (F : C8.Fun K "__init__" "Hasher.__init__" (inCls (topS 26) 0) f fd) (df : fd.defaults = .none) : Binds K fd ["self", "modulus", "multiplier"] [] := F.binds df fun _ _ _ _ _ _ us hl => match us, hl with | [_, _, _], _ => rfl
theorem b26_1 (F : C8.Fun K "digest" "Hasher.digest" (inCls (topS 26) 1) f fd) (df : fd.defaults = .none) : Binds K fd ["self", "numbers"] [] := F.binds df fun _ _ _ _ _ _ us hl => match us, hl with | [_, _], _ => rfl
theorem b24_0 (F : C8.Fun K "__init__" "TreeSource.__init__" (inCls (topS 24) 0) f fd) (df : fd.defaults = .none) : Binds K fd ["self", "tree"] [] := F.binds df fun _ _ _ _ _ _ us hl => match us, hl with | [_, _], _ => rfl
theorem b24_1 (F : C8.Fun K "entries" "TreeSource.entries" (inCls (topS 24) 1) f fd) (df : fd.defaults = .none) : Binds K fd ["self", "first", "last"] [] := F.binds df fun _ _ _ _ _ _ us hl => match us, hl with | [_, _, _], _ => rfl
end
/-- a def that stands in the module, no default -/
def Std (K : PySem.W.Frag) (mg : Str → Option Value) (x : Str) (i : Nat) : Prop := ∃ (f : Addr) (fd : FuncData), C8.Def K mg x (topS i) f fd ∧ fd.defaults = .none
theorem Std.mk' {K : PySem.W.Frag} {h : Heap} {mg : Str → Option Value} {x : Str} {i : Nat} {f : Addr} {od an : Option Addr} {sl : Array (Option Value)} {oc kV dc pm cd ct : Value} (X : K.In h) (G : h.Ns mainGlobals mg)
    (a : PySem.W.nsIn K mainGlobals x = some (some (.ref f))) (l : K.lookup f = some ⟨oc, od, .func (PySem.W.fnOf x x (C8.fnArgs (topS i)) (C8.fnBody (topS i)) (C8.fnScope (topS i)) .none kV dc pm an cd ct), sl⟩) (c : PySem.W.codeIn K cd x = true) (k : PySem.W.keepIn K (.ref f) = true) : Std K mg x i :=
  ⟨f, _, ⟨⟨_, _, _, _, _, _, _, _, _, _, rfl, l, c⟩, PySem.W.mg_of X G a, k⟩, rfl⟩
/-- a method, no default -/
def StM (K : PySem.W.Frag) (C : Addr) (m qual : Str) (i j : Nat) (f : Addr) : Prop := ∃ fd : FuncData, C8.Fun K m qual (inCls (topS i) j) f fd ∧ Meth K C m f ∧ fd.defaults = .none
theorem StM.mk' {K : PySem.W.Frag} {C : Addr} {m qual : Str} {i j : Nat} {f : Addr} {od an : Option Addr} {sl : Array (Option Value)} {oc kV dc pm cd ct : Value}
    (a : PySem.W.findIn K (.ref C) m = some (some (.ref f))) (n : PySem.W.isFn K (.ref f) = true) (k : PySem.W.keepIn K (.ref f) = true) (l : K.lookup f = some ⟨oc, od, .func (PySem.W.fnOf m qual (C8.fnArgs (inCls (topS i) j)) (C8.fnBody (inCls (topS i) j)) (C8.fnScope (inCls (topS i) j)) .none kV dc pm an cd ct), sl⟩) (c : PySem.W.codeIn K cd qual = true) : StM K C m qual i j f :=
  ⟨_, ⟨_, _, _, _, _, _, _, _, _, _, rfl, l, c⟩, ⟨a, n, k⟩, rfl⟩
/-- a class that may be made -/
structure StC (K : PySem.W.Frag) (mg : Str → Option Value) (x : Str) (C : Addr) : Prop where
  cl : Cls K C
  mks : PySem.W.makesIn K C = true
  kp : PySem.W.keepIn K (.ref C) = true
  mgC : mg x = some (.ref C)
theorem StC.mk' {K : PySem.W.Frag} {h : Heap} {mg : Str → Option Value} {x : Str} {C : Addr} (X : K.In h) (G : h.Ns mainGlobals mg) (a : PySem.W.nsIn K mainGlobals x = some (some (.ref C))) (pg : PySem.W.plainGet K C Str.empty = true) (hd : PySem.W.hasDictIn K C = true) (po : PySem.W.plainOver K C = true)
    (sa : PySem.W.findIn K (.ref C) "__setattr__" = some (some (.builtin "object.__setattr__"))) (mk : PySem.W.makesIn K C = true) (kc : PySem.W.keepIn K (.ref C) = true) : StC K mg x C := ⟨⟨pg, hd, po, sa⟩, mk, kc, PySem.W.mg_of X G a⟩
def valsI : List Int → List Value → Bool
  | [], [] => true
  | n :: ns, .int m _ :: us => n == m && valsI ns us
  | _, _ => false
theorem valsI_ok : ∀ {ns : List Int} {us : List Value}, valsI ns us = true → Vals (ns.map V.int) us
  | [], [], _ => .nil
  | n :: ns, .int m t :: us, h => by
    obtain ⟨a, b⟩ := Bool.and_eq_true_iff.mp h
    exact .cons ⟨t, by rw [eq_of_beq a]⟩ (valsI_ok b)
theorem masks_mk {K : PySem.W.Frag} {h : Heap} {mg : Str → Option Value} {m : Addr} {its : Array Value} {n : Nat} {od : Option Addr} {sl : Array (Option Value)} (X : K.In h) (G : h.Ns mainGlobals mg) (a : PySem.W.nsIn K mainGlobals "MASKS" = some (some (.ref m)))
    (l : K.lookup m = some ⟨.type "tuple", od, .seq its n, sl⟩) (z : its.size = 8) (v : valsI masks its.toList = true) : MasksAt K mg m :=
  ⟨PySem.W.mg_of X G a, fun H => .inr ⟨_, its, n, l, rfl, rfl, by rw [z]; decide, valsI_ok v⟩⟩
/-- all that stands in the module -/
structure Defs (K : PySem.W.Frag) (mg : Str → Option Value) (C D fHi fHd fSi fSe m : Addr) : Prop where
  z : Free mg
  ma : MasksAt K mg m
  d6 : Std K mg "value_octets" 6
  d7 : Std K mg "body" 7
  d8 : Std K mg "key_octets" 8
  d9 : Std K mg "range_of" 9
  d10 : Std K mg "range_of_key" 10
  d11 : Std K mg "first_bit" 11
  d12 : Std K mg "has_bit" 12
  d14 : Std K mg "side_input" 14
  d15 : Std K mg "leaf_input" 15
  d16 : Std K mg "make_leaf" 16
  d17 : Std K mg "make_node" 17
  d18 : Std K mg "join" 18
  d19 : Std K mg "way_to" 19
  d20 : Std K mg "put" 20
  d21 : Std K mg "meets" 21
  d22 : Std K mg "entries" 22
  d28 : Std K mg "_law_cell" 28
  d29 : Std K mg "_law_draws" 29
  d30 : Std K mg "_law_hasher" 30
  d31 : Std K mg "_law_value" 31
  d32 : Std K mg "_law_key" 32
  d33 : Std K mg "_law_spans" 33
  d34 : Std K mg "_law_rows" 34
  d36 : Std K mg "_law_octets" 36
  d40 : Std K mg "_law_bounds" 40
  al : mg "entries_trees" = mg "entries"
  hC : StC K mg "Hasher" C
  hM : NoAttr K C "modulus"
  hL : NoAttr K C "multiplier"
  h0 : StM K C "__init__" "Hasher.__init__" 26 0 fHi
  h1 : StM K C "digest" "Hasher.digest" 26 1 fHd
  sC : StC K mg "TreeSource" D
  sT : NoAttr K D "tree"
  s0 : StM K D "__init__" "TreeSource.__init__" 24 0 fSi
  s1 : StM K D "entries" "TreeSource.entries" 24 1 fSe
theorem calls_mk {P : Program} {w : World} {K : PySem.W.Frag} {mg : Str → Option Value} {base : Heap} {C D fHi fHd fSi fSe m c tp fS : Addr} {fdS : FuncData} (X : Defs K mg C D fHi fHd fSi fSe m) (TB : LamX.TabB base mg c tp) (FS : DefC K mg "_law_sorted" sSrt fS fdS c) (dS : fdS.defaults = .none) : Calls P w K mg base C D tp := by
  have Z := X.z
  obtain ⟨f6, e6, F6, n6⟩ := X.d6
  have B6 := b6 F6.fn n6
  obtain ⟨f7, e7, F7, n7⟩ := X.d7
  have B7 := b7 F7.fn n7
  obtain ⟨f8, e8, F8, n8⟩ := X.d8
  have B8 := b8 F8.fn n8
  obtain ⟨f9, e9, F9, n9⟩ := X.d9
  have B9 := b9 F9.fn n9
  obtain ⟨f10, e10, F10, n10⟩ := X.d10
  have B10 := b10 F10.fn n10
  obtain ⟨f11, e11, F11, n11⟩ := X.d11
  have B11 := b11 F11.fn n11
  obtain ⟨f12, e12, F12, n12⟩ := X.d12
  have B12 := b12 F12.fn n12
  obtain ⟨f14, e14, F14, n14⟩ := X.d14
  have B14 := b14 F14.fn n14
  obtain ⟨f15, e15, F15, n15⟩ := X.d15
  have B15 := b15 F15.fn n15
  obtain ⟨f16, e16, F16, n16⟩ := X.d16
  have B16 := b16 F16.fn n16
  obtain ⟨f17, e17, F17, n17⟩ := X.d17
  have B17 := b17 F17.fn n17
  obtain ⟨f18, e18, F18, n18⟩ := X.d18
  have B18 := b18 F18.fn n18
  obtain ⟨f19, e19, F19, n19⟩ := X.d19
  have B19 := b19 F19.fn n19
  obtain ⟨f20, e20, F20, n20⟩ := X.d20
  have B20 := b20 F20.fn n20
  obtain ⟨f21, e21, F21, n21⟩ := X.d21
  have B21 := b21 F21.fn n21
  obtain ⟨f22, e22, F22, n22⟩ := X.d22
  have B22 := b22 F22.fn n22
  obtain ⟨f28, e28, F28, n28⟩ := X.d28
  have B28 := b28 F28.fn n28
  obtain ⟨f29, e29, F29, n29⟩ := X.d29
  have B29 := b29 F29.fn n29
  obtain ⟨f30, e30, F30, n30⟩ := X.d30
  have B30 := b30 F30.fn n30
  obtain ⟨f31, e31, F31, n31⟩ := X.d31
  have B31 := b31 F31.fn n31
  obtain ⟨f32, e32, F32, n32⟩ := X.d32
  have B32 := b32 F32.fn n32
  obtain ⟨f33, e33, F33, n33⟩ := X.d33
  have B33 := b33 F33.fn n33
  obtain ⟨f34, e34, F34, n34⟩ := X.d34
  have B34 := b34 F34.fn n34
  obtain ⟨f36, e36, F36, n36⟩ := X.d36
  have B36 := b36 F36.fn n36
  obtain ⟨f40, e40, F40, n40⟩ := X.d40
  have B40 := b40 F40.fn n40
  obtain ⟨eHi, FHi, mHi, nHi⟩ := X.h0
  obtain ⟨eHd, FHd, mHd, nHd⟩ := X.h1
  obtain ⟨eSi, FSi, mSi, nSi⟩ := X.s0
  obtain ⟨eSe, FSe, mSe, nSe⟩ := X.s1
  have TH : HashT K C := ⟨X.hC.cl, X.hM, X.hL⟩
  have TS : SrcT K D := ⟨X.sC.cl, X.sT⟩
  have MH : Mk K C fHi := ⟨X.hC.mks, mHi.at_, mHi.fn, X.hC.kp⟩
  have MS : Mk K D fSi := ⟨X.sC.mks, mSi.at_, mSi.fn, X.sC.kp⟩
  have cV := cal_valO (P := P) (w := w) (base := base) Z F6 B6
  have cB := cal_body cV F7 B7
  have cK := cal_keyO cB F8 B8
  have cR := cal_rangeO cB F9 B9
  have cRK := cal_rangeK cK F10 B10
  have cF := cal_first (P := P) (w := w) (base := base) Z X.ma F11 B11
  have cHb := cal_has (P := P) (w := w) (base := base) X.ma F12 B12
  have cD := met_dig (P := P) (w := w) (mg := mg) (base := base) TH mHd FHd (b26_1 FHd nHd)
  have mH := mak_hash (P := P) (w := w) (base := base) Z TH MH X.hC.mgC FHi (b26_0 FHi nHi)
  have cSd := cal_side (P := P) (w := w) (base := base) Z F14 B14
  have cLi := cal_leafI (P := P) (w := w) (base := base) Z F15 B15
  have cML := cal_mkL cK cLi cD F16 B16
  have cMN := cal_mkN cSd cD F17 B17
  have cJ := cal_join cMN F18 B18
  have cW := cal_way cF cHb F19 B19
  have cP := cal_put Z cK cW cML cMN cJ F20 B20
  have cM := cal_meets (P := P) (w := w) (base := base) F21 B21
  have cE := cal_ents cM F22 B22
  have cET := cal_alias (y := "entries_trees") cE X.al
  have mS := mak_src (P := P) (w := w) (base := base) TS MS X.sC.mgC FSi (b24_0 FSi nSi)
  have mE := met_src TS cET mSe FSe (b24_1 FSe nSe)
  have lC := cal_cell (P := P) (w := w) (base := base) Z F28 B28
  have lD := cal_draws (P := P) (w := w) (base := base) Z F29 B29
  have lH := cal_hash Z lD mH F30 B30
  have lV := cal_val (P := P) (w := w) (base := base) Z F31 B31
  have lK := cal_key Z lV F32 B32
  have lS := cal_spans (P := P) (w := w) (base := base) Z F33 B33
  have lR := cal_rows Z lD lK lS F34 B34
  have lO := cal_octL (P := P) (w := w) (base := base) Z F36 B36
  have lB := cal_bnd Z cK cR cRK F40 B40
  have lQ := cal_srt (P := P) (w := w) Z TB lO FS (b39 FS.def_.fn dS)
  exact ⟨lC, lH, lR, lQ, cP, lB, lD, lO, cET, mS, mE⟩
theorem DefC.mk' {K : PySem.W.Frag} {h : Heap} {mg : Str → Option Value} {x : Str} {st : Stmt} {f c : Addr} {od an : Option Addr} {sl : Array (Option Value)} {oc kV dc pm ct : Value} (X : K.In h) (G : h.Ns mainGlobals mg)
    (a : PySem.W.nsIn K mainGlobals x = some (some (.ref f))) (l : K.lookup f = some ⟨oc, od, .func (PySem.W.fnOf x x (C8.fnArgs st) (C8.fnBody st) (C8.fnScope st) .none kV dc pm an (.ref c) ct), sl⟩) (cd : PySem.W.codeIn K (.ref c) x = true) (k : PySem.W.keepIn K (.ref f) = true) :
    DefC K mg x st f (PySem.W.fnOf x x (C8.fnArgs st) (C8.fnBody st) (C8.fnScope st) .none kV dc pm an (.ref c) ct) c :=
  ⟨⟨_, _, _, _, _, _, _, _, _, rfl, l, cd⟩, PySem.W.mg_of X G a, k⟩
theorem law_binds {K : PySem.W.Frag} {mg : Str → Option Value} {f : Addr} {fd : FuncData} (F : C8.Def K mg "law" sLaw f fd) (df : fd.defaults = .none) (s : Shared) (u : Value) : BindsTo s fd ⟨[u], []⟩ [("_law_script", u)] := by
  obtain ⟨oc, od, dV, kV, doc, pm, an, cdv, ct, osl, rfl, lk, hcd⟩ := F.fn.ex
  have e : dV = .none := df
  subst e
  exact .of_eq rfl
end Ask

set_option Elab.async false
open PySem PySem.W PyProof.Rows
set_option maxRecDepth 100000 in
set_option maxHeartbeats 0 in
open_top head for PySem.Challenge.rw_askedthen_k06_trees_ranges_of_entries

set_option Elab.async false
open PySem PySem.W PyProof.Rows
set_option maxRecDepth 100000 in
set_option maxHeartbeats 0 in
theorem PySem.Challenge.cw_askedthen_k06_trees_ranges_of_entries_holds : PySem.Challenge.rw_askedthen_k06_trees_ranges_of_entries.Holds := by
  refine head ?_
  k_fill
  refine LamX.walk_ofTs (l := PySem.Challenge.rw_askedthen_k06_trees_ranges_of_entries) (n := 63) (k := 7) (x := "_law_script") (CX := fun _ => C8.CX0) rfl (by decide) rfl ⟨rfl, by decide, by decide⟩ (fun w h Y => PySem.W.km_in_of Y) ?F (fun _ _ _ _ _ z => z)
  intro w mg fa h Y KX G hmg
  have T := PySem.W.km_tabs_of Y
  have D6 : Ask.Std (head.heap_39 w.params) mg "value_octets" 6 := by
    refine' Ask.Std.mk' KX G ?a ?l ?c ?k
    (case a => k_is); (case l => k_is); (case c => k_is); (case k => k_is)
  have D7 : Ask.Std (head.heap_39 w.params) mg "body" 7 := by
    refine' Ask.Std.mk' KX G ?a ?l ?c ?k
    (case a => k_is); (case l => k_is); (case c => k_is); (case k => k_is)
  have D8 : Ask.Std (head.heap_39 w.params) mg "key_octets" 8 := by
    refine' Ask.Std.mk' KX G ?a ?l ?c ?k
    (case a => k_is); (case l => k_is); (case c => k_is); (case k => k_is)
  have D9 : Ask.Std (head.heap_39 w.params) mg "range_of" 9 := by
    refine' Ask.Std.mk' KX G ?a ?l ?c ?k
    (case a => k_is); (case l => k_is); (case c => k_is); (case k => k_is)
  have D10 : Ask.Std (head.heap_39 w.params) mg "range_of_key" 10 := by
    refine' Ask.Std.mk' KX G ?a ?l ?c ?k
    (case a => k_is); (case l => k_is); (case c => k_is); (case k => k_is)
  have D11 : Ask.Std (head.heap_39 w.params) mg "first_bit" 11 := by
    refine' Ask.Std.mk' KX G ?a ?l ?c ?k
    (case a => k_is); (case l => k_is); (case c => k_is); (case k => k_is)
  have D12 : Ask.Std (head.heap_39 w.params) mg "has_bit" 12 := by
    refine' Ask.Std.mk' KX G ?a ?l ?c ?k
    (case a => k_is); (case l => k_is); (case c => k_is); (case k => k_is)
  have D14 : Ask.Std (head.heap_39 w.params) mg "side_input" 14 := by
    refine' Ask.Std.mk' KX G ?a ?l ?c ?k
    (case a => k_is); (case l => k_is); (case c => k_is); (case k => k_is)
  have D15 : Ask.Std (head.heap_39 w.params) mg "leaf_input" 15 := by
    refine' Ask.Std.mk' KX G ?a ?l ?c ?k
    (case a => k_is); (case l => k_is); (case c => k_is); (case k => k_is)
  have D16 : Ask.Std (head.heap_39 w.params) mg "make_leaf" 16 := by
    refine' Ask.Std.mk' KX G ?a ?l ?c ?k
    (case a => k_is); (case l => k_is); (case c => k_is); (case k => k_is)
  have D17 : Ask.Std (head.heap_39 w.params) mg "make_node" 17 := by
    refine' Ask.Std.mk' KX G ?a ?l ?c ?k
    (case a => k_is); (case l => k_is); (case c => k_is); (case k => k_is)
  have D18 : Ask.Std (head.heap_39 w.params) mg "join" 18 := by
    refine' Ask.Std.mk' KX G ?a ?l ?c ?k
    (case a => k_is); (case l => k_is); (case c => k_is); (case k => k_is)
  have D19 : Ask.Std (head.heap_39 w.params) mg "way_to" 19 := by
    refine' Ask.Std.mk' KX G ?a ?l ?c ?k
    (case a => k_is); (case l => k_is); (case c => k_is); (case k => k_is)
  have D20 : Ask.Std (head.heap_39 w.params) mg "put" 20 := by
    refine' Ask.Std.mk' KX G ?a ?l ?c ?k
    (case a => k_is); (case l => k_is); (case c => k_is); (case k => k_is)
  have D21 : Ask.Std (head.heap_39 w.params) mg "meets" 21 := by
    refine' Ask.Std.mk' KX G ?a ?l ?c ?k
    (case a => k_is); (case l => k_is); (case c => k_is); (case k => k_is)
  have D22 : Ask.Std (head.heap_39 w.params) mg "entries" 22 := by
    refine' Ask.Std.mk' KX G ?a ?l ?c ?k
    (case a => k_is); (case l => k_is); (case c => k_is); (case k => k_is)
  have D28 : Ask.Std (head.heap_39 w.params) mg "_law_cell" 28 := by
    refine' Ask.Std.mk' KX G ?a ?l ?c ?k
    (case a => k_is); (case l => k_is); (case c => k_is); (case k => k_is)
  have D29 : Ask.Std (head.heap_39 w.params) mg "_law_draws" 29 := by
    refine' Ask.Std.mk' KX G ?a ?l ?c ?k
    (case a => k_is); (case l => k_is); (case c => k_is); (case k => k_is)
  have D30 : Ask.Std (head.heap_39 w.params) mg "_law_hasher" 30 := by
    refine' Ask.Std.mk' KX G ?a ?l ?c ?k
    (case a => k_is); (case l => k_is); (case c => k_is); (case k => k_is)
  have D31 : Ask.Std (head.heap_39 w.params) mg "_law_value" 31 := by
    refine' Ask.Std.mk' KX G ?a ?l ?c ?k
    (case a => k_is); (case l => k_is); (case c => k_is); (case k => k_is)
  have D32 : Ask.Std (head.heap_39 w.params) mg "_law_key" 32 := by
    refine' Ask.Std.mk' KX G ?a ?l ?c ?k
    (case a => k_is); (case l => k_is); (case c => k_is); (case k => k_is)
  have D33 : Ask.Std (head.heap_39 w.params) mg "_law_spans" 33 := by
    refine' Ask.Std.mk' KX G ?a ?l ?c ?k
    (case a => k_is); (case l => k_is); (case c => k_is); (case k => k_is)
  have D34 : Ask.Std (head.heap_39 w.params) mg "_law_rows" 34 := by
    refine' Ask.Std.mk' KX G ?a ?l ?c ?k
    (case a => k_is); (case l => k_is); (case c => k_is); (case k => k_is)
  have D36 : Ask.Std (head.heap_39 w.params) mg "_law_octets" 36 := by
    refine' Ask.Std.mk' KX G ?a ?l ?c ?k
    (case a => k_is); (case l => k_is); (case c => k_is); (case k => k_is)
  have D40 : Ask.Std (head.heap_39 w.params) mg "_law_bounds" 40 := by
    refine' Ask.Std.mk' KX G ?a ?l ?c ?k
    (case a => k_is); (case l => k_is); (case c => k_is); (case k => k_is)
  have z_isi : mg "isinstance" = none := by
    refine' PySem.W.mg_none_of KX G ?a
    (case a => k_is)
  have z_str_ : mg "str" = none := by
    refine' PySem.W.mg_none_of KX G ?a
    (case a => k_is)
  have z_tup : mg "tuple" = none := by
    refine' PySem.W.mg_none_of KX G ?a
    (case a => k_is)
  have z_ord_ : mg "ord" = none := by
    refine' PySem.W.mg_none_of KX G ?a
    (case a => k_is)
  have z_rng : mg "range" = none := by
    refine' PySem.W.mg_none_of KX G ?a
    (case a => k_is)
  have z_min_ : mg "min" = none := by
    refine' PySem.W.mg_none_of KX G ?a
    (case a => k_is)
  have z_len : mg "len" = none := by
    refine' PySem.W.mg_none_of KX G ?a
    (case a => k_is)
  have z_enum : mg "enumerate" = none := by
    refine' PySem.W.mg_none_of KX G ?a
    (case a => k_is)
  have z_lst : mg "list" = none := by
    refine' PySem.W.mg_none_of KX G ?a
    (case a => k_is)
  have z_rev : mg "reversed" = none := by
    refine' PySem.W.mg_none_of KX G ?a
    (case a => k_is)
  have z_bool_ : mg "bool" = none := by
    refine' PySem.W.mg_none_of KX G ?a
    (case a => k_is)
  have z_int_ : mg "int" = none := by
    refine' PySem.W.mg_none_of KX G ?a
    (case a => k_is)
  have z_srt : mg "sorted" = none := by
    refine' PySem.W.mg_none_of KX G ?a
    (case a => k_is)
  have Z : Ask.Free mg := ⟨z_isi, z_str_, z_tup, z_ord_, z_rng, z_min_, z_len, z_enum, z_lst, z_rev, z_bool_, z_int_, z_srt⟩
  have MA : ∃ m, Ask.MasksAt (head.heap_39 w.params) mg m := by
    refine' ⟨_, Ask.masks_mk KX G ?a ?l ?z ?v⟩
    (case a => k_is); (case l => k_is); (case z => rfl); (case v => rfl)
  have AL : mg "entries_trees" = mg "entries" := by
    refine' Eq.trans (PySem.W.mg_of KX G ?a) (Eq.symm (PySem.W.mg_of KX G ?b))
    (case b => k_is); (case a => k_is)
  have H26 : ∃ (C f0 f1 : Addr), Ask.StC (head.heap_39 w.params) mg "Hasher" C ∧ Ask.StM (head.heap_39 w.params) C "__init__" "Hasher.__init__" 26 0 f0 ∧ Ask.StM (head.heap_39 w.params) C "digest" "Hasher.digest" 26 1 f1 ∧ L2.NoAttr (head.heap_39 w.params) C "modulus" ∧ L2.NoAttr (head.heap_39 w.params) C "multiplier" := by
    refine' ⟨_, _, _, Ask.StC.mk' KX G ?a ?pg ?hd ?po ?sa ?mk ?kc, Ask.StM.mk' ?a0 ?i0 ?k0 ?l0 ?c0, Ask.StM.mk' ?a1 ?i1 ?k1 ?l1 ?c1, ?n0, ?n1⟩
    (case a => k_is); (case pg => k_is); (case hd => k_is); (case po => k_is); (case sa => k_is); (case mk => k_is); (case kc => k_is)
    (case a0 => k_is); (case i0 => k_is); (case k0 => k_is); (case l0 => k_is); (case c0 => k_is)
    (case a1 => k_is); (case i1 => k_is); (case k1 => k_is); (case l1 => k_is); (case c1 => k_is)
    (case n0 => unfold L2.NoAttr; k_is); (case n1 => unfold L2.NoAttr; k_is)
  have H24 : ∃ (C f0 f1 : Addr), Ask.StC (head.heap_39 w.params) mg "TreeSource" C ∧ Ask.StM (head.heap_39 w.params) C "__init__" "TreeSource.__init__" 24 0 f0 ∧ Ask.StM (head.heap_39 w.params) C "entries" "TreeSource.entries" 24 1 f1 ∧ L2.NoAttr (head.heap_39 w.params) C "tree" := by
    refine' ⟨_, _, _, Ask.StC.mk' KX G ?a ?pg ?hd ?po ?sa ?mk ?kc, Ask.StM.mk' ?a0 ?i0 ?k0 ?l0 ?c0, Ask.StM.mk' ?a1 ?i1 ?k1 ?l1 ?c1, ?n0⟩
    (case a => k_is); (case pg => k_is); (case hd => k_is); (case po => k_is); (case sa => k_is); (case mk => k_is); (case kc => k_is)
    (case a0 => k_is); (case i0 => k_is); (case k0 => k_is); (case l0 => k_is); (case c0 => k_is)
    (case a1 => k_is); (case i1 => k_is); (case k1 => k_is); (case l1 => k_is); (case c1 => k_is)
    (case n0 => unfold L2.NoAttr; k_is)
  obtain ⟨C, fHi, fHd, hC, h0, h1, hM, hL⟩ := H26
  obtain ⟨D, fSi, fSe, sC, s0, s1, sT⟩ := H24
  obtain ⟨m, MA⟩ := MA
  have X : Ask.Defs (head.heap_39 w.params) mg C D fHi fHd fSi fSe m := ⟨Z, MA, D6, D7, D8, D9, D10, D11, D12, D14, D15, D16, D17, D18, D19, D20, D21, D22, D28, D29, D30, D31, D32, D33, D34, D36, D40, AL, hC, hM, hL, h0, h1, sC, sT, s0, s1⟩
  have FL : Ask.Std (head.heap_39 w.params) mg "law" 41 := by
    refine' Ask.Std.mk' KX G ?a ?l ?c ?k
    (case a => k_is); (case l => k_is); (case c => k_is); (case k => k_is)
  have FS : ∃ (c : Addr) (f : Addr) (fd : FuncData), Ask.DefC (head.heap_39 w.params) mg "_law_sorted" Ask.sSrt f fd c ∧ fd.defaults = .none ∧ PySem.W.codeHdIn (head.heap_39 w.params) c 298 = true := by
    refine' ⟨_, _, _, Ask.DefC.mk' KX G ?a ?l ?c ?k, rfl, ?t⟩
    (case a => k_is); (case l => k_is); (case c => k_is); (case k => k_is); (case t => kernel_rfl)
  obtain ⟨c, fS, fdS, FS, dS, hcd⟩ := FS
  have nT : (head.heap_39 w.params).lookup 298 = none := by kernel_rfl
  obtain ⟨fl, fdl, FL, dl⟩ := FL
  have e : (Value.ref fa) = Value.ref fl := Option.some.inj (hmg.symm.trans FL.mgf)
  injection e with e
  subst e
  exact ⟨fdl, [(c, 298)], Ask.spLaw (head.heap_39 w.params) 298, (fun p hp => by rw [List.mem_singleton.mp hp]; exact T 298 (List.mem_singleton.mpr rfl)), (fun p hp => by rw [List.mem_singleton.mp hp]; exact nT), (fun p hp => by rw [List.mem_singleton.mp hp]; exact PySem.W.codeHd_of_K KX hcd),
    Ask.law_binds FL dl, (fun H a ns _ _ hH hS => ⟨a, ns, rfl, hS, (fun p hp => by rw [List.mem_singleton.mp hp]; exact LamX.TabS.nil (hH (c, 298) (List.mem_singleton.mpr rfl))), fun _ => rfl⟩),
    fun base _ _ hTB => Ask.ok_law X.z (Ask.calls_mk X (hTB (c, 298) (List.mem_singleton.mpr rfl)) FS dS) FL⟩
#print axioms PySem.Challenge.cw_askedthen_k06_trees_ranges_of_entries_holds


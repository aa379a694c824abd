/-
  The evaluator is right, part 1: keys and tries; what an abstract heap says of a world; loads and stores. Conditions: those of each theorem.
-/
import Derived.Test.YtajkappjebiolaaGreatDoorLv1
import Derived.CallsIn
import Derived.Laws.StructEq
namespace Go.Lv
open Go

/-! ### keys and tries -/
noncomputable def Pos.n (p : Pos) : Nat := Pos.rec 1 (fun _ ih => 2 * ih) (fun _ ih => 2 * ih + 1) p
@[simp] theorem Pos.n_one : Pos.one.n = 1 := rfl
@[simp] theorem Pos.n_o (p : Pos) : p.o.n = 2 * p.n := rfl
@[simp] theorem Pos.n_i (p : Pos) : p.i.n = 2 * p.n + 1 := rfl
theorem Pos.n_pos (p : Pos) : 1 ≤ p.n := by induction p <;> simp <;> omega
theorem Pos.n_inj : ∀ {p q : Pos}, p.n = q.n → p = q := by
  intro p
  induction p with
  | one => intro q h; cases q with
    | one => rfl
    | o q => simp at h; have := q.n_pos; omega
    | i q => simp at h; have := q.n_pos; omega
  | o p ih => intro q h; cases q with
    | one => simp at h; have := p.n_pos; omega
    | o q => simp at h; have e : p = q := ih (by omega); rw [e]
    | i q => simp at h; omega
  | i p ih => intro q h; cases q with
    | one => simp at h; have := p.n_pos; omega
    | o q => simp at h; omega
    | i q => simp at h; have e : p = q := ih (by omega); rw [e]
@[simp] theorem Pos.succ_one : Pos.one.succ = .o .one := rfl
@[simp] theorem Pos.succ_o (p : Pos) : p.o.succ = .i p := rfl
@[simp] theorem Pos.succ_i (p : Pos) : p.i.succ = .o p.succ := rfl
theorem Pos.n_succ (p : Pos) : p.succ.n = p.n + 1 := by
  induction p with
  | one => rfl
  | o p _ => rfl
  | i p ih => simp [ih]; omega
theorem Pos.succ_ne (p : Pos) : p.succ ≠ p := fun h => by have := p.n_succ; rw [h] at this; omega
theorem Pos.beq_eq : ∀ {p q : Pos}, p.beq q = true → p = q := by
  intro p
  induction p with
  | one => intro q h; cases q <;> first | rfl | exact absurd h (by decide) | (exact Bool.noConfusion h)
  | o p ih => intro q h; cases q with
    | one => exact Bool.noConfusion h
    | o q => rw [ih h]
    | i q => exact Bool.noConfusion h
  | i p ih => intro q h; cases q with
    | one => exact Bool.noConfusion h
    | o q => exact Bool.noConfusion h
    | i q => rw [ih h]
theorem Pos.ofNatF_n (f : Nat) : ∀ n, 1 ≤ n → n < 2 ^ f → (Pos.ofNatF f n).n = n := by
  induction f with
  | zero => intro n h1 h2; simp at h2; omega
  | succ f ih =>
    intro n h1 h2
    show (Bool.rec (Bool.rec (Pos.o (Pos.ofNatF f (Nat.div n 2))) (Pos.i (Pos.ofNatF f (Nat.div n 2))) (Nat.beq (Nat.mod n 2) 1)) Pos.one (Nat.ble n 1) : Pos).n = n
    have hd : Nat.div n 2 = n / 2 := rfl
    have hm : Nat.mod n 2 = n % 2 := rfl
    rw [hd, hm]
    cases hb : Nat.ble n 1 with
    | true => have := Nat.le_of_ble_eq_true hb; simp; omega
    | false =>
      have hgt : ¬ n ≤ 1 := fun h => by have := Nat.ble_eq_true_of_le h; rw [hb] at this; cases this
      have hlt : n / 2 < 2 ^ f := by rw [Nat.pow_succ] at h2; omega
      have := ih (n / 2) (by omega) hlt
      cases hq : Nat.beq (n % 2) 1 with
      | true => have h1 := Nat.eq_of_beq_eq_true hq; simp only [Pos.n_i, this]; omega
      | false => have h1 := Nat.ne_of_beq_eq_false hq; simp only [Pos.n_o, this]; omega
theorem Pos.ofNat_n {n : Nat} (h : n + 1 < 2 ^ 64) : (Pos.ofNat n).n = n + 1 := Pos.ofNatF_n 64 (n + 1) (by omega) h
theorem Pos.ofNat_inj {m n : Nat} (hm : m + 1 < 2 ^ 64) (hn : n + 1 < 2 ^ 64) (h : Pos.ofNat m = Pos.ofNat n) : m = n := by
  have h1 := Pos.ofNat_n hm; have h2 := Pos.ofNat_n hn; rw [h, h2] at h1; omega

section
variable {α : Type}
@[simp] theorem PT.val_nil : (PT.nil : PT α).val = none := rfl
@[simp] theorem PT.val_node (l : PT α) (v : Option α) (r : PT α) : (PT.node l v r).val = v := rfl
@[simp] theorem PT.left_node (l : PT α) (v : Option α) (r : PT α) : (PT.node l v r).left = l := rfl
@[simp] theorem PT.right_node (l : PT α) (v : Option α) (r : PT α) : (PT.node l v r).right = r := rfl
theorem PT.get_one (t : PT α) : t.get .one = t.val := rfl
theorem PT.get_o (t : PT α) (p : Pos) : t.get p.o = t.left.get p := rfl
theorem PT.get_i (t : PT α) (p : Pos) : t.get p.i = t.right.get p := rfl
theorem PT.set_one (t : PT α) (v : Option α) : t.set .one v = .node t.left v t.right := rfl
theorem PT.set_o (t : PT α) (p : Pos) (v : Option α) : t.set p.o v = .node (t.left.set p v) t.val t.right := rfl
theorem PT.set_i (t : PT α) (p : Pos) (v : Option α) : t.set p.i v = .node t.left t.val (t.right.set p v) := rfl
@[simp] theorem PT.get_nil (p : Pos) : (PT.nil : PT α).get p = none := by
  induction p with
  | one => rfl
  | o p ih => exact ih
  | i p ih => exact ih
@[simp] theorem PT.get_set (t : PT α) (p : Pos) (v : Option α) : (t.set p v).get p = v := by
  induction p generalizing t with
  | one => rfl
  | o p ih => exact ih t.left
  | i p ih => exact ih t.right
theorem PT.get_set_ne {p q : Pos} (h : p ≠ q) (t : PT α) (v : Option α) : (t.set p v).get q = t.get q := by
  induction p generalizing t q with
  | one => cases q <;> first | exact absurd rfl h | rfl
  | o p ih => cases q with
    | one => rfl
    | o q => exact ih (fun e => h (by rw [e])) t.left
    | i q => rfl
  | i p ih => cases q with
    | one => rfl
    | o q => rfl
    | i q => exact ih (fun e => h (by rw [e])) t.right
theorem PT.get_set_if (t : PT α) (p q : Pos) (v : Option α) [Decidable (p = q)] : (t.set p v).get q = if p = q then v else t.get q := by
  split
  · rename_i h; subst h; simp
  · rename_i h; exact PT.get_set_ne h t v

theorem PT.atF_setAtF (f : Nat) : ∀ (t : PT α) (m n : Nat) (v : α), m < 2 ^ f - 1 → n < 2 ^ f - 1 → (PT.setAtF f t m v).atF f n = if m = n then some v else t.atF f n := by
  induction f with
  | zero => intro t m n v hm; simp at hm
  | succ f ih =>
    intro t m n v hm hn
    have h2 : 2 ^ (f + 1) = 2 * 2 ^ f := by rw [Nat.pow_succ]; omega
    have hp : 1 ≤ 2 ^ f := Nat.one_le_two_pow
    have e1 : ∀ (t : PT α) (n : Nat), t.atF (f + 1) n = if n = 0 then t.val else if n % 2 = 1 then t.left.atF f (n / 2) else t.right.atF f (n / 2 - 1) := by
      intro t n
      show (Bool.rec (motive := fun _ => Option α) (Bool.rec (motive := fun _ => Option α) (t.right.atF f (n / 2 - 1)) (t.left.atF f (n / 2)) (Nat.beq (n % 2) 1)) t.val (Nat.beq n 0)) = _
      cases h0 : Nat.beq n 0 with
      | true => rw [if_pos (Nat.eq_of_beq_eq_true h0)]
      | false =>
        rw [if_neg (Nat.ne_of_beq_eq_false h0)]
        cases h1 : Nat.beq (n % 2) 1 with
        | true => rw [if_pos (Nat.eq_of_beq_eq_true h1)]
        | false => rw [if_neg (Nat.ne_of_beq_eq_false h1)]
    have e2 : PT.setAtF (f + 1) t m v = if m = 0 then .node t.left (some v) t.right else if m % 2 = 1 then .node (PT.setAtF f t.left (m / 2) v) t.val t.right else .node t.left t.val (PT.setAtF f t.right (m / 2 - 1) v) := by
      show (Bool.rec (motive := fun _ => PT α) (Bool.rec (motive := fun _ => PT α) (.node t.left t.val (PT.setAtF f t.right (m / 2 - 1) v)) (.node (PT.setAtF f t.left (m / 2) v) t.val t.right) (Nat.beq (m % 2) 1)) (.node t.left (some v) t.right) (Nat.beq m 0)) = _
      cases h0 : Nat.beq m 0 with
      | true => rw [if_pos (Nat.eq_of_beq_eq_true h0)]
      | false =>
        rw [if_neg (Nat.ne_of_beq_eq_false h0)]
        cases h1 : Nat.beq (m % 2) 1 with
        | true => rw [if_pos (Nat.eq_of_beq_eq_true h1)]
        | false => rw [if_neg (Nat.ne_of_beq_eq_false h1)]
    rw [e2, e1 t n]
    by_cases hm0 : m = 0
    · rw [if_pos hm0, e1 _ n]
      by_cases hn0 : n = 0
      · simp [hm0, hn0]
      · rw [if_neg hn0, if_neg hn0, if_neg (show ¬ m = n by omega)]; rfl
    · rw [if_neg hm0]
      by_cases hmo : m % 2 = 1
      · rw [if_pos hmo, e1 _ n]
        by_cases hn0 : n = 0
        · rw [if_pos hn0, if_pos hn0, if_neg (show ¬ m = n by omega)]; rfl
        · rw [if_neg hn0, if_neg hn0]
          by_cases hno : n % 2 = 1
          · rw [if_pos hno, if_pos hno]
            show (PT.setAtF f t.left (m / 2) v).atF f (n / 2) = _
            rw [ih _ _ _ _ (by omega) (by omega)]
            by_cases hh : m / 2 = n / 2
            · rw [if_pos hh, if_pos (show m = n by omega)]
            · rw [if_neg hh, if_neg (show ¬ m = n by omega)]
          · rw [if_neg hno, if_neg hno, if_neg (show ¬ m = n by omega)]; rfl
      · rw [if_neg hmo, e1 _ n]
        by_cases hn0 : n = 0
        · rw [if_pos hn0, if_pos hn0, if_neg (show ¬ m = n by omega)]; rfl
        · rw [if_neg hn0, if_neg hn0]
          by_cases hno : n % 2 = 1
          · rw [if_pos hno, if_pos hno, if_neg (show ¬ m = n by omega)]; rfl
          · rw [if_neg hno, if_neg hno]
            show (PT.setAtF f t.right (m / 2 - 1) v).atF f (n / 2 - 1) = _
            rw [ih _ _ _ _ (by omega) (by omega)]
            by_cases hh : m / 2 - 1 = n / 2 - 1
            · rw [if_pos hh, if_pos (show m = n by omega)]
            · rw [if_neg hh, if_neg (show ¬ m = n by omega)]
theorem PT.atF_setAtF_some (f : Nat) : ∀ {t : PT α} {m n : Nat} {v x : α}, (PT.setAtF f t m v).atF f n = some x → (m = n ∧ x = v) ∨ (m ≠ n ∧ t.atF f n = some x) := by
  induction f with
  | zero => intro t m n v x h; cases h
  | succ f ih =>
    intro t m n v x h
    have e1 : ∀ (t : PT α) (n : Nat), t.atF (f + 1) n = if n = 0 then t.val else if n % 2 = 1 then t.left.atF f (n / 2) else t.right.atF f (n / 2 - 1) := by
      intro t n
      show (Bool.rec (motive := fun _ => Option α) (Bool.rec (motive := fun _ => Option α) (t.right.atF f (n / 2 - 1)) (t.left.atF f (n / 2)) (Nat.beq (n % 2) 1)) t.val (Nat.beq n 0)) = _
      cases h0 : Nat.beq n 0 with
      | true => rw [if_pos (Nat.eq_of_beq_eq_true h0)]
      | false =>
        rw [if_neg (Nat.ne_of_beq_eq_false h0)]
        cases h1 : Nat.beq (n % 2) 1 with
        | true => rw [if_pos (Nat.eq_of_beq_eq_true h1)]
        | false => rw [if_neg (Nat.ne_of_beq_eq_false h1)]
    have e2 : PT.setAtF (f + 1) t m v = if m = 0 then .node t.left (some v) t.right else if m % 2 = 1 then .node (PT.setAtF f t.left (m / 2) v) t.val t.right else .node t.left t.val (PT.setAtF f t.right (m / 2 - 1) v) := by
      show (Bool.rec (motive := fun _ => PT α) (Bool.rec (motive := fun _ => PT α) (.node t.left t.val (PT.setAtF f t.right (m / 2 - 1) v)) (.node (PT.setAtF f t.left (m / 2) v) t.val t.right) (Nat.beq (m % 2) 1)) (.node t.left (some v) t.right) (Nat.beq m 0)) = _
      cases h0 : Nat.beq m 0 with
      | true => rw [if_pos (Nat.eq_of_beq_eq_true h0)]
      | false =>
        rw [if_neg (Nat.ne_of_beq_eq_false h0)]
        cases h1 : Nat.beq (m % 2) 1 with
        | true => rw [if_pos (Nat.eq_of_beq_eq_true h1)]
        | false => rw [if_neg (Nat.ne_of_beq_eq_false h1)]
    rw [e2, e1] at h
    rw [e1 t n]
    by_cases hm0 : m = 0
    · rw [if_pos hm0] at h
      by_cases hn0 : n = 0
      · rw [if_pos hn0] at h; exact .inl ⟨by omega, (Option.some.inj h).symm⟩
      · rw [if_neg hn0] at h ⊢; exact .inr ⟨by omega, h⟩
    · rw [if_neg hm0] at h
      by_cases hmo : m % 2 = 1
      · rw [if_pos hmo] at h
        by_cases hn0 : n = 0
        · rw [if_pos hn0] at h ⊢; exact .inr ⟨by omega, h⟩
        · rw [if_neg hn0] at h ⊢
          by_cases hno : n % 2 = 1
          · rw [if_pos hno] at h ⊢
            rcases ih (t := t.left) (m := m / 2) (n := n / 2) h with ⟨h1, h2⟩ | ⟨h1, h2⟩
            · exact .inl ⟨by omega, h2⟩
            · exact .inr ⟨by omega, h2⟩
          · rw [if_neg hno] at h ⊢; exact .inr ⟨by omega, h⟩
      · rw [if_neg hmo] at h
        by_cases hn0 : n = 0
        · rw [if_pos hn0] at h ⊢; exact .inr ⟨by omega, h⟩
        · rw [if_neg hn0] at h ⊢
          by_cases hno : n % 2 = 1
          · rw [if_pos hno] at h ⊢; exact .inr ⟨by omega, h⟩
          · rw [if_neg hno] at h ⊢
            rcases ih (t := t.right) (m := m / 2 - 1) (n := n / 2 - 1) h with ⟨h1, h2⟩ | ⟨h1, h2⟩
            · exact .inl ⟨by omega, h2⟩
            · exact .inr ⟨by omega, h2⟩
theorem PT.at_setAt_some {t : PT α} {m n : Nat} {v x : α} (h : (t.setAt m v).at n = some x) : (m = n ∧ x = v) ∨ (m ≠ n ∧ t.at n = some x) := PT.atF_setAtF_some 64 h
theorem PT.at_setAt (t : PT α) {m n : Nat} (v : α) (hm : m < 2 ^ 64 - 1) (hn : n < 2 ^ 64 - 1) : (t.setAt m v).at n = if m = n then some v else t.at n := PT.atF_setAtF 64 t m n v hm hn
theorem PT.at_nil (n : Nat) : (PT.nil : PT α).at n = none := by
  have : ∀ f (n : Nat), (PT.nil : PT α).atF f n = none := by
    intro f
    induction f with
    | zero => intro n; rfl
    | succ f ih =>
      intro n
      show (Bool.rec (motive := fun _ => Option α) (Bool.rec (motive := fun _ => Option α) ((PT.nil : PT α).atF f (n / 2 - 1)) ((PT.nil : PT α).atF f (n / 2)) (Nat.beq (n % 2) 1)) none (Nat.beq n 0)) = none
      rw [ih, ih]
      cases Nat.beq n 0 <;> cases Nat.beq (n % 2) 1 <;> rfl
  exact this 64 n

theorem nth_eq (l : List α) : ∀ n, nth l n = l[n]? := by
  induction l with
  | nil => intro n; rfl
  | cons a l ih => intro n; cases n with
    | zero => rfl
    | succ n => exact (ih n).trans (by simp)
theorem len_eq (l : List α) : len l = l.length := by
  induction l with
  | nil => rfl
  | cons a l ih => show Nat.add (len l) 1 = _; rw [ih]; rfl
theorem takeN_eq (l : List α) : ∀ n, takeN l n = l.take n := by
  induction l with
  | nil => intro n; simp; rfl
  | cons a l ih => intro n; cases n with
    | zero => rfl
    | succ n => show a :: takeN l n = _; rw [ih]; rfl
theorem dropN_eq (l : List α) : ∀ n, dropN l n = l.drop n := by
  induction l with
  | nil => intro n; simp; rfl
  | cons a l ih => intro n; cases n with
    | zero => rfl
    | succ n => exact ih n
theorem app_eq (l r : List α) : app l r = l ++ r := by
  induction l with
  | nil => rfl
  | cons a l ih => show a :: app l r = _; rw [ih]; rfl
end
theorem memN_eq (n : Nat) (l : List Nat) : memN n l = true ↔ n ∈ l := by
  induction l with
  | nil => simp [memN]
  | cons a l ih =>
    show Bool.rec (motive := fun _ => Bool) (memN n l) true (Nat.beq a n) = true ↔ _
    cases h : Nat.beq a n with
    | true => simp [Nat.eq_of_beq_eq_true h]
    | false => have := Nat.ne_of_beq_eq_false h; simp [ih, Ne.symm this]
theorem nbeq_eq (l r : List Nat) : nbeq l r = (l == r) := by
  induction l generalizing r with
  | nil => cases r <;> rfl
  | cons a l ih => cases r with
    | nil => rfl
    | cons b r =>
      show Bool.rec (motive := fun _ => Bool) false (nbeq l r) (Nat.beq a b) = _
      rw [ih]
      cases h : Nat.beq a b with
      | true => simp [Nat.eq_of_beq_eq_true h]
      | false => have := Nat.ne_of_beq_eq_false h; simp [this]
theorem bif_true {α : Type} (a b : α) : bif' true a b = a := rfl
theorem bif_false {α : Type} (a b : α) : bif' false a b = b := rfl
/-- a Bool 'if' with false for its second way -/
theorem bif_and {c x : Bool} (h : bif' c x false = true) : c = true ∧ x = true := by cases c <;> simp_all
theorem opt_some {α : Type} {o : Option α} {f : α → Bool} (h : opt o false f = true) : ∃ a, o = some a ∧ f a = true := by
  cases o with
  | none => cases h
  | some a => exact ⟨a, rfl, h⟩
end Go.Lv

namespace Go.Lv
open Go

/-! ### what an abstract state says of a world -/
/-- where a block lies: block, first cell; how many elements a growable slice over all of it has room for; how many cells are its own -/
structure Loc where
  blk : Nat
  base : Nat
  cap : Nat
  cc : Nat
def Loc.addr (L : Loc) (off : Nat) : Addr := ⟨L.blk, L.base + off, none⟩
def Loc.sep (L L' : Loc) : Prop := L.blk ≠ L'.blk ∨ L.base + L.cc ≤ L'.base ∨ L'.base + L'.cc ≤ L.base
abbrev Emb := Pos → Option Loc

mutual
/-- value 'v' is what 'a' stands for -/
def VR (φ : Emb) : AV → Value → Prop
  | .bool b, v => v = .bool b
  | .int k n, v => v = .int k n
  | .str l, v => ∃ s : ByteArray, v = .string s ∧ s.data.toList.map (·.toNat) = l
  | .ptr b off, v => ∃ L, φ b = some L ∧ v = .pointer (some (L.addr off))
  | .nilp, v => v = .pointer none
  | .sl b off len cap, v => ∃ L, φ b = some L ∧ v = .slice (some (L.addr off)) len cap
  | .gsl b off len d es, v => ∃ L, φ b = some L ∧ d + len ≤ L.cap ∧ off + (L.cap - d) * es = L.cc ∧ ∃ a, v = .slice (some a) len (L.cap - d) ∧ (0 < L.cap - d → a = L.addr off)
  | .nils, v => v = .slice none 0 0
  | .mp b, v => ∃ L, φ b = some L ∧ v = .map (some L.blk)
  | .nilm, v => v = .map none
  | .fn f a c, v => (∀ l, f ≠ .yield l) ∧ ∃ as cs, v = .func f as.toArray cs.toArray ∧ VRs φ a as ∧ VRs φ c cs
  | .yld b, v => ∃ L, φ b = some L ∧ v = .func (.yield L.blk) #[] #[]
  | .nilf, v => v = .nilFunc
  | .ifc t x, v => ∃ y, v = .iface t y ∧ VR φ x y
  | .nili, v => v = .nilIface
  | .agg l, v => ∃ vs, v = .agg vs.toArray ∧ VRs φ l vs ∧ ∀ a ∈ l, a.one = true
  | .tup l, v => ∃ vs, v = .tuple vs.toArray ∧ VRs φ l vs
def VRs (φ : Emb) : List AV → List Value → Prop
  | [], vs => vs = []
  | a :: l, vs => ∃ v r, vs = v :: r ∧ VR φ a v ∧ VRs φ l r
end

theorem VRs.nil {φ : Emb} : VRs φ [] [] := rfl
theorem VRs.cons {φ : Emb} {a : AV} {l : List AV} {v : Value} {vs : List Value} (h : VR φ a v) (hs : VRs φ l vs) : VRs φ (a :: l) (v :: vs) := ⟨v, vs, rfl, h, hs⟩

def Le (φ φ' : Emb) : Prop := ∀ b L, φ b = some L → φ' b = some L
theorem Le.refl (φ : Emb) : Le φ φ := fun _ _ h => h
theorem Le.trans {φ φ' φ'' : Emb} (h : Le φ φ') (h' : Le φ' φ'') : Le φ φ'' := fun b L e => h' b L (h b L e)

mutual
theorem VR.mono {φ φ' : Emb} (h : Le φ φ') : ∀ {a : AV} {v : Value}, VR φ a v → VR φ' a v
  | .bool _, _, e => e
  | .int _ _, _, e => e
  | .str _, _, e => e
  | .ptr _ _, _, ⟨L, e, r⟩ => ⟨L, h _ _ e, r⟩
  | .nilp, _, e => e
  | .sl _ _ _ _, _, ⟨L, e, r⟩ => ⟨L, h _ _ e, r⟩
  | .gsl _ _ _ _ _, _, ⟨L, e, r⟩ => ⟨L, h _ _ e, r⟩
  | .nils, _, e => e
  | .mp _, _, ⟨L, e, r⟩ => ⟨L, h _ _ e, r⟩
  | .nilm, _, e => e
  | .fn _ _ _, _, ⟨y, as, cs, e, ha, hc⟩ => ⟨y, as, cs, e, VRs.mono h ha, VRs.mono h hc⟩
  | .yld _, _, ⟨L, e, r⟩ => ⟨L, h _ _ e, r⟩
  | .nilf, _, e => e
  | .ifc _ _, _, ⟨y, e, hx⟩ => ⟨y, e, VR.mono h hx⟩
  | .nili, _, e => e
  | .agg _, _, ⟨vs, e, hl, ho⟩ => ⟨vs, e, VRs.mono h hl, ho⟩
  | .tup _, _, ⟨vs, e, hl⟩ => ⟨vs, e, VRs.mono h hl⟩
theorem VRs.mono {φ φ' : Emb} (h : Le φ φ') : ∀ {l : List AV} {vs : List Value}, VRs φ l vs → VRs φ' l vs
  | [], _, e => e
  | _ :: _, _, ⟨v, r, e, ha, hl⟩ => ⟨v, r, e, VR.mono h ha, VRs.mono h hl⟩
end

/-- relation of a trie of temporaries -/
def TmR (φ : Emb) (tm : PT AV) (tmps : Array Value) : Prop := ∀ t v, tm.get (Pos.ofNat t) = some v → VR φ v (tmps.getD t undef)

def RowR (φ : Emb) (w : World) (L : Loc) (n : Nat) (c : PT AV) : Prop := ∀ i v, c.at i = some v → i < n ∧ v.one = true ∧ ∃ cv, w.cell? (L.addr i) = some cv ∧ VR φ v cv

def EsR (φ : Emb) : List (AV × AV × Nat) → List MapEntry → Prop
  | [], es => es = []
  | (k, v, n) :: l, es => ∃ e r, es = e :: r ∧ VR φ k e.key ∧ VR φ v e.val ∧ e.born = n ∧ EsR φ l r

/-- the pending jump of a loop -/
def JumpR : Option ACode → Option Code → Prop
  | none, j => j = none
  | some .ret, j => j = some .ret
  | some (.exit id), j => j = some (.exit id)
  | some _, _ => False

def ObjR (P : Program) (φ : Emb) (w : World) (L : Loc) : AObj → Prop
  | .row ro _ n c => L.blk < w.heap.size ∧ n ≤ L.cc ∧ RowR φ w L n c ∧ (ro = false → ∀ i, i < L.cc → (w.cell? (L.addr i)).isSome = true ∧ w.frozen? (L.addr i) = false)
  | .map _ es cl => L.base = 0 ∧ L.cc = 1 ∧ ∃ en : Array MapEntry, w.heap[L.blk]? = some (.map en cl) ∧ EsR φ es en.toList
  | .iter m since seen last => L.base = 0 ∧ L.cc = 1 ∧ ∃ m', w.heap[L.blk]? = some (.mapIter m' since seen.toArray last) ∧
      (match m with | none => m' = none | some b => ∃ M, φ b = some M ∧ m' = some M.blk)
  | .siter s pos => L.base = 0 ∧ L.cc = 1 ∧ ∃ t : ByteArray, w.heap[L.blk]? = some (.stringIter t pos) ∧ t.data.toList.map (·.toNat) = s
  | .loop st pend tm ps asg body d => L.base = 0 ∧ L.cc = 1 ∧ ∃ D, φ d = some D ∧ ∃ (j : Option Code) (f : FuncId) (tmps : Array Value) (ps' : Array Tmp) (asg' body' : Code),
      w.heap[L.blk]? = some (.loop { state := st, pending := j, fn := f, tmps := tmps, params := ps', assign := asg', body := body', defers := D.blk }) ∧
      JumpR pend j ∧ TmR φ tm tmps ∧ ps = ps'.toList.map Pos.ofNat ∧ asg = comp P asg' ∧ body = comp P body' ∧ tmps.size + 1 < 2 ^ 64 ∧
      (∀ p ∈ ps'.toList, p < tmps.size) ∧ (asg'.dok tmps.size = true ∧ body'.dok tmps.size = true) ∧ asg'.rok = true ∧ body'.rok = true
  | .defd o => L.base = 0 ∧ L.cc = 1 ∧ w.heap[L.blk]? = some (.deferred (bif o then some [] else none))

def AObj.wr : AObj → Bool
  | .row ro .. => !ro
  | .map ro .. => !ro
  | _ => true

structure HR (P : Program) (φ : Emb) (g : G) (w : World) : Prop where
  fresh : ∀ b, φ b ≠ none → b.n < g.nx.n
  obj : ∀ b o L, g.hp.get b = some o → φ b = some L → ObjR P φ w L o
  sep : ∀ b b' o o' L L', b ≠ b' → g.hp.get b = some o → g.hp.get b' = some o' → φ b = some L → φ b' = some L' → o.wr = true → L.sep L'

/-- what a step does to world and heap -/
structure Step (P : Program) (φ : Emb) (g : G) (w : World) (φ' : Emb) (g' : G) (w' : World) : Prop where
  hr : HR P φ' g' w'
  ext : ∀ b, b.n < g.nx.n → φ' b = φ b
  nx : g.nx.n ≤ g'.nx.n
  size : w.heap.size ≤ w'.heap.size
  old : ∀ B, B < w.heap.size → (∀ b o L, g.hp.get b = some o → φ b = some L → o.wr = true → L.blk ≠ B) → w'.heap[B]? = w.heap[B]?
  own : ∀ b o L, g'.hp.get b = some o → φ' b = some L → o.wr = true → L.blk < w.heap.size → ∃ b₀ o₀ L₀, g.hp.get b₀ = some o₀ ∧ φ b₀ = some L₀ ∧ o₀.wr = true ∧ L₀.blk = L.blk
  ghost : ∀ b, b.n < g.nx.n → φ b = none → g'.hp.get b = g.hp.get b
  os : w'.os = w.os
  out : w'.output = w.output
  tape : w'.tape = w.tape

section
variable {P : Program} {φ φ' φ'' : Emb} {g g' g'' : G} {w w' w'' : World}

theorem HR.lt (h : HR P φ g w) {b : Pos} {L : Loc} (e : φ b = some L) : b.n < g.nx.n := h.fresh b (by simp [e])
theorem HR.none_nx (h : HR P φ g w) : φ g.nx = none := by
  cases e : φ g.nx with
  | none => rfl
  | some L => have := h.lt e; omega
theorem Step.le (h : HR P φ g w) (s : Step P φ g w φ' g' w') : Le φ φ' := fun b L e => by rw [s.ext b (h.lt e)]; exact e
theorem Step.refl (h : HR P φ g w) : Step P φ g w φ g w :=
  ⟨h, fun _ _ => rfl, Nat.le_refl _, Nat.le_refl _, fun _ _ _ => rfl, fun b o L ho hL hw _ => ⟨b, o, L, ho, hL, hw, rfl⟩, fun _ _ _ => rfl, rfl, rfl, rfl⟩
theorem Step.trans (s : Step P φ g w φ' g' w') (s' : Step P φ' g' w' φ'' g'' w'') : Step P φ g w φ'' g'' w'' where
  hr := s'.hr
  ext := fun b hb => (s'.ext b (Nat.lt_of_lt_of_le hb s.nx)).trans (s.ext b hb)
  nx := Nat.le_trans s.nx s'.nx
  size := Nat.le_trans s.size s'.size
  old := fun B hB hn => (s'.old B (Nat.lt_of_lt_of_le hB s.size) (fun b o L ho hL hw he => by
    obtain ⟨b₀, o₀, L₀, h1, h2, h3, h4⟩ := s.own b o L ho hL hw (he ▸ hB)
    exact hn b₀ o₀ L₀ h1 h2 h3 (h4.trans he))).trans (s.old B hB hn)
  own := fun b o L ho hL hw hlt => by
    obtain ⟨b₁, o₁, L₁, h1, h2, h3, h4⟩ := s'.own b o L ho hL hw (Nat.lt_of_lt_of_le hlt s.size)
    obtain ⟨b₀, o₀, L₀, k1, k2, k3, k4⟩ := s.own b₁ o₁ L₁ h1 h2 h3 (h4 ▸ hlt)
    exact ⟨b₀, o₀, L₀, k1, k2, k3, k4.trans h4⟩
  ghost := fun b hb hn => (s'.ghost b (Nat.lt_of_lt_of_le hb s.nx) (by rw [s.ext b hb]; exact hn)).trans (s.ghost b hb hn)
  os := s'.os.trans s.os
  out := s'.out.trans s.out
  tape := s'.tape.trans s.tape

/-! ### objects in worlds that agree at their block -/
theorem cell_of_heap {a : Addr} (h : w'.heap[a.block]? = w.heap[a.block]?) : w'.cell? a = w.cell? a := by unfold World.cell?; rw [h]
theorem frozen_of_heap {a : Addr} (h : w'.heap[a.block]? = w.heap[a.block]?) : w'.frozen? a = w.frozen? a := by unfold World.frozen?; rw [h]

theorem EsR.mono (h : Le φ φ') : ∀ {l : List (AV × AV × Nat)} {es : List MapEntry}, EsR φ l es → EsR φ' l es
  | [], _, e => e
  | (_, _, _) :: _, _, ⟨e, r, h1, h2, h3, h4, h5⟩ => ⟨e, r, h1, h2.mono h, h3.mono h, h4, EsR.mono h h5⟩
theorem TmR.mono (h : Le φ φ') {tm : PT AV} {tmps : Array Value} (ht : TmR φ tm tmps) : TmR φ' tm tmps := fun t v h1 => (ht t v h1).mono h

theorem ObjR.blk_lt {L : Loc} {o : AObj} (h : ObjR P φ w L o) : L.blk < w.heap.size := by
  have key : ∀ {x : Obj}, w.heap[L.blk]? = some x → L.blk < w.heap.size := fun e => (Array.getElem?_eq_some_iff.1 e).1
  cases o with
  | row => exact h.1
  | map => obtain ⟨_, _, _, e, _⟩ := h; exact key e
  | iter => obtain ⟨_, _, _, e, _⟩ := h; exact key e
  | siter => obtain ⟨_, _, _, e, _⟩ := h; exact key e
  | loop => obtain ⟨_, _, _, _, _, _, _, _, _, _, e, _⟩ := h; exact key e
  | defd => exact key h.2.2

theorem ObjR.of_heap (hle : Le φ φ') {L : Loc} {o : AObj} (h : ObjR P φ w L o) (hs : w.heap.size ≤ w'.heap.size) (he : w'.heap[L.blk]? = w.heap[L.blk]?) : ObjR P φ' w' L o := by
  cases o with
  | row ro gr n c =>
    obtain ⟨h1, h2, h3, h4⟩ := h
    have hc : ∀ i, w'.cell? (L.addr i) = w.cell? (L.addr i) := fun i => cell_of_heap (a := L.addr i) he
    have hf : ∀ i, w'.frozen? (L.addr i) = w.frozen? (L.addr i) := fun i => frozen_of_heap (a := L.addr i) he
    refine ⟨Nat.lt_of_lt_of_le h1 hs, h2, fun i v hv => ?_, fun hro i hi => ?_⟩
    · obtain ⟨hi, ho, cv, hcv, hr⟩ := h3 i v hv
      exact ⟨hi, ho, cv, by rw [hc]; exact hcv, hr.mono hle⟩
    · rw [hc, hf]; exact h4 hro i hi
  | map ro es cl => obtain ⟨h1, h2, en, h3, h4⟩ := h; exact ⟨h1, h2, en, by rw [he]; exact h3, h4.mono hle⟩
  | iter m since seen last =>
    obtain ⟨h1, h2, m', h3, h4⟩ := h
    refine ⟨h1, h2, m', by rw [he]; exact h3, ?_⟩
    cases m with
    | none => exact h4
    | some b => obtain ⟨M, e, r⟩ := h4; exact ⟨M, hle _ _ e, r⟩
  | siter s pos => obtain ⟨h1, h2, t, h3, h4⟩ := h; exact ⟨h1, h2, t, by rw [he]; exact h3, h4⟩
  | loop st pend tm ps asg body d =>
    obtain ⟨h1, h2, D, hD, j, f, tmps, ps', asg', body', h3, h4, h5, h6⟩ := h
    exact ⟨h1, h2, D, hle _ _ hD, j, f, tmps, ps', asg', body', by rw [he]; exact h3, h4, h5.mono hle, h6⟩
  | defd o => obtain ⟨h1, h2, h3⟩ := h; exact ⟨h1, h2, by rw [he]; exact h3⟩

/-! ### a new block -/
noncomputable def Emb.put (φ : Emb) (b : Pos) (L : Loc) : Emb := fun x => if x.n = b.n then some L else φ x
theorem Emb.put_same (φ : Emb) (b : Pos) (L : Loc) : (φ.put b L) b = some L := by simp [Emb.put]
theorem Emb.put_ne (φ : Emb) {b x : Pos} (L : Loc) (h : x.n ≠ b.n) : (φ.put b L) x = φ x := by simp [Emb.put, h]

/-- A new object in the heap, at a block of its own. -/
theorem HR.alloc (h : HR P φ g w) (ob : Obj) (o : AObj) (L : Loc) (hL : L.blk = w.heap.size) (hos : w'.os = w.os) (hou : w'.output = w.output) (hta : w'.tape = w.tape)
    (hw : w'.heap = w.heap.push ob) (hobj : ObjR P (φ.put g.nx L) w' L o) : Step P φ g w (φ.put g.nx L) (g.new o) w' := by
  have hext : ∀ b, b.n < g.nx.n → (φ.put g.nx L) b = φ b := fun b hb => Emb.put_ne φ L (by omega)
  have hle : Le φ (φ.put g.nx L) := fun b M e => by rw [hext b (h.lt e)]; exact e
  have hsz : w.heap.size ≤ w'.heap.size := by rw [hw]; simp
  have hheap : ∀ B, B < w.heap.size → w'.heap[B]? = w.heap[B]? := fun B hB => by rw [hw]; simp [Array.getElem?_push, Nat.ne_of_lt hB]
  have hget : ∀ b o', (g.new o).hp.get b = some o' → (b = g.nx ∧ o' = o) ∨ (b ≠ g.nx ∧ g.hp.get b = some o') := by
    intro b o' hb
    have : (g.hp.set g.nx (some o)).get b = some o' := hb
    by_cases e : g.nx = b
    · subst e; rw [PT.get_set] at this; exact .inl ⟨rfl, (Option.some.inj this).symm⟩
    · rw [PT.get_set_ne e] at this; exact .inr ⟨fun e' => e e'.symm, this⟩
  have hne : ∀ {b : Pos}, b ≠ g.nx → b.n ≠ g.nx.n := fun hb e => hb (Pos.n_inj e)
  have hin : ∀ {b M}, b ≠ g.nx → (φ.put g.nx L) b = some M → φ b = some M := fun hb e => by rw [Emb.put_ne φ L (hne hb)] at e; exact e
  refine ⟨⟨?_, ?_, ?_⟩, hext, ?_, hsz, fun B hB _ => hheap B hB, ?_, ?_, hos, hou, hta⟩
  · intro b hb
    show b.n < g.nx.succ.n
    rw [Pos.n_succ]
    by_cases e : b = g.nx
    · rw [e]; omega
    · have : φ b ≠ none := by rw [Emb.put_ne φ L (hne e)] at hb; exact hb
      have := h.fresh b this; omega
  · intro b o' M hb hM
    rcases hget b o' hb with ⟨rfl, rfl⟩ | ⟨hbn, hb'⟩
    · rw [Emb.put_same] at hM; cases hM; exact hobj
    · have hM' := hin hbn hM
      have := h.obj b o' M hb' hM'
      exact this.of_heap hle hsz (hheap _ this.blk_lt)
  · intro b b' o₁ o₂ M M' hbb hb hb' hM hM' hwr
    rcases hget b o₁ hb with ⟨rfl, rfl⟩ | ⟨hbn, hb1⟩
    · rcases hget b' o₂ hb' with ⟨rfl, _⟩ | ⟨hbn', hb1'⟩
      · exact absurd rfl hbb
      · rw [Emb.put_same] at hM; cases hM
        have := (h.obj b' o₂ M' hb1' (hin hbn' hM')).blk_lt
        exact .inl (by omega)
    · have hMM := hin hbn hM
      rcases hget b' o₂ hb' with ⟨rfl, rfl⟩ | ⟨hbn', hb1'⟩
      · rw [Emb.put_same] at hM'; cases hM'
        have := (h.obj b o₁ M hb1 hMM).blk_lt
        exact .inl (by omega)
      · exact h.sep b b' o₁ o₂ M M' hbb hb1 hb1' hMM (hin hbn' hM') hwr
  · show g.nx.n ≤ g.nx.succ.n; rw [Pos.n_succ]; omega
  · intro b o' M hb hM hwr hlt
    rcases hget b o' hb with ⟨rfl, rfl⟩ | ⟨hbn, hb'⟩
    · rw [Emb.put_same] at hM; cases hM; omega
    · exact ⟨b, o', M, hb', hin hbn hM, hwr, rfl⟩
  · intro b hb _
    exact PT.get_set_ne (fun e => by rw [e] at hb; omega) _ _

/-- An object is written: nobody else's block is touched. -/
theorem HR.write (h : HR P φ g w) {b : Pos} {o : AObj} {L : Loc} (hb : g.hp.get b = some o) (hL : φ b = some L) (hwr : o.wr = true) (o' : AObj) (hwr' : o'.wr = true)
    (hos : w'.os = w.os) (hou : w'.output = w.output) (hta : w'.tape = w.tape) (hsz : w'.heap.size = w.heap.size) (hheap : ∀ B, B ≠ L.blk → w'.heap[B]? = w.heap[B]?)
    (hobj : ObjR P φ w' L o')
    (hoth : ∀ b' o₁ L', b' ≠ b → g.hp.get b' = some o₁ → φ b' = some L' → L'.blk = L.blk → ObjR P φ w' L' o₁) : Step P φ g w φ (g.upd b o') w' := by
  have hget : ∀ b' o₁, (g.upd b o').hp.get b' = some o₁ → (b' = b ∧ o₁ = o') ∨ (b' ≠ b ∧ g.hp.get b' = some o₁) := by
    intro b' o₁ hb'
    have : (g.hp.set b (some o')).get b' = some o₁ := hb'
    by_cases e : b = b'
    · subst e; rw [PT.get_set] at this; exact .inl ⟨rfl, (Option.some.inj this).symm⟩
    · rw [PT.get_set_ne e] at this; exact .inr ⟨fun e' => e e'.symm, this⟩
  refine ⟨⟨h.fresh, ?_, ?_⟩, fun _ _ => rfl, Nat.le_refl _, Nat.le_of_eq hsz.symm, ?_, ?_, ?_, hos, hou, hta⟩
  · intro b' o₁ M hb' hM
    rcases hget b' o₁ hb' with ⟨rfl, rfl⟩ | ⟨hne, hb1⟩
    · rw [hL] at hM; cases hM; exact hobj
    · by_cases e : M.blk = L.blk
      · exact hoth b' o₁ M hne hb1 hM e
      · exact (h.obj b' o₁ M hb1 hM).of_heap (Le.refl φ) (Nat.le_of_eq hsz.symm) (hheap _ e)
  · intro b₁ b₂ o₁ o₂ M M' hne h1 h2 hM hM' hw
    rcases hget b₁ o₁ h1 with ⟨rfl, rfl⟩ | ⟨hn1, h1'⟩
    · rcases hget b₂ o₂ h2 with ⟨rfl, rfl⟩ | ⟨hn2, h2'⟩
      · exact absurd rfl hne
      · exact h.sep b₁ b₂ o o₂ M M' hne hb h2' hM hM' hwr
    · rcases hget b₂ o₂ h2 with ⟨rfl, rfl⟩ | ⟨hn2, h2'⟩
      · exact h.sep b₁ b₂ o₁ o M M' hne h1' hb hM hM' hw
      · exact h.sep b₁ b₂ o₁ o₂ M M' hne h1' h2' hM hM' hw
  · intro B _ hn
    exact hheap B (fun e => hn b o L hb hL hwr e.symm)
  · intro b' o₁ M hb' hM hw _
    rcases hget b' o₁ hb' with ⟨rfl, rfl⟩ | ⟨_, hb1⟩
    · exact ⟨b', o, M, hb, hM, hwr, rfl⟩
    · exact ⟨b', o₁, M, hb1, hM, hw, rfl⟩
  · intro b' _ hn
    exact PT.get_set_ne (fun e => by rw [← e, hL] at hn; cases hn) _ _
end
end Go.Lv

namespace Go.Lv
open Go

section
variable {P : Program} {φ : Emb} {g : G} {w w' : World}

theorem addr_add (L : Loc) (off n : Nat) : (L.addr off).add n = L.addr (off + n) := by
  unfold Addr.add Loc.addr
  split
  · subst_vars; simp
  · simp [Nat.add_assoc]

/-! ### reading -/
theorem getN_succ (n : Nat) (c : PT AV) (i : Nat) : getN (n + 1) c i = opt (c.at i) none fun v => opt (getN n c (i + 1)) none fun r => some (v :: r) := rfl

theorem getN_row {L : Loc} {m : Nat} {c : PT AV} (h : RowR φ w L m c) : ∀ {n off : Nat} {l : List AV}, getN n c off = some l →
    l.length = n ∧ (∀ v ∈ l, v.one = true) ∧ ∃ cvs, VRs φ l cvs ∧ cvs.length = n ∧ ∀ j, j < n → w.cell? (L.addr (off + j)) = cvs[j]? := by
  intro n
  induction n with
  | zero =>
    intro off l e
    obtain rfl : l = [] := by cases e; rfl
    exact ⟨rfl, by simp, [], VRs.nil, rfl, fun j hj => by omega⟩
  | succ n ih =>
    intro off l e
    rw [getN_succ] at e
    cases hc : c.at off with
    | none => rw [hc] at e; cases e
    | some v =>
      rw [hc] at e
      cases hr : getN n c (off + 1) with
      | none => simp only [hr] at e; cases e
      | some r =>
        simp only [hr, Option.some.injEq] at e
        subst e
        obtain ⟨h1, h2, cvs, h3, h4, h5⟩ := ih hr
        obtain ⟨_, ho, cv, hcv, hv⟩ := h off v hc
        refine ⟨by simp [h1], by simpa [ho] using h2, cv :: cvs, VRs.cons hv h3, by simp [h4], fun j hj => ?_⟩
        cases j with
        | zero => simpa using hcv
        | succ j =>
          have := h5 j (by omega)
          rw [show off + (j + 1) = off + 1 + j by omega, this]
          simp

theorem loadCellsFrom_run (a : Addr) : ∀ (n i : Nat) (acc : Array Value) (cvs : List Value), cvs.length = n → (∀ j, j < n → w.cell? (a.add (i + j)) = cvs[j]?) →
    (loadCellsFrom a i n acc).run P w = .ok (acc ++ cvs.toArray) w := by
  intro n
  induction n with
  | zero => intro i acc cvs hl _; obtain rfl : cvs = [] := List.length_eq_zero_iff.1 hl; simp [loadCellsFrom, pure, Sem.run]
  | succ n ih =>
    intro i acc cvs hl hc
    cases cvs with
    | nil => simp at hl
    | cons v cvs =>
      have h0 := hc 0 (by omega)
      simp only [Nat.add_zero, List.getElem?_cons_zero] at h0
      have ih' := ih (i + 1) (acc.push v) cvs (by simpa using hl) (fun j hj => by
        have := hc (j + 1) (by omega)
        rw [show i + 1 + j = i + (j + 1) by omega, this]; simp)
      simp only [loadCellsFrom, load, bind, Sem.bind, Sem.run, h0]
      rw [show (loadCellsFrom a (i + 1) n (acc.push v)).run P w = _ from ih']
      simp

theorem loadCells_run {L : Loc} {off n : Nat} {cvs : List Value} (hl : cvs.length = n) (hc : ∀ j, j < n → w.cell? (L.addr (off + j)) = cvs[j]?) :
    (loadCells (L.addr off) n).run P w = .ok cvs.toArray w := by
  have := loadCellsFrom_run (P := P) (w := w) (L.addr off) n 0 #[] cvs hl (fun j hj => by rw [addr_add, Nat.zero_add]; exact hc j hj)
  simpa [loadCells] using this

/-! ### writing -/
structure Stored (w w' : World) (B k : Nat) (cvs : List Value) : Prop where
  os : w'.os = w.os
  out : w'.output = w.output
  tape : w'.tape = w.tape
  size : w'.heap.size = w.heap.size
  other : ∀ B', B' ≠ B → w'.heap[B']? = w.heap[B']?
  hit : ∀ j, j < cvs.length → w'.cell? ⟨B, k + j, none⟩ = cvs[j]?
  miss : ∀ i, i < k ∨ k + cvs.length ≤ i → w'.cell? ⟨B, i, none⟩ = w.cell? ⟨B, i, none⟩
  frozen : ∀ a, w'.frozen? a = w.frozen? a
  objs : ∀ x, (∀ c e f, x ≠ .cells c e f) → (w'.heap[B]? = some x ↔ w.heap[B]? = some x)

theorem setCell_heap_ne (w : World) (a : Addr) (v : Value) {B : Nat} (h : B ≠ a.block) : (w.setCell a v).heap[B]? = w.heap[B]? := by
  unfold World.setCell
  simp [Array.getElem?_modify, Ne.symm h]
theorem setCell_heap_eq (w : World) (a : Addr) (v : Value) : (w.setCell a v).heap[a.block]? = (w.heap[a.block]?).map fun
    | .cells c elem frozen => .cells (if a.spot.isSome then c else c.setIfInBounds a.off v) elem frozen
    | o => o := by
  unfold World.setCell
  simp [Array.getElem?_modify]
  rfl
theorem setCell_frozen (w : World) (a b : Addr) (v : Value) : (w.setCell a v).frozen? b = w.frozen? b := by
  unfold World.frozen?
  by_cases h : b.block = a.block
  · rw [h, setCell_heap_eq]
    cases w.heap[a.block]? with
    | none => rfl
    | some o => cases o <;> rfl
  · rw [setCell_heap_ne w a v h]
theorem setCell_cell (w : World) (B i j : Nat) (v : Value) : (w.setCell ⟨B, i, none⟩ v).cell? ⟨B, j, none⟩ = if i = j then (w.cell? ⟨B, j, none⟩).map fun _ => v else w.cell? ⟨B, j, none⟩ := by
  unfold World.cell?
  have := setCell_heap_eq w ⟨B, i, none⟩ v
  simp only at this ⊢
  rw [this]
  cases w.heap[B]? with
  | none => simp
  | some o =>
    cases o with
    | cells c e f =>
      simp only [Option.map_some, Option.isSome_none, Bool.false_eq_true, if_false, Array.getElem?_setIfInBounds]
      split
      · rename_i h; subst h
        split
        · rename_i hlt; simp [hlt]
        · rename_i hlt; simp [hlt]
      · rfl
    | _ => simp

theorem stored_nil (w : World) (B k : Nat) : Stored w w B k [] :=
  ⟨rfl, rfl, rfl, rfl, fun _ _ => rfl, fun j hj => by simp at hj, fun _ _ => rfl, fun _ => rfl, fun _ _ => Iff.rfl⟩

def Value.isOne : Value → Bool
  | .agg _ | .tuple _ => false
  | _ => true

theorem storeCells_run (B base : Nat) : ∀ (cvs : List Value) (w : World) (k : Nat) (i : Nat), (∀ v ∈ cvs, Value.isOne v = true) →
    (∀ j, j < cvs.length → (w.cell? ⟨B, base + (i + j), none⟩).isSome = true ∧ w.frozen? ⟨B, base + (i + j), none⟩ = false) → k = base + i →
    ∃ w', (storeCells ⟨B, base, none⟩ cvs i).run P w = .ok () w' ∧ Stored w w' B k cvs := by
  intro cvs
  induction cvs with
  | nil => intro w k i _ _ _; exact ⟨w, by simp [storeCells, pure, Sem.run], stored_nil w B k⟩
  | cons v cvs ih =>
    intro w k i ho hc hk
    have hadd : ∀ n, (⟨B, base, none⟩ : Addr).add n = ⟨B, base + n, none⟩ := fun n => by have := addr_add ⟨B, base, 0, 0⟩ 0 n; simpa [Loc.addr] using this
    obtain ⟨h0, hf0⟩ := hc 0 (by simp)
    rw [Nat.add_zero] at h0 hf0
    obtain ⟨x, hx⟩ := Option.isSome_iff_exists.1 h0
    have hv := ho v (by simp)
    have hw1 : ∀ (w1 : World), (∀ a, w1.frozen? a = w.frozen? a) → True := fun _ _ => trivial
    obtain ⟨w', hrun, hs⟩ := ih (w.setCell ⟨B, base + i, none⟩ v) (k + 1) (i + 1) (fun v hv => ho v (by simp [hv])) (fun j hj => by
      obtain ⟨h1, h2⟩ := hc (j + 1) (by simpa using hj)
      rw [setCell_cell, setCell_frozen, show i + 1 + j = i + (j + 1) by omega, if_neg (by omega)]
      exact ⟨h1, h2⟩) (by omega)
    refine ⟨w', ?_, ?_⟩
    · have hcell : w.cell? ((⟨B, base, none⟩ : Addr).add i) = some x := by rw [hadd]; exact hx
      have hfr : w.frozen? ((⟨B, base, none⟩ : Addr).add i) = false := by rw [hadd]; exact hf0
      have hst : (storeCells ⟨B, base, none⟩ (v :: cvs) i) = .store .plain ((⟨B, base, none⟩ : Addr).add i) v (storeCells ⟨B, base, none⟩ cvs (i + 1)) := rfl
      rw [hst]
      cases v <;> first | (simp [Value.isOne] at hv; done) | (simp only [Sem.run, hcell, hfr, Bool.false_eq_true, if_false]; rw [hadd]; exact hrun)
    · subst hk
      refine ⟨hs.os, hs.out, hs.tape, hs.size.trans (by simp [World.setCell]), fun B' hB => (hs.other B' hB).trans (setCell_heap_ne w _ v hB), fun j hj => ?_, fun i' hi => ?_, fun a => (hs.frozen a).trans (setCell_frozen w _ a v), fun y hy => (hs.objs y hy).trans ?_⟩
      · cases j with
        | zero =>
          rw [hs.miss _ (.inl (by omega)), setCell_cell, if_pos (by omega)]
          simp only [Nat.add_zero, List.getElem?_cons_zero]
          rw [hx]; rfl
        | succ j =>
          have := hs.hit j (by simpa using hj)
          rw [show base + i + (j + 1) = base + i + 1 + j by omega, this]; simp
      · have hi' : i' < base + i + 1 ∨ base + i + 1 + cvs.length ≤ i' := by rcases hi with h | h; exact .inl (by omega); simp at h; exact .inr (by omega)
        rw [hs.miss _ hi', setCell_cell, if_neg]
        rcases hi with h | h
        · omega
        · simp at h; omega
      · have := setCell_heap_eq w ⟨B, base + i, none⟩ v
        simp only at this
        rw [this]
        cases hh : w.heap[B]? with
        | none => simp
        | some o =>
          cases o with
          | cells c e f =>
            simp only [Option.map_some, Option.some.injEq]
            exact ⟨fun e => absurd e.symm (hy _ _ _), fun e => absurd e.symm (hy _ _ _)⟩
          | _ => simp

/-- the cells of a row, read after a store -/
theorem zipSet_row {L : Loc} {n : Nat} : ∀ (vs : List AV) (cvs : List Value) (c : PT AV) (off : Nat), VRs φ vs cvs → (∀ v ∈ vs, v.one = true) → off + vs.length ≤ n →
    (∀ j, j < cvs.length → w'.cell? (L.addr (off + j)) = cvs[j]?) →
    (∀ i v, c.at i = some v → (i < off ∨ off + vs.length ≤ i) → i < n ∧ v.one = true ∧ ∃ cv, w'.cell? (L.addr i) = some cv ∧ VR φ v cv) →
    RowR φ w' L n (zipSet vs c off) := by
  intro vs
  induction vs with
  | nil => intro cvs c off _ _ _ _ h i v hv; exact h i v hv (by simp; omega)
  | cons a vs ih =>
    intro cvs c off hr ho hn hhit h
    simp only [List.length_cons] at hn
    obtain ⟨cv, r, rfl, ha, hr'⟩ := hr
    show RowR φ w' L n (zipSet vs (c.setAt off a) (off + 1))
    refine ih r (c.setAt off a) (off + 1) hr' (fun v hv => ho v (by simp [hv])) (by omega) (fun j hj => ?_) (fun i v hv hi => ?_)
    · have := hhit (j + 1) (by simpa using hj)
      rw [show off + 1 + j = off + (j + 1) by omega, this]; simp
    · rcases PT.at_setAt_some hv with ⟨rfl, rfl⟩ | ⟨hne, hv'⟩
      · exact ⟨by omega, ho _ (by simp), cv, by simpa using hhit 0 (by simp), ha⟩
      · refine h i v hv' ?_
        simp only [List.length_cons]
        omega
end
end Go.Lv

namespace Go.Lv
open Go

section
variable {P : Program} {φ : Emb} {g : G} {w w' : World}

theorem isRow_some {o : AObj} {f : Bool → Bool → Nat → PT AV → Bool} (h : isRow o f = true) : ∃ ro gr n c, o = .row ro gr n c ∧ f ro gr n c = true := by
  cases o <;> first | exact ⟨_, _, _, _, rfl, h⟩ | cases h
theorem isMap_some {o : AObj} {f : Bool → List (AV × AV × Nat) → Nat → Bool} (h : isMap o f = true) : ∃ ro es cl, o = .map ro es cl ∧ f ro es cl = true := by
  cases o <;> first | exact ⟨_, _, _, rfl, h⟩ | cases h

/-- a read of n cells goes through -/
theorem readRow_ok (h : HR P φ g w) {b : Pos} {off n : Nat} {k : List AV → Bool} {L : Loc} (hL : φ b = some L) (e : readRow g.hp b off n k = true) :
    ∃ l cvs, k l = true ∧ l.length = n ∧ (∀ v ∈ l, v.one = true) ∧ VRs φ l cvs ∧ cvs.length = n ∧ (∀ j, j < n → w.cell? (L.addr (off + j)) = cvs[j]?) := by
  obtain ⟨o, ho, e⟩ := opt_some e
  obtain ⟨ro, gr, m, c, rfl, e⟩ := isRow_some e
  obtain ⟨l, hl, e⟩ := opt_some e
  have hrow := (h.obj b _ L ho hL).2.2.1
  obtain ⟨h1, h2, cvs, h3, h4, h5⟩ := getN_row hrow hl
  exact ⟨l, cvs, e, h1, h2, h3, h4, h5⟩
theorem readOne_ok (h : HR P φ g w) {b : Pos} {off : Nat} {k : AV → Bool} {L : Loc} (hL : φ b = some L) (e : readOne g.hp b off k = true) :
    ∃ v cv, k v = true ∧ v.one = true ∧ VR φ v cv ∧ w.cell? (L.addr off) = some cv := by
  obtain ⟨o, ho, e⟩ := opt_some e
  obtain ⟨ro, gr, m, c, rfl, e⟩ := isRow_some e
  obtain ⟨v, hv, e⟩ := opt_some e
  obtain ⟨_, h1, cv, h2, h3⟩ := (h.obj b _ L ho hL).2.2.1 off v hv
  exact ⟨v, cv, e, h1, h3, h2⟩

theorem VRs.length {φ : Emb} : ∀ {l : List AV} {vs : List Value}, VRs φ l vs → vs.length = l.length
  | [], _, e => by rw [e]; rfl
  | _ :: _, _, ⟨_, _, e, _, h⟩ => by rw [e]; simp [VRs.length h]
theorem VR.isOne {φ : Emb} {a : AV} {v : Value} (h : VR φ a v) (ho : a.one = true) : Value.isOne v = true := by
  cases a <;> first | (cases ho; done) | (simp only [VR] at h; subst h; rfl) | (obtain ⟨_, h, _⟩ := h; subst h; rfl) | (obtain ⟨_, _, h⟩ := h; subst h; rfl) | (obtain ⟨_, _, _, _, _, h, _⟩ := h; subst h; rfl) | (obtain ⟨_, _, _, h, _⟩ := h; subst h; rfl)
theorem VRs.isOne {φ : Emb} : ∀ {l : List AV} {vs : List Value}, VRs φ l vs → (∀ v ∈ l, v.one = true) → ∀ v ∈ vs, Value.isOne v = true
  | [], _, e, _, v, hv => by rw [e] at hv; cases hv
  | a :: l, _, ⟨x, r, e, ha, h⟩, ho, v, hv => by
    rw [e] at hv
    rcases List.mem_cons.1 hv with rfl | hv
    · exact ha.isOne (ho a (by simp))
    · exact VRs.isOne h (fun v hv => ho v (by simp [hv])) v hv

/-- A row of a block whose cells from k on were stored, seen from another owner of the same block. -/
theorem RowR.stored {L L' : Loc} {c : PT AV} {k : Nat} {cvs : List Value} (hs : Stored w w' L.blk (L.base + k) cvs) (hk : k + cvs.length ≤ L.cc) (hb : L'.blk = L.blk)
    (hsep : L.sep L') {ro gr : Bool} {n : Nat} (h : ObjR P φ w L' (.row ro gr n c)) : ObjR P φ w' L' (.row ro gr n c) := by
  obtain ⟨h1, h2, h3, h4⟩ := h
  have hdis : L.base + L.cc ≤ L'.base ∨ L'.base + L'.cc ≤ L.base := by
    rcases hsep with h | h
    · exact absurd hb.symm h
    · exact h
  have hcell : ∀ i, i < L'.cc → w'.cell? (L'.addr i) = w.cell? (L'.addr i) := fun i hi => by
    have := hs.miss (L'.base + i) (by omega)
    unfold Loc.addr; rw [hb]; exact this
  refine ⟨by rw [hs.size]; exact h1, h2, fun i v hv => ?_, fun hro i hi => ?_⟩
  · obtain ⟨hi, ho, cv, hc, hv⟩ := h3 i v hv
    exact ⟨hi, ho, cv, by rw [hcell i (by omega)]; exact hc, hv⟩
  · rw [hcell i hi, hs.frozen]; exact h4 hro i hi

/-- an object that is no row, seen over a store into a row -/
theorem ObjR.ne_cells {L' : Loc} {B : Nat} (hcells : ∃ c e f, w.heap[B]? = some (.cells c e f)) {o : AObj} (ho : ∀ ro gr n c, o ≠ .row ro gr n c)
    (h : ObjR P φ w L' o) : L'.blk ≠ B := by
  intro e
  obtain ⟨c, el, f, hc⟩ := hcells
  cases o with
  | row => exact ho _ _ _ _ rfl
  | map => obtain ⟨_, _, _, h, _⟩ := h; rw [e, hc] at h; cases h
  | iter => obtain ⟨_, _, _, h, _⟩ := h; rw [e, hc] at h; cases h
  | siter => obtain ⟨_, _, _, h, _⟩ := h; rw [e, hc] at h; cases h
  | loop => obtain ⟨_, _, _, _, _, _, _, _, _, _, h, _⟩ := h; rw [e, hc] at h; cases h
  | defd => obtain ⟨_, _, h⟩ := h; rw [e, hc] at h; cases h

theorem cells_of_cell {a : Addr} {v : Value} (h : w.cell? a = some v) : ∃ c e f, w.heap[a.block]? = some (.cells c e f) := by
  unfold World.cell? at h
  split at h
  · rename_i c e f hh; exact ⟨c, e, f, hh⟩
  · cases h

/-- **A store into a row.** The row may grow into the room that is its own (n ≤ m ≤ cc). -/
theorem store_row (h : HR P φ g w) {b : Pos} {L : Loc} {gr gr' : Bool} {n m : Nat} {c : PT AV} (hb : g.hp.get b = some (.row false gr n c)) (hL : φ b = some L) {off : Nat} {vs : List AV} {cvs : List Value}
    (hvs : VRs φ vs cvs) (ho : ∀ v ∈ vs, v.one = true) (hnm : n ≤ m) (hm : m ≤ L.cc) (hoff : off + vs.length ≤ m) :
    ∃ w', (storeCells (L.addr off) cvs).run P w = .ok () w' ∧ Step P φ g w φ (g.upd b (.row false gr' m (zipSet vs c off))) w' := by
  obtain ⟨h1, h2, h3, h4⟩ := h.obj b _ L hb hL
  have hlen := hvs.length
  obtain ⟨w', hrun, hs⟩ := storeCells_run (P := P) L.blk (L.base + off) cvs w (L.base + off) 0 (hvs.isOne ho) (fun j hj => by
    have := h4 rfl (off + j) (by omega)
    unfold Loc.addr at this
    rw [show L.base + off + (0 + j) = L.base + (off + j) by omega]; exact this) (by omega)
  refine ⟨w', hrun, ?_⟩
  have hself : ObjR P φ w' L (.row false gr' m (zipSet vs c off)) := by
    refine ⟨by rw [hs.size]; exact h1, hm, zipSet_row vs cvs c off hvs ho hoff (fun j hj => ?_) (fun i v hv hi => ?_), fun _ i hi => ?_⟩
    · have := hs.hit j hj
      unfold Loc.addr; rw [show L.base + (off + j) = L.base + off + j by omega]; exact this
    · obtain ⟨k1, k2, cv, k3, k4⟩ := h3 i v hv
      have := hs.miss (L.base + i) (by omega)
      exact ⟨by omega, k2, cv, by unfold Loc.addr at k3 ⊢; rw [this]; exact k3, k4⟩
    · rw [hs.frozen]
      obtain ⟨k1, k2⟩ := h4 rfl i hi
      refine ⟨?_, k2⟩
      by_cases hr : off ≤ i ∧ i < off + cvs.length
      · have := hs.hit (i - off) (by omega)
        unfold Loc.addr; rw [show L.base + i = L.base + off + (i - off) by omega, this]
        simp [show i - off < cvs.length by omega]
      · have := hs.miss (L.base + i) (by omega)
        unfold Loc.addr at k1 ⊢; rw [this]; exact k1
  refine h.write hb hL rfl _ rfl hs.os hs.out hs.tape hs.size (fun B hB => hs.other B hB) hself (fun b' o₁ L' hne ho₁ hL' hblk => ?_)
  have hobj := h.obj b' o₁ L' ho₁ hL'
  have hsep := h.sep b b' _ o₁ L L' (Ne.symm hne) hb ho₁ hL hL' rfl
  cases hcv : cvs with
  | nil =>
    subst hcv
    have hheap : w'.heap[L'.blk]? = w.heap[L'.blk]? := by
      have : w' = w := by simp [storeCells, pure, Sem.run] at hrun; exact hrun.symm
      rw [this]
    exact hobj.of_heap (Le.refl φ) (Nat.le_of_eq hs.size.symm) hheap
  | cons x r =>
    have hc0 := (h4 rfl off (by rw [hcv] at hlen; simp at hlen; omega)).1
    obtain ⟨y, hy⟩ := Option.isSome_iff_exists.1 hc0
    have hcells := cells_of_cell hy
    cases o₁ with
    | row ro gr₁ n₁ c₁ => exact RowR.stored hs (by omega) hblk hsep hobj
    | _ => exact absurd hblk (ObjR.ne_cells hcells (by simp) hobj)

/-- 'writeRow' goes through. -/
theorem writeRow_ok (h : HR P φ g w) {b : Pos} {L : Loc} (hL : φ b = some L) {off : Nat} {vs : List AV} {cvs : List Value} {k : G → Bool}
    (hvs : VRs φ vs cvs) (ho : ∀ v ∈ vs, v.one = true) (e : writeRow g b off vs k = true) :
    ∃ g' w', k g' = true ∧ (storeCells (L.addr off) cvs).run P w = .ok () w' ∧ Step P φ g w φ g' w' := by
  obtain ⟨o, hob, e'⟩ := opt_some e
  obtain ⟨ro, gr, n, c, ho', e''⟩ := isRow_some e'
  subst ho'
  cases ro with
  | true => cases e''
  | false =>
    obtain ⟨e1, e2⟩ := bif_and (show bif' (Nat.ble (Nat.add off (len vs)) n) (k (g.upd b (.row false gr n (zipSet vs c off)))) false = true from e'')
    have e1 := Nat.le_of_ble_eq_true e1
    rw [len_eq] at e1
    obtain ⟨w', hr, hs⟩ := store_row h hob hL hvs ho (Nat.le_refl n) (h.obj b _ L hob hL).2.1 (gr' := gr) e1
    exact ⟨_, w', e2, hr, hs⟩

/-! ### new rows -/
theorem ofCells_row {L : Loc} {vs : List AV} {cvs : List Value} (hvs : VRs φ vs cvs) (ho : ∀ v ∈ vs, v.one = true) (hc : ∀ j, j < cvs.length → w.cell? (L.addr j) = cvs[j]?) : RowR φ w L vs.length (ofCells vs) :=
  zipSet_row vs cvs .nil 0 hvs ho (by omega) (fun j hj => by rw [Nat.zero_add]; exact hc j hj) (fun i v hv _ => by rw [PT.at_nil] at hv; cases hv)

/-- the world with one object more -/
def World.withObj (w : World) (ob : Obj) : World := { w with heap := w.heap.push ob }
theorem newObj_run (w : World) (ob : Obj) : (newObj ob).run P w = .ok w.heap.size (World.withObj w ob) := rfl

theorem withObj_cell (w : World) (cells : Array Value) (e : TypeId) (i : Nat) : (World.withObj w (.cells cells e)).cell? ⟨w.heap.size, i, none⟩ = cells[i]? := by
  unfold World.cell? World.withObj
  simp
theorem withObj_frozen (w : World) (cells : Array Value) (e : TypeId) (i : Nat) : (World.withObj w (.cells cells e)).frozen? ⟨w.heap.size, i, none⟩ = false := by
  unfold World.frozen? World.withObj
  simp

/-- **A new row**: its first cells are known, its room may be greater. -/
theorem new_row (h : HR P φ g w) (e : TypeId) {vs : List AV} {cvs : List Value} (hvs : VRs φ vs cvs) (ho : ∀ v ∈ vs, v.one = true) (rest : List Value) (gr : Bool) (cap : Nat) {c : PT AV} (hcc : c = ofCells vs) :
    Step P φ g w (φ.put g.nx ⟨w.heap.size, 0, cap, (cvs ++ rest).length⟩) (g.new (.row false gr vs.length c)) (World.withObj w (.cells (cvs ++ rest).toArray e)) := by
  subst hcc
  have hle : Le φ (φ.put g.nx ⟨w.heap.size, 0, cap, (cvs ++ rest).length⟩) := fun b M hb => by rw [Emb.put_ne]; exact hb; have := h.lt hb; omega
  have hlen := hvs.length
  refine h.alloc _ _ _ rfl rfl rfl rfl rfl ⟨by simp [World.withObj], by simp; omega, ?_, fun _ i hi => ?_⟩
  · refine ofCells_row (cvs := cvs) (VRs.mono hle hvs) ho (fun j hj => ?_)
    have := withObj_cell w (cvs ++ rest).toArray e j
    unfold Loc.addr; simp only [Nat.zero_add]; rw [this]
    simp [List.getElem?_append, hj]
  · have h1 := withObj_cell w (cvs ++ rest).toArray e i
    have h2 := withObj_frozen w (cvs ++ rest).toArray e i
    unfold Loc.addr; simp only [Nat.zero_add]; rw [h1, h2]
    simp at hi ⊢
    exact hi
end
end Go.Lv

namespace Go.Lv
open Go

section inv
theorem a0_ok {vs : List AV} {b : Bool} (h : a0 vs b = true) : vs = [] ∧ b = true := by cases vs <;> first | exact ⟨rfl, h⟩ | cases h
theorem a1_ok {vs : List AV} {f : AV → Bool} (h : a1 vs f = true) : ∃ a, vs = [a] ∧ f a = true := by
  cases vs with
  | nil => cases h
  | cons a r => obtain ⟨rfl, h⟩ := a0_ok (show a0 r (f a) = true from h); exact ⟨a, rfl, h⟩
theorem a2_ok {vs : List AV} {f : AV → AV → Bool} (h : a2 vs f = true) : ∃ a b, vs = [a, b] ∧ f a b = true := by
  cases vs with
  | nil => cases h
  | cons a r => obtain ⟨b, rfl, h⟩ := a1_ok (show a1 r (f a) = true from h); exact ⟨a, b, rfl, h⟩
theorem a3_ok {vs : List AV} {f : AV → AV → AV → Bool} (h : a3 vs f = true) : ∃ a b c, vs = [a, b, c] ∧ f a b c = true := by
  cases vs with
  | nil => cases h
  | cons a r => obtain ⟨b, c, rfl, h⟩ := a2_ok (show a2 r (f a) = true from h); exact ⟨a, b, c, rfl, h⟩
theorem aC_ok {vs : List AV} {f : AV → List AV → Bool} (h : aC vs f = true) : ∃ a r, vs = a :: r ∧ f a r = true := by
  cases vs with
  | nil => cases h
  | cons a r => exact ⟨a, r, rfl, h⟩
theorem asInt_ok {v : AV} {f : IntKind → Int → Bool} (h : asInt v f = true) : ∃ k n, v = .int k n ∧ f k n = true := by cases v <;> first | exact ⟨_, _, rfl, h⟩ | cases h
theorem asNat_ok {v : AV} {f : Nat → Bool} (h : asNat v f = true) : ∃ k n, v = .int k (.ofNat n) ∧ f n = true := by
  cases v with
  | int k n => cases n with
    | ofNat n => exact ⟨k, n, rfl, h⟩
    | negSucc n => cases h
  | _ => cases h
theorem asBool_ok {v : AV} {f : Bool → Bool} (h : asBool v f = true) : ∃ b, v = .bool b ∧ f b = true := by cases v <;> first | exact ⟨_, rfl, h⟩ | cases h
theorem asStr_ok {v : AV} {f : List Nat → Bool} (h : asStr v f = true) : ∃ s, v = .str s ∧ f s = true := by cases v <;> first | exact ⟨_, rfl, h⟩ | cases h
theorem asPtr_ok {v : AV} {f : Pos → Nat → Bool} (h : asPtr v f = true) : ∃ b o, v = .ptr b o ∧ f b o = true := by cases v <;> first | exact ⟨_, _, rfl, h⟩ | cases h
theorem asAgg_ok {v : AV} {f : List AV → Bool} (h : asAgg v f = true) : ∃ l, v = .agg l ∧ f l = true := by cases v <;> first | exact ⟨_, rfl, h⟩ | cases h
theorem asTup_ok {v : AV} {f : List AV → Bool} (h : asTup v f = true) : ∃ l, v = .tup l ∧ f l = true := by cases v <;> first | exact ⟨_, rfl, h⟩ | cases h
theorem asMp_ok {v : AV} {f : Pos → Bool} (h : asMp v f = true) : ∃ b, v = .mp b ∧ f b = true := by cases v <;> first | exact ⟨_, rfl, h⟩ | cases h
theorem asIfc_ok {v : AV} {f : Nat → AV → Bool} (h : asIfc v f = true) : ∃ t x, v = .ifc t x ∧ f t x = true := by cases v <;> first | exact ⟨_, _, rfl, h⟩ | cases h
theorem asSl_ok {v : AV} {f : Pos → Nat → Nat → Bool} (h : asSl v f = true) : (∃ b o l c, v = .sl b o l c ∧ f b o l = true) ∨ (∃ b o l d e, v = .gsl b o l d e ∧ f b o l = true) := by
  cases v <;> first | exact .inl ⟨_, _, _, _, rfl, h⟩ | exact .inr ⟨_, _, _, _, _, rfl, h⟩ | cases h
end inv

section
variable {P : Program} {φ : Emb} {g : G} {w w' : World}

theorem VRs.one_inv {a : AV} {cvs : List Value} (h : VRs φ [a] cvs) : ∃ c, cvs = [c] ∧ VR φ a c := by
  obtain ⟨c, r, rfl, h1, h2⟩ := h; obtain rfl : r = [] := h2; exact ⟨c, rfl, h1⟩
theorem VRs.two_inv {a b : AV} {cvs : List Value} (h : VRs φ [a, b] cvs) : ∃ c d, cvs = [c, d] ∧ VR φ a c ∧ VR φ b d := by
  obtain ⟨c, r, rfl, h1, h2⟩ := h; obtain ⟨d, rfl, h3⟩ := h2.one_inv; exact ⟨c, d, rfl, h1, h3⟩
theorem VRs.three_inv {a b c : AV} {cvs : List Value} (h : VRs φ [a, b, c] cvs) : ∃ x y z, cvs = [x, y, z] ∧ VR φ a x ∧ VR φ b y ∧ VR φ c z := by
  obtain ⟨x, r, rfl, h1, h2⟩ := h; obtain ⟨y, z, rfl, h3, h4⟩ := h2.two_inv; exact ⟨x, y, z, rfl, h1, h3, h4⟩

/-- the cells of a value -/
theorem VR.cells {a : AV} {v : Value} (h : VR φ a v) (hn : a.cells.length ≠ 0 ∨ ∀ l, a ≠ .tup l) : VRs φ a.cells v.cells.toList ∧ ∀ x ∈ a.cells, x.one = true := by
  cases a with
  | agg l => obtain ⟨vs, rfl, h1, h2⟩ := h; exact ⟨by simpa [Value.cells, AV.cells] using h1, h2⟩
  | tup l =>
    rcases hn with h | h
    · exact absurd rfl h
    · exact absurd rfl (h l)
  | _ =>
    have hone := h.isOne rfl
    have hc : v.cells = #[v] := by cases v <;> first | rfl | (simp [Value.isOne] at hone)
    rw [hc]
    exact ⟨⟨v, [], rfl, h, rfl⟩, by simp [AV.cells, AV.one]⟩

/-- what an operation achieves -/
def OpOK (P : Program) (φ : Emb) (g : G) (w : World) (kn : KN) (s : Sem Next) : Prop :=
  ∃ (r : Next) (w' : World) (φ' : Emb) (g' : G) (v' : AV) (cv : Value), s.run P w = .ok r w' ∧ (r = .value cv ∨ (r = .skip ∧ cv = undef)) ∧ Step P φ g w φ' g' w' ∧ VR φ' v' cv ∧ kn g' v' = true

/-- a value, the world as it was -/
def ValOK (P : Program) (φ : Emb) (w : World) (kv : AV → Bool) (s : Sem Value) : Prop := ∃ v' cv, s.run P w = .ok cv w ∧ VR φ v' cv ∧ kv v' = true

theorem ValOK.op (h : HR P φ g w) {kn : KN} {s : Sem Value} (hv : ValOK P φ w (kn g) s) : OpOK P φ g w kn (do pure (.value (← s))) := by
  obtain ⟨v', cv, h1, h2, h3⟩ := hv
  exact ⟨.value cv, w, φ, g, v', cv, by simp [h1], .inl rfl, Step.refl h, h2, h3⟩

/-- a step that gives a value -/
theorem OpOK.of_value {kn : KN} {s : Sem Value} {w' : World} {φ' : Emb} {g' : G} {v' : AV} {cv : Value} (h1 : s.run P w = .ok cv w') (hs : Step P φ g w φ' g' w') (hv : VR φ' v' cv) (hk : kn g' v' = true) :
    OpOK P φ g w kn (do pure (.value (← s))) := ⟨.value cv, w', φ', g', v', cv, by simp [h1], .inl rfl, hs, hv, hk⟩
theorem OpOK.of_unit {kn : KN} {s : Sem Unit} {w' : World} {φ' : Emb} {g' : G} (h1 : s.run P w = .ok () w') (hs : Step P φ g w φ' g' w') (hk : kn g' aundef = true) :
    OpOK P φ g w kn (do s; pure .skip) := ⟨.skip, w', φ', g', aundef, undef, by simp [h1], .inr ⟨rfl, rfl⟩, hs, ⟨[], rfl, rfl⟩, hk⟩

/-! ### loads and stores -/
theorem aggT_some {t : TypeId} {n : Nat} (h : aggT P t = some (some n)) : isAggT P t = true ∧ sizeT P t = some n := by
  unfold aggT at h; split at h
  · rename_i h1; cases hs : sizeT P t with
    | none => rw [hs] at h; cases h
    | some m => rw [hs] at h; simp at h; exact ⟨h1, by rw [h]⟩
  · cases h
theorem aggT_none {t : TypeId} (h : aggT P t = some none) : isAggT P t = false := by
  unfold aggT at h; split at h
  · cases hs : sizeT P t <;> rw [hs] at h <;> cases h
  · rename_i h1; simpa using h1
theorem run_sizeOf' {t : TypeId} {n : Nat} (h : sizeT P t = some n) (w : World) : (sizeOf t).run P w = .ok n w := by
  unfold sizeT at h
  cases hi : P.info? t with
  | none => rw [hi] at h; cases h
  | some i => rw [hi] at h; simp at h; simp [sizeOf, typeInfo, hi, h]
theorem run_isAgg' {t : TypeId} (hd : (P.underlying t).isSome = true) (w : World) : (isAgg t).run P w = .ok (isAggT P t) w := by
  obtain ⟨d, hd⟩ := Option.isSome_iff_exists.1 hd
  unfold isAggT
  rw [hd]
  simp only [isAgg, Sem.run_bind, run_underlying hd, Result.andThen_ok]
  cases d <;> rfl
theorem isAggT_under {t : TypeId} (h : isAggT P t = true) : (P.underlying t).isSome = true := by
  unfold isAggT at h; split at h <;> first | (rename_i e; rw [e]; rfl) | cases h

theorem loadVar_agg {t : TypeId} {n : Nat} (h : aggT P t = some (some n)) {L : Loc} {off : Nat} {cvs : List Value} (hl : cvs.length = n) (hc : ∀ j, j < n → w.cell? (L.addr (off + j)) = cvs[j]?) :
    (loadVar t (L.addr off)).run P w = .ok (.agg cvs.toArray) w := by
  obtain ⟨h1, h2⟩ := aggT_some h
  simp [loadVar, run_isAgg' (isAggT_under h1), h1, run_sizeOf' h2, loadCells_run hl hc]
theorem loadVar_one {t : TypeId} (h : aggT P t = some none) (hd : (P.underlying t).isSome = true) {a : Addr} {v : Value} (hc : w.cell? a = some v) : (loadVar t a).run P w = .ok v w := by
  simp [loadVar, run_isAgg' hd, aggT_none h, hc]

theorem op_load (h : HR P φ g w) {t : TypeId} {a : Option Nat} (ht : aggT P t = some a) (hd : (P.underlying t).isSome = true) {kn : KN} {vs : List AV} {cvs : List Value} (hvs : VRs φ vs cvs)
    (e : opLoad a vs g kn = true) : ∃ cx, cvs = [cx] ∧ ValOK P φ w (kn g) (Instr.loadAt t cx) := by
  obtain ⟨x, rfl, e⟩ := a1_ok e
  obtain ⟨cx, rfl, hx⟩ := hvs.one_inv
  obtain ⟨b, off, rfl, e⟩ := asPtr_ok e
  obtain ⟨L, hL, rfl⟩ := hx
  refine ⟨_, rfl, ?_⟩
  cases a with
  | none =>
    obtain ⟨v, cv, h1, h2, h3, h4⟩ := readOne_ok h hL e
    exact ⟨v, cv, by simp [Instr.loadAt, Instr.sureAddr, loadVar_one ht hd h4], h3, h1⟩
  | some n =>
    obtain ⟨l, cvs, h1, h2, h3, h4, h5, h6⟩ := readRow_ok h hL e
    exact ⟨.agg l, .agg cvs.toArray, by simp [Instr.loadAt, Instr.sureAddr, loadVar_agg ht h5 h6], ⟨cvs, rfl, h4, h3⟩, h1⟩

theorem op_store (h : HR P φ g w) {t : TypeId} {n : Nat} (ht : sizeT P t = some n) (hn0 : n ≠ 0) {kn : KN} {vs : List AV} {cvs : List Value} (hvs : VRs φ vs cvs)
    (e : opStore n vs g kn = true) : ∃ cp cx, cvs = [cp, cx] ∧ OpOK P φ g w kn (do Instr.storeAt t cp cx; pure .skip) := by
  obtain ⟨p, x, rfl, e⟩ := a2_ok e
  obtain ⟨cp, cx, rfl, hp, hx⟩ := hvs.two_inv
  obtain ⟨b, off, rfl, e⟩ := asPtr_ok e
  obtain ⟨L, hL, rfl⟩ := hp
  obtain ⟨e1, e2⟩ := bif_and e
  have e1 := Nat.eq_of_beq_eq_true e1
  rw [len_eq] at e1
  refine ⟨_, _, rfl, ?_⟩
  obtain ⟨hc, ho⟩ := hx.cells (.inl (by omega))
  obtain ⟨g', w', h1, h2, h3⟩ := writeRow_ok h hL hc ho e2
  refine OpOK.of_unit (w' := w') (g' := g') (φ' := φ) ?_ h3 h1
  have hsz : cx.cells.size = n := by have := hc.length; simp at this; omega
  simp [Instr.storeAt, Instr.sureAddr, storeVar, run_sizeOf' ht, hsz, h2]
end
end Go.Lv

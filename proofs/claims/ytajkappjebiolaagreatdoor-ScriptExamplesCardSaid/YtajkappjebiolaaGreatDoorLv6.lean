/-
  The evaluator is right, part 5: activations, deferred calls, calls, rounds of a range over a function. Conditions: those of each theorem.
-/
import Derived.Test.YtajkappjebiolaaGreatDoorLv5
import Derived.RangeFuncLeaves
import Derived.RecoverIn
import Derived.OrdersIn
namespace Go.Lv
open Go
section
variable {P : Program} {φ φ' φ'' : Emb} {g g' g'' : G} {w w' w'' : World}

/-! ### the state of an activation -/
def DefR (φ : Emb) : ADef → Deferred → Prop
  | .coll b, d => ∃ L, φ b = some L ∧ d = { target := .collected L.blk, args := #[] }
  | .call p args, d => ∃ f fst cap, d.target = .fn (.func f) cap ∧ p = Pos.ofNat f ∧ d.args = fst ∧ VRs φ args (fst ++ cap).toList
def DfR (φ : Emb) : List ADef → List Deferred → Prop
  | [], ds => ds = []
  | x :: l, ds => ∃ d r, ds = d :: r ∧ DefR φ x d ∧ DfR φ l r
theorem DefR.mono (h : Le φ φ') : ∀ {x : ADef} {d : Deferred}, DefR φ x d → DefR φ' x d
  | .coll _, _, ⟨L, e, r⟩ => ⟨L, h _ _ e, r⟩
  | .call _ _, _, ⟨f, fst, cap, h1, h2, h3, h4⟩ => ⟨f, fst, cap, h1, h2, h3, VRs.mono h h4⟩
theorem DfR.mono (h : Le φ φ') : ∀ {l : List ADef} {ds : List Deferred}, DfR φ l ds → DfR φ' l ds
  | [], _, e => e
  | _ :: _, _, ⟨d, r, e, h1, h2⟩ => ⟨d, r, e, h1.mono h, DfR.mono h h2⟩

/-- where the globals lie -/
def GlR (P : Program) (φ : Emb) : Prop := ∀ n, n < P.globals.size → ∃ L, φ (Pos.ofNat n) = some L ∧ L.addr 0 = ⟨n, 0, none⟩
theorem GlR.mono (h : Le φ φ') (hg : GlR P φ) : GlR P φ' := fun n hn => let ⟨L, h1, h2⟩ := hg n hn; ⟨L, h _ _ h1, h2⟩

/-- the state -/
structure StR (P : Program) (φ : Emb) (tm : PT AV) (df : List ADef) (g : G) (a : Act) (w : World) : Prop where
  hr : HR P φ g w
  gl : GlR P φ
  tm : TmR φ tm a.tmps
  df : DfR φ df a.defers
  sz : a.tmps.size + 1 < 2 ^ 64

theorem StR.step {tm : PT AV} {df : List ADef} {a : Act} (s : StR P φ tm df g a w) (h : Step P φ g w φ' g' w') : StR P φ' tm df g' a w' :=
  let hle := h.le s.hr
  ⟨h.hr, s.gl.mono hle, s.tm.mono hle, s.df.mono hle, s.sz⟩

theorem Pos.ofNatF_ge (f : Nat) : ∀ n, 2 ^ f ≤ n → 2 ^ f ≤ (Pos.ofNatF f n).n := by
  induction f with
  | zero => intro n h; exact (Pos.ofNatF 0 n).n_pos
  | succ f ih =>
    intro n h
    have h2 : 2 ^ (f + 1) = 2 * 2 ^ f := by rw [Nat.pow_succ]; omega
    have hp : 1 ≤ 2 ^ f := Nat.one_le_two_pow
    show 2 ^ (f + 1) ≤ (Bool.rec (Bool.rec (Pos.o (Pos.ofNatF f (n / 2))) (Pos.i (Pos.ofNatF f (n / 2))) (Nat.beq (n % 2) 1)) Pos.one (Nat.ble n 1) : Pos).n
    have := ih (n / 2) (by omega)
    cases hb : Nat.ble n 1 with
    | true => have := Nat.le_of_ble_eq_true hb; omega
    | false => cases Nat.beq (n % 2) 1 <;> simp <;> omega
theorem Pos.ofNat_inj' {m n : Nat} (hm : m + 1 < 2 ^ 64) (h : Pos.ofNat m = Pos.ofNat n) : m = n := by
  by_cases hn : n + 1 < 2 ^ 64
  · exact Pos.ofNat_inj hm hn h
  · have h1 := Pos.ofNat_n hm
    have h2 : 2 ^ 64 ≤ (Pos.ofNat n).n := Pos.ofNatF_ge 64 (n + 1) (by omega)
    rw [h] at h1
    omega

theorem TmR.put {tm : PT AV} {tmps : Array Value} (ht : TmR φ tm tmps) (hsz : tmps.size + 1 < 2 ^ 64) {d : Nat} (hd : d < tmps.size) {v : AV} {cv : Value} (hv : VR φ v cv) : TmR φ (tm.set (Pos.ofNat d) (some v)) (tmps.setIfInBounds d cv) := by
  intro t x hx
  by_cases e : Pos.ofNat d = Pos.ofNat t
  · obtain rfl := Pos.ofNat_inj' (by omega) e
    rw [PT.get_set] at hx
    cases hx
    simpa [Array.getD_eq_getD_getElem?, hd] using hv
  · rw [PT.get_set_ne e] at hx
    have : d ≠ t := fun q => e (by rw [q])
    have h := ht t x hx
    simpa [Array.getD_eq_getD_getElem?, Array.getElem?_setIfInBounds, this] using h

theorem StR.put {tm : PT AV} {df : List ADef} {a : Act} (s : StR P φ tm df g a w) {dst : Option Tmp} (hd : ∀ d, dst = some d → d < a.tmps.size) {v : AV} {cv : Value} (hv : VR φ v cv) :
    StR P φ (putT tm (dst.map Pos.ofNat) v) df g (a.put dst cv) w := by
  cases dst with
  | none => exact s
  | some d => exact ⟨s.hr, s.gl, s.tm.put s.sz (hd d rfl) hv, s.df, by simpa [Act.put] using s.sz⟩

/-! ### operands -/
theorem AO.ev_ok {tm : PT AV} {df : List ADef} {a : Act} (s : StR P φ tm df g a w) {x : AO} {k : AV → Bool} (e : x.ev tm k = true) : ∃ v, k v = true ∧ ∀ o, cO P o = some x → VR φ v (a.eval o) := by
  cases x with
  | tmp p =>
    obtain ⟨v, h1, h2⟩ := opt_some (show opt (tm.get p) false k = true from e)
    refine ⟨v, h2, fun o ho => ?_⟩
    cases o with
    | tmp t =>
      have : Pos.ofNat t = p := by simpa [cO] using ho
      subst this
      exact s.tm t v h1
    | const c => simp only [cO, Option.map_eq_some_iff] at ho; obtain ⟨_, _, h⟩ := ho; cases h
    | global n => unfold cO at ho; simp only at ho; split at ho <;> cases ho
    | func f => cases ho
  | val v =>
    refine ⟨v, e, fun o ho => ?_⟩
    cases o with
    | tmp t => cases ho
    | const c =>
      simp only [cO, Option.map_eq_some_iff] at ho
      obtain ⟨y, h1, h2⟩ := ho
      cases h2
      exact ofValue_ok h1
    | global n =>
      unfold cO at ho
      simp only at ho
      split at ho
      · rename_i hn
        cases ho
        have hn : n < P.globals.size := Nat.le_of_ble_eq_true hn
        obtain ⟨L, h1, h2⟩ := s.gl n hn
        exact ⟨L, h1, by rw [h2]; rfl⟩
      · cases ho
    | func f =>
      cases ho
      exact ⟨fun l h => (by cases h), [], [], rfl, rfl, rfl⟩

theorem evs_ok {tm : PT AV} {df : List ADef} {a : Act} (s : StR P φ tm df g a w) : ∀ {l : List AO} {k : List AV → Bool}, evs l tm k = true → ∃ vs, k vs = true ∧ ArgsR P φ l vs a.eval
  | [], k, e => by
    refine ⟨[], e, fun l hl => ?_⟩
    cases l with
    | nil => exact VRs.nil
    | cons x l =>
      unfold cOs at hl
      simp only [List.mapM_cons, Option.pure_def, Option.bind_eq_bind, Option.bind_eq_some_iff] at hl
      obtain ⟨_, _, _, _, h⟩ := hl
      cases h
  | x :: l, k, e => by
    obtain ⟨v, h1, h2⟩ := AO.ev_ok s (show x.ev tm (fun v => evs l tm fun vs => k (v :: vs)) = true from e)
    obtain ⟨vs, h3, h4⟩ := evs_ok s h1
    refine ⟨v :: vs, h3, fun m hm => ?_⟩
    cases m with
    | nil => cases hm
    | cons y m =>
      unfold cOs at hm
      simp only [List.mapM_cons, Option.pure_def, Option.bind_eq_bind, Option.bind_eq_some_iff] at hm
      obtain ⟨_, q1, _, q2, h⟩ := hm
      cases h
      exact VRs.cons (h2 y q1) (h4 m q2)

end
end Go.Lv

namespace Go.Lv
open Go
section
variable {P : Program} {φ φ' φ'' : Emb} {g g' g'' : G} {w w' w'' : World}

/-! ### what it means that the evaluator is right -/
def Fw (r : Option Nat) : Fence := { Fence.wide with round := r }

/-- how a call ends -/
def EndR (φ : Emb) : AEnd → Ending → Prop
  | .returned v, e => ∃ cv, e = .returned cv ∧ VR φ v cv
  | .panicked v, e => ∃ cv, e = .panicked [{ v := cv, recovered := false }] ∧ VR φ v cv
/-- how code is left -/
def ExR (φ : Emb) : AX → Exit → Prop
  | .exit id, e => e = .exit id
  | .ret, e => e = .ret
  | .panic v, e => ∃ cv, e = .panic [{ v := cv, recovered := false }] ∧ VR φ v cv

def KrOK (P : Program) (φ : Emb) (g : G) (w : World) (kr : KR) (R : Ending → World → Prop) : Prop :=
  ∀ φ' g' w' ae e, Step P φ g w φ' g' w' → EndR φ' ae e → kr ae g' = true → R e w'
def KnOK (P : Program) (φ : Emb) (g : G) (w : World) (a : Act) (kn : KS) (K : Act → World → Prop) : Prop :=
  ∀ φ' tm' df' g' a' w', Step P φ g w φ' g' w' → a'.tmps.size = a.tmps.size → StR P φ' tm' df' g' a' w' → kn tm' df' g' = true → K a' w'
def KxOK (P : Program) (φ : Emb) (g : G) (w : World) (a : Act) (kx : KX) (Q : Exit → Act → World → Prop) : Prop :=
  ∀ φ' tm' df' g' a' w' x e, Step P φ g w φ' g' w' → a'.tmps.size = a.tmps.size → StR P φ' tm' df' g' a' w' → ExR φ' x e → kx x tm' df' g' = true → Q e a' w'

/-- a summary -/
def OrcOK (P : Program) (f : FuncId) (o : Orc) : Prop := ∀ args g kr alt, o args g kr alt = true → alt = true ∨
  ∀ n φ w cargs R, HR P φ g w → GlR P φ → VRs φ args cargs → KrOK P φ g w kr R → CallsIn Fence.wide n P f cargs.toArray w R

/-- the table of functions -/
structure FnR (P : Program) (f : FuncId) (fe : FE) (fn : Func) : Prop where
  hfn : P.funcs[f]? = some fn
  num : fn.name ≠ "runtime.NumGoroutine"
  res : fe.res = fn.results.toList
  code : fe.code = fn.body.map (comp P)
  dok : ∀ c, fn.body = some c → c.dok fn.ntmps = true
  sz : fn.ntmps + 100000 < 2 ^ 64
  orc : ∀ o, fe.orc = some o → fn.body.isSome = true ∧ OrcOK P f o
def FTab (P : Program) (F : PT FE) : Prop := ∀ f fe, F.get (Pos.ofNat f) = some fe → ∃ fn, FnR P f fe fn

def EvOK (P : Program) (ih : Ev) : Prop := ∀ (c : Code) (tm : PT AV) (df : List ADef) (g : G) (kn : KS) (kx : KX), ih (comp P c) tm df g kn kx = true →
  ∀ (r : Option Nat) (n : Nat) (φ : Emb) (a : Act) (w : World) (Q : Exit → Act → World → Prop), StR P φ tm df g a w → (r ≠ none → c.rok = true) → c.dok a.tmps.size = true →
    KnOK P φ g w a kn (Q .normal) → KxOK P φ g w a kx Q → c.wpIn (Fw r) n P Q a w

theorem KrOK.step {kr : KR} {R : Ending → World → Prop} (hk : KrOK P φ g w kr R) (hs : Step P φ g w φ' g' w') : KrOK P φ' g' w' kr R :=
  fun _ _ _ _ _ h1 h2 h3 => hk _ _ _ _ _ (hs.trans h1) h2 h3
theorem KnOK.step {a a' : Act} {kn : KS} {K : Act → World → Prop} (hk : KnOK P φ g w a kn K) (hs : Step P φ g w φ' g' w') (ha : a'.tmps.size = a.tmps.size) : KnOK P φ' g' w' a' kn K :=
  fun _ _ _ _ _ _ h1 h2 h3 h4 => hk _ _ _ _ _ _ (hs.trans h1) (h2.trans ha) h3 h4
theorem KxOK.step {a a' : Act} {kx : KX} {Q : Exit → Act → World → Prop} (hk : KxOK P φ g w a kx Q) (hs : Step P φ g w φ' g' w') (ha : a'.tmps.size = a.tmps.size) : KxOK P φ' g' w' a' kx Q :=
  fun _ _ _ _ _ _ _ _ h1 h2 h3 h4 h5 => hk _ _ _ _ _ _ _ _ (hs.trans h1) (h2.trans ha) h3 h4 h5

/-! ### results -/
def resF (tmps : Array Value) : ResultVar → Sem Value
  | .tmp t => pure (tmps.getD t undef)
  | .cell a t => do loadVar t (← asAddr (tmps.getD a undef))
theorem results_eq (fn : Func) (tmps : Array Value) : results fn tmps = (fn.results.mapM (resF tmps) >>= fun vs => pure (if h : vs.size = 1 then vs[0] else .tuple vs)) := rfl
theorem resEv_ok (h : HR P φ g w) {tm : PT AV} {tmps : Array Value} (ht : TmR φ tm tmps) : ∀ {rs : List ResultVar} {k : List AV → Bool}, resEv P rs tm g.hp k = true →
    ∃ vs cvs, k vs = true ∧ VRs φ vs cvs ∧ (rs.mapM (resF tmps)).run P w = .ok cvs w
  | [], k, e => ⟨[], [], e, VRs.nil, by simp⟩
  | .tmp t :: r, k, e => by
    obtain ⟨v, h1, h2⟩ := opt_some (show opt (tm.get (Pos.ofNat t)) false _ = true from e)
    obtain ⟨vs, cvs, k1, k2, k3⟩ := resEv_ok h ht h2
    exact ⟨v :: vs, _ :: cvs, k1, VRs.cons (ht t v h1) k2, by simp only [List.mapM_cons, resF, Sem.run_bind, Sem.run_pure, Result.andThen_ok, k3]⟩
  | .cell a t :: r, k, e => by
    obtain ⟨p, h1, h2⟩ := opt_some (show opt (tm.get (Pos.ofNat a)) false _ = true from e)
    obtain ⟨b, off, rfl, h3⟩ := asPtr_ok h2
    obtain ⟨L, hL, hp⟩ := ht a _ h1
    obtain ⟨ag, hag, h4⟩ := opt_some h3
    obtain ⟨q1, q2⟩ := aggU_ok hag
    cases ag with
    | none =>
      obtain ⟨v, cv, z1, z2, z3, z4⟩ := readOne_ok h hL h4
      obtain ⟨vs, cvs, k1, k2, k3⟩ := resEv_ok h ht z1
      refine ⟨v :: vs, cv :: cvs, k1, VRs.cons z3 k2, ?_⟩
      have : (resF tmps (.cell a t)).run P w = .ok cv w := by simp [resF, hp, asAddr, loadVar_one q1 q2 z4]
      simp only [List.mapM_cons, Sem.run_bind, Sem.run_pure, Result.andThen_ok, this, k3]
    | some n =>
      obtain ⟨l, lvs, z1, z2, z3, z4, z5, z6⟩ := readRow_ok h hL h4
      obtain ⟨vs, cvs, k1, k2, k3⟩ := resEv_ok h ht z1
      refine ⟨.agg l :: vs, .agg lvs.toArray :: cvs, k1, VRs.cons ⟨lvs, rfl, z4, z3⟩ k2, ?_⟩
      have : (resF tmps (.cell a t)).run P w = .ok (.agg lvs.toArray) w := by simp [resF, hp, asAddr, loadVar_agg q1 z5 z6]
      simp only [List.mapM_cons, Sem.run_bind, Sem.run_pure, Result.andThen_ok, this, k3]

def retV (vs : List AV) : AV := match vs with
  | [v] => v
  | vs => .tup vs
theorem results_ok (h : HR P φ g w) {tm : PT AV} {tmps : Array Value} (ht : TmR φ tm tmps) {fn : Func} {k : List AV → Bool} (e : resEv P fn.results.toList tm g.hp k = true) :
    ∃ vs cv, k vs = true ∧ VR φ (retV vs) cv ∧ (results fn tmps).run P w = .ok cv w := by
  obtain ⟨vs, cvs, k1, k2, k3⟩ := resEv_ok h ht e
  refine ⟨vs, if h : cvs.length = 1 then cvs[0] else .tuple cvs.toArray, k1, ?_, ?_⟩
  · cases vs with
    | nil => obtain rfl : cvs = [] := k2; exact ⟨[], rfl, rfl⟩
    | cons a r =>
      obtain ⟨c, cr, rfl, h1, h2⟩ := k2
      cases r with
      | nil => obtain rfl : cr = [] := h2; exact h1
      | cons b r =>
        obtain ⟨d, cr, rfl, h3, h4⟩ := h2
        exact ⟨c :: d :: cr, by simp, VRs.cons h1 (VRs.cons h3 h4)⟩
  · simp only [results_eq, Array.mapM_eq_mapM_toList, Sem.run_bind, Sem.run_map, k3, Result.andThen_ok, Sem.run_pure]
    simp
end
end Go.Lv

namespace Go.Lv
open Go
section
variable {P : Program} {φ φ' φ'' : Emb} {g g' g'' : G} {w w' w'' : World}

/-! ### the temporaries of a new activation -/
theorem Pos.ofNat_succ {n : Nat} (h : n + 2 < 2 ^ 64) : (Pos.ofNat n).succ = Pos.ofNat (n + 1) := by
  apply Pos.n_inj
  rw [Pos.n_succ, Pos.ofNat_n (by omega), Pos.ofNat_n (by omega)]
theorem argTmF_ok : ∀ (l : List AV) (t : PT AV) (i : Nat), i + l.length + 2 < 2 ^ 64 → ∀ {j v}, (argTmF l t (Pos.ofNat i)).get (Pos.ofNat j) = some v → (∃ k, j = i + k ∧ l[k]? = some v) ∨ t.get (Pos.ofNat j) = some v
  | [], t, i, _, j, v, h => .inr h
  | x :: l, t, i, hi, j, v, h => by
    have h : (argTmF l (t.set (Pos.ofNat i) (some x)) (Pos.ofNat i).succ).get (Pos.ofNat j) = some v := h
    rw [Pos.ofNat_succ (by simp at hi; omega)] at h
    rcases argTmF_ok l _ (i + 1) (by simp at hi ⊢; omega) h with ⟨k, rfl, hk⟩ | h
    · exact .inl ⟨k + 1, by omega, by simpa using hk⟩
    · by_cases e : Pos.ofNat i = Pos.ofNat j
      · obtain rfl := Pos.ofNat_inj' (by omega) e
        rw [PT.get_set] at h
        cases h
        exact .inl ⟨0, rfl, rfl⟩
      · rw [PT.get_set_ne e] at h
        exact .inr h
theorem argTm_ok {args : List AV} {cargs : List Value} (ha : VRs φ args cargs) (hl : args.length < 100000) (n : Nat) : TmR φ (argTm args) (cargs.toArray ++ Array.replicate n undef) := by
  intro t v h
  have h : (argTmF args .nil (Pos.ofNat 0)).get (Pos.ofNat t) = some v := h
  rcases argTmF_ok args .nil 0 (by omega) h with ⟨k, hk, hv⟩ | h
  · obtain ⟨cv, h1, h2⟩ := ha.get hv
    have hlt : k < cargs.length := (List.getElem?_eq_some_iff.1 h1).1
    have : (cargs.toArray ++ Array.replicate n undef).getD t undef = cv := by
      rw [Array.getD_eq_getD_getElem?, Array.getElem?_append]
      simp [hk, hlt]
      rw [List.getElem?_eq_some_iff] at h1
      exact h1.2
    rw [this]; exact h2
  · rw [PT.get_nil] at h; cases h

theorem StR.enter (h : HR P φ g w) (hg : GlR P φ) {args : List AV} {cargs : Array Value} (ha : VRs φ args cargs.toList) (hl : args.length < 100000) {n : Nat} (hn : n + 100000 < 2 ^ 64) :
    StR P φ (argTm args) [] g { tmps := cargs ++ Array.replicate (n - cargs.size) undef, defers := [] } w := by
  have := ha.length
  refine ⟨h, hg, ?_, rfl, ?_⟩
  · have := argTm_ok ha hl (n - cargs.size); simpa using this
  · simp at this ⊢; omega

theorem dok_mono {n m : Nat} (h : n ≤ m) : ∀ {c : Code}, c.dok n = true → c.dok m = true := by
  intro c
  have lt : ∀ {d}, Nat.blt d n = true → Nat.blt d m = true := fun {d} hd => by
    have : d < n := Nat.le_of_ble_eq_true hd
    exact Nat.ble_eq_true_of_le (by omega : d + 1 ≤ m)
  induction c with
  | region id ops dr =>
    simp only [Code.dok, List.all_eq_true]
    intro hh o ho
    have := hh o ho
    split at this
    · rename_i d hd; exact lt this
    · rfl
  | seq a b iha ihb => simp only [Code.dok, Bool.and_eq_true]; exact fun h => ⟨iha h.1, ihb h.2⟩
  | cond c a b iha ihb => simp only [Code.dok, Bool.and_eq_true]; exact fun h => ⟨iha h.1, ihb h.2⟩
  | rangeFunc f ps a b iha ihb =>
    simp only [Code.dok, Bool.and_eq_true, List.all_eq_true]
    exact fun h => ⟨fun p hp => lt (h.1 p hp), iha h.2.1, ihb h.2.2⟩
  | block id b ih => simpa only [Code.dok] using ih
  | loop b ih => simpa only [Code.dok] using ih
  | scope b ih => simpa only [Code.dok] using ih
  | _ => exact fun h => h

/-! ### deferred calls -/
def ModeR (φ : Emb) (u : Mode) (um : FrameMode) : Prop := match u with
  | ⟨none, _⟩ => um = .returning
  | ⟨some v, rec⟩ => ∃ cv, um = .panicking [{ v := cv, recovered := rec }] ∧ VR φ v cv
theorem ModeR.mono (h : Le φ φ') {u : Mode} {um : FrameMode} (hm : ModeR φ u um) : ModeR φ' u um := by
  obtain ⟨v, rec⟩ := u
  cases v with
  | none => exact hm
  | some v => obtain ⟨cv, h1, h2⟩ := hm; exact ⟨cv, h1, h2.mono h⟩
theorem ModeR.settle {u : Mode} {um : FrameMode} (hm : ModeR φ u um) : ModeR φ (settleM u) (settle um) ∧ (u.recovered = true → u.v = none → False ∨ True) := by
  refine ⟨?_, fun _ _ => .inr trivial⟩
  obtain ⟨v, rec⟩ := u
  cases v with
  | none => obtain rfl : um = .returning := hm; rfl
  | some v =>
    obtain ⟨cv, rfl, h2⟩ := hm
    cases rec with
    | true => rfl
    | false => exact ⟨cv, rfl, h2⟩

def KnD (P : Program) (φ : Emb) (g : G) (w : World) (a : Act) (c₀ : Frame) (cs : List Frame) (kn : PT AV → List ADef → G → Mode → Bool) (K : Act → List Frame → World → Prop) : Prop :=
  ∀ φ' tm' df' g' a' w' u' um', Step P φ g w φ' g' w' → a'.tmps.size = a.tmps.size → StR P φ' tm' df' g' a' w' → ModeR φ' u' um' → kn tm' df' g' u' = true → K a' ({ c₀ with mode := um' } :: cs) w'
def KxD (P : Program) (φ : Emb) (g : G) (w : World) (a : Act) (c₀ : Frame) (cs : List Frame) (kx : AX → PT AV → List ADef → G → Mode → Bool) (Q : Exit → Act → List Frame → World → Prop) : Prop :=
  ∀ φ' tm' df' g' a' w' u' um' x e, Step P φ g w φ' g' w' → a'.tmps.size = a.tmps.size → StR P φ' tm' df' g' a' w' → ModeR φ' u' um' → ExR φ' x e → kx x tm' df' g' u' = true → Q e a' ({ c₀ with mode := um' } :: cs) w'

theorem comp_seq {c : Code} {A B : ACode} (h : comp P c = .seq A B) : ∃ x y, c = .seq x y ∧ A = comp P x ∧ B = comp P y := by
  cases c with
  | region id ops d =>
    cases d with
    | false => cases h
    | true => simp only [comp] at h; split at h <;> cases h
  | seq a b => cases h; exact ⟨_, _, rfl, rfl, rfl⟩
  | cond c a b => simp only [comp] at h; split at h <;> cases h
  | rangeFunc f ps a b =>
    simp only [comp] at h
    split at h
    · revert h; cases (Code.rok a && Code.rok b) <;> intro h <;> cases h
    · cases h
  | _ => cases h
theorem comp_cond {c : Code} {o : AO} {A B : ACode} (h : comp P c = .cond o A B) : ∃ c' x y, c = .cond c' x y ∧ cO P c' = some o ∧ A = comp P x ∧ B = comp P y := by
  cases c with
  | region id ops d =>
    cases d with
    | false => cases h
    | true => simp only [comp] at h; split at h <;> cases h
  | seq a b => cases h
  | cond c a b => simp only [comp] at h
                  split at h
                  · rename_i q; cases h; exact ⟨_, _, _, rfl, q, rfl, rfl⟩
                  · cases h
  | rangeFunc f ps a b =>
    simp only [comp] at h
    split at h
    · revert h; cases (Code.rok a && Code.rok b) <;> intro h <;> cases h
    · cases h
  | _ => cases h
theorem comp_reg {c : Code} {l : List AOper} (h : comp P c = .reg l) : ∃ id ops, c = .region id ops false ∧ l = ops.toList.map (cOper P ops) := by
  cases c with
  | region id ops d =>
    cases d with
    | false => cases h; exact ⟨_, _, rfl, rfl⟩
    | true => simp only [comp] at h; split at h <;> cases h
  | seq a b => cases h
  | cond c a b => simp only [comp] at h; split at h <;> cases h
  | rangeFunc f ps a b =>
    simp only [comp] at h
    split at h
    · revert h; cases (Code.rok a && Code.rok b) <;> intro h <;> cases h
    · cases h
  | _ => cases h

theorem cOp_recover {o : Op} {as : List AO} (h : cOp P o = (.recover, as)) : ∃ c, o = .call c ∧ c.callee = .builtin .recover := by
  have no : ∀ {why : Nat} {x : Option KA}, (∀ y, x = some y → y.1 ≠ .recover) → orBad why x = (.recover, as) → False := fun {why x} hx he => by
    cases x with
    | none => cases he
    | some y => exact hx y rfl (by rw [show y = (BK.recover, as) from he])
  have noW : ∀ {l : List Operand} {k : Option AK}, ∀ y, withArgs P l k = some y → y.1 ≠ .recover := fun {l k} y hy q => by
    unfold withArgs withArgsB at hy
    obtain ⟨bs, h1, h2⟩ := Option.bind_eq_some_iff.1 hy
    cases k with
    | none => cases h2
    | some k => cases h2; cases q
  have noB : ∀ {l : List Operand} {k : BK}, k ≠ .recover → ∀ y, withArgsB P l (some k) = some y → y.1 ≠ .recover := fun {l k} hk y hy q => by
    unfold withArgsB at hy
    obtain ⟨bs, h1, h2⟩ := Option.bind_eq_some_iff.1 hy
    cases h2; exact hk q
  unfold cOp at h
  split at h
  all_goals first
    | exact (no noW h).elim
    | exact (no (noB (by simp)) h).elim
    | cases h
    | skip
  · exact (no (fun y hy q => by
      obtain ⟨z, hz, hy⟩ := Option.bind_eq_some_iff.1 hy
      split at hy <;> cases hy; cases q) h).elim
  · exact (no (fun y hy q => by
      obtain ⟨z, hz, hy⟩ := Option.bind_eq_some_iff.1 hy
      obtain ⟨z, hz, hy⟩ := Option.bind_eq_some_iff.1 hy
      obtain ⟨z, hz, hy⟩ := Option.bind_eq_some_iff.1 hy
      split at hy <;> cases hy; cases q) h).elim
  · exact (no (fun y hy q => by
      obtain ⟨z, hz, hy⟩ := Option.bind_eq_some_iff.1 hy
      obtain ⟨z, hz, hy⟩ := Option.bind_eq_some_iff.1 hy
      obtain ⟨z, hz, hy⟩ := Option.bind_eq_some_iff.1 hy
      split at hy
      · cases hy
      · obtain ⟨z, hz, hy⟩ := Option.map_eq_some_iff.1 hy
        subst hy; cases q) h).elim
  · exact (no (fun y hy q => by
      split at hy
      · cases hy
      · exact noW y hy q) h).elim
  · exact (no (fun y hy q => by
      obtain ⟨z, hz, hy⟩ := Option.bind_eq_some_iff.1 hy
      obtain ⟨z, hz, hy⟩ := Option.bind_eq_some_iff.1 hy
      obtain ⟨z, hz, hy⟩ := Option.bind_eq_some_iff.1 hy
      split at hy
      · cases hy
      · obtain ⟨z, hz, hy⟩ := Option.bind_eq_some_iff.1 hy
        split at hy
        · exact noW y hy q
        · cases hy) h).elim
  · split at h
    · rename_i c _ b hb
      unfold cBuiltin at h
      split at h
      · exact ⟨c, rfl, hb⟩
      · exact (no noW h).elim
    · exact (no (noB (by simp)) h).elim
    · exact (no (noB (by simp)) h).elim
    · exact (no (noB (by simp)) h).elim
  · split at h
    · exact (no (noB (by simp)) h).elim
    · cases h
end
end Go.Lv

namespace Go.Lv
open Go
section
variable {P : Program} {φ φ' φ'' : Emb} {g g' g'' : G} {w w' w'' : World}

theorem recover_run {c : Call} (hc : c.callee = .builtin .recover) {o : Oper} (ho : o.op = .call c) (ρ : Operand → Value) (w : World) : (execOp ρ o).run P w = .ok .recover w := by
  simp only [execOp, ho, resolve, hc]
  rfl

theorem recoverD_mode {u : Mode} {um : FrameMode} (hm : ModeR φ u um) (c₀ : Frame) (cs : List Frame) :
    (∃ v, u = ⟨some v, false⟩ ∧ ∃ cv, VR φ v cv ∧ recoverD ({ c₀ with mode := um } :: cs) = some (cv, { c₀ with mode := .panicking [{ v := cv, recovered := true }] } :: cs)) ∨
    ((∀ v, u ≠ ⟨some v, false⟩) ∧ recoverD ({ c₀ with mode := um } :: cs) = none) := by
  obtain ⟨v, rec⟩ := u
  cases v with
  | none => obtain rfl : um = .returning := hm; exact .inr ⟨by simp, rfl⟩
  | some v =>
    obtain ⟨cv, rfl, h2⟩ := hm
    cases rec with
    | true => exact .inr ⟨by simp, rfl⟩
    | false => exact .inl ⟨v, rfl, cv, h2, rfl⟩

theorem evD_ok {ih : Ev} (hih : EvOK P ih) : ∀ (m : Nat) (c : Code) (tm : PT AV) (df : List ADef) (g : G) (u : Mode) (kn : PT AV → List ADef → G → Mode → Bool) (kx : AX → PT AV → List ADef → G → Mode → Bool),
    evD ih m (comp P c) tm df g u kn kx = true → ∀ (n : Nat) (φ : Emb) (a : Act) (w : World) (um : FrameMode) (c₀ : Frame) (cs : List Frame) (Q : Exit → Act → List Frame → World → Prop),
    StR P φ tm df g a w → c.dok a.tmps.size = true → ModeR φ u um → KnD P φ g w a c₀ cs kn (Q .normal) → KxD P φ g w a c₀ cs kx Q → c.wpSIn Fence.wide n P Q a ({ c₀ with mode := um } :: cs) w := by
  intro m
  induction m with
  | zero => intro c tm df g u kn kx e; cases e
  | succ m ihm =>
    intro c tm df g u kn kx e n φ a w um c₀ cs Q s hd hm hkn hkx
    have other : ih (comp P c) tm df g (fun tm df g => kn tm df g u) (fun x tm df g => kx x tm df g u) = true → c.wpSIn Fence.wide n P Q a ({ c₀ with mode := um } :: cs) w := fun e =>
      wpSIn_of_wpIn rfl (hih c tm df g _ _ e none n φ a w (fun e a' w' => Q e a' ({ c₀ with mode := um } :: cs) w') s (fun h => absurd rfl h) hd
        (fun φ' tm' df' g' a' w' h1 h2 h3 h4 => hkn φ' tm' df' g' a' w' u um h1 h2 h3 (hm.mono (h1.le s.hr)) h4)
        (fun φ' tm' df' g' a' w' x e h1 h2 h3 h4 h5 => hkx φ' tm' df' g' a' w' u um x e h1 h2 h3 (hm.mono (h1.le s.hr)) h4 h5))
    unfold evD at e
    split at e
    · rename_i A B hc
      obtain ⟨x, y, rfl, rfl, rfl⟩ := comp_seq hc
      simp only [Code.dok, Bool.and_eq_true] at hd
      refine wpSIn_seq (ihm x tm df g u _ _ e n φ a w um c₀ cs _ s hd.1 hm ?_ ?_)
      · intro φ' tm' df' g' a' w' u' um' h1 h2 h3 h4 h5
        exact ihm y tm' df' g' u' _ _ h5 n φ' a' w' um' c₀ cs Q h3 (by rw [h2]; exact hd.2) h4
          (fun φ2 tm2 df2 g2 a2 w2 u2 um2 k1 k2 k3 k4 k5 => hkn φ2 tm2 df2 g2 a2 w2 u2 um2 (h1.trans k1) (k2.trans h2) k3 k4 k5)
          (fun φ2 tm2 df2 g2 a2 w2 u2 um2 x e k1 k2 k3 k4 k5 k6 => hkx φ2 tm2 df2 g2 a2 w2 u2 um2 x e (h1.trans k1) (k2.trans h2) k3 k4 k5 k6)
      · intro φ' tm' df' g' a' w' u' um' x e h1 h2 h3 h4 h5 h6
        have := hkx φ' tm' df' g' a' w' u' um' x e h1 h2 h3 h4 h5 h6
        cases x with
        | exit id => obtain rfl : e = _ := h5; exact this
        | ret => obtain rfl : e = _ := h5; exact this
        | panic v => obtain ⟨cv, rfl, _⟩ := h5; exact this
    · rename_i co A B hc
      obtain ⟨c', x, y, rfl, hco, rfl, rfl⟩ := comp_cond hc
      simp only [Code.dok, Bool.and_eq_true] at hd
      obtain ⟨v, h1, h2⟩ := AO.ev_ok s e
      obtain ⟨t, rfl, h3⟩ := asBool_ok h1
      have hev : a.eval c' = .bool t := h2 c' hco
      refine wpSIn_cond hev ?_
      cases t with
      | true => exact ihm x tm df g u _ _ h3 n φ a w um c₀ cs Q s hd.1 hm hkn hkx
      | false => exact ihm y tm df g u _ _ h3 n φ a w um c₀ cs Q s hd.2 hm hkn hkx
    · rename_i o hc
      split at e
      · rename_i hg hk
        obtain ⟨id, ops, rfl, hl⟩ := comp_reg hc
        obtain ⟨o', ho', rfl⟩ : ∃ o', ops.toList = [o'] ∧ o = cOper P ops o' := by
          cases h : ops.toList with
          | nil => rw [h] at hl; cases hl
          | cons x r =>
            rw [h] at hl
            cases r with
            | nil => simp at hl; exact ⟨x, rfl, hl⟩
            | cons y r => simp at hl
        have hops : ops = #[o'] := by rw [← Array.toList_inj, ho']
        have hcop : cOp P o'.op = (.recover, (cOp P o'.op).2) := by
          have : (cOp P o'.op).1 = .recover := hk
          rw [← this]
        obtain ⟨cl, hcl, hcal⟩ := cOp_recover hcop
        have hguard : o'.guard = none := by
          have hg : o'.guard.map _ = none := hg
          exact Option.map_eq_none_iff.1 hg
        have hdst : ∀ d, o'.dst = some d → d < a.tmps.size := fun d hdd => by
          simp only [Code.dok, ho', List.all_cons, List.all_nil, Bool.and_true, hdd] at hd
          exact Nat.le_of_ble_eq_true hd
        refine wpSIn_region ?_
        have hr : List.range ops.size = [0] := by rw [hops]; rfl
        rw [hr]
        have h0 : ops[0]? = some o' := by rw [hops]; rfl
        simp only [wpOpsSIn, h0]
        refine ⟨fun _ _ => trivial, ?_⟩
        have hw : Region.wanted o' (yielded ops a.tmps) = true := by unfold Region.wanted; rw [hguard]
        rw [if_pos hw, recover_run hcal hcl]
        have hdm : (cOper P ops o').dst = o'.dst.map Pos.ofNat := rfl
        rw [hdm] at e
        have hsz : ∀ v, (a.put o'.dst v).tmps.size = a.tmps.size := fun v => by cases o'.dst <;> simp [Act.put]
        rcases recoverD_mode hm c₀ cs with ⟨v, rfl, cv, hv, hrec⟩ | ⟨hu, hrec⟩
        · simp only [hrec]
          exact hkn φ _ df g _ w _ _ (Step.refl s.hr) (hsz cv) (s.put hdst hv) (show ModeR φ ⟨some v, true⟩ _ from ⟨cv, rfl, hv⟩) e
        · simp only [hrec]
          split at e
          · exact absurd rfl (hu _)
          · exact hkn φ _ df g _ w _ _ (Step.refl s.hr) (hsz _) (s.put (v := .nili) (cv := .nilIface) hdst (show VR φ .nili .nilIface from rfl)) hm e
      · rw [← hc] at e; exact other e
    · exact other e

theorem leaveFin_ok {fe : FE} {fn : Func} (hres : fe.res = fn.results.toList) {tm : PT AV} {df : List ADef} {k : G → Bool} {a : Act} (s : StR P φ tm df g a w) (e : leaveFin P fe tm df g k = true) :
    a.defers = [] ∧ (∃ v, (results fn a.tmps).run P w = .ok v w) ∧ k g = true := by
  unfold leaveFin at e
  split at e
  · rw [hres] at e
    obtain ⟨vs, cv, h1, h2, h3⟩ := results_ok s.hr s.tm e
    exact ⟨s.df, ⟨cv, h3⟩, h1⟩
  · cases e

theorem defd_inv (h : HR P φ g w) {b : Pos} {L : Loc} {o : Bool} (hb : g.hp.get b = some (.defd o)) (hL : φ b = some L) : L.base = 0 ∧ L.cc = 1 ∧ w.heap[L.blk]? = some (.deferred (bif o then some [] else none)) := h.obj _ _ L hb hL

theorem settleM_ok (u : Mode) : (settleM u).v.isSome = true → (settleM u).recovered = false := by
  obtain ⟨v, rec⟩ := u
  cases v <;> cases rec <;> simp [settleM]

/-- what follows a deferred call -/
def LeavesD (n : Nat) (P : Program) (fn : Func) (tmps : Array Value) (R : Ending → World → Prop) (ds : List Deferred) : Ending → FrameMode → World → Prop := fun
  | .returned _, u', w' => LeavesInM Fence.wide n P fn tmps R ds (Go.settle u') w'
  | .panicked chain, u', w' => LeavesInM Fence.wide n P fn tmps R ds (raised u' chain) w'
  | .outgrown, _, w' => R .outgrown w'
/-- **How an activation is left.** -/
theorem leave_ok {F : PT FE} {ih : Ev} (hih : EvOK P ih) (hF : FTab P F) {fn : Func} {fe : FE} (hres : fe.res = fn.results.toList) (n : Nat) : ∀ {df : List ADef} {ds : List Deferred} {u : Mode} {um : FrameMode} {φ : Emb} {g : G} {w : World} {tm : PT AV} {tmps : Array Value} {kr : KR} {R : Ending → World → Prop},
    evLeave P F ih fe tm df u g kr = true → (u.v.isSome = true → u.recovered = false) → HR P φ g w → GlR P φ → TmR φ tm tmps → DfR φ df ds → ModeR φ u um → KrOK P φ g w kr R → LeavesInM Fence.wide n P fn tmps R ds um w := by
  intro df
  induction df with
  | nil =>
    intro ds u um φ g w tm tmps kr R e hrec h hg ht hd hm hk
    obtain rfl : ds = [] := hd
    obtain ⟨v, rec⟩ := u
    cases v with
    | some v =>
      obtain rfl : rec = false := hrec rfl
      obtain ⟨cv, rfl, hv⟩ := hm
      exact hk φ g w (.panicked v) _ (Step.refl h) ⟨cv, rfl, hv⟩ e
    | none =>
      obtain rfl : um = .returning := hm
      have e : resEv P fe.res tm g.hp (fun vs => match vs with
        | [v] => kr (.returned v) g
        | vs => kr (.returned (.tup vs)) g) = true := e
      rw [hres] at e
      obtain ⟨vs, cv, h1, h2, h3⟩ := results_ok h ht e
      refine ⟨cv, h3, hk φ g w (.returned (retV vs)) _ (Step.refl h) ⟨cv, rfl, h2⟩ ?_⟩
      cases vs with
      | nil => exact h1
      | cons a r => cases r <;> exact h1
  | cons x df ihd =>
    intro ds u um φ g w tm tmps kr R e hrec h hg ht hd hm hk
    obtain ⟨d, ds, rfl, hx, hds⟩ := hd
    have hrun : um ≠ .run := by
      obtain ⟨v, rec⟩ := u
      cases v with
      | none => obtain rfl : um = .returning := hm; simp
      | some v => obtain ⟨cv, rfl, _⟩ := hm; simp
    refine ⟨hrun, ?_⟩
    cases x with
    | coll b =>
      obtain ⟨L, hL, rfl⟩ := hx
      have e : (match g.hp.get b with
        | some (.defd true) => evLeave P F ih fe tm df u (g.upd b (.defd false)) kr
        | _ => false) = true := e
      split at e
      · rename_i hb
        obtain ⟨h1, h2, h3⟩ := defd_inv h hb hL
        have hlt := (Array.getElem?_eq_some_iff.1 h3).1
        have hs := h.writeObj hb hL rfl (.defd false) rfl h3 rfl (.deferred none) h2 h1 ⟨h1, h2, by simp [hlt]⟩
        have hle := hs.le h
        refine .inl ⟨L.blk, _, rfl, ?_, ihd e hrec hs.hr (hg.mono hle) (ht.mono hle) (hds.mono hle) (hm.mono hle) (hk.step hs)⟩
        have h3' : w.heap[L.blk]? = some (.deferred (some [])) := h3
        simp [Instr.takeDeferred, run_getObj' h3' rfl, run_setObj' h3' rfl]
      · cases e
    | call p args =>
      obtain ⟨f, fst, cap, hd1, rfl, hd2, hd3⟩ := hx
      obtain ⟨fe', hfe, e⟩ := opt_some (show opt (F.get (Pos.ofNat f)) false _ = true from e)
      obtain ⟨c, hc, e⟩ := opt_some e
      obtain ⟨e1, e⟩ := bif_and e
      have hlen : args.length < 100000 := by have := Nat.le_of_ble_eq_true e1; rw [len_eq] at this; exact this
      obtain ⟨fn', hfn⟩ := hF f fe' hfe
      obtain ⟨c', hc', rfl⟩ : ∃ c', fn'.body = some c' ∧ c = comp P c' := by
        have := hfn.code; rw [hc] at this
        obtain ⟨c', h1, h2⟩ := Option.map_eq_some_iff.1 this.symm
        exact ⟨c', h1, h2.symm⟩
      right
      refine ⟨fun hh => by simp [Fence.wide] at hh, .func f, cap, f, fst ++ cap, hd1, ?_, fun _ _ => trivial, ?_⟩
      · rw [hd1, hd2]
        simp [invoke, callFunc, hfn.hfn, hfn.num, hc']
      · show CallsDIn Fence.wide (n - 1) P f (fst ++ cap) um w (LeavesD n P fn tmps R ds)
        refine callsDIn_of_wpSIn hfn.hfn hc' trivial (fun c₀ cs hc₀ => ?_)
        have s := StR.enter h hg hd3 hlen hfn.sz
        have hc0 : c₀ = { c₀ with mode := um } := by rw [← hc₀]
        have := evD_ok hih 1000 c' _ _ g u _ _ e (n - 1) φ _ w um c₀ cs (bodyPostS P fn' c₀ cs (LeavesD n P fn tmps R ds)) s (dok_mono (by simp; omega) (hfn.dok c' hc')) hm
          (fun φ' tm' df' g' a' w' u' um' h1 h2 h3 h4 h5 => ?_) (fun φ' tm' df' g' a' w' u' um' x e h1 h2 h3 h4 h5 h6 => ?_)
        · rw [← hc0] at this; exact this
        · obtain ⟨k1, ⟨v, k2⟩, k3⟩ := leaveFin_ok hfn.res h3 h5
          have hle := h1.le h
          refine ⟨k1, um', rfl, v, k2, ?_⟩
          refine ihd k3 ?_ h3.hr (hg.mono hle) (ht.mono hle) (hds.mono hle) h4.settle.1 (hk.step h1)
          exact settleM_ok u'
        · cases x with
          | ret =>
            obtain rfl : e = _ := h5
            obtain ⟨k1, ⟨v, k2⟩, k3⟩ := leaveFin_ok hfn.res h3 h6
            have hle := h1.le h
            refine ⟨k1, um', rfl, v, k2, ?_⟩
            refine ihd k3 ?_ h3.hr (hg.mono hle) (ht.mono hle) (hds.mono hle) h4.settle.1 (hk.step h1)
            exact settleM_ok u'
          | exit id => cases h6
          | panic v => cases h6
end
end Go.Lv

namespace Go.Lv
open Go
section
variable {P : Program} {φ φ' φ'' : Emb} {g g' g'' : G} {w w' w'' : World}

/-! ### calls -/
theorem KxOK.body {F : PT FE} {ih : Ev} (hih : EvOK P ih) (hF : FTab P F) {fn : Func} {fe : FE} (hres : fe.res = fn.results.toList) (n : Nat) {kr : KR} {R : Ending → World → Prop} {a : Act} (hk : KrOK P φ g w kr R) :
    KnOK P φ g w a (fun tm df g => evLeave P F ih fe tm df ⟨none, false⟩ g kr) (bodyPostM Fence.wide n P fn R .normal) ∧
    KxOK P φ g w a (fun x tm df g => AX.rec (motive := fun _ => Bool) (fun _ => false) (evLeave P F ih fe tm df ⟨none, false⟩ g kr) (fun v => evLeave P F ih fe tm df ⟨some v, false⟩ g kr) x) (bodyPostM Fence.wide n P fn R) := by
  refine ⟨fun φ' tm' df' g' a' w' h1 h2 h3 h4 => ?_, fun φ' tm' df' g' a' w' x e h1 h2 h3 h4 h5 => ?_⟩
  · exact leave_ok hih hF hres n h4 (fun h => by cases h) h3.hr h3.gl h3.tm h3.df (u := ⟨none, false⟩) rfl (hk.step h1)
  · cases x with
    | exit id => cases h5
    | ret => obtain rfl : e = _ := h4; exact leave_ok hih hF hres n h5 (fun h => by cases h) h3.hr h3.gl h3.tm h3.df (u := ⟨none, false⟩) rfl (hk.step h1)
    | panic v => obtain ⟨cv, rfl, hv⟩ := h4; exact leave_ok hih hF hres n h5 (fun h => rfl) h3.hr h3.gl h3.tm h3.df (u := ⟨some v, false⟩) ⟨cv, rfl, hv⟩ (hk.step h1)

/-- **A call.** -/
theorem call_ok {F : PT FE} {ih : Ev} (hih : EvOK P ih) (hF : FTab P F) {f : FuncId} {args : List AV} {kr : KR} (e : evCall P F ih (Pos.ofNat f) args g kr = true) (h : HR P φ g w) (hg : GlR P φ) {cargs : List Value} (ha : VRs φ args cargs) {R : Ending → World → Prop} (hk : KrOK P φ g w kr R) :
    (∃ fn, P.funcs[f]? = some fn ∧ fn.body.isSome = true ∧ fn.name ≠ "runtime.NumGoroutine") ∧ ∀ n, CallsIn Fence.wide n P f cargs.toArray w R := by
  obtain ⟨fe, hfe, e⟩ := opt_some (show opt (F.get (Pos.ofNat f)) false _ = true from e)
  obtain ⟨fn, hfn⟩ := hF f fe hfe
  have body : opt fe.code false (fun c => evBody P F ih fe c args g kr) = true → fn.body.isSome = true ∧ ∀ n, CallsIn Fence.wide n P f cargs.toArray w R := fun e => by
    obtain ⟨c, hc, e⟩ := opt_some e
    obtain ⟨e1, e2⟩ := bif_and (show bif' (Nat.blt (len args) 100000) (evBody' P F ih fe c args g kr) false = true from e)
    have hlen : args.length < 100000 := by have := Nat.le_of_ble_eq_true e1; rw [len_eq] at this; exact this
    obtain ⟨c', hc', rfl⟩ : ∃ c', fn.body = some c' ∧ c = comp P c' := by
      have := hfn.code; rw [hc] at this
      obtain ⟨c', h1, h2⟩ := Option.map_eq_some_iff.1 this.symm
      exact ⟨c', h1, h2.symm⟩
    refine ⟨by rw [hc']; rfl, fun n => ?_⟩
    have s := StR.enter (cargs := cargs.toArray) h hg (by simpa using ha) hlen hfn.sz
    obtain ⟨k1, k2⟩ := KxOK.body hih hF hfn.res n (a := { tmps := cargs.toArray ++ Array.replicate (fn.ntmps - cargs.toArray.size) undef, defers := [] }) hk
    exact callsIn_of_wp_marks hfn.hfn hc' trivial (hih c' _ _ _ _ _ e2 none n φ _ w _ s (fun h => absurd rfl h) (dok_mono (by simp; omega) (hfn.dok c' hc')) k1 k2)
  have fin : (fn.body.isSome = true ∧ ∀ n, CallsIn Fence.wide n P f cargs.toArray w R) → (∃ fn, P.funcs[f]? = some fn ∧ fn.body.isSome = true ∧ fn.name ≠ "runtime.NumGoroutine") ∧ ∀ n, CallsIn Fence.wide n P f cargs.toArray w R :=
    fun hb => ⟨⟨fn, hfn.hfn, hb.1, hfn.num⟩, hb.2⟩
  cases ho : fe.orc with
  | none =>
    rw [ho] at e
    exact fin (body e)
  | some o =>
    rw [ho] at e
    obtain ⟨q1, q2⟩ := hfn.orc o ho
    rcases q2 args g kr _ e with e | hc
    · exact fin (body e)
    · exact fin ⟨q1, fun n => hc n φ w cargs R h hg ha hk⟩

theorem callFunc_run {f : FuncId} {fn : Func} (h1 : P.funcs[f]? = some fn) (h2 : fn.body.isSome = true) (h3 : fn.name ≠ "runtime.NumGoroutine") (args : Array Value) (w : World) : (callFunc f args).run P w = .ok (.enter f args) w := by
  obtain ⟨c, hc⟩ := Option.isSome_iff_exists.1 h2
  simp [callFunc, h1, h3, hc]

/-! ### rounds -/
theorem loopAt_some {l : Pos} {k : LoopState → Option ACode → PT AV → List Pos → ACode → ACode → Pos → Bool} (e : loopAt g l k = true) :
    ∃ st pend tm ps asg body d, g.hp.get l = some (.loop st pend tm ps asg body d) ∧ k st pend tm ps asg body d = true := by
  unfold loopAt at e
  split at e
  · rename_i h; exact ⟨_, _, _, _, _, _, _, h, e⟩
  · cases e
theorem dfNil_some {df : List ADef} {b : Bool} (e : dfNil df b = true) : df = [] ∧ b = true := by
  cases df with
  | nil => exact ⟨rfl, e⟩
  | cons => cases e

theorem setAll_ok : ∀ (ps : List Tmp) {args : List AV} {cargs : List Value} {tm : PT AV} {tmps : Array Value}, tmps.size + 1 < 2 ^ 64 → (∀ p ∈ ps, p < tmps.size) → VRs φ args cargs → TmR φ tm tmps →
    TmR φ (setAll ((ps.map Pos.ofNat).zip args) tm) ((ps.zip cargs).foldl (fun (t : Array Value) (x : Tmp × Value) => t.setIfInBounds x.1 x.2) tmps) ∧ ((ps.zip cargs).foldl (fun (t : Array Value) (x : Tmp × Value) => t.setIfInBounds x.1 x.2) tmps).size = tmps.size
  | [], args, cargs, tm, tmps, _, _, _, ht => ⟨ht, rfl⟩
  | p :: ps, [], cargs, tm, tmps, _, _, ha, ht => by obtain rfl : cargs = [] := ha; exact ⟨ht, rfl⟩
  | p :: ps, a :: args, cargs, tm, tmps, hsz, hp, ha, ht => by
    obtain ⟨c, cargs, rfl, h1, h2⟩ := ha
    obtain ⟨k1, k2⟩ := setAll_ok ps (tmps := tmps.setIfInBounds p c) (tm := tm.set (Pos.ofNat p) (some a)) (by simpa using hsz) (fun q hq => by simpa using hp q (by simp [hq])) h2 (ht.put hsz (hp p (by simp)) h1)
    exact ⟨k1, k2.trans (by simp)⟩

theorem loop_inv (h : HR P φ g w) {l : Pos} {L : Loc} {st : LoopState} {pend : Option ACode} {tm : PT AV} {ps : List Pos} {asg body : ACode} {d : Pos} (hl : g.hp.get l = some (.loop st pend tm ps asg body d)) (hL : φ l = some L) :
    ObjR P φ w L (.loop st pend tm ps asg body d) := h.obj _ _ L hl hL

theorem roundFin_ok (h : HR P φ g w) {l : Pos} {L : Loc} (hL : φ l = some L) {j : Option ACode} {jc : Option Code} (hj : JumpR j jc) {df : List ADef} {kr : KR} (e : roundFin l j df g kr = true) :
    df = [] ∧ ∃ w', (Instr.endRound L.blk jc).run P w = .ok (.bool jc.isNone) w' ∧ ∃ g', Step P φ g w φ g' w' ∧ kr (.returned (.bool jc.isNone)) g' = true := by
  obtain ⟨rfl, e⟩ := dfNil_some e
  obtain ⟨st, pend, tm, ps, asg, body, d, hl, e⟩ := loopAt_some e
  obtain ⟨h1, h2, D, hD, j0, f, tmps, ps', asg', body', h3, h4, h5⟩ := loop_inv h hl hL
  have hjj : j.isNone = jc.isNone := by
    cases j with
    | none => obtain rfl : jc = none := hj; rfl
    | some x => cases x <;> first | (obtain rfl : jc = _ := hj; rfl) | exact hj.elim
  rw [hjj] at e
  have hlt := (Array.getElem?_eq_some_iff.1 h3).1
  have hs := h.writeObj hl hL rfl (.loop (bif jc.isNone then .ready else .done) j tm ps asg body d) rfl h3 rfl
    (.loop { state := if jc.isNone then .ready else .done, pending := jc, fn := f, tmps := tmps, params := ps', assign := asg', body := body', defers := D.blk }) h2 h1
    ⟨h1, h2, D, hD, jc, f, tmps, ps', asg', body', by simp [hlt], hj, h5⟩
  refine ⟨rfl, _, ?_, _, hs, e⟩
  simp [Instr.endRound, Instr.getLoop, run_getObj' h3 rfl, run_setObj' h3 rfl]

/-- **A round.** -/
theorem round_ok {F : PT FE} {ih : Ev} (hih : EvOK P ih) {l : Pos} {L : Loc} (hL : φ l = some L) {args : List AV} {kr : KR} (e : evRound ih l args g kr = true) (h : HR P φ g w) (hg : GlR P φ) {cargs : List Value} (ha : VRs φ args cargs) {R : Ending → World → Prop} (hk : KrOK P φ g w kr R) :
    ∃ f tmps asg body, (Instr.yield L.blk cargs.toArray).run P w = .ok (.round L.blk f tmps asg body) w ∧ ∀ n r, RoundIn (Fw r) n P L.blk f tmps asg body w R := by
  obtain ⟨st, pend, tm, ps, asg, body, d, hl, e⟩ := loopAt_some e
  obtain ⟨h1, h2, D, hD, j0, f, tmps, ps', asg', body', h3, h4, h5, rfl, rfl, rfl, h6, h7, ⟨h8, h9⟩, h10, h11⟩ := loop_inv h hl hL
  obtain ⟨e1, e2⟩ := bif_and e
  have e1 := Nat.eq_of_beq_eq_true e1
  rw [len_eq, len_eq] at e1
  have hlen : cargs.length = ps'.size := by have := ha.length; simp at e1; omega
  obtain ⟨t1, t2⟩ := setAll_ok ps'.toList h6 h7 ha h5
  refine ⟨f, (ps'.toList.zip cargs).foldl (fun (t : Array Value) (x : Tmp × Value) => t.setIfInBounds x.1 x.2) tmps, asg', body', ?_, fun n r => ?_⟩
  · simp [Instr.yield, Instr.getLoop, run_getObj' h3 rfl, hlen]
    have : ps'.size = (ps'.zip cargs.toArray).size := by simp [hlen]
    conv => lhs; rw [this]
    rw [← Array.foldl_toList]
    simp
  · generalize hT : (ps'.toList.zip cargs).foldl (fun (t : Array Value) (x : Tmp × Value) => t.setIfInBounds x.1 x.2) tmps = T at t1 t2
    refine roundIn_of_wpIn trivial ?_
    show asg'.wpIn (Fw (some L.blk)) n P _ { tmps := T, defers := [] } w
    have s : StR P φ (setAll ((ps'.toList.map Pos.ofNat).zip args) tm) [] g { tmps := T, defers := [] } w := ⟨h, hg, t1, rfl, by show T.size + 1 < _; omega⟩
    refine hih asg' _ _ _ _ _ e2 (some L.blk) n φ _ w _ s (fun _ => h10) (by show asg'.dok T.size = true; rw [t2]; exact h8) (fun φ1 tm1 df1 g1 a1 w1 k1 k2 k3 k4 => ?_) (fun φ' tm' df' g' a' w' x e k1 k2 k3 k4 k5 => by cases k5)
    obtain ⟨rfl, k4⟩ := dfNil_some k4
    obtain ⟨st1, pend1, tm2, ps2, asg2, body2, d2, hl1, k4⟩ := loopAt_some k4
    have hL1 : φ1 l = some L := k1.le h l L hL
    obtain ⟨q1, q2, D1, hD1, j1, f1, tmps1, ps1', asg1', body1', q3, q4, q5⟩ := loop_inv k3.hr hl1 hL1
    cases st1 with
    | ready =>
      have hlt := (Array.getElem?_eq_some_iff.1 q3).1
      have hs := k3.hr.writeObj hl1 hL1 rfl (.loop .busy pend1 tm2 ps2 asg2 body2 d2) rfl q3 rfl
        (.loop { state := .busy, pending := j1, fn := f1, tmps := tmps1, params := ps1', assign := asg1', body := body1', defers := D1.blk }) q2 q1
        ⟨q1, q2, D1, hD1, j1, f1, tmps1, ps1', asg1', body1', by simp [hlt], q4, q5⟩
      refine ⟨_, by simp [Instr.beginRound, Instr.getLoop, run_getObj' q3 rfl, run_setObj' q3 rfl]; rfl, ?_⟩
      have s1 := k3.step hs
      have hLf : ∀ {φ2 g2 w2}, Step P φ1 (g1.upd l (.loop .busy pend1 tm2 ps2 asg2 body2 d2)) _ φ2 g2 w2 → φ2 l = some L := fun hh => hh.le hs.hr l L hL1
      refine hih body' _ _ _ _ _ k4 (some L.blk) n φ1 a1 _ _ s1 (fun _ => h11) (by rw [k2]; show body'.dok T.size = true; rw [t2]; exact h9) (fun φ2 tm3 df2 g2 a2 w2 z1 z2 z3 z4 => ?_) (fun φ2 tm3 df2 g2 a2 w2 x e z1 z2 z3 z4 z5 => ?_)
      · obtain ⟨_, w', y1, g', y2, y3⟩ := roundFin_ok z3.hr (hLf z1) (j := none) (jc := none) rfl z4
        exact ⟨_, w', y1, hk _ _ _ (.returned (.bool _)) _ (((k1.trans hs).trans z1).trans y2) ⟨_, rfl, rfl⟩ y3⟩
      · cases x with
        | ret =>
          obtain rfl : e = _ := z4
          obtain ⟨_, w', y1, g', y2, y3⟩ := roundFin_ok z3.hr (hLf z1) (j := some .ret) (jc := some .ret) rfl z5
          exact ⟨_, w', y1, hk _ _ _ (.returned (.bool _)) _ (((k1.trans hs).trans z1).trans y2) ⟨_, rfl, rfl⟩ y3⟩
        | exit id =>
          obtain rfl : e = _ := z4
          obtain ⟨_, w', y1, g', y2, y3⟩ := roundFin_ok z3.hr (hLf z1) (j := some (.exit id)) (jc := some (.exit id)) rfl z5
          exact ⟨_, w', y1, hk _ _ _ (.returned (.bool _)) _ (((k1.trans hs).trans z1).trans y2) ⟨_, rfl, rfl⟩ y3⟩
        | panic v => cases z5
    | busy => cases k4
    | done => cases k4
    | exhausted => cases k4
end
end Go.Lv

namespace Go.Lv
open Go
section
variable {P : Program} {φ φ' φ'' : Emb} {g g' g'' : G} {w w' w'' : World}

/-! ### calls, defers, panics: what they are made from -/
theorem orBad_call {why : Nat} {x : Option KA} {k : BK} {as : List AO} (h : orBad why x = (k, as)) (hk : ∀ K, k ≠ .op K) : x = some (k, as) := by
  cases x with
  | none => cases h; exact absurd rfl (hk _)
  | some y => exact congrArg some h
theorem withArgs_call {l : List Operand} {K : Option AK} {k : BK} {as : List AO} (h : withArgs P l K = some (k, as)) (hk : ∀ K, k ≠ .op K) : False := by
  unfold withArgs withArgsB at h
  obtain ⟨bs, h1, h2⟩ := Option.bind_eq_some_iff.1 h
  cases K with
  | none => cases h2
  | some K => cases h2; exact hk _ rfl
theorem withArgsB_call {l : List Operand} {k' k : BK} {as : List AO} (h : withArgsB P l (some k') = some (k, as)) : k = k' ∧ cOs P l = some as := by
  unfold withArgsB at h
  obtain ⟨bs, h1, h2⟩ := Option.bind_eq_some_iff.1 h
  cases h2; exact ⟨rfl, h1⟩

theorem cOp_call {o : Op} {k : BK} {as : List AO} (h : cOp P o = (k, as)) (hk : ∀ K, k ≠ .op K) :
    k = .recover ∨ (∃ c f, o = .call c ∧ c.callee = .value (.func f) ∧ k = .callF (Pos.ofNat f) ∧ cOs P c.args.toList = some as) ∨
    (∃ c f, o = .call c ∧ c.callee = .value f ∧ k = .callV ∧ cOs P (f :: c.args.toList) = some as) ∨
    (∃ c x name, o = .call c ∧ c.callee = .invoke x name ∧ k = .callI name ∧ cOs P (x :: c.args.toList) = some as) ∨
    (∃ c f, o = .defer c ∧ c.callee = .value f ∧ k = .deferV ∧ cOs P (f :: c.args.toList) = some as) ∨
    (∃ x, o = .panic x ∧ k = .panic ∧ cOs P [x] = some as) := by
  unfold cOp at h
  split at h
  all_goals first
    | exact (withArgs_call (orBad_call h hk) hk).elim
    | (cases h; exact absurd rfl (hk _))
    | skip
  · have h := orBad_call h hk
    obtain ⟨z, hz, h⟩ := Option.bind_eq_some_iff.1 h
    split at h <;> cases h; exact absurd rfl (hk _)
  · have h := orBad_call h hk
    obtain ⟨z, hz, h⟩ := Option.bind_eq_some_iff.1 h
    obtain ⟨z, hz, h⟩ := Option.bind_eq_some_iff.1 h
    obtain ⟨z, hz, h⟩ := Option.bind_eq_some_iff.1 h
    split at h <;> cases h; exact absurd rfl (hk _)
  · have h := orBad_call h hk
    obtain ⟨z, hz, h⟩ := Option.bind_eq_some_iff.1 h
    obtain ⟨z, hz, h⟩ := Option.bind_eq_some_iff.1 h
    obtain ⟨z, hz, h⟩ := Option.bind_eq_some_iff.1 h
    split at h
    · cases h
    · obtain ⟨z, hz, h⟩ := Option.map_eq_some_iff.1 h
      cases h; exact absurd rfl (hk _)
  · have h := orBad_call h hk
    split at h
    · cases h
    · exact (withArgs_call h hk).elim
  · have h := orBad_call h hk
    obtain ⟨z, hz, h⟩ := Option.bind_eq_some_iff.1 h
    obtain ⟨z, hz, h⟩ := Option.bind_eq_some_iff.1 h
    obtain ⟨z, hz, h⟩ := Option.bind_eq_some_iff.1 h
    split at h
    · cases h
    · obtain ⟨z, hz, h⟩ := Option.bind_eq_some_iff.1 h
      split at h
      · exact (withArgs_call h hk).elim
      · cases h
  · split at h
    · rename_i c _ b hb
      unfold cBuiltin at h
      split at h
      · cases h; exact .inl rfl
      · exact (withArgs_call (orBad_call h hk) hk).elim
    · rename_i c _ f hf
      obtain ⟨h1, h2⟩ := withArgsB_call (orBad_call h hk)
      exact .inr (.inl ⟨c, f, rfl, hf, h1, h2⟩)
    · rename_i c _ f _ hf
      obtain ⟨h1, h2⟩ := withArgsB_call (orBad_call h hk)
      exact .inr (.inr (.inl ⟨c, f, rfl, hf, h1, h2⟩))
    · rename_i c _ x name hf
      obtain ⟨h1, h2⟩ := withArgsB_call (orBad_call h hk)
      exact .inr (.inr (.inr (.inl ⟨c, x, name, rfl, hf, h1, h2⟩)))
  · split at h
    · rename_i c _ f hf
      obtain ⟨h1, h2⟩ := withArgsB_call (orBad_call h hk)
      exact .inr (.inr (.inr (.inr (.inl ⟨c, f, rfl, hf, h1, h2⟩))))
    · cases h; exact absurd rfl (hk _)
  · rename_i x
    obtain ⟨h1, h2⟩ := withArgsB_call (orBad_call h hk)
    exact .inr (.inr (.inr (.inr (.inr ⟨x, rfl, h1, h2⟩))))

/-! ### what a call comes to -/
def NextOK (P : Program) (r : Option Nat) (w : World) (R : Ending → World → Prop) (x : Next) : Prop :=
  (∃ f cargs, x = .enter f cargs ∧ ∀ n, CallsIn (Fw r) n P f cargs w R) ∨ (∃ l f tmps asg body, x = .round l f tmps asg body ∧ ∀ n, RoundIn (Fw r) n P l f tmps asg body w R)

theorem callF_ok {F : PT FE} {ih : Ev} (hih : EvOK P ih) (hF : FTab P F) {f : FuncId} {args : List AV} {kr : KR} (e : evCall P F ih (Pos.ofNat f) args g kr = true) (h : HR P φ g w) (hg : GlR P φ) {cargs : Array Value} (ha : VRs φ args cargs.toList) {R : Ending → World → Prop} (hk : KrOK P φ g w kr R) (r : Option Nat) :
    ∃ x, (callFunc f cargs).run P w = .ok x w ∧ NextOK P r w R x := by
  obtain ⟨⟨fn, h1, h2, h3⟩, hc⟩ := call_ok hih hF e h hg ha hk
  exact ⟨_, callFunc_run h1 h2 h3 _ _, .inl ⟨f, cargs, rfl, fun n => hc n⟩⟩

theorem fnOf_some {fv : AV} {args : List AV} {k : Pos → List AV → Bool} (e : fnOf fv args k = true) : ∃ f a c, fv = .fn (.func f) a c ∧ k (Pos.ofNat f) (a ++ (args ++ c)) = true := by
  unfold fnOf at e
  split at e
  · rw [app_eq, app_eq] at e; exact ⟨_, _, _, rfl, e⟩
  · cases e

theorem callV_ok {F : PT FE} {ih : Ev} (hih : EvOK P ih) (hF : FTab P F) {fv : AV} {cf : Value} (hf : VR φ fv cf) {args : List AV} {kr : KR} (e : callAny P F ih fv args g kr = true) (h : HR P φ g w) (hg : GlR P φ) {cargs : Array Value} (ha : VRs φ args cargs.toList) {R : Ending → World → Prop} (hk : KrOK P φ g w kr R) (r : Option Nat) :
    ∃ d x, (Deferred.ofValue cf cargs).run P w = .ok d w ∧ (invoke d.target d.args).run P w = .ok x w ∧ NextOK P r w R x := by
  unfold callAny at e
  split at e
  · rename_i l
    obtain ⟨L, hL, rfl⟩ := hf
    obtain ⟨f, tmps, asg, body, h1, h2⟩ := round_ok (F := F) hih hL e h hg ha hk
    refine ⟨{ target := .fn (.yield L.blk) #[], args := cargs }, _, by simp [Deferred.ofValue], ?_, .inr ⟨_, _, _, _, _, rfl, fun n => h2 n r⟩⟩
    simpa [invoke] using h1
  · obtain ⟨f, a, c, rfl, e1⟩ := fnOf_some e
    obtain ⟨_, as, cs, rfl, hva, hvc⟩ := hf
    obtain ⟨x, h1, h2⟩ := callF_ok hih hF (args := a ++ (args ++ c)) e1 h hg (cargs := as.toArray ++ cargs ++ cs.toArray) (by simpa using hva.append (ha.append hvc)) hk r
    refine ⟨{ target := .fn (.func f) cs.toArray, args := as.toArray ++ cargs }, x, by simp [Deferred.ofValue], ?_, h2⟩
    simpa [invoke] using h1

theorem methEv_ok {F : PT FE} {ih : Ev} (hih : EvOK P ih) (hF : FTab P F) {x : AV} {cx : Value} (hx : VR φ x cx) {name : String} {args : List AV} {kr : KR} (e : methEv P x name args (fun f as => evCall P F ih f as g kr) = true) (h : HR P φ g w) (hg : GlR P φ) {cargs : Array Value} (ha : VRs φ args cargs.toList)
    {R : Ending → World → Prop} (hk : KrOK P φ g w kr R) (r : Option Nat) : ∃ x, (callMethod cx name cargs).run P w = .ok x w ∧ NextOK P r w R x := by
  obtain ⟨t, v, rfl, e1⟩ := asIfc_ok e
  clear e
  have e := e1
  clear e1
  obtain ⟨cv, rfl, hv⟩ := hx
  split at e
  · rename_i m hm
    obtain ⟨i, hi, hm⟩ := Option.bind_eq_some_iff.1 hm
    have fin : ∀ {f : FuncId} {pr : Bool} {d : TypeDesc}, m.path.isEmpty = true → m.func = some (f, pr) → P.underlying t = some d → ((∃ el, d = .pointer el ∧ pr = true) ∨ ((∀ el, d ≠ .pointer el) ∧ pr = false)) → evCall P F ih (Pos.ofNat f) (v :: args) g kr = true →
        ∃ x, (callMethod (.iface t cv) name cargs).run P w = .ok x w ∧ NextOK P r w R x := fun {f pr d} h1 h2 h3 h4 e => by
      obtain ⟨x, k1, k2⟩ := callF_ok hih hF e h hg (cargs := #[cv] ++ cargs) (by simpa using VRs.cons hv ha) hk r
      refine ⟨x, ?_, k2⟩
      have hp : m.path = #[] := by simpa using h1
      have hrec : ∀ o, (receiverAt t (.val cv) pr o).run P w = .ok cv w := fun o => by
        rcases h4 with ⟨el, rfl, rfl⟩ | ⟨hd, rfl⟩
        · simp [receiverAt, run_underlying h3, Place.get]
        · simp only [receiverAt, Sem.run_bind, run_underlying h3, Result.andThen_ok]
          simp [Place.get]
      have hmeth : ∀ n, (method (n + 1) t cv name).run P w = .ok (f, cv) w := fun n => by
        simp [method, typeInfo, hi, hm, hp, follow, h2, hrec]
      have hsz : P.types.size + Made.depth = (P.types.size + Made.depth - 1) + 1 := by
        have : 1 ≤ Made.depth := by decide
        omega
      simp only [callMethod, Sem.run_bind, run_program, Result.andThen_ok]
      rw [hsz, hmeth]
      simpa using k1
    split at e
    · rename_i f pr hpath hfn
      split at e
      · rename_i _ hu; exact fin hpath hfn hu (.inl ⟨_, rfl, rfl⟩) e
      · cases e
      · rename_i d hd hu; exact fin hpath hfn hu (.inr ⟨fun el q => hd el q, rfl⟩) e
      · cases e
    · cases e
  · cases e
end
end Go.Lv

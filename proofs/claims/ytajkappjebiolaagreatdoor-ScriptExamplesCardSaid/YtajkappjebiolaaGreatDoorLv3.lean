/-
  The evaluator is right, part 2: operations that only compute. Conditions: those of each theorem.
-/
import Derived.Test.YtajkappjebiolaaGreatDoorLv2
namespace Go.Lv
open Go
section
variable {P : Program} {φ : Emb} {g : G} {w w' : World}

theorem VRs.get {l : List AV} {vs : List Value} (h : VRs φ l vs) : ∀ {i : Nat} {v : AV}, l[i]? = some v → ∃ cv, vs[i]? = some cv ∧ VR φ v cv := by
  induction l generalizing vs with
  | nil => intro i v h; simp at h
  | cons a l ih =>
    intro i v hi
    obtain ⟨c, r, rfl, ha, hl⟩ := h
    cases i with
    | zero => simp at hi; subst hi; exact ⟨c, rfl, ha⟩
    | succ i =>
      obtain ⟨cv, h1, h2⟩ := ih hl (i := i) (by simpa using hi)
      exact ⟨cv, by simpa using h1, h2⟩
theorem VRs.take {l : List AV} {vs : List Value} (h : VRs φ l vs) : ∀ n, VRs φ (l.take n) (vs.take n) := by
  induction l generalizing vs with
  | nil => intro n; obtain rfl : vs = [] := h; simp; rfl
  | cons a l ih =>
    intro n
    obtain ⟨c, r, rfl, ha, hl⟩ := h
    cases n with
    | zero => rfl
    | succ n => exact ⟨c, _, rfl, ha, ih hl n⟩
theorem VRs.drop {l : List AV} {vs : List Value} (h : VRs φ l vs) : ∀ n, VRs φ (l.drop n) (vs.drop n) := by
  induction l generalizing vs with
  | nil => intro n; obtain rfl : vs = [] := h; simp; rfl
  | cons a l ih =>
    intro n
    obtain ⟨c, r, rfl, ha, hl⟩ := h
    cases n with
    | zero => exact ⟨c, _, rfl, ha, hl⟩
    | succ n => exact ih hl n
theorem VRs.append {l l' : List AV} {vs vs' : List Value} (h : VRs φ l vs) (h' : VRs φ l' vs') : VRs φ (l ++ l') (vs ++ vs') := by
  induction l generalizing vs with
  | nil => obtain rfl : vs = [] := h; simpa using h'
  | cons a l ih => obtain ⟨c, r, rfl, ha, hl⟩ := h; exact ⟨c, _, rfl, ha, ih hl⟩

theorem op_mv {kn : KN} {vs : List AV} {cvs : List Value} (hvs : VRs φ vs cvs) (e : opMv vs g kn = true) : ∃ cx, cvs = [cx] ∧ ValOK P φ w (kn g) (pure cx) := by
  obtain ⟨x, rfl, e⟩ := a1_ok e
  obtain ⟨cx, rfl, hx⟩ := hvs.one_inv
  exact ⟨cx, rfl, x, cx, by simp, hx, e⟩

theorem op_pick {kn : KN} {vs : List AV} {cvs : List Value} (hvs : VRs φ vs cvs) (e : opPick vs g kn = true) :
    ∃ c a b, cvs = [c, a, b] ∧ ValOK P φ w (kn g) (do pure (if ← Go.asBool c then a else b)) := by
  obtain ⟨c, x, y, rfl, e⟩ := a3_ok e
  obtain ⟨cc, cx, cy, rfl, hc, hx, hy⟩ := hvs.three_inv
  obtain ⟨t, rfl, e⟩ := asBool_ok e
  obtain rfl : cc = .bool t := hc
  refine ⟨_, _, _, rfl, ?_⟩
  cases t
  · exact ⟨y, cy, by simp [Go.asBool], hy, e⟩
  · exact ⟨x, cx, by simp [Go.asBool], hx, e⟩

theorem notNil_ok {v : AV} {c : Value} (h : notNil v = true) (hv : VR φ v c) : (∃ a, c = .pointer (some a)) ∨ (∃ a l n, c = .slice (some a) l n) ∨ (∃ i as cs, c = .func (.func i) as cs) ∨ (∃ t x, c = .iface t x) := by
  cases v <;> first | (cases h; done) | skip
  · obtain ⟨L, _, rfl⟩ := hv; exact .inl ⟨_, rfl⟩
  · obtain ⟨L, _, rfl⟩ := hv; exact .inr (.inl ⟨_, _, _, rfl⟩)
  · obtain ⟨L, _, _, _, a, rfl, _⟩ := hv; exact .inr (.inl ⟨_, _, _, rfl⟩)
  · rename_i f a c
    obtain ⟨hy, as, cs, rfl, _⟩ := hv
    have h : fnPlain f = true := h
    cases f <;> first | (cases h; done) | exact .inr (.inr (.inl ⟨_, _, _, rfl⟩))
  · obtain ⟨y, rfl, _⟩ := hv; exact .inr (.inr (.inr ⟨_, _, rfl⟩))

theorem op_mkIfc {t : TypeId} (ht : ∃ d, P.underlying t = some d ∧ ∀ ms, d ≠ .interface ms) {kn : KN} {vs : List AV} {cvs : List Value} (hvs : VRs φ vs cvs) (e : opMkIfc t vs g kn = true) :
    ∃ cx, cvs = [cx] ∧ ValOK P φ w (kn g) (Instr.makeInterface t cx) := by
  obtain ⟨x, rfl, e⟩ := a1_ok e
  obtain ⟨cx, rfl, hx⟩ := hvs.one_inv
  obtain ⟨d, hd, hn⟩ := ht
  refine ⟨cx, rfl, .ifc t x, .iface t cx, ?_, ⟨cx, rfl, hx⟩, e⟩
  simp only [Instr.makeInterface, Sem.run_bind, run_underlying hd, Result.andThen_ok]
  cases d <;> first | rfl | exact absurd rfl (hn _)

theorem op_extract {i : Nat} {kn : KN} {vs : List AV} {cvs : List Value} (hvs : VRs φ vs cvs) (e : opExtract i vs g kn = true) :
    ∃ cx, cvs = [cx] ∧ ValOK P φ w (kn g) (Instr.extract cx i) := by
  obtain ⟨x, rfl, e⟩ := a1_ok e
  obtain ⟨cx, rfl, hx⟩ := hvs.one_inv
  obtain ⟨l, rfl, e⟩ := asTup_ok e
  obtain ⟨v, hv, e⟩ := opt_some e
  obtain ⟨vs, rfl, hl⟩ := hx
  rw [nth_eq] at hv
  obtain ⟨cv, h1, h2⟩ := hl.get hv
  exact ⟨_, rfl, v, cv, by simp [Instr.extract, h1], h2, e⟩

theorem op_mkFn {f : Fn} (hf : ∀ l, f ≠ .yield l) {n : Nat} {kn : KN} {vs : List AV} {cvs : List Value} (hvs : VRs φ vs cvs) (e : opMkFn f n vs g kn = true) :
    ValOK P φ w (kn g) (Instr.makeFunc f (cvs.take n).toArray (cvs.drop n).toArray) := by
  have e : kn g (.fn f (takeN vs n) (dropN vs n)) = true := e
  rw [takeN_eq, dropN_eq] at e
  exact ⟨.fn f _ _, _, rfl, ⟨hf, _, _, rfl, hvs.take n, hvs.drop n⟩, e⟩

theorem op_fAddr {t : TypeId} {i : Nat} {fs : Array Field} {f : Field} {n : Nat} (ht : P.underlying t = some (.struct fs)) (hf : fs[i]? = some f) (hn : sizeT P f.type = some n) (h0 : n ≠ 0)
    {kn : KN} {vs : List AV} {cvs : List Value} (hvs : VRs φ vs cvs) (e : opFAddr f.offset vs g kn = true) : ∃ cx, cvs = [cx] ∧ ValOK P φ w (kn g) (Instr.fieldAt t cx i) := by
  obtain ⟨x, rfl, e⟩ := a1_ok e
  obtain ⟨cx, rfl, hx⟩ := hvs.one_inv
  obtain ⟨b, o, rfl, e⟩ := asPtr_ok e
  obtain ⟨L, hL, rfl⟩ := hx
  refine ⟨_, rfl, .ptr b (o + f.offset), .pointer (some (L.addr (o + f.offset))), ?_, ⟨L, hL, rfl⟩, e⟩
  simp [Instr.fieldAt, run_underlying ht, hf, Instr.sureAddr, fieldPlace, run_sizeOf' hn, h0, addr_add]

theorem part_one {t : TypeId} (h : aggT P t = some none) (hd : (P.underlying t).isSome = true) {cs : Array Value} {o : Nat} {v : Value} (hc : cs[o]? = some v) : (part t cs o).run P w = .ok v w := by
  simp [part, run_isAgg' hd, aggT_none h, hc]
theorem part_agg {t : TypeId} {n : Nat} (h : aggT P t = some (some n)) {cs : Array Value} {o : Nat} : (part t cs o).run P w = .ok (.agg (cs.extract o (o + n))) w := by
  obtain ⟨h1, h2⟩ := aggT_some h
  simp [part, run_isAgg' (isAggT_under h1), h1, run_sizeOf' h2]

/-- a part of an aggregate -/
theorem part_ok {t : TypeId} {a : Option Nat} (ht : aggT P t = some a) (hd : (P.underlying t).isSome = true) {l : List AV} {vs : List Value} (hl : VRs φ l vs) (ho : ∀ x ∈ l, x.one = true) {off : Nat} {kv : AV → Bool}
    (e : opt a (opt (nth l off) false kv) (fun n => kv (.agg (takeN (dropN l off) n))) = true) : ValOK P φ w kv (part t vs.toArray off) := by
  cases a with
  | none =>
    obtain ⟨v, hv, e⟩ := opt_some e
    rw [nth_eq] at hv
    obtain ⟨cv, h1, h2⟩ := hl.get hv
    exact ⟨v, cv, part_one ht hd (by simpa using h1), h2, e⟩
  | some n =>
    have e : kv (.agg (takeN (dropN l off) n)) = true := e
    rw [takeN_eq, dropN_eq] at e
    refine ⟨.agg _, _, part_agg ht, ⟨(vs.drop off).take n, ?_, (hl.drop off).take n, fun x hx => ho x (List.mem_of_mem_drop (List.mem_of_mem_take hx))⟩, e⟩
    simp [List.extract_toArray, List.extract_eq_take_drop]

theorem op_fld {t : TypeId} {i : Nat} {fs : Array Field} {f : Field} {a : Option Nat} (ht : P.underlying t = some (.struct fs)) (hf : fs[i]? = some f) (ha : aggT P f.type = some a) (hd : (P.underlying f.type).isSome = true)
    {kn : KN} {vs : List AV} {cvs : List Value} (hvs : VRs φ vs cvs) (e : opFld f.offset a vs g kn = true) : ∃ cx, cvs = [cx] ∧ ValOK P φ w (kn g) (Instr.field t cx i) := by
  obtain ⟨x, rfl, e⟩ := a1_ok e
  obtain ⟨cx, rfl, hx⟩ := hvs.one_inv
  obtain ⟨l, rfl, e⟩ := asAgg_ok e
  obtain ⟨vs, rfl, hl, ho⟩ := hx
  obtain ⟨v, cv, h1, h2, h3⟩ := part_ok (w := w) ha hd hl ho e
  exact ⟨_, rfl, v, cv, by simp [Instr.field, run_underlying ht, hf, Go.asAgg, h1], h2, h3⟩

theorem op_iAddr_slice {t el : TypeId} {n : Nat} (ht : P.underlying t = some (.slice el)) (hn : sizeT P el = some n)
    {kn : KN} {vs : List AV} {cvs : List Value} (hvs : VRs φ vs cvs) (e : opIAddr none n vs g kn = true) : ∃ cx ci, cvs = [cx, ci] ∧ ValOK P φ w (kn g) (Instr.indexAt t cx ci) := by
  obtain ⟨x, y, rfl, e⟩ := a2_ok e
  obtain ⟨cx, ci, rfl, hx, hi⟩ := hvs.two_inv
  obtain ⟨k, i, rfl, e⟩ := asNat_ok e
  obtain rfl : ci = .int k (.ofNat i) := hi
  refine ⟨_, _, rfl, ?_⟩
  rcases asSl_ok e with ⟨b, o, l, c, rfl, e⟩ | ⟨b, o, l, d, es, rfl, e⟩
  · obtain ⟨e1, e2⟩ := bif_and e
    have e1 : i < l := by have := e1; simp [Nat.blt] at this; omega
    obtain ⟨L, hL, rfl⟩ := hx
    refine ⟨.ptr b (o + i * n), .pointer (some (L.addr (o + i * n))), ?_, ⟨L, hL, rfl⟩, e2⟩
    simp [Instr.indexAt, asIntOf, run_underlying ht, run_sizeOf' hn, e1, addr_add]
  · obtain ⟨e1, e2⟩ := bif_and e
    have e1 : i < l := by have := e1; simp [Nat.blt] at this; omega
    obtain ⟨L, hL, h1, h2, a, rfl, ha⟩ := hx
    obtain rfl := ha (by omega)
    refine ⟨.ptr b (o + i * n), .pointer (some (L.addr (o + i * n))), ?_, ⟨L, hL, rfl⟩, e2⟩
    simp [Instr.indexAt, asIntOf, run_underlying ht, run_sizeOf' hn, e1, addr_add]

theorem op_iAddr_array {t el : TypeId} {n m : Nat} (ht : P.underlying t = some (.array m el)) (hn : sizeT P el = some n)
    {kn : KN} {vs : List AV} {cvs : List Value} (hvs : VRs φ vs cvs) (e : opIAddr (some m) n vs g kn = true) : ∃ cx ci, cvs = [cx, ci] ∧ ValOK P φ w (kn g) (Instr.indexAt t cx ci) := by
  obtain ⟨x, y, rfl, e⟩ := a2_ok e
  obtain ⟨cx, ci, rfl, hx, hi⟩ := hvs.two_inv
  obtain ⟨k, i, rfl, e⟩ := asNat_ok e
  obtain rfl : ci = .int k (.ofNat i) := hi
  obtain ⟨b, o, rfl, e⟩ := asPtr_ok e
  obtain ⟨e1, e2⟩ := bif_and e
  have e1 : i < m := by have := e1; simp [Nat.blt] at this; omega
  obtain ⟨L, hL, rfl⟩ := hx
  refine ⟨_, _, rfl, .ptr b (o + i * n), .pointer (some (L.addr (o + i * n))), ?_, ⟨L, hL, rfl⟩, e2⟩
  simp [Instr.indexAt, asIntOf, run_underlying ht, run_sizeOf' hn, e1, addr_add, Instr.sureAddr]

theorem op_idx_array {t el : TypeId} {n m : Nat} {a : Option Nat} (ht : P.underlying t = some (.array m el)) (hn : sizeT P el = some n) (ha : aggT P el = some a) (hd : (P.underlying el).isSome = true)
    {kn : KN} {vs : List AV} {cvs : List Value} (hvs : VRs φ vs cvs) (e : opIdx (some (m, n, a)) vs g kn = true) : ∃ cx ci, cvs = [cx, ci] ∧ ValOK P φ w (kn g) (Instr.index t cx ci) := by
  obtain ⟨x, y, rfl, e⟩ := a2_ok e
  obtain ⟨cx, ci, rfl, hx, hi⟩ := hvs.two_inv
  obtain ⟨k, i, rfl, e⟩ := asNat_ok e
  obtain rfl : ci = .int k (.ofNat i) := hi
  obtain ⟨l, rfl, e⟩ := asAgg_ok e
  obtain ⟨e1, e2⟩ := bif_and e
  have e1 : i < m := by have := e1; simp [Nat.blt] at this; omega
  obtain ⟨vs, rfl, hl, ho⟩ := hx
  obtain ⟨v, cv, h1, h2, h3⟩ := part_ok (w := w) ha hd hl ho e2
  refine ⟨_, _, rfl, v, cv, ?_, h2, h3⟩
  have h1' : Sem.run P (part el vs.toArray (i * n)) w = .ok cv w := h1
  simp [Instr.index, asIntOf, run_underlying ht, run_sizeOf' hn, e1, h1']

theorem op_idx_string {t : TypeId} (ht : P.underlying t = some .string)
    {kn : KN} {vs : List AV} {cvs : List Value} (hvs : VRs φ vs cvs) (e : opIdx none vs g kn = true) : ∃ cx ci, cvs = [cx, ci] ∧ ValOK P φ w (kn g) (Instr.index t cx ci) := by
  obtain ⟨x, y, rfl, e⟩ := a2_ok e
  obtain ⟨cx, ci, rfl, hx, hi⟩ := hvs.two_inv
  obtain ⟨k, i, rfl, e⟩ := asNat_ok e
  obtain rfl : ci = .int k (.ofNat i) := hi
  obtain ⟨l, rfl, e⟩ := asStr_ok e
  obtain ⟨b, hb, e⟩ := opt_some e
  obtain ⟨s, rfl, rfl⟩ := hx
  rw [nth_eq] at hb
  simp only [List.getElem?_map, Option.map_eq_some_iff, Array.getElem?_toList] at hb
  obtain ⟨c, hc, rfl⟩ := hb
  have hs : s[i]? = some c := by
    obtain ⟨h1, h2⟩ := Array.getElem?_eq_some_iff.1 hc
    have h1' : i < s.size := h1
    rw [getElem?_pos s i h1']
    exact congrArg some h2
  exact ⟨_, _, rfl, .int .u8 (.ofNat c.toNat), .int .u8 (c.toNat : Int), by simp [Instr.index, asIntOf, run_underlying ht, hs], rfl, e⟩
end
end Go.Lv

namespace Go.Lv
open Go
section
variable {P : Program} {φ : Emb} {g : G} {w w' : World}

theorem natOf_ok {a : AV} {n : Nat} {c : Value} (h : natOf a = some n) (hv : VR φ a c) : ∃ k, c = .int k (.ofNat n) := by
  unfold natOf at h
  split at h
  · cases h; exact ⟨_, hv⟩
  · cases h
theorem sliceBound_run {k : IntKind} {n y : Nat} (h : n ≤ y) (code : BoundsCode) : (Instr.sliceBound (.int k (n : Int)) y code).run P w = .ok n w := by
  simp [Instr.sliceBound, asIntOf, h]

theorem VRs.inv0 {vs : List AV} (h : VRs φ vs []) : vs = [] := by
  cases vs with
  | nil => rfl
  | cons a l => obtain ⟨_, _, e, _⟩ := h; cases e
theorem VRs.inv1 {vs : List AV} {c : Value} (h : VRs φ vs [c]) : ∃ a, vs = [a] ∧ VR φ a c := by
  cases vs with
  | nil => cases h
  | cons a l => obtain ⟨_, _, e, h1, h2⟩ := h; cases e; obtain rfl := h2.inv0; exact ⟨a, rfl, h1⟩
theorem VRs.inv2 {vs : List AV} {c d : Value} (h : VRs φ vs [c, d]) : ∃ a b, vs = [a, b] ∧ VR φ a c ∧ VR φ b d := by
  cases vs with
  | nil => cases h
  | cons a l => obtain ⟨_, _, e, h1, h2⟩ := h; cases e; obtain ⟨b, rfl, h3⟩ := h2.inv1; exact ⟨a, b, rfl, h1, h3⟩
theorem VRs.inv3 {vs : List AV} {c d f : Value} (h : VRs φ vs [c, d, f]) : ∃ x y z, vs = [x, y, z] ∧ VR φ x c ∧ VR φ y d ∧ VR φ z f := by
  cases vs with
  | nil => cases h
  | cons a l => obtain ⟨_, _, e, h1, h2⟩ := h; cases e; obtain ⟨b, c', rfl, h3, h4⟩ := h2.inv2; exact ⟨a, b, c', rfl, h1, h3, h4⟩

/-- the bounds of a slice expression -/
theorem bounds3_ok {lo hi mx : Option Value} {vs : List AV} {len cap m₀ l h m : Nat} (hvs : VRs φ vs (lo.toList ++ hi.toList ++ mx.toList)) (e : bounds3 lo.isSome hi.isSome mx.isSome 0 len m₀ vs = some (l, h, m))
    (isS : Bool) (h1 : mx.isSome = true → m ≤ cap ∧ h ≤ m) (h2 : h ≤ cap) (h3 : l ≤ h) : (Instr.sliceBounds isS len cap lo hi mx).run P w = .ok (l, h, if mx.isSome then m else cap) w := by
  have n1 : ∀ {b : AV} {c : Value} {f : Nat → Option (Nat × Nat × Nat)} {r : Nat × Nat × Nat}, VR φ b c → (natOf b).bind f = some r → ∃ k n, c = .int k (.ofNat n) ∧ f n = some r := by
    intro b c f r hb he
    cases hn : natOf b with
    | none => rw [hn] at he; cases he
    | some n => rw [hn] at he; obtain ⟨k, rfl⟩ := natOf_ok hn hb; exact ⟨k, n, rfl, he⟩
  have n2 : ∀ {b : AV} {c : Value} {f : Nat → Nat × Nat × Nat} {r : Nat × Nat × Nat}, VR φ b c → (natOf b).map f = some r → ∃ k n, c = .int k (.ofNat n) ∧ f n = r := by
    intro b c f r hb he
    cases hn : natOf b with
    | none => rw [hn] at he; cases he
    | some n => rw [hn] at he; obtain ⟨k, rfl⟩ := natOf_ok hn hb; exact ⟨k, n, rfl, by simpa using he⟩
  cases lo with
  | none =>
    cases hi with
    | none =>
      cases mx with
      | none =>
        obtain rfl := VRs.inv0 hvs
        have e : some (0, len, m₀) = some (l, h, m) := e
        simp at e; obtain ⟨rfl, rfl, rfl⟩ := e
        simp [Instr.sliceBounds]
      | some c =>
        obtain ⟨a, rfl, ha⟩ := VRs.inv1 hvs
        cases e
    | some b =>
      cases mx with
      | none =>
        obtain ⟨a, rfl, ha⟩ := VRs.inv1 hvs
        obtain ⟨k, n, hk, e1⟩ := n2 ha (show (natOf a).map (fun b => (0, b, m₀)) = some (l, h, m) from e)
        subst hk; simp at e1; obtain ⟨rfl, rfl, rfl⟩ := e1
        cases isS <;> simp [Instr.sliceBounds, sliceBound_run h2]
      | some c =>
        obtain ⟨a, a', rfl, ha, ha'⟩ := VRs.inv2 hvs
        obtain ⟨k, n, hk, e1⟩ := n1 ha (show (natOf a).bind (fun b => (natOf a').map fun c => (0, b, c)) = some (l, h, m) from e)
        obtain ⟨k', n', hk', e2⟩ := n2 ha' e1
        subst hk; subst hk'; simp at e2; obtain ⟨rfl, rfl, rfl⟩ := e2
        obtain ⟨q1, q2⟩ := h1 rfl
        cases isS <;> simp [Instr.sliceBounds, sliceBound_run q1, sliceBound_run q2]
  | some x =>
    cases hi with
    | none =>
      cases mx with
      | none =>
        obtain ⟨a, rfl, ha⟩ := VRs.inv1 hvs
        obtain ⟨k, n, hk, e1⟩ := n2 ha (show (natOf a).map (fun a => (a, len, m₀)) = some (l, h, m) from e)
        subst hk; simp at e1; obtain ⟨rfl, rfl, rfl⟩ := e1
        cases isS <;> simp [Instr.sliceBounds, sliceBound_run h3]
      | some c =>
        obtain ⟨a, a', rfl, ha, ha'⟩ := VRs.inv2 hvs
        cases e
    | some b =>
      cases mx with
      | none =>
        obtain ⟨a, a', rfl, ha, ha'⟩ := VRs.inv2 hvs
        obtain ⟨k, n, hk, e1⟩ := n1 ha (show (natOf a).bind (fun a => (natOf a').map fun b => (a, b, m₀)) = some (l, h, m) from e)
        obtain ⟨k', n', hk', e2⟩ := n2 ha' e1
        subst hk; subst hk'; simp at e2; obtain ⟨rfl, rfl, rfl⟩ := e2
        cases isS <;> simp [Instr.sliceBounds, sliceBound_run h2, sliceBound_run h3]
      | some c =>
        obtain ⟨a, a', a'', rfl, ha, ha', ha''⟩ := VRs.inv3 hvs
        obtain ⟨k, n, hk, e1⟩ := n1 ha (show (natOf a).bind (fun a => (natOf a').bind fun b => (natOf a'').map fun c => (a, b, c)) = some (l, h, m) from e)
        obtain ⟨k', n', hk', e2⟩ := n1 ha' e1
        obtain ⟨k'', n'', hk'', e3⟩ := n2 ha'' e2
        subst hk; subst hk'; subst hk''; simp at e3; obtain ⟨rfl, rfl, rfl⟩ := e3
        obtain ⟨q1, q2⟩ := h1 rfl
        cases isS <;> simp [Instr.sliceBounds, sliceBound_run q1, sliceBound_run q2, sliceBound_run h3]

/-- without a third bound the third number is the default -/
theorem bounds3_nomax {lo hi : Bool} {vs : List AV} {l₀ h₀ m₀ l h m : Nat} (e : bounds3 lo hi false l₀ h₀ m₀ vs = some (l, h, m)) : m = m₀ := by
  have o1 : ∀ {o : Option Nat} {f : Nat → Nat × Nat × Nat}, (∀ n, (f n).2.2 = m₀) → o.map f = some (l, h, m) → m = m₀ := by
    intro o f hf ho
    cases o with
    | none => cases ho
    | some n => have := hf n; simp at ho; rw [ho] at this; exact this
  have o2 : ∀ {o : Option Nat} {f : Nat → Option (Nat × Nat × Nat)}, (∀ n, f n = some (l, h, m) → m = m₀) → o.bind f = some (l, h, m) → m = m₀ := by
    intro o f hf ho
    cases o with
    | none => cases ho
    | some n => exact hf n ho
  unfold bounds3 at e
  split at e
  · simp at e; exact e.2.2.symm
  · exact o1 (fun _ => rfl) e
  · exact o1 (fun _ => rfl) e
  · refine o2 (fun n hn => ?_) e
    exact o1 (fun _ => rfl) hn
  · rename_i h1; cases h1
  · rename_i h1; cases h1
  · cases e

theorem size_of_bytes {s : ByteArray} {l : List Nat} (h : s.data.toList.map (·.toNat) = l) : s.size = l.length := by
  rw [← h]; simp

theorem op_sslice {t : TypeId} (ht : P.underlying t = some .string) {lo hi : Option Value} {cx : Value} {kn : KN} {vs : List AV} (hvs : VRs φ vs (cx :: (lo.toList ++ hi.toList)))
    (e : opSslice lo.isSome hi.isSome vs g kn = true) : ValOK P φ w (kn g) (Instr.sliceAt t cx lo hi none) := by
  obtain ⟨x, r, rfl, e⟩ := aC_ok e
  obtain ⟨c, cr, hc, hx, hr⟩ := hvs
  simp only [List.cons.injEq] at hc
  obtain ⟨rfl, rfl⟩ := hc
  obtain ⟨s, rfl, e⟩ := asStr_ok e
  obtain ⟨⟨l, h, m⟩, hb, e'⟩ := opt_some e
  obtain ⟨e1, e2⟩ := bif_and e'
  obtain ⟨e3, e4⟩ := bif_and e2
  have e1 := Nat.le_of_ble_eq_true e1
  have e3 := Nat.le_of_ble_eq_true e3
  simp only [len_eq] at e1 hb
  obtain ⟨t', rfl, hs⟩ := hx
  have hsz := size_of_bytes hs
  have hbb := bounds3_ok (P := P) (w := w) (lo := lo) (hi := hi) (mx := none) (len := t'.size) (cap := t'.size) (by simpa using hr) (by rw [hsz]; exact hb) false (fun h => by cases h) (by rw [hsz]; exact e1) e3
  refine ⟨.str ((s.take h).drop l), .string (t'.extract l h), ?_, ⟨_, rfl, ?_⟩, by rw [takeN_eq, dropN_eq] at e4; exact e4⟩
  · simp [Instr.sliceAt, Instr.slice, run_underlying ht, hbb]
  · subst hs
    rw [← List.map_take, ← List.map_drop, ByteArray.data_extract, Array.toList_extract, List.extract_eq_take_drop]
    congr 1
    rw [List.drop_take]

theorem op_slice_slice {t el : TypeId} {n : Nat} (ht : P.underlying t = some (.slice el)) (hn : sizeT P el = some n) {lo hi mx : Option Value} {cx : Value} {kn : KN} {vs : List AV}
    (hvs : VRs φ vs (cx :: (lo.toList ++ hi.toList ++ mx.toList))) (e : opSlice none n lo.isSome hi.isSome mx.isSome vs g kn = true) : ValOK P φ w (kn g) (Instr.sliceAt t cx lo hi mx) := by
  obtain ⟨x, r, rfl, e0⟩ := aC_ok e
  obtain ⟨c, cr, hc, hx, hr⟩ := hvs
  simp only [List.cons.injEq] at hc
  obtain ⟨rfl, rfl⟩ := hc
  have e1 : sliceV none n lo.isSome hi.isSome mx.isSome x r (kn g) = true := e0
  clear e e0
  have bnd : ∀ {len cap m₀ : Nat} {f : Nat → Nat → Nat → Bool}, (match bounds3 lo.isSome hi.isSome mx.isSome 0 len m₀ r with | some (l, h, m) => f l h m | none => false) = true →
      ∃ l h m, bounds3 lo.isSome hi.isSome mx.isSome 0 len m₀ r = some (l, h, m) ∧ f l h m = true := by
    intro len cap m₀ f h
    split at h
    · exact ⟨_, _, _, by assumption, h⟩
    · cases h
  cases x <;> first | (cases e1; done) | skip
  · -- an exact slice
    rename_i b off len cap
    obtain ⟨L, hL, rfl⟩ := hx
    obtain ⟨l, h, m, hb, e2⟩ := bnd (cap := 0) e1
    obtain ⟨e3, e4⟩ := bif_and e2
    simp only [Bool.and_eq_true] at e3
    obtain ⟨⟨e5, e6⟩, e7⟩ := e3
    have e5 := Nat.le_of_ble_eq_true e5
    have e6 := Nat.le_of_ble_eq_true e6
    have e7 := Nat.le_of_ble_eq_true e7
    have hbb := bounds3_ok (P := P) (w := w) (cap := cap) hr hb true (fun _ => ⟨e5, e6⟩) (by omega) e7
    have hm : (if mx.isSome = true then m else cap) = m := by
      cases hmx : mx.isSome with
      | true => rfl
      | false => rw [hmx] at hb; exact (bounds3_nomax hb).symm
    rw [hm] at hbb
    refine ⟨.sl b (if m = l then off else off + l * n) (h - l) (m - l), .slice (some (L.addr (if m = l then off else off + l * n))) (h - l) (m - l), ?_, ⟨L, hL, rfl⟩, ?_⟩
    · simp [Instr.sliceAt, Instr.slice, run_underlying ht, hbb, run_sizeOf' hn]
      split <;> simp [addr_add]
    · cases hml : Nat.beq m l with
      | true => rw [if_pos (Nat.eq_of_beq_eq_true hml)]; rw [hml] at e4; exact e4
      | false => rw [if_neg (Nat.ne_of_beq_eq_false hml)]; rw [hml] at e4; exact e4
  · -- one whose capacity is not known
    rename_i b off len d es
    obtain ⟨L, hL, k1, k2, a, rfl, k3⟩ := hx
    obtain ⟨l, h, m, hb, e2⟩ := bnd (cap := 0) e1
    obtain ⟨e3, e4⟩ := bif_and e2
    simp only [Bool.and_eq_true] at e3
    obtain ⟨⟨⟨e5, e6⟩, e7⟩, e8⟩ := e3
    have e5 := Nat.le_of_ble_eq_true e5
    have e6 := Nat.le_of_ble_eq_true e6
    have e7 := Nat.le_of_ble_eq_true e7
    obtain rfl := Nat.eq_of_beq_eq_true e8
    have hbb := bounds3_ok (P := P) (w := w) (cap := L.cap - d) hr hb true (fun _ => ⟨by omega, e6⟩) (by omega) e7
    cases hmx : mx.isSome with
    | true =>
      rw [hmx, if_pos rfl] at hbb
      rw [hmx] at e4
      obtain ⟨e9, e10⟩ := bif_and (show bif' (Nat.ble 1 m) (kn g (.sl b (bif' (Nat.beq m l) off (off + l * es)) (h - l) (m - l))) false = true from e4)
      have e9 := Nat.le_of_ble_eq_true e9
      obtain rfl := k3 (by omega)
      refine ⟨.sl b (if m = l then off else off + l * es) (h - l) (m - l), .slice (some (L.addr (if m = l then off else off + l * es))) (h - l) (m - l), ?_, ⟨L, hL, rfl⟩, ?_⟩
      · simp [Instr.sliceAt, Instr.slice, run_underlying ht, hbb, run_sizeOf' hn]
        split <;> simp [addr_add]
      · cases hml : Nat.beq m l with
        | true => rw [if_pos (Nat.eq_of_beq_eq_true hml)]; rw [hml] at e10; exact e10
        | false => rw [if_neg (Nat.ne_of_beq_eq_false hml)]; rw [hml] at e10; exact e10
    | false =>
      rw [hmx] at hbb e4
      simp only [Bool.false_eq_true, if_false] at hbb
      have e4 : kn g (.gsl b (off + l * es) (h - l) (d + l) es) = true := e4
      refine ⟨.gsl b (off + l * es) (h - l) (d + l) es, .slice (some (if L.cap - d = l then a else a.add (l * es))) (h - l) (L.cap - d - l), ?_, ⟨L, hL, by omega, ?_, _, by rw [Nat.sub_sub], fun hp => ?_⟩, e4⟩
      · simp [Instr.sliceAt, Instr.slice, run_underlying ht, hbb, run_sizeOf' hn]
        split <;> rfl
      · rw [← k2, Nat.add_assoc, ← Nat.add_mul]; congr 2; omega
      · rw [if_neg (by omega), k3 (by omega), addr_add]
  · -- nil
    obtain rfl : cx = .slice none 0 0 := hx
    obtain ⟨l, h, m, hb, e2⟩ := bnd (cap := 0) e1
    obtain ⟨e3, e4⟩ := bif_and e2
    simp only [Bool.and_eq_true] at e3
    obtain ⟨⟨e5, e6⟩, e7⟩ := e3
    obtain rfl := Nat.eq_of_beq_eq_true e5
    obtain rfl := Nat.eq_of_beq_eq_true e6
    obtain rfl := Nat.eq_of_beq_eq_true e7
    have hbb := bounds3_ok (P := P) (w := w) (cap := 0) hr hb true (fun _ => ⟨Nat.le_refl _, Nat.le_refl _⟩) (Nat.le_refl _) (Nat.le_refl _)
    refine ⟨.nils, .slice none 0 0, ?_, rfl, e4⟩
    simp [Instr.sliceAt, Instr.slice, run_underlying ht, hbb, run_sizeOf' hn]

theorem op_slice_array {t el : TypeId} {n k : Nat} (ht : P.underlying t = some (.array k el)) (hn : sizeT P el = some n) {lo hi mx : Option Value} {cx : Value} {kn : KN} {vs : List AV}
    (hvs : VRs φ vs (cx :: (lo.toList ++ hi.toList ++ mx.toList))) (e : opSlice (some k) n lo.isSome hi.isSome mx.isSome vs g kn = true) : ValOK P φ w (kn g) (Instr.sliceAt t cx lo hi mx) := by
  obtain ⟨x, r, rfl, e0⟩ := aC_ok e
  obtain ⟨c, cr, hc, hx, hr⟩ := hvs
  simp only [List.cons.injEq] at hc
  obtain ⟨rfl, rfl⟩ := hc
  have e1 : sliceV (some k) n lo.isSome hi.isSome mx.isSome x r (kn g) = true := e0
  clear e e0
  have bnd : ∀ {len m₀ : Nat} {f : Nat → Nat → Nat → Bool}, (match bounds3 lo.isSome hi.isSome mx.isSome 0 len m₀ r with | some (l, h, m) => f l h m | none => false) = true →
      ∃ l h m, bounds3 lo.isSome hi.isSome mx.isSome 0 len m₀ r = some (l, h, m) ∧ f l h m = true := by
    intro len m₀ f h
    split at h
    · exact ⟨_, _, _, by assumption, h⟩
    · cases h
  cases x <;> first | (cases e1; done) | skip
  rename_i b off
  obtain ⟨L, hL, rfl⟩ := hx
  obtain ⟨l, h, m, hb, e2⟩ := bnd e1
  obtain ⟨e3, e4⟩ := bif_and e2
  simp only [Bool.and_eq_true] at e3
  obtain ⟨⟨e5, e6⟩, e7⟩ := e3
  have e5 := Nat.le_of_ble_eq_true e5
  have e6 := Nat.le_of_ble_eq_true e6
  have e7 := Nat.le_of_ble_eq_true e7
  have hbb := bounds3_ok (P := P) (w := w) (cap := k) hr hb false (fun _ => ⟨e5, e6⟩) (by omega) e7
  have hm : (if mx.isSome = true then m else k) = m := by
    cases hmx : mx.isSome with
    | true => rfl
    | false => rw [hmx] at hb; exact (bounds3_nomax hb).symm
  rw [hm] at hbb
  refine ⟨.sl b (if m = l then off else off + l * n) (h - l) (m - l), .slice (some (L.addr (if m = l then off else off + l * n))) (h - l) (m - l), ?_, ⟨L, hL, rfl⟩, ?_⟩
  · simp [Instr.sliceAt, run_underlying ht, hbb, run_sizeOf' hn, Instr.sureAddr]
    split <;> simp [addr_add]
  · cases hml : Nat.beq m l with
    | true => rw [if_pos (Nat.eq_of_beq_eq_true hml)]; rw [hml] at e4; exact e4
    | false => rw [if_neg (Nat.ne_of_beq_eq_false hml)]; rw [hml] at e4; exact e4
end
end Go.Lv

namespace Go.Lv
open Go
section
variable {P : Program} {φ : Emb} {g : G} {w w' : World}

/-! ### constants -/
theorem ofValueF_ok : ∀ {f : Nat} {v : Value} {a : AV}, ofValueF f v = some a → VR φ a v := by
  intro f
  induction f with
  | zero => intro v a h; cases h
  | succ f ih =>
    have lst : ∀ {l : List Value} {r : List AV}, l.mapM (ofValueF f) = some r → VRs φ r l := by
      intro l
      induction l with
      | nil => intro r h; simp at h; subst h; rfl
      | cons x l ihl =>
        intro r h
        simp only [List.mapM_cons, Option.pure_def, Option.bind_eq_bind, Option.bind_eq_some_iff] at h
        obtain ⟨y, hy, z, hz, he⟩ := h
        simp at he; subst he
        exact ⟨x, l, rfl, ih hy, ihl hz⟩
    intro v a h
    unfold ofValueF at h
    split at h
    · cases h; rfl
    · cases h; rfl
    · cases h; exact ⟨_, rfl, rfl⟩
    · cases h; rfl
    · cases h; rfl
    · cases h; rfl
    · split at h
      · cases h
      · rename_i hy
        split at h
        · rename_i he
          simp at he
          cases h
          refine ⟨hy, [], [], ?_, rfl, rfl⟩
          rw [he.1, he.2]
        · cases h
    · cases h; rfl
    · rename_i t x
      cases hx : ofValueF f x with
      | none => rw [hx] at h; cases h
      | some y => rw [hx] at h; simp at h; subst h; exact ⟨x, rfl, ih hx⟩
    · cases h; rfl
    · rename_i cs
      cases hx : cs.toList.mapM (ofValueF f) with
      | none => rw [hx] at h; cases h
      | some r =>
        rw [hx] at h
        simp only [Option.bind_some] at h
        split at h
        · rename_i ho; cases h; exact ⟨cs.toList, by simp, lst hx, by simpa using ho⟩
        · cases h
    · rename_i cs
      cases hx : cs.toList.mapM (ofValueF f) with
      | none => rw [hx] at h; cases h
      | some r => rw [hx] at h; simp at h; subst h; exact ⟨cs.toList, by simp, lst hx⟩
    · cases h
theorem ofValue_ok {v : Value} {a : AV} (h : ofValue v = some a) : VR φ a v := ofValueF_ok h

theorem zeroT_ok {t : TypeId} {z : AV} (h : zeroT P t = some z) : ∃ zv, (∀ w, (zeroValue t).run P w = .ok zv w) ∧ VR φ z zv := by
  unfold zeroT at h
  cases hi : P.info? t with
  | none => rw [hi] at h; cases h
  | some i =>
    rw [hi] at h
    simp only [Option.bind_some] at h
    cases hz : i.zero with
    | none => rw [hz] at h; cases h
    | some zv => rw [hz] at h; exact ⟨zv, fun w => by simp [zeroValue, typeInfo, hi, hz], ofValue_ok h⟩

theorem op_asrt {x t : TypeId} {d : TypeDesc} (ht : P.underlying t = some d) (hd : ∀ ms, d ≠ .interface ms) {z : AV} (hz : zeroT P t = some z) {ok : Bool} {kn : KN} {vs : List AV} {cvs : List Value} (hvs : VRs φ vs cvs)
    (e : opAsrt t z ok vs g kn = true) : ∃ cx, cvs = [cx] ∧ ValOK P φ w (kn g) (Instr.typeAssert cx x t ok) := by
  obtain ⟨v, rfl, e0⟩ := a1_ok e
  obtain ⟨cx, rfl, hx⟩ := hvs.one_inv
  obtain ⟨zv, hzr, hzv⟩ := zeroT_ok (φ := φ) hz
  refine ⟨cx, rfl, ?_⟩
  cases v <;> first | (cases e0; done) | skip
  · rename_i u v
    obtain ⟨y, rfl, hy⟩ := hx
    have e1 : bif' (Nat.beq t u) (kn g (bif' ok (.tup [v, .bool true]) v)) (bif' ok (kn g (.tup [z, .bool false])) false) = true := e0
    cases htu : Nat.beq t u with
    | true =>
      rw [htu] at e1
      obtain rfl := Nat.eq_of_beq_eq_true htu
      cases ok with
      | true =>
        refine ⟨.tup [v, .bool true], .tuple #[y, .bool true], ?_, ⟨[y, .bool true], rfl, VRs.cons hy (VRs.cons rfl rfl)⟩, e1⟩
        simp only [Instr.typeAssert, Sem.run_bind, run_underlying ht, Result.andThen_ok]
        cases d <;> first | exact absurd rfl (hd _) | simp
      | false =>
        refine ⟨v, y, ?_, hy, e1⟩
        simp only [Instr.typeAssert, Sem.run_bind, run_underlying ht, Result.andThen_ok]
        cases d <;> first | exact absurd rfl (hd _) | simp
    | false =>
      rw [htu] at e1
      have hne : ¬ u = t := fun h => Nat.ne_of_beq_eq_false htu h.symm
      cases ok with
      | true =>
        refine ⟨.tup [z, .bool false], .tuple #[zv, .bool false], ?_, ⟨[zv, .bool false], rfl, VRs.cons hzv (VRs.cons rfl rfl)⟩, e1⟩
        simp only [Instr.typeAssert, Sem.run_bind, run_underlying ht, Result.andThen_ok]
        cases d <;> first | exact absurd rfl (hd _) | simp [hne, hzr]
      | false => cases e1
  · obtain rfl : cx = .nilIface := hx
    cases ok with
    | true =>
      refine ⟨.tup [z, .bool false], .tuple #[zv, .bool false], ?_, ⟨[zv, .bool false], rfl, VRs.cons hzv (VRs.cons rfl rfl)⟩, e0⟩
      simp only [Instr.typeAssert, Sem.run_bind, run_underlying ht, Result.andThen_ok]
      cases d <;> first | exact absurd rfl (hd _) | simp [hzr]
    | false => cases e0

/-! ### lengths -/
theorem op_len_array {t : TypeId} {n el : Nat} (ht : P.underlying t = some (.array n el)) {ts : Array TypeId} (h0 : ts[0]? = some t) {ty : TypeId} {kn : KN} {vs : List AV} {cvs : List Value} (hvs : VRs φ vs cvs)
    (e : opLen (some n) vs g kn = true) : ∃ cx, cvs = [cx] ∧ ValOK P φ w (kn g) (Builtin.len_ ts ty #[cx]) := by
  obtain ⟨v, rfl, e0⟩ := a1_ok e
  obtain ⟨cx, rfl, hx⟩ := hvs.one_inv
  refine ⟨cx, rfl, .int .i64 (.ofNat n), .int .i64 n, ?_, rfl, e0⟩
  simp only [Builtin.len_, h0, List.getElem?_toArray, List.getElem?_cons_zero, Sem.run_bind, run_underlying ht, Result.andThen_ok, goInt, Sem.run_pure]
theorem op_len_slice {t el : TypeId} (ht : P.underlying t = some (.slice el)) {ts : Array TypeId} (h0 : ts[0]? = some t) {ty : TypeId} {kn : KN} {vs : List AV} {cvs : List Value} (hvs : VRs φ vs cvs)
    (e : opLen none vs g kn = true) : ∃ cx, cvs = [cx] ∧ ValOK P φ w (kn g) (Builtin.len_ ts ty #[cx]) := by
  obtain ⟨v, rfl, e0⟩ := a1_ok e
  obtain ⟨cx, rfl, hx⟩ := hvs.one_inv
  obtain ⟨n, hn, e1⟩ := opt_some (show opt (slLen v) false (fun n => kn g (.int .i64 (.ofNat n))) = true from e0)
  refine ⟨cx, rfl, .int .i64 (.ofNat n), .int .i64 n, ?_, rfl, e1⟩
  cases v <;> first | (cases hn; done) | skip
  · obtain ⟨L, _, rfl⟩ := hx; cases hn
    simp [Builtin.len_, h0, run_underlying ht, goInt]
  · obtain ⟨L, _, _, _, a, rfl, _⟩ := hx; cases hn
    simp [Builtin.len_, h0, run_underlying ht, goInt]
  · obtain rfl : cx = .slice none 0 0 := hx; cases hn
    simp [Builtin.len_, h0, run_underlying ht, goInt]
theorem op_slen {t : TypeId} (ht : P.underlying t = some .string) {ts : Array TypeId} (h0 : ts[0]? = some t) {ty : TypeId} {kn : KN} {vs : List AV} {cvs : List Value} (hvs : VRs φ vs cvs)
    (e : opSlen vs g kn = true) : ∃ cx, cvs = [cx] ∧ ValOK P φ w (kn g) (Builtin.len_ ts ty #[cx]) := by
  obtain ⟨v, rfl, e0⟩ := a1_ok e
  obtain ⟨cx, rfl, hx⟩ := hvs.one_inv
  obtain ⟨s, rfl, e1⟩ := asStr_ok e0
  obtain ⟨t', rfl, hs⟩ := hx
  refine ⟨_, rfl, .int .i64 (.ofNat (len s)), .int .i64 t'.size, ?_, by rw [len_eq, ← size_of_bytes hs]; rfl, e1⟩
  simp [Builtin.len_, h0, run_underlying ht, goInt]
theorem op_cap {t el : TypeId} (ht : P.underlying t = some (.slice el)) {ts : Array TypeId} (h0 : ts[0]? = some t) {ty : TypeId} {kn : KN} {vs : List AV} {cvs : List Value} (hvs : VRs φ vs cvs)
    (e : opCap vs g kn = true) : ∃ cx, cvs = [cx] ∧ ValOK P φ w (kn g) (Builtin.cap_ ts ty #[cx]) := by
  obtain ⟨v, rfl, e0⟩ := a1_ok e
  obtain ⟨cx, rfl, hx⟩ := hvs.one_inv
  refine ⟨cx, rfl, ?_⟩
  cases v <;> first | (cases e0; done) | skip
  · rename_i b o l c
    obtain ⟨L, _, rfl⟩ := hx
    exact ⟨.int .i64 (.ofNat c), .int .i64 c, by simp [Builtin.cap_, h0, run_underlying ht, goInt], rfl, e0⟩
  · obtain rfl : cx = .slice none 0 0 := hx
    exact ⟨.int .i64 0, .int .i64 0, by simp [Builtin.cap_, h0, run_underlying ht, goInt], rfl, e0⟩

/-! ### numbers -/
theorem ibeq_eq (a b : Int) : ibeq a b = (a == b) := by
  cases a with
  | ofNat m => cases b with
    | ofNat n =>
      show Nat.beq m n = _
      cases h : Nat.beq m n with
      | true => have := Nat.eq_of_beq_eq_true h; subst this; simp
      | false => have := Nat.ne_of_beq_eq_false h; symm; rw [beq_eq_false_iff_ne]; intro e; injection e with e; exact this e
    | negSucc n => rfl
  | negSucc m => cases b with
    | ofNat n => rfl
    | negSucc n =>
      show Nat.beq m n = _
      cases h : Nat.beq m n with
      | true => have := Nat.eq_of_beq_eq_true h; subst this; simp
      | false => have := Nat.ne_of_beq_eq_false h; symm; rw [beq_eq_false_iff_ne]; intro e; injection e with e; exact this e
theorem ilt_eq (a b : Int) : ilt a b = decide (a < b) := by
  cases a with
  | ofNat m => cases b with
    | ofNat n => show Nat.blt m n = _; simp only [Nat.blt]; rw [Bool.eq_iff_iff]; simp; omega
    | negSucc n => show false = _; symm; simp; omega
  | negSucc m => cases b with
    | ofNat n => show true = _; symm; simp; omega
    | negSucc n => show Nat.blt n m = _; simp only [Nat.blt]; rw [Bool.eq_iff_iff]; simp; omega
theorem wrapI_eq (k : IntKind) (n : Int) : wrapI k n = k.wrap n := by
  cases n with
  | negSucc m => rfl
  | ofNat m =>
    show Bool.rec (motive := fun _ => Int) (k.wrap (.ofNat m)) (.ofNat m) (Nat.blt m (half k)) = _
    cases h : Nat.blt m (half k) with
    | false => rfl
    | true =>
      have h : m < half k := by simp [Nat.blt] at h; omega
      cases k <;> simp only [half] at h <;> simp [IntKind.wrap, IntKind.bits, IntKind.signed] <;> omega
theorem kbeq_eq {a b : IntKind} (h : kbeq a b = true) : a = b := by cases a <;> cases b <;> first | rfl | cases h

theorem op_minmax {mx : Bool} {ts : Array TypeId} {ty : TypeId} {kn : KN} {vs : List AV} {cvs : List Value} (hvs : VRs φ vs cvs) (e : opMinmax mx vs g kn = true) :
    ValOK P φ w (kn g) (if mx then Builtin.max_ ts ty cvs.toArray else Builtin.min_ ts ty cvs.toArray) := by
  obtain ⟨a, r, rfl, e0⟩ := aC_ok e
  obtain ⟨c, cr, rfl, ha, hr⟩ := hvs
  have key : ∀ {r : List AV} {cr : List Value} {a : AV} {c : Value} {kv : AV → Bool}, VRs φ r cr → VR φ a c → minmaxEv mx r a kv = true →
      ∃ v' cv, (cr.foldlM (if mx then Builtin.max2 else Builtin.min2) c).run P w = .ok cv w ∧ VR φ v' cv ∧ kv v' = true := by
    intro r
    induction r with
    | nil => intro cr a c kv hr ha he; obtain rfl : cr = [] := hr; exact ⟨a, c, by simp, ha, he⟩
    | cons y r ih =>
      intro cr a c kv hr ha he
      obtain ⟨cy, cr', rfl, hy, hr'⟩ := hr
      cases y with
      | int ky y =>
        cases a with
        | int k x =>
          obtain rfl : c = .int k x := ha
          obtain rfl : cy = .int ky y := hy
          have he : minmaxEv mx r (.int k (bif' mx (bif' (ilt x y) y x) (bif' (ilt y x) y x))) kv = true := he
          obtain ⟨v', cv, h1, h2, h3⟩ := ih hr' (a := .int k (bif' mx (bif' (ilt x y) y x) (bif' (ilt y x) y x))) (c := .int k (bif' mx (bif' (ilt x y) y x) (bif' (ilt y x) y x))) rfl he
          refine ⟨v', cv, ?_, h2, h3⟩
          cases mx
          · simp only [List.foldlM_cons, Sem.run_bind, Bool.false_eq_true, if_false] at h1 ⊢
            rw [show (Builtin.min2 (.int k x) (.int ky y)).run P w = .ok (.int k (bif' (ilt y x) y x)) w from by
              simp only [Builtin.min2, Sem.run_pure, ilt_eq]
              by_cases hlt : y < x <;> simp [hlt]]
            exact h1
          · simp only [List.foldlM_cons, Sem.run_bind, if_true] at h1 ⊢
            rw [show (Builtin.max2 (.int k x) (.int ky y)).run P w = .ok (.int k (bif' (ilt x y) y x)) w from by
              simp only [Builtin.max2, Sem.run_pure, ilt_eq]
              by_cases hlt : x < y <;> simp [hlt]]
            exact h1
        | _ => cases he
      | _ => cases he
  obtain ⟨v', cv, h1, h2, h3⟩ := key hr ha e0
  refine ⟨v', cv, ?_, h2, h3⟩
  cases mx
  · simpa [Builtin.min_] using h1
  · simpa [Builtin.max_] using h1
end
end Go.Lv

namespace Go.Lv
open Go
section
variable {P : Program} {φ : Emb} {g : G} {w w' : World}

theorem ValOK.int {k : IntKind} {n : Int} {kv : AV → Bool} {s : Sem Value} (h : s.run P w = .ok (.int k n) w) (e : kv (.int k n) = true) : ValOK P φ w kv s := ⟨.int k n, .int k n, h, rfl, e⟩
theorem ValOK.bool {b : Bool} {kv : AV → Bool} {s : Sem Value} (h : s.run P w = .ok (.bool b) w) (e : kv (.bool b) = true) : ValOK P φ w kv s := ⟨.bool b, .bool b, h, rfl, e⟩

theorem intBin_ok {op : BinOp} {t : TypeId} {k k' : IntKind} {a b : Int} {kv : AV → Bool} (hk : sameKind op k k' = true) (e : intBin op k a b kv = true) :
    ValOK P φ w kv (Go.binOp op t (.int k a) (.int k' b)) := by
  have h0 : ∀ {x : Bool}, bif' (ibeq b 0) false x = true → ¬ b = 0 ∧ x = true := by
    intro x h
    rw [ibeq_eq] at h
    cases hb : (b == 0) with
    | true => rw [hb] at h; cases h
    | false => rw [hb] at h; exact ⟨by simpa using hb, h⟩
  have h1 : ∀ {x : Bool}, bif' (ilt b 0) false x = true → ¬ b < 0 ∧ x = true := by
    intro x h
    rw [ilt_eq] at h
    cases hb : decide (b < 0) with
    | true => rw [hb] at h; cases h
    | false => rw [hb] at h; exact ⟨by simpa using hb, h⟩
  cases op <;> simp only [intBin, wrapI_eq, ibeq_eq, ilt_eq] at e
  case add => obtain rfl := kbeq_eq hk; exact ⟨.int k (k.wrap (a + b)), .int k (k.wrap (a + b)), by simp [Go.binOp, Op.intArith], rfl, e⟩
  case sub => obtain rfl := kbeq_eq hk; exact ⟨.int k (k.wrap (a - b)), .int k (k.wrap (a - b)), by simp [Go.binOp, Op.intArith], rfl, e⟩
  case mul => obtain rfl := kbeq_eq hk; exact ⟨.int k (k.wrap (a * b)), .int k (k.wrap (a * b)), by simp [Go.binOp, Op.intArith], rfl, e⟩
  case quo =>
    obtain rfl := kbeq_eq hk
    rw [← ibeq_eq] at e
    obtain ⟨hb, e⟩ := h0 e
    exact ⟨.int k (k.wrap (a.tdiv b)), .int k (k.wrap (a.tdiv b)), by simp [Go.binOp, Op.intDiv, hb], rfl, e⟩
  case rem =>
    obtain rfl := kbeq_eq hk
    rw [← ibeq_eq] at e
    obtain ⟨hb, e⟩ := h0 e
    exact ⟨.int k (a.tmod b), .int k (a.tmod b), by simp [Go.binOp, Op.intDiv, hb], rfl, e⟩
  case and => obtain rfl := kbeq_eq hk; exact ValOK.int (by simp [Go.binOp, Op.intBits]) e
  case or => obtain rfl := kbeq_eq hk; exact ValOK.int (by simp [Go.binOp, Op.intBits]) e
  case xor => obtain rfl := kbeq_eq hk; exact ValOK.int (by simp [Go.binOp, Op.intBits]) e
  case andNot => obtain rfl := kbeq_eq hk; exact ValOK.int (by simp [Go.binOp, Op.intBits]) e
  case shl =>
    rw [← ilt_eq] at e
    obtain ⟨hb, e⟩ := h1 e
    exact ValOK.int (by simp [Go.binOp, Op.shift, hb]) e
  case shr =>
    rw [← ilt_eq] at e
    obtain ⟨hb, e⟩ := h1 e
    exact ValOK.int (by simp [Go.binOp, Op.shift, hb]) e
  case eql => obtain rfl := kbeq_eq hk; exact ValOK.bool (by simp [Go.binOp, Op.intCmp]) e
  case neq => obtain rfl := kbeq_eq hk; exact ValOK.bool (by simp [Go.binOp, Op.intCmp, bne]) e
  case lss => obtain rfl := kbeq_eq hk; exact ValOK.bool (by simp [Go.binOp, Op.intCmp]) e
  case leq =>
    obtain rfl := kbeq_eq hk
    refine ValOK.bool ?_ e
    have : (!decide (b < a)) = decide (a ≤ b) := by rw [Bool.eq_iff_iff]; simp
    simp [Go.binOp, Op.intCmp, this]
  case gtr => obtain rfl := kbeq_eq hk; exact ValOK.bool (by simp [Go.binOp, Op.intCmp]) e
  case geq =>
    obtain rfl := kbeq_eq hk
    refine ValOK.bool ?_ e
    have : (!decide (a < b)) = decide (b ≤ a) := by rw [Bool.eq_iff_iff]; simp
    simp [Go.binOp, Op.intCmp, this]

/-! ### strings -/
theorem nlt_map (x y : List UInt8) : nlt (x.map (·.toNat)) (y.map (·.toNat)) = Op.bytesLess x y := by
  induction x generalizing y with
  | nil => cases y <;> rfl
  | cons a x ih =>
    cases y with
    | nil => rfl
    | cons b y =>
      show Bool.rec (motive := fun _ => Bool) (Bool.rec (motive := fun _ => Bool) false (nlt (x.map (·.toNat)) (y.map (·.toNat))) (Nat.beq a.toNat b.toNat)) true (Nat.blt a.toNat b.toNat) = _
      rw [ih]
      simp only [Op.bytesLess]
      have e1 : Nat.blt a.toNat b.toNat = decide (a < b) := by rw [Bool.eq_iff_iff]; simp [Nat.blt, UInt8.lt_iff_toNat_lt]; omega
      have e2 : Nat.beq a.toNat b.toNat = (a == b) := by
        rw [Bool.eq_iff_iff]
        constructor
        · intro h; have := Nat.eq_of_beq_eq_true h; simp [UInt8.toNat_inj.1 this]
        · intro h; have : a = b := by simpa using h
          rw [this]; exact Nat.beq_refl _
      rw [e1, e2]
      cases decide (a < b) <;> cases (a == b) <;> rfl
theorem map_toNat_inj : ∀ {x y : List UInt8}, x.map (·.toNat) = y.map (·.toNat) → x = y
  | [], [], _ => rfl
  | [], _ :: _, h => by cases h
  | _ :: _, [], h => by cases h
  | a :: x, b :: y, h => by
    simp only [List.map_cons, List.cons.injEq] at h
    rw [UInt8.toNat_inj.1 h.1, map_toNat_inj h.2]
theorem nbeq_map (x y : List UInt8) : nbeq (x.map (·.toNat)) (y.map (·.toNat)) = (x == y) := by
  rw [nbeq_eq, Bool.eq_iff_iff]
  simp only [beq_iff_eq]
  exact ⟨map_toNat_inj, fun h => by rw [h]⟩

theorem strBin_ok {op : BinOp} {t : TypeId} {a b : List Nat} {x y : ByteArray} (hx : x.data.toList.map (·.toNat) = a) (hy : y.data.toList.map (·.toNat) = b) {kv : AV → Bool}
    (e : strBin op a b kv = true) : ValOK P φ w kv (Go.binOp op t (.string x) (.string y)) := by
  have hl : x.toList = x.data.toList := ByteArray.toList_eq x
  have hr : y.toList = y.data.toList := ByteArray.toList_eq y
  subst hx hy
  cases op <;> simp only [strBin, nlt_map, nbeq_map] at e <;> first | (cases e; done) | skip
  case add =>
    obtain ⟨e1, e2⟩ := bif_and e
    have e1 := Nat.le_of_ble_eq_true e1
    simp only [len_eq, List.length_map] at e1
    have h1 : x.data.toList.length = x.size := by simp
    have h2 : y.data.toList.length = y.size := by simp
    have hsz : x.size + y.size ≤ 1000000 := by rw [← h1, ← h2]; exact e1
    refine ⟨.str _, .string (x ++ y), ?_, ⟨x ++ y, rfl, ?_⟩, e2⟩
    · have : ¬ ((x.size + y.size : Nat) : Int) > IntKind.i64.max := by simp [IntKind.max, IntKind.signed, IntKind.bits]; omega
      simp only [Go.binOp, Op.stringOp, Sem.run_ite, if_neg this, Sem.run_pure]
    · rw [app_eq]; simp
  all_goals exact ValOK.bool (by simp [Go.binOp, Op.stringOp, hl, hr]) e
end
end Go.Lv

namespace Go.Lv
open Go
section
variable {P : Program} {φ : Emb} {g : G} {w w' : World}

/-- the part of a row of cells at 'base' that a value of type t takes -/
def partV (P : Program) (xs : Array Value) (t : TypeId) (base : Nat) : Option Value :=
  if isAggT P t then (sizeT P t).map fun n => .agg (xs.extract base (base + n)) else xs[base]?

theorem part_run {xs : Array Value} {t : TypeId} {base : Nat} {v : Value} (hd : (P.underlying t).isSome = true) (h : partV P xs t base = some v) : (part t xs base).run P w = .ok v w := by
  unfold partV at h
  split at h
  · rename_i ha
    cases hs : sizeT P t with
    | none => rw [hs] at h; cases h
    | some n => rw [hs] at h; simp at h; subst h; simp [part, run_isAgg' hd, ha, run_sizeOf' hs]
  · rename_i ha
    simp [part, run_isAgg' hd, ha, h]

/-- a part of a part -/
theorem partV_extract {xs : Array Value} {t : TypeId} {base n o m : Nat} (hm : sizeT P t = some m) (h1 : isAggT P t = true ∨ m = 1) (h : o + m ≤ n) : partV P (xs.extract base (base + n)) t o = partV P xs t (base + o) := by
  unfold partV
  split
  · rw [hm]
    simp only [Option.map_some, Option.some.injEq, Value.agg.injEq]
    rw [Array.extract_extract]
    congr 1
    omega
  · rename_i ha
    rcases h1 with h1 | h1
    · exact absurd h1 ha
    · rw [Array.getElem?_extract]
      simp
      omega

theorem mapM_some {α β : Type} {f : α → Option β} : ∀ {l : List α} {r : List β}, l.mapM f = some r → r.length = l.length ∧ ∀ i (h : i < l.length) (h' : i < r.length), f l[i] = some r[i]
  | [], r, h => by simp at h; subst h; exact ⟨rfl, fun i h => by simp at h⟩
  | a :: l, r, h => by
    simp only [List.mapM_cons, Option.pure_def, Option.bind_eq_bind, Option.bind_eq_some_iff] at h
    obtain ⟨y, hy, z, hz, he⟩ := h
    simp at he; subst he
    obtain ⟨h1, h2⟩ := mapM_some hz
    refine ⟨by simp [h1], fun i hi hi' => ?_⟩
    cases i with
    | zero => exact hy
    | succ i => exact h2 i (by simpa using hi) (by simpa using hi')

/-- equality of plain cells -/
def eqC : CK → Value → Value → Option Bool
  | .b, .bool a, .bool b => some (a == b)
  | .i, .int k a, .int k' b => if k = k' then some (a == b) else none
  | .s, .string a, .string b => some (a.toList == b.toList)
  | _, _, _ => none
/-- are the cells at these places equal, one after another? -/
def eqAt (xs ys : Array Value) : List (Nat × CK) → Option Bool
  | [] => some true
  | i :: l => match xs[i.1]?, ys[i.1]? with
    | some a, some b => match eqC i.2 a b with
      | some true => eqAt xs ys l
      | some false => some false
      | none => none
    | _, _ => none
theorem eqAt_append (xs ys : Array Value) (l l' : List (Nat × CK)) : eqAt xs ys (l ++ l') = (match eqAt xs ys l with | some true => eqAt xs ys l' | r => r) := by
  induction l with
  | nil => rfl
  | cons i l ih =>
    simp only [List.cons_append, eqAt]
    cases xs[i.1]? with
    | none => rfl
    | some a => cases ys[i.1]? with
      | none => rfl
      | some b =>
        simp only
        cases eqC i.2 a b with
        | none => rfl
        | some r => cases r
                    · rfl
                    · exact ih

theorem eqAt_one {xs ys : Array Value} {i : Nat} {k : CK} {r : Bool} (h : eqAt xs ys [(i, k)] = some r) : ∃ a b, xs[i]? = some a ∧ ys[i]? = some b ∧ eqC k a b = some r := by
  simp only [eqAt] at h
  cases ha : xs[i]? with
  | none => rw [ha] at h; cases h
  | some a => cases hb : ys[i]? with
    | none => rw [ha, hb] at h; cases h
    | some b =>
      rw [ha, hb] at h
      refine ⟨a, b, rfl, rfl, ?_⟩
      simp only at h
      cases hc : eqC k a b with
      | none => rw [hc] at h; cases h
      | some t => rw [hc] at h; cases t <;> simpa using h

theorem under_some {t : TypeId} {d : TypeDesc} (h : P.underlying t = some d) : (P.underlying t).isSome = true := by rw [h]; rfl

/-- fields, one after another -/
theorem eqFields_ok {D : Nat} {XS YS : Array Value} {base n : Nat} {F : Field → Option (List (Nat × CK))} : ∀ {fs : List Field} {ls : List (List (Nat × CK))} {r : Bool} {w : World}, fs.mapM F = some ls →
    (∀ f ∈ fs, ∀ l r w, F f = some l → eqAt XS YS l = some r → f.name ≠ "_" ∧ ∃ a b, (part f.type (XS.extract base (base + n)) f.offset).run P w = .ok a w ∧ (part f.type (YS.extract base (base + n)) f.offset).run P w = .ok b w ∧ (Op.equalIn D f.type a b).run P w = .ok r w) →
    eqAt XS YS ls.flatten = some r → (Op.eqFields D (XS.extract base (base + n)) (YS.extract base (base + n)) fs).run P w = .ok r w
  | [], ls, r, w, h, _, he => by
    simp at h; subst h
    simp [eqAt] at he; subst he
    simp [Op.eqFields]
  | f :: fs, ls, r, w, h, hf, he => by
    simp only [List.mapM_cons, Option.pure_def, Option.bind_eq_bind, Option.bind_eq_some_iff] at h
    obtain ⟨l, hl, z, hz, hlz⟩ := h
    simp at hlz; subst hlz
    rw [List.flatten_cons, eqAt_append] at he
    cases h1 : eqAt XS YS l with
    | none => rw [h1] at he; cases he
    | some t =>
      rw [h1] at he
      obtain ⟨hn, a, b, k1, k2, k3⟩ := hf f (by simp) l t w hl h1
      simp only [Op.eqFields, if_pos hn, Sem.run_bind, k1, k2, k3, Result.andThen_ok]
      cases t with
      | false => simp at he; subst he; simp
      | true =>
        simp only [Bool.not_true, Bool.false_eq_true, if_false]
        exact eqFields_ok hz (fun f hf' => hf f (by simp [hf'])) he

/-- what is compared is there -/
theorem flat_part {d : Nat} {t : TypeId} {base m : Nat} {l : List (Nat × CK)} {XS YS : Array Value} {r : Bool} (h : flatO P d t base = some l) (he : eqAt XS YS l = some r) (hm : sizeT P t = some m) :
    (∃ a, partV P XS t base = some a) ∧ ∃ b, partV P YS t base = some b := by
  cases hagg : isAggT P t with
  | true => unfold partV; rw [if_pos hagg, if_pos hagg, hm]; exact ⟨⟨_, rfl⟩, ⟨_, rfl⟩⟩
  | false =>
    unfold partV; rw [if_neg (by rw [hagg]; decide), if_neg (by rw [hagg]; decide)]
    cases d with
    | zero => cases h
    | succ d =>
      unfold flatO at h
      split at h
      · cases h; obtain ⟨x, y, hx, hy, _⟩ := eqAt_one he; exact ⟨⟨x, hx⟩, ⟨y, hy⟩⟩
      · cases h; obtain ⟨x, y, hx, hy, _⟩ := eqAt_one he; exact ⟨⟨x, hx⟩, ⟨y, hy⟩⟩
      · cases h; obtain ⟨x, y, hx, hy, _⟩ := eqAt_one he; exact ⟨⟨x, hx⟩, ⟨y, hy⟩⟩
      · rename_i ht; unfold isAggT at hagg; rw [ht] at hagg; cases hagg
      · cases h
theorem flat_under {d : Nat} {t : TypeId} {base : Nat} {l : List (Nat × CK)} (h : flatO P d t base = some l) : (P.underlying t).isSome = true := by
  cases d with
  | zero => cases h
  | succ d => unfold flatO at h; split at h <;> first | (exact under_some (by assumption)) | cases h

theorem flat_eq : ∀ (d D : Nat), d ≤ D → ∀ {t : TypeId} {base : Nat} {l : List (Nat × CK)} {XS YS : Array Value} {r : Bool} {w : World}, flatO P d t base = some l → eqAt XS YS l = some r →
    ∀ a b, partV P XS t base = some a → partV P YS t base = some b → (Op.equalIn D t a b).run P w = .ok r w := by
  intro d
  induction d with
  | zero => intro D _ t base l XS YS r w h; cases h
  | succ d ih =>
    intro D hD t base l XS YS r w h he a b ha hb
    obtain ⟨D, rfl⟩ : ∃ D', D = D' + 1 := ⟨D - 1, by omega⟩
    unfold flatO at h
    split at h
    · rename_i ht
      cases h
      obtain ⟨x, y, hx, hy, hc⟩ := eqAt_one he
      have hagg : isAggT P t = false := by unfold isAggT; rw [ht]
      unfold partV at ha hb; rw [if_neg (by rw [hagg]; decide)] at ha hb
      rw [hx] at ha; rw [hy] at hb; cases ha; cases hb
      cases a <;> cases b <;> first | (cases hc; done) | skip
      cases hc
      exact run_equalIn_bool w D t _ _ ht
    · rename_i k ht
      cases h
      obtain ⟨x, y, hx, hy, hc⟩ := eqAt_one he
      have hagg : isAggT P t = false := by unfold isAggT; rw [ht]
      unfold partV at ha hb; rw [if_neg (by rw [hagg]; decide)] at ha hb
      rw [hx] at ha; rw [hy] at hb; cases ha; cases hb
      cases a <;> cases b <;> first | (cases hc; done) | skip
      simp only [eqC] at hc
      split at hc
      · rename_i hk; subst hk; cases hc; exact run_equalIn_int w D t _ _ _ _ ht
      · cases hc
    · rename_i ht
      cases h
      obtain ⟨x, y, hx, hy, hc⟩ := eqAt_one he
      have hagg : isAggT P t = false := by unfold isAggT; rw [ht]
      unfold partV at ha hb; rw [if_neg (by rw [hagg]; decide)] at ha hb
      rw [hx] at ha; rw [hy] at hb; cases ha; cases hb
      cases a <;> cases b <;> first | (cases hc; done) | skip
      cases hc
      exact run_equalIn_string w D t _ _ ht
    · -- a struct
      rename_i fs ht
      split at h
      · cases h
      · rename_i hst
        obtain ⟨n, hn, h⟩ := Option.bind_eq_some_iff.1 h
        obtain ⟨ls, hls, rfl⟩ := Option.map_eq_some_iff.1 h
        have hagg : isAggT P t = true := by unfold isAggT; rw [ht]
        unfold partV at ha hb; rw [if_pos hagg, hn] at ha hb
        cases ha; cases hb
        have hfo : P.fieldsOf t = fs := by unfold Program.fieldsOf; rw [ht]
        have hst' : P.stoodInHeld t = false := by simpa using hst
        have hrun := run_equalIn_struct (P := P) w D t (XS.extract base (base + n)) (YS.extract base (base + n)) (by rw [hfo]; exact ht) hst'
        rw [hfo] at hrun
        rw [hrun]
        refine eqFields_ok hls (fun f hf l' r' w' hl' he' => ?_) he
        obtain ⟨m, hm, hl'⟩ := Option.bind_eq_some_iff.1 hl'
        split at hl'
        · rename_i hcond
          simp only [Bool.and_eq_true, bne_iff_ne, Bool.or_eq_true] at hcond
          obtain ⟨hname, hle, hag⟩ := hcond
          have hle := Nat.le_of_ble_eq_true hle
          have hag' : isAggT P f.type = true ∨ m = 1 := hag.imp id Nat.eq_of_beq_eq_true
          have hdd := flat_under hl'
          obtain ⟨⟨a, ha⟩, b, hb⟩ := flat_part hl' he' hm
          refine ⟨hname, a, b, part_run hdd (by rw [partV_extract hm hag' hle]; exact ha), part_run hdd (by rw [partV_extract hm hag' hle]; exact hb), ?_⟩
          exact ih D (by omega) hl' he' a b ha hb
        · cases hl'
    · cases h

/-! ### what the evaluator compares is what '==' compares -/
theorem ceq_ok {k : CK} {x y : AV} {a b : Value} {r : Bool} (h : ceq k x y = some r) (hx : VR φ x a) (hy : VR φ y b) : eqC k a b = some r := by
  unfold ceq at h
  split at h
  · obtain rfl : a = .bool _ := hx
    obtain rfl : b = .bool _ := hy
    exact h
  · rename_i k1 m k2 n
    obtain rfl : a = .int k1 m := hx
    obtain rfl : b = .int k2 n := hy
    cases hk : kbeq k1 k2 with
    | false => rw [hk] at h; cases h
    | true =>
      rw [hk] at h
      obtain rfl := kbeq_eq hk
      simp only [eqC, if_true]
      rw [← ibeq_eq]; exact h
  · obtain ⟨s, rfl, hs⟩ := hx
    obtain ⟨t, rfl, ht⟩ := hy
    subst hs ht
    rw [nbeq_map] at h
    simp only [eqC, ByteArray.toList_eq]
    exact h
  · cases h

theorem ceqs_ok : ∀ {ks : List CK} {l l' : List AV} {vs vs' : List Value} {r : Bool} {xs ys : Array Value} {i : Nat}, ceqs ks l l' = some r → VRs φ l vs → VRs φ l' vs' →
    (∀ j, j < vs.length → xs[i + j]? = vs[j]?) → (∀ j, j < vs'.length → ys[i + j]? = vs'[j]?) → eqAt xs ys ((List.range' i ks.length).zip ks) = some r
  | [], l, l', vs, vs', r, xs, ys, i, h, _, _, _, _ => by
    cases l <;> cases l' <;> first | (cases h; done) | skip
    exact h
  | k :: ks, l, l', vs, vs', r, xs, ys, i, h, hl, hl', h1, h2 => by
    cases l with
    | nil => cases h
    | cons x l => cases l' with
      | nil => cases h
      | cons y l' =>
        obtain ⟨a, va, rfl, hx, hl⟩ := hl
        obtain ⟨b, vb, rfl, hy, hl'⟩ := hl'
        have h : opt (ceq k x y) none (fun e => bif' e (ceqs ks l l') (some false)) = some r := h
        cases hc : ceq k x y with
        | none => rw [hc] at h; cases h
        | some t =>
          rw [hc] at h
          have e0 := ceq_ok hc hx hy
          have x0 : xs[i]? = some a := by simpa using h1 0 (by simp)
          have y0 : ys[i]? = some b := by simpa using h2 0 (by simp)
          have hz : (List.range' i (k :: ks).length).zip (k :: ks) = (i, k) :: (List.range' (i + 1) ks.length).zip ks := by simp [List.range'_succ]
          rw [hz]
          simp only [eqAt, x0, y0, e0]
          cases t with
          | false => exact h
          | true =>
            exact ceqs_ok (show ceqs ks l l' = some r from h) hl hl' (fun j hj => by
              have := h1 (j + 1) (by simpa using hj)
              rw [show i + 1 + j = i + (j + 1) by omega, this]; simp) (fun j hj => by
              have := h2 (j + 1) (by simpa using hj)
              rw [show i + 1 + j = i + (j + 1) by omega, this]; simp)

theorem zip_fst_snd {α β : Type} : ∀ (l : List (α × β)), l = (l.map (·.1)).zip (l.map (·.2))
  | [] => rfl
  | a :: l => by simp only [List.map_cons, List.zip_cons_cons]; rw [← zip_fst_snd l]
theorem ceqsL_ok {ks : List CK} {l l' : List AV} {r : Bool} (h : ceqsL ks l l' = some r) : l.length = ks.length ∧ l'.length = ks.length ∧ ceqs ks l l' = some r := by
  unfold ceqsL at h
  cases h1 : Nat.beq (len l) (len ks) with
  | false => rw [h1] at h; cases h
  | true => cases h2 : Nat.beq (len l') (len ks) with
    | false => rw [h1, h2] at h; cases h
    | true =>
      rw [h1, h2] at h
      have h1 := Nat.eq_of_beq_eq_true h1
      have h2 := Nat.eq_of_beq_eq_true h2
      simp only [len_eq] at h1 h2
      exact ⟨h1, h2, h⟩

theorem flatT_ok {t : TypeId} {ks : Bool × List CK} (h : flatT P t = some ks) : ∃ l n, flatO P 8 t 0 = some l ∧ sizeT P t = some n ∧ l = (List.range' 0 ks.2.length).zip ks.2 ∧ ks.1 = isAggT P t ∧ ks.2.length = n ∧ 1 ≤ n ∧ 9 ≤ P.depth := by
  unfold flatT at h
  obtain ⟨l, hl, h⟩ := Option.bind_eq_some_iff.1 h
  obtain ⟨n, hn, h⟩ := Option.bind_eq_some_iff.1 h
  split at h
  · rename_i hc
    simp only [Bool.and_eq_true] at hc
    obtain ⟨h1, h2, h3⟩ := hc
    rw [nbeq_eq] at h1
    have h1 : l.map (·.1) = List.range n := by simpa using h1
    cases h
    have hlen : l.length = n := by have := congrArg List.length h1; simpa using this
    refine ⟨l, n, hl, hn, ?_, rfl, by simpa using hlen, Nat.le_of_ble_eq_true h2, Nat.le_of_ble_eq_true h3⟩
    simp only [List.length_map, hlen]
    rw [← List.range_eq_range', ← h1]
    exact zip_fst_snd l
  · cases h

theorem VR.agg_of_not_one {a : AV} {v : Value} (h : VR φ a v) (ho : a.one = false) (hc : a.cells.length ≠ 0) : ∃ l vs, a = .agg l ∧ v = .agg vs.toArray ∧ VRs φ l vs := by
  cases a <;> first | (cases ho; done) | skip
  · obtain ⟨vs, rfl, h, _⟩ := h; exact ⟨_, vs, rfl, rfl, h⟩
  · exact absurd rfl hc

theorem part_whole {t : TypeId} {n : Nat} (ha : isAggT P t = true) (hn : sizeT P t = some n) {vs : List Value} (hl : vs.length = n) : partV P vs.toArray t 0 = some (.agg vs.toArray) := by
  unfold partV
  rw [if_pos ha, hn]
  simp [← hl]

/-- **'==' of keys** -/
theorem keq_ok {t : TypeId} {ks : Bool × List CK} (ht : flatT P t = some ks) {x y : AV} {a b : Value} {r : Bool} (h : keq ks x y = some r) (hx : VR φ x a) (hy : VR φ y b) (D : Nat) (hD : 8 ≤ D) (w : World) :
    (Op.equalIn D t a b).run P w = .ok r w := by
  obtain ⟨l, n, hl, hn, hlk, hag, hlen, h1, _⟩ := flatT_ok ht
  unfold keq at h
  cases hxo : (x.one == !ks.1) with
  | false => rw [hxo] at h; cases h
  | true =>
    cases hyo : (y.one == !ks.1) with
    | false => rw [hxo, hyo] at h; cases h
    | true =>
      rw [hxo, hyo] at h
      obtain ⟨hcx, hcy, h⟩ := ceqsL_ok (show ceqsL ks.2 x.cells y.cells = some r from h)
      have hcx' : x.cells.length ≠ 0 := by omega
      have hcy' : y.cells.length ≠ 0 := by omega
      cases hg : ks.1 with
      | true =>
        rw [hg] at hxo hyo hag
        have hx1 : x.one = false := by simpa using hxo
        have hy1 : y.one = false := by simpa using hyo
        obtain ⟨lx, vx, rfl, rfl, hvx⟩ := hx.agg_of_not_one hx1 hcx'
        obtain ⟨ly, vy, rfl, rfl, hvy⟩ := hy.agg_of_not_one hy1 hcy'
        have he : eqAt vx.toArray vy.toArray l = some r := by
          rw [hlk]
          exact ceqs_ok (i := 0) h hvx hvy (fun j hj => by simp) (fun j hj => by simp)
        refine flat_eq 8 D hD hl (XS := vx.toArray) (YS := vy.toArray) he _ _ ?_ ?_
        · exact part_whole hag.symm hn (by rw [hvx.length]; exact hcx.trans hlen)
        · exact part_whole hag.symm hn (by rw [hvy.length]; exact hcy.trans hlen)
      | false =>
        rw [hg] at hxo hyo hag
        have hx1 : x.one = true := by simpa using hxo
        have hy1 : y.one = true := by simpa using hyo
        have cx : x.cells = [x] := by cases x <;> first | rfl | cases hx1
        have cy : y.cells = [y] := by cases y <;> first | rfl | cases hy1
        rw [cx, cy] at h
        have he : eqAt #[a] #[b] l = some r := by
          rw [hlk]
          exact ceqs_ok (i := 0) h (VRs.cons hx VRs.nil) (VRs.cons hy VRs.nil) (fun j hj => by simp) (fun j hj => by simp)
        have hagf : ¬ isAggT P t = true := by rw [← hag]; decide
        refine flat_eq 8 D hD hl (XS := #[a]) (YS := #[b]) he _ _ ?_ ?_
        · unfold partV; rw [if_neg hagf]; rfl
        · unfold partV; rw [if_neg hagf]; rfl
end
end Go.Lv

namespace Go.Lv
open Go
section
variable {P : Program} {φ : Emb} {g : G} {w w' : World}

theorem run_equal {t : TypeId} {a b : Value} {r : Bool} (h : (Op.equalIn 10000 t a b).run P w = .ok r w) : (Op.equal t a b).run P w = .ok r w := h

/-- the guard passes -/
theorem eqGuard_ok {op : BinOp} {t : TypeId} {x y : Operand} {a b : Value} (h1 : ¬ (a = .nilIface ∧ b = .nilIface) ∨ (x matches .const _) = true ∨ (y matches .const _) = true)
    (h2 : ∀ l l', a = .agg l → b = .agg l' → P.eqGuardType P.depth t = false) : (eqGuard op t x y a b).run P w = .ok () w := by
  cases a with
  | nilIface => cases b with
    | nilIface =>
      rcases h1 with h | h | h
      · exact absurd ⟨rfl, rfl⟩ h
      · cases x <;> first | (cases h; done) | (cases op <;> simp [eqGuard])
      · cases y <;> first | (cases h; done) | (cases op <;> simp [eqGuard])
    | _ => cases op <;> simp [eqGuard]
  | agg l => cases b with
    | agg l' => exact run_eqGuard_agg _ op t x y l l' (h2 l l' rfl rfl)
    | _ => cases op <;> simp [eqGuard]
  | _ => cases op <;> simp [eqGuard]

/-- a flat type bears no interface -/
theorem flat_guard : ∀ (d D : Nat), d ≤ D → ∀ {t : TypeId} {base : Nat} {l : List (Nat × CK)}, flatO P d t base = some l → P.eqGuardType D t = false := by
  intro d
  induction d with
  | zero => intro D _ t base l h; cases h
  | succ d ih =>
    intro D hD t base l h
    obtain ⟨D, rfl⟩ : ∃ D', D = D' + 1 := ⟨D - 1, by omega⟩
    unfold flatO at h
    split at h
    · rename_i ht; simp [Program.eqGuardType, ht]
    · rename_i ht; simp [Program.eqGuardType, ht]
    · rename_i ht; simp [Program.eqGuardType, ht]
    · rename_i fs ht
      split at h
      · cases h
      · obtain ⟨n, hn, h⟩ := Option.bind_eq_some_iff.1 h
        obtain ⟨ls, hls, rfl⟩ := Option.map_eq_some_iff.1 h
        simp only [Program.eqGuardType, ht]
        rw [Bool.eq_false_iff]
        intro hany
        obtain ⟨i, hi, hb⟩ := Array.any_eq_true.1 hany
        simp only [Bool.and_eq_true] at hb
        obtain ⟨hlen, hall⟩ := mapM_some hls
        have hi' : i < fs.toList.length := by simpa using hi
        have := hall i hi' (by omega)
        obtain ⟨m, hm, h2⟩ := Option.bind_eq_some_iff.1 this
        split at h2
        · have := ih D (by omega) h2
          simp only [Array.getElem_toList] at this
          rw [this] at hb
          exact absurd hb.2 (by decide)
        · cases h2
    · cases h


/-! ### '==' of two values, one step -/
variable (D : Nat) {t : TypeId}
theorem e_pnn {el : TypeId} (h : P.underlying t = some (.pointer el)) : (Op.equalIn (D + 1) t (.pointer none) (.pointer none)).run P w = .ok true w := by simp [Op.equalIn, run_underlying h]
theorem e_pns {el : TypeId} (h : P.underlying t = some (.pointer el)) (a : Addr) : (Op.equalIn (D + 1) t (.pointer none) (.pointer (some a))).run P w = .ok false w := by simp [Op.equalIn, run_underlying h]
theorem e_psn {el : TypeId} (h : P.underlying t = some (.pointer el)) (a : Addr) : (Op.equalIn (D + 1) t (.pointer (some a)) (.pointer none)).run P w = .ok false w := by simp [Op.equalIn, run_underlying h]
theorem e_pss {el n : TypeId} (h : P.underlying t = some (.pointer el)) (hn : sizeT P el = some n) (hn0 : n ≠ 0) (L : Loc) (o o' : Nat) :
    (Op.equalIn (D + 1) t (.pointer (some (L.addr o))) (.pointer (some (L.addr o')))).run P w = .ok (Nat.beq o o') w := by
  have hoo : (L.addr o == L.addr o') = Nat.beq o o' := by
    rw [Bool.eq_iff_iff]
    simp only [beq_iff_eq, Loc.addr, Addr.mk.injEq, and_true, true_and]
    constructor
    · intro h; have : o = o' := by omega
      rw [this]; exact Nat.beq_refl _
    · intro h; rw [Nat.eq_of_beq_eq_true h]
  simp [Op.equalIn, run_underlying h, run_sizeOf' hn, sameAddr, hoo]
  try simp [Loc.addr, hn0]
theorem e_snn {el : TypeId} (h : P.underlying t = some (.slice el)) : (Op.equalIn (D + 1) t (.slice none 0 0) (.slice none 0 0)).run P w = .ok true w := by simp [Op.equalIn, run_underlying h]
theorem e_sns {el : TypeId} (h : P.underlying t = some (.slice el)) (a : Addr) (l c : Nat) : (Op.equalIn (D + 1) t (.slice none 0 0) (.slice (some a) l c)).run P w = .ok false w := by simp [Op.equalIn, run_underlying h]
theorem e_ssn {el : TypeId} (h : P.underlying t = some (.slice el)) (a : Addr) (l c : Nat) : (Op.equalIn (D + 1) t (.slice (some a) l c) (.slice none 0 0)).run P w = .ok false w := by simp [Op.equalIn, run_underlying h]
theorem e_mnn {k el : TypeId} (h : P.underlying t = some (.map k el)) : (Op.equalIn (D + 1) t (.map none) (.map none)).run P w = .ok true w := by simp [Op.equalIn, run_underlying h]
theorem e_mns {k el : TypeId} (h : P.underlying t = some (.map k el)) (b : Nat) : (Op.equalIn (D + 1) t (.map none) (.map (some b))).run P w = .ok false w := by simp [Op.equalIn, run_underlying h]
theorem e_msn {k el : TypeId} (h : P.underlying t = some (.map k el)) (b : Nat) : (Op.equalIn (D + 1) t (.map (some b)) (.map none)).run P w = .ok false w := by simp [Op.equalIn, run_underlying h]
theorem e_fnn {ps rs : Array TypeId} {v : Bool} (h : P.underlying t = some (.func ps rs v)) : (Op.equalIn (D + 1) t .nilFunc .nilFunc).run P w = .ok true w := by simp [Op.equalIn, run_underlying h]
theorem e_fns {ps rs : Array TypeId} {v : Bool} (h : P.underlying t = some (.func ps rs v)) (f : Fn) (a c : Array Value) : (Op.equalIn (D + 1) t .nilFunc (.func f a c)).run P w = .ok false w := by simp [Op.equalIn, run_underlying h]
theorem e_fsn {ps rs : Array TypeId} {v : Bool} (h : P.underlying t = some (.func ps rs v)) (f : Fn) (a c : Array Value) : (Op.equalIn (D + 1) t (.func f a c) .nilFunc).run P w = .ok false w := by simp [Op.equalIn, run_underlying h]
theorem e_inn {ms} (h : P.underlying t = some (.interface ms)) : (Op.equalIn (D + 1) t .nilIface .nilIface).run P w = .ok true w := by simp [Op.equalIn, run_underlying h]
theorem e_ins {ms} (h : P.underlying t = some (.interface ms)) (u : TypeId) (v : Value) : (Op.equalIn (D + 1) t .nilIface (.iface u v)).run P w = .ok false w := by simp [Op.equalIn, run_underlying h]
theorem e_isn {ms} (h : P.underlying t = some (.interface ms)) (u : TypeId) (v : Value) : (Op.equalIn (D + 1) t (.iface u v) .nilIface).run P w = .ok false w := by simp [Op.equalIn, run_underlying h]
end
section
variable {P : Program} {φ : Emb} {g : G} {w w' : World}
/-- the values that the operators take apart themselves -/
def numish (v : Value) : Bool := match v with
  | .int .. | .string _ | .float .. | .complex .. => true
  | _ => false
theorem eqV_ok {t : TypeId} {cst : Bool} {x y : AV} {a b : Value} {kb : Bool → Bool} (hx : VR φ x a) (hy : VR φ y b) (e : eqV (ekOf P t) cst x y kb = true) :
    ∃ r, (Op.equal t a b).run P w = .ok r w ∧ kb r = true ∧ ((a = .nilIface ∧ b = .nilIface) → cst = true) ∧ (∀ l l', a = .agg l → b = .agg l' → P.eqGuardType P.depth t = false) ∧
      numish a = false := by
  unfold ekOf at e
  split at e
  · -- bool
    rename_i ht
    obtain ⟨p, rfl, e⟩ := asBool_ok e
    obtain ⟨q, rfl, e⟩ := asBool_ok e
    obtain rfl : a = .bool p := hx
    obtain rfl : b = .bool q := hy
    exact ⟨p == q, run_equal (run_equalIn_bool w 9999 t _ _ ht), e, by simp, by simp, rfl⟩
  · -- pointer
    rename_i el ht
    split at e
    · rename_i n hn
      have e : (match (generalizing := false) x, y with
        | .nilp, .nilp => kb true
        | .nilp, .ptr .. => kb false
        | .ptr .., .nilp => kb false
        | .ptr b o, .ptr b' o' => bif' (b.beq b') (kb (Nat.beq o o')) false
        | _, _ => false) = true := e
      split at e
      · obtain rfl : a = .pointer none := hx
        obtain rfl : b = .pointer none := hy
        exact ⟨true, run_equal (e_pnn 9999 ht), e, by simp, by simp, rfl⟩
      · obtain rfl : a = .pointer none := hx
        obtain ⟨L, _, rfl⟩ := hy
        exact ⟨false, run_equal (e_pns 9999 ht _), e, by simp, by simp, rfl⟩
      · obtain ⟨L, _, rfl⟩ := hx
        obtain rfl : b = .pointer none := hy
        exact ⟨false, run_equal (e_psn 9999 ht _), e, by simp, by simp, rfl⟩
      · obtain ⟨L, hL, rfl⟩ := hx
        obtain ⟨L', hL', rfl⟩ := hy
        obtain ⟨e1, e2⟩ := bif_and e
        obtain rfl := Pos.beq_eq e1
        rw [hL] at hL'; cases hL'
        exact ⟨_, run_equal (e_pss 9999 ht hn (Nat.succ_ne_zero _) L _ _), e2, by simp, by simp, rfl⟩
      · cases e
    · cases e
  · -- slice
    rename_i el ht
    have e : (match (generalizing := false) x, y with
        | .nils, .nils => kb true
        | .nils, .sl .. => kb false
        | .nils, .gsl .. => kb false
        | .sl .., .nils => kb false
        | .gsl .., .nils => kb false
        | _, _ => false) = true := e
    split at e
    · obtain rfl : a = .slice none 0 0 := hx
      obtain rfl : b = .slice none 0 0 := hy
      exact ⟨true, run_equal (e_snn 9999 ht), e, by simp, by simp, rfl⟩
    · obtain rfl : a = .slice none 0 0 := hx
      obtain ⟨L, _, rfl⟩ := hy
      exact ⟨false, run_equal (e_sns 9999 ht _ _ _), e, by simp, by simp, rfl⟩
    · obtain rfl : a = .slice none 0 0 := hx
      obtain ⟨L, _, _, _, z, rfl, _⟩ := hy
      exact ⟨false, run_equal (e_sns 9999 ht _ _ _), e, by simp, by simp, rfl⟩
    · obtain ⟨L, _, rfl⟩ := hx
      obtain rfl : b = .slice none 0 0 := hy
      exact ⟨false, run_equal (e_ssn 9999 ht _ _ _), e, by simp, by simp, rfl⟩
    · obtain ⟨L, _, _, _, z, rfl, _⟩ := hx
      obtain rfl : b = .slice none 0 0 := hy
      exact ⟨false, run_equal (e_ssn 9999 ht _ _ _), e, by simp, by simp, rfl⟩
    · cases e
  · -- map
    rename_i kt el ht
    have e : (match (generalizing := false) x, y with
      | .nilm, .nilm => kb true
      | .nilm, .mp _ => kb false
      | .mp _, .nilm => kb false
      | _, _ => false) = true := e
    split at e
    · obtain rfl : a = .map none := hx
      obtain rfl : b = .map none := hy
      exact ⟨true, run_equal (e_mnn 9999 ht), e, by simp, by simp, rfl⟩
    · obtain rfl : a = .map none := hx
      obtain ⟨L, _, rfl⟩ := hy
      exact ⟨false, run_equal (e_mns 9999 ht _), e, by simp, by simp, rfl⟩
    · obtain ⟨L, _, rfl⟩ := hx
      obtain rfl : b = .map none := hy
      exact ⟨false, run_equal (e_msn 9999 ht _), e, by simp, by simp, rfl⟩
    · cases e
  · -- func
    rename_i ps rs v ht
    have e : (match (generalizing := false) x, y with
      | .nilf, .nilf => kb true
      | .nilf, .fn .. => kb false
      | .fn .., .nilf => kb false
      | _, _ => false) = true := e
    split at e
    · obtain rfl : a = .nilFunc := hx
      obtain rfl : b = .nilFunc := hy
      exact ⟨true, run_equal (e_fnn 9999 ht), e, by simp, by simp, rfl⟩
    · obtain rfl : a = .nilFunc := hx
      obtain ⟨_, as, cs, rfl, _⟩ := hy
      exact ⟨false, run_equal (e_fns 9999 ht _ _ _), e, by simp, by simp, rfl⟩
    · obtain ⟨_, as, cs, rfl, _⟩ := hx
      obtain rfl : b = .nilFunc := hy
      exact ⟨false, run_equal (e_fsn 9999 ht _ _ _), e, by simp, by simp, rfl⟩
    · cases e
  · -- interface
    rename_i ms ht
    have e : bif' (isNili x) (bif' (isNili y) (bif' cst (kb true) false) (bif' (isIfc y) (kb false) false)) (bif' (isIfc x) (bif' (isNili y) (kb false) false) false) = true := e
    cases x <;> first | (cases e; done) | skip
    · rename_i u v
      obtain ⟨z, rfl, _⟩ := hx
      obtain ⟨e1, e2⟩ := bif_and (show bif' (isNili y) (kb false) false = true from e)
      cases y <;> first | (cases e1; done) | skip
      obtain rfl : b = .nilIface := hy
      exact ⟨false, run_equal (e_isn 9999 ht _ _), e2, by simp, by simp, rfl⟩
    · obtain rfl : a = .nilIface := hx
      have e : bif' (isNili y) (bif' cst (kb true) false) (bif' (isIfc y) (kb false) false) = true := e
      cases y <;> first | (cases e; done) | skip
      · obtain ⟨z, rfl, _⟩ := hy
        exact ⟨false, run_equal (e_ins 9999 ht _ _), e, by simp, by simp, rfl⟩
      · obtain rfl : b = .nilIface := hy
        obtain ⟨e1, e2⟩ := bif_and (show bif' cst (kb true) false = true from e)
        exact ⟨true, run_equal (e_inn 9999 ht), e2, fun _ => e1, by simp, rfl⟩
  · -- struct
    rename_i fs ht
    split at e
    · rename_i ks hks
      obtain ⟨l, n, hl, hn, hlk, hag, hlen, h1, hdep⟩ := flatT_ok hks
      obtain ⟨p, rfl, e⟩ := asAgg_ok e
      obtain ⟨q, rfl, e⟩ := asAgg_ok e
      obtain ⟨r, hr, e⟩ := opt_some e
      obtain ⟨k1, k2, k3⟩ := ceqsL_ok hr
      have hagg : isAggT P t = true := by unfold isAggT; rw [ht]
      obtain ⟨vx, rfl, hvx, _⟩ := hx
      obtain ⟨vy, rfl, hvy, _⟩ := hy
      have he : eqAt vx.toArray vy.toArray l = some r := by
        rw [hlk]
        exact ceqs_ok (i := 0) k3 hvx hvy (fun j hj => by simp) (fun j hj => by simp)
      refine ⟨r, run_equal ?_, e, by simp, fun _ _ _ _ => flat_guard 8 _ (by omega) hl, rfl⟩
      exact flat_eq 8 10000 (by omega) hl (XS := vx.toArray) (YS := vy.toArray) he _ _ (part_whole hagg hn (by rw [hvx.length]; omega)) (part_whole hagg hn (by rw [hvy.length]; omega))
    · cases e
  · cases e
end
end Go.Lv

namespace Go.Lv
open Go
section
variable {P : Program} {φ : Emb} {g : G} {w w' : World}

theorem isI_one {v : AV} (h : Nat.beq (isI v) 1 = true) : ∃ k n, v = .int k n := by cases v <;> first | exact ⟨_, _, rfl⟩ | cases h
theorem isI_two {v : AV} (h : Nat.beq (isI v) 2 = true) : ∃ s, v = .str s := by cases v <;> first | exact ⟨_, rfl⟩ | cases h
theorem bif_cases {c a b : Bool} (h : bif' c a b = true) : (c = true ∧ a = true) ∨ (c = false ∧ b = true) := by cases c <;> first | exact .inl ⟨rfl, h⟩ | exact .inr ⟨rfl, h⟩

theorem binOp_eql {t : TypeId} {a b : Value} {r : Bool} (h : (Op.equal t a b).run P w = .ok r w) (h1 : numish a = false) : (Go.binOp .eql t a b).run P w = .ok (.bool r) w := by
  cases a <;> first | (cases h1; done) | (cases b <;> simp [Go.binOp, h])
theorem binOp_neq {t : TypeId} {a b : Value} {r : Bool} (h : (Op.equal t a b).run P w = .ok r w) (h1 : numish a = false) : (Go.binOp .neq t a b).run P w = .ok (.bool !r) w := by
  cases a <;> first | (cases h1; done) | (cases b <;> simp [Go.binOp, h])

theorem op_bin (h : HR P φ g w) {op : BinOp} {t : TypeId} {x y : Operand} {cst : Bool} (hcst : cst = true → (x matches .const _) = true ∨ (y matches .const _) = true) {kn : KN} {vs : List AV} {cvs : List Value} (hvs : VRs φ vs cvs)
    (e : opBin op (ekOf P t) cst vs g kn = true) :
    ∃ ca cb, cvs = [ca, cb] ∧ ValOK P φ w (kn g) (do eqGuard op t x y ca cb; Go.binOp op t ca cb) := by
  obtain ⟨a, b, rfl, e⟩ := a2_ok e
  obtain ⟨ca, cb, rfl, ha, hb⟩ := hvs.two_inv
  refine ⟨ca, cb, rfl, ?_⟩
  have guard : ∀ {s : Sem Value}, (eqGuard op t x y ca cb).run P w = .ok () w → ValOK P φ w (kn g) s → ValOK P φ w (kn g) (do eqGuard op t x y ca cb; s) := by
    intro s hg ⟨v, cv, h1, h2, h3⟩
    exact ⟨v, cv, by simp [hg, h1], h2, h3⟩
  rcases bif_cases (show bif' (Nat.beq (isI a) 1) (asInt a fun k n => binInt op b k n (kn g)) (bif' (Nat.beq (isI a) 2) (asStr a fun s => binStr op b s (kn g)) (binEl op (ekOf P t) cst a b (kn g))) = true from e) with ⟨e1, e2⟩ | ⟨e1, e2⟩
  · obtain ⟨k, n, rfl⟩ := isI_one e1
    have e2 : binInt op b k n (kn g) = true := e2
    obtain ⟨k', m, rfl, e3⟩ := asInt_ok e2
    obtain ⟨e4, e5⟩ := bif_and e3
    obtain rfl : ca = .int k n := ha
    obtain rfl : cb = .int k' m := hb
    exact guard (eqGuard_ok (.inl (by simp)) (by simp)) (intBin_ok e4 e5)
  rcases bif_cases e2 with ⟨e3, e4⟩ | ⟨e3, e4⟩
  · obtain ⟨s, rfl⟩ := isI_two e3
    have e4 : binStr op b s (kn g) = true := e4
    obtain ⟨s', rfl, e5⟩ := asStr_ok e4
    obtain ⟨u, rfl, hu⟩ := ha
    obtain ⟨u', rfl, hu'⟩ := hb
    exact guard (eqGuard_ok (.inl (by simp)) (by simp)) (strBin_ok hu hu' e5)
  · obtain ⟨q, hq, e5⟩ := opt_some e4
    obtain ⟨r, h1, h2, h3, h4, h5⟩ := eqV_ok (w := w) ha hb e5
    have hg : (eqGuard op t x y ca cb).run P w = .ok () w := by
      refine eqGuard_ok ?_ h4
      by_cases hc : ca = .nilIface ∧ cb = .nilIface
      · exact .inr (hcst (h3 hc))
      · exact .inl hc
    refine guard hg ?_
    cases op <;> first | (cases hq; done) | skip
    · cases hq
      exact ValOK.bool (binOp_eql h1 h5) h2
    · cases hq
      exact ValOK.bool (binOp_neq h1 h5) h2

theorem op_un {op : UnOp} {t : TypeId} {kn : KN} {vs : List AV} {cvs : List Value} (hvs : VRs φ vs cvs) (e : opUn op vs g kn = true) :
    ∃ ca, cvs = [ca] ∧ ValOK P φ w (kn g) (Op.unary op ca) := by
  obtain ⟨a, rfl, e⟩ := a1_ok e
  obtain ⟨ca, rfl, ha⟩ := hvs.one_inv
  refine ⟨ca, rfl, ?_⟩
  cases op <;> cases a <;> first | (cases e; done) | skip
  all_goals first | (obtain rfl : ca = .int _ _ := ha) | (obtain rfl : ca = .bool _ := ha)
  · refine ValOK.int (n := wrapI _ (0 - _)) ?_ e
    simp [Op.unary, wrapI_eq, Op.intArith]
  · refine ValOK.int (n := IntKind.wrap _ _) ?_ e
    simp [Op.unary, Op.intBits]
  · refine ValOK.bool (b := !_) ?_ e
    simp [Op.unary]
end
end Go.Lv

/-
  The evaluator is right, part 7: regions that draw their order; the whole evaluator; closed calls. Conditions: those of each theorem.
-/
import Derived.Test.YtajkappjebiolaaGreatDoorLv7
import Derived.OpenShut
import Derived.FnData
import Derived.ChangeArms
import Derived.MakeChecks
namespace Go.Lv
open Go
section
variable {P : Program} {φ φ' φ'' : Emb} {g g' g'' : G} {w w' w'' : World}

/-! ### plans -/
def IsStep (P : Program) (ops : Array Oper) (p : PStep) : Prop := ∃ o, ops[p.ix]? = some o ∧ p.op = cOper P ops o ∧ p.waits = waitsOf o

theorem stepsOf_mem {ops : Array Oper} {p : PStep} : p ∈ stepsOf P ops ↔ p.early = false ∧ IsStep P ops p := by
  unfold stepsOf IsStep
  simp only [List.mem_map, Prod.exists]
  constructor
  · rintro ⟨o, i, h, rfl⟩
    obtain ⟨_, h2, h3⟩ := List.mem_zipIdx h
    refine ⟨rfl, o, ?_, rfl, rfl⟩
    rw [← Array.getElem?_toList, List.getElem?_eq_some_iff]
    exact ⟨by simpa using h2, by simpa using h3.symm⟩
  · rintro ⟨h1, o, h2, h3, h4⟩
    refine ⟨o, p.ix, ?_, ?_⟩
    · rw [← Array.getElem?_toList] at h2
      exact List.mem_zipIdx_iff_getElem?.2 h2
    · obtain ⟨ix, e, wt, op⟩ := p
      simp only at h1 h3 h4 ⊢
      rw [h1, h3, h4]

inductive PlanOK (all : List PStep) : List Nat → List PStep → Prop
  | nil (listed : List Nat) : readyP all listed = [] → PlanOK all listed []
  | one (listed : List Nat) (p : PStep) (l : List PStep) : readyP all listed = [p] → PlanOK all (p.ix :: listed) l → PlanOK all listed (p :: l)
  | early (listed : List Nat) (p : PStep) (l : List PStep) : p ∈ readyP all listed → freeE all p = true → (p.op.k.isPure = true ∨ p.op.k.isNews = true ∨ p.op.k.isLoads = true) → PlanOK all (p.ix :: listed) l → PlanOK all listed ({ p with early := true } :: l)

theorem pickEarly_ok {all rs : List PStep} {p : PStep} (h : pickEarly all rs = some p) : p ∈ rs ∧ freeE all p = true ∧ (p.op.k.isPure = true ∨ p.op.k.isNews = true ∨ p.op.k.isLoads = true) := by
  unfold pickEarly at h
  split at h
  · rename_i q hq
    cases h
    have h1 := List.mem_of_find?_eq_some hq
    have h2 := List.find?_some hq
    simp only [Bool.and_eq_true] at h2
    exact ⟨h1, h2.2, .inl h2.1⟩
  · split at h
    · rename_i q hq
      cases h
      have h1 := List.mem_of_find?_eq_some hq
      have h2 := List.find?_some hq
      simp only [Bool.and_eq_true] at h2
      exact ⟨h1, h2.2, .inr (.inl h2.1)⟩
    · have h1 := List.mem_of_find?_eq_some h
      have h2 := List.find?_some h
      simp only [Bool.and_eq_true] at h2
      exact ⟨h1, h2.2, .inr (.inr h2.1)⟩

theorem planF_ok {all : List PStep} : ∀ {f : Nat} {listed : List Nat} {l : List PStep}, planF all f listed = some l → PlanOK all listed l ∧ l.length ≤ f := by
  intro f
  induction f with
  | zero =>
    intro listed l h
    unfold planF at h
    split at h
    · rename_i he
      cases h
      exact ⟨.nil _ (by simpa using he), by simp⟩
    · cases h
  | succ f ih =>
    intro listed l h
    unfold planF at h
    split at h
    · rename_i he
      cases h
      exact ⟨.nil _ he, by simp⟩
    · rename_i p he
      obtain ⟨r, hr, rfl⟩ := Option.map_eq_some_iff.1 h
      obtain ⟨h1, h2⟩ := ih hr
      exact ⟨.one _ p r he h1, by simp; omega⟩
    · split at h
      · rename_i p hp
        obtain ⟨r, hr, rfl⟩ := Option.map_eq_some_iff.1 h
        obtain ⟨h1, h2⟩ := ih hr
        obtain ⟨q1, q2, q3⟩ := pickEarly_ok hp
        exact ⟨.early _ p r q1 q2 q3 h1, by simp; omega⟩
      · cases h

theorem readyP_mem {all : List PStep} {listed : List Nat} {p : PStep} : p ∈ readyP all listed ↔ p ∈ all ∧ p.ix ∉ listed ∧ ∀ i ∈ p.waits, i ∈ listed := by
  unfold readyP
  rw [List.mem_filter]
  simp only [Bool.and_eq_true, Bool.not_eq_true', List.all_eq_true]
  constructor
  · rintro ⟨h1, h2, h3⟩
    exact ⟨h1, fun h => (by rw [(memN_eq _ _).2 h] at h2; cases h2), fun i hi => (memN_eq _ _).1 (h3 i hi)⟩
  · rintro ⟨h1, h2, h3⟩
    refine ⟨h1, ?_, fun i hi => (memN_eq _ _).2 (h3 i hi)⟩
    cases h : memN p.ix listed with
    | true => exact absurd ((memN_eq _ _).1 h) h2
    | false => rfl

theorem ready_waits {ops : Array Oper} {i : Nat} {listed : Array Bool} : i ∈ Region.ready .any ops listed ↔ listed.getD i true = false ∧ ∃ o, ops[i]? = some o ∧ ∀ j ∈ waitsOf o, listed.getD j false = true := by
  rw [mem_ready]
  refine and_congr Iff.rfl (exists_congr fun o => and_congr Iff.rfl ?_)
  unfold waitsOf
  simp only [List.mem_map, List.mem_filter, Array.mem_toList_iff]
  constructor
  · rintro h j ⟨e, ⟨h1, h2⟩, rfl⟩; exact h e h1 h2
  · intro h e h1 h2; exact h e.on ⟨e, ⟨h1, h2⟩, rfl⟩

theorem free_spec {ops : Array Oper} {x y : PStep} (h : freeE (stepsOf P ops) x = true) (hy : IsStep P ops y) : ∃ d, x.op.dst = some d ∧ d ∉ looksA x.op ∧
    (y.ix ≠ x.ix → (∀ e, y.op.dst = some e → d ≠ e ∧ (e ∉ looksA x.op ∨ y.ix ∈ x.waits ∨ x.ix ∈ y.waits)) ∧ (d ∉ looksA y.op ∨ x.ix ∈ y.waits)) := by
  unfold freeE at h
  split at h
  · cases h
  · rename_i d hd
    simp only [Bool.and_eq_true, Bool.not_eq_true', List.all_eq_true] at h
    obtain ⟨h1, h2⟩ := h
    refine ⟨d, hd, memP_mem h1, fun hne => ?_⟩
    have h3 := h2 { y with early := false } (stepsOf_mem.2 ⟨rfl, hy⟩)
    unfold freeOf at h3
    have hb : Nat.beq y.ix x.ix = false := by cases hq : Nat.beq y.ix x.ix with
      | true => exact absurd (Nat.eq_of_beq_eq_true hq) hne
      | false => rfl
    simp only [hb, Bool.false_or, Bool.and_eq_true, Bool.or_eq_true, Bool.not_eq_true'] at h3
    obtain ⟨h4, h5⟩ := h3
    refine ⟨fun e he => ?_, h5.imp memP_mem (memN_eq _ _).1⟩
    rw [he] at h4
    simp only [Bool.and_eq_true, Bool.or_eq_true, Bool.not_eq_true'] at h4
    obtain ⟨h6, h7⟩ := h4
    refine ⟨fun q => ?_, ?_⟩
    · subst q
      have : d ∉ [d] := memP_mem (by unfold memP; simp [h6])
      simp at this
    · rcases h7 with (h7 | h7) | h7
      · exact .inl (memP_mem h7)
      · exact .inr (.inl ((memN_eq _ _).1 h7))
      · exact .inr (.inr ((memN_eq _ _).1 h7))

/-! ### temporaries that are not there yet -/
noncomputable def eraseE (E : List PStep) (tm : PT AV) : PT AV := E.foldr (fun p t => match p.op.dst with
  | some d => t.set d none
  | none => t) tm
theorem eraseE_in {tm : PT AV} {x : Pos} : ∀ {E : List PStep}, (∃ p ∈ E, p.op.dst = some x) → (eraseE E tm).get x = none
  | [], h => by obtain ⟨_, h, _⟩ := h; cases h
  | p :: E, h => by
    show (match p.op.dst with
      | some d => (eraseE E tm).set d none
      | none => eraseE E tm : PT AV).get x = none
    obtain ⟨q, hq, hx⟩ := h
    rcases List.mem_cons.1 hq with rfl | hq
    · simp only [hx]; exact PT.get_set _ _ _
    · have ih := eraseE_in (tm := tm) (E := E) ⟨q, hq, hx⟩
      split
      · rename_i d _
        by_cases e : d = x
        · subst e; exact PT.get_set _ _ _
        · rw [PT.get_set_ne e]; exact ih
      · exact ih
theorem eraseE_out {tm : PT AV} {x : Pos} : ∀ {E : List PStep}, (∀ p ∈ E, p.op.dst ≠ some x) → (eraseE E tm).get x = tm.get x
  | [], _ => rfl
  | p :: E, h => by
    show (match p.op.dst with
      | some d => (eraseE E tm).set d none
      | none => eraseE E tm : PT AV).get x = tm.get x
    have ih := eraseE_out (tm := tm) (E := E) fun q hq => h q (by simp [hq])
    have hp := h p (by simp)
    split
    · rename_i d hd
      rw [PT.get_set_ne (fun e => hp (by rw [hd, e]))]; exact ih
    · exact ih
theorem eraseE_some {E : List PStep} {tm : PT AV} {x : Pos} {v : AV} (h : (eraseE E tm).get x = some v) : tm.get x = some v ∧ ∀ p ∈ E, p.op.dst ≠ some x := by
  have hall : ∀ p ∈ E, p.op.dst ≠ some x := fun p hp q => by
    rw [eraseE_in ⟨p, hp, q⟩] at h; cases h
  rw [eraseE_out hall] at h
  exact ⟨h, hall⟩
theorem eraseT_get {x : Pos} {v : AV} : ∀ {l : List PStep} {tm : PT AV}, (eraseT l tm).get x = some v → tm.get x = some v ∧ ∀ p ∈ l, p.early = true → p.op.dst ≠ some x
  | [], tm, h => ⟨h, by simp⟩
  | p :: l, tm, h => by
    have h : (eraseT l (bif' p.early (opt p.op.dst tm fun d => tm.set d none) tm)).get x = some v := h
    obtain ⟨h1, h2⟩ := eraseT_get (l := l) h
    cases he : p.early with
    | false =>
      rw [he] at h1
      refine ⟨h1, fun q hq hqe => ?_⟩
      rcases List.mem_cons.1 hq with rfl | hq
      · rw [he] at hqe; cases hqe
      · exact h2 q hq hqe
    | true =>
      rw [he] at h1
      have h1 : (opt p.op.dst tm fun d => tm.set d none).get x = some v := h1
      cases hd : p.op.dst with
      | none =>
        rw [hd] at h1
        refine ⟨h1, fun q hq hqe => ?_⟩
        rcases List.mem_cons.1 hq with rfl | hq
        · rw [hd]; simp
        · exact h2 q hq hqe
      | some d =>
        rw [hd] at h1
        have h1 : (tm.set d none).get x = some v := h1
        by_cases e : d = x
        · subst e; rw [PT.get_set] at h1; cases h1
        · rw [PT.get_set_ne e] at h1
          refine ⟨h1, fun q hq hqe => ?_⟩
          rcases List.mem_cons.1 hq with rfl | hq
          · rw [hd]; exact fun q => e (Option.some.inj q)
          · exact h2 q hq hqe

/-- a block that was laid early is there now -/
theorem HR.activate (h : HR P φ g w) {b : Pos} {ob : AObj} (hb : φ b = none) (hlt : b.n < g.nx.n) (hg : g.hp.get b = some ob) {x : Obj} {L : Loc} (hL : L.blk = w.heap.size) (hobj : ObjR P (φ.put b L) (World.withObj w x) L ob) : HR P (φ.put b L) g (World.withObj w x) := by
  have hle := Emb.put_le hb L
  have hsz : w.heap.size ≤ (World.withObj w x).heap.size := by simp [World.withObj]
  have hheap : ∀ B, B < w.heap.size → (World.withObj w x).heap[B]? = w.heap[B]? := fun B hB => by show (w.heap.push x)[B]? = _; simp [Array.getElem?_push, Nat.ne_of_lt hB]
  have hin : ∀ {c M}, c ≠ b → (φ.put b L) c = some M → φ c = some M := fun {c M} hc e => by rw [Emb.put_ne] at e; exact e; exact fun q => hc (Pos.n_inj q)
  refine ⟨fun c hc => ?_, fun c o M ho hM => ?_, fun c c' o o' M M' hne ho ho' hM hM' hwr => ?_⟩
  · by_cases e : c = b
    · rw [e]; exact hlt
    · refine h.fresh c (fun q => hc ?_)
      rw [Emb.put_ne]; exact q; exact fun q => e (Pos.n_inj q)
  · by_cases e : c = b
    · subst e; rw [Emb.put_same] at hM; cases hM; rw [hg] at ho; cases ho; exact hobj
    · have := h.obj c o M ho (hin e hM)
      exact this.of_heap hle hsz (hheap _ this.blk_lt)
  · by_cases e : c = b
    · subst e
      rw [Emb.put_same] at hM; cases hM
      have hM' := hin (fun q => hne q.symm) hM'
      have := (h.obj c' o' M' ho' hM').blk_lt
      exact .inl (by omega)
    · have hM2 := hin e hM
      by_cases e' : c' = b
      · subst e'
        rw [Emb.put_same] at hM'; cases hM'
        have := (h.obj c o M ho hM2).blk_lt
        exact .inl (by omega)
      · exact h.sep c c' o o' M M' hne ho ho' hM2 (hin e' hM') hwr

theorem Step.activate {φ₀ : Emb} {g₀ : G} {w₀ : World} (s : Step P φ₀ g₀ w₀ φ g w) {b : Pos} {ob : AObj} (hb : φ b = none) (hlt : b.n < g.nx.n) (hge : g₀.nx.n ≤ b.n) (hg : g.hp.get b = some ob) {x : Obj} {L : Loc} (hL : L.blk = w.heap.size) (hobj : ObjR P (φ.put b L) (World.withObj w x) L ob) :
    Step P φ₀ g₀ w₀ (φ.put b L) g (World.withObj w x) where
  hr := s.hr.activate hb hlt hg hL hobj
  ext := fun c hc => by rw [Emb.put_ne]; exact s.ext c hc; omega
  nx := s.nx
  size := Nat.le_trans s.size (by simp [World.withObj])
  old := fun B hB hn => by
    have : (World.withObj w x).heap[B]? = w.heap[B]? := by
      show (w.heap.push x)[B]? = _
      have := s.size
      simp [Array.getElem?_push, show B ≠ w.heap.size by omega]
    rw [this]; exact s.old B hB hn
  own := fun c o M ho hM hwr hlt' => by
    by_cases e : c = b
    · subst e; rw [Emb.put_same] at hM; cases hM
      have := s.size; omega
    · rw [Emb.put_ne] at hM
      · exact s.own c o M ho hM hwr hlt'
      · exact fun q => e (Pos.n_inj q)
  ghost := s.ghost
  os := s.os
  out := s.out
  tape := s.tape

theorem op_noDefer {o : Oper} {K : AK} {as : List AO} (hop : cOp P o.op = (.op K, as)) {vs : List AV} {kn : KN} (e1 : opV K vs g kn = true) : ∀ c, o.op ≠ .defer c := fun c hc => by
  rw [hc] at hop
  unfold cOp at hop
  simp only at hop
  split at hop
  · unfold orBad withArgsB at hop
    rename_i f _
    cases hx : (cOs P (f :: c.args.toList)) with
    | none => rw [hx] at hop; cases hop; cases e1
    | some y => rw [hx] at hop; cases hop
  · cases hop; cases e1

/-- **A pending operation is carried out.** -/
theorem pend_exec {φ₀ : Emb} {g₀ : G} {w₀ : World} {r : Option Nat} {n : Nat} {ops : Array Oper} {Q : Exit → Act → World → Prop} {i : Nat} {o : Oper} (hi : ops[i]? = some o) {nm : Option Pos} {tm : PT AV} {df : List ADef} {a : Act} {v : AV} (s : StR P φ tm df g a w) (st : Step P φ₀ g₀ w₀ φ g w)
    (hp : PendA φ nm tm g (cOper P ops o) v) (hge : ∀ b, nm = some b → g₀.nx.n ≤ b.n) :
    ∃ φ' w' cv, (∀ K : Act → World → Prop, K (a.put o.dst cv) w' → wpOpIn (Fw r) n P ops Q i K a w) ∧ Step P φ₀ g₀ w₀ φ' g w' ∧ Le φ φ' ∧ VR φ' v cv ∧ ∀ b, b.n < g.nx.n → nm ≠ some b → φ' b = φ b := by
  have hgd : (cOper P ops o).guard = o.guard.map fun (j, w) => (((ops[j]?).bind (·.dst)).map Pos.ofNat, w) := rfl
  have want : ((cOper P ops o).guard = none ∨ ∃ x, (cOper P ops o).guard = some x ∧ ∀ yes no, guardV x tm yes no = yes) → Region.wanted o (yielded ops a.tmps) = true := fun h => by
    rw [hgd] at h
    cases hg : o.guard with
    | none => unfold Region.wanted; rw [hg]
    | some p =>
      obtain ⟨j, wnt⟩ := p
      rw [hg] at h
      rcases h with h | ⟨x, h1, h2⟩
      · cases h
      · cases h1
        rcases guard_ok s.tm hg (yes := true) (no := false) (h2 true false) with ⟨k1, _⟩ | ⟨_, k2⟩
        · exact k1
        · cases k2
  have exec : ∀ {K : AK}, (cOper P ops o).k = .op K → Region.wanted o (yielded ops a.tmps) = true → evs (cOper P ops o).args tm (fun vs => opV K vs g fun g' v' => open Classical in decide (g' = g ∧ v' = v)) = true →
      ∃ φ' w' cv, (∀ K : Act → World → Prop, K (a.put o.dst cv) w' → wpOpIn (Fw r) n P ops Q i K a w) ∧ Step P φ₀ g₀ w₀ φ' g w' ∧ Le φ φ' ∧ VR φ' v cv ∧ ∀ b, b.n < g.nx.n → nm ≠ some b → φ' b = φ b := fun {K} hk hw he => by
    classical
    obtain ⟨vs, e1, hvs⟩ := evs_ok s he
    have hop : cOp P o.op = (.op K, (cOper P ops o).args) := by
      have : (cOp P o.op).1 = .op K := hk
      rw [← this]; rfl
    obtain ⟨x, w', φ', g', v', cv, h1, h2, h3, h4, h5⟩ := op_ok s.hr hop hvs e1
    simp only [decide_eq_true_eq] at h5
    obtain ⟨rfl, rfl⟩ := h5
    refine ⟨φ', w', cv, fun K hK => ?_, st.trans h3, h3.le s.hr, h4, fun b hb _ => h3.ext b hb⟩
    unfold wpOpIn
    simp only [hi, hw, if_true]
    refine ⟨fun _ _ => trivial, ?_⟩
    rw [Oper.semAt_eq _ _ _ (op_noDefer hop e1), h1]
    rcases h2 with rfl | ⟨rfl, rfl⟩ <;> exact hK
  cases hp with
  | skip x h1 h2 h3 =>
    subst h3
    refine ⟨φ, w, undef, fun K hK => ?_, st, Le.refl φ, ⟨[], rfl, rfl⟩, fun _ _ _ => rfl⟩
    have hw : Region.wanted o (yielded ops a.tmps) = false := by
      rw [hgd] at h1
      cases hg : o.guard with
      | none => rw [hg] at h1; cases h1
      | some p =>
        obtain ⟨j, wnt⟩ := p
        rw [hg] at h1
        cases h1
        rcases guard_ok s.tm hg (yes := false) (no := true) (h2 false true) with ⟨_, k2⟩ | ⟨k1, _⟩
        · cases k2
        · exact k1
    unfold wpOpIn
    simp only [hi, hw, Bool.false_eq_true, if_false]
    exact ⟨fun _ _ => trivial, hK⟩
  | pure K h0 h1 h2 h3 => exact exec h1 (want h0) h3
  | load a h0 h1 h3 => exact exec h1 (want h0) h3
  | news K f ob mk b hb h0 h1 h2 h3 h4 h5 h6 h7 =>
    classical
    subst h7
    have hw := want h0
    obtain ⟨vs, e1, hvs⟩ := evs_ok s h3
    simp only [decide_eq_true_eq] at e1
    have hop : cOp P o.op = (.op K, (cOper P ops o).args) := by
      have : (cOp P o.op).1 = .op K := h1
      rw [← this]; rfl
    obtain ⟨sm, k1, x, L, cv, k2, k3, k4⟩ := new_ok (w := w) hop hvs h2 e1
    obtain ⟨k5, k6⟩ := k4 b h6
    have e2 : opV K vs g (fun _ _ => true) = true := by rw [newF_op h2]; unfold opNew; rw [e1]
    refine ⟨φ.put b L, World.withObj w x, cv, fun K' hK => ?_, st.activate h6 h5 (hge b hb) h4 k3 k5, Emb.put_le h6 L, k6, fun c _ hc => Emb.put_ne φ L (fun q => hc (by rw [Pos.n_inj q]; exact hb))⟩
    unfold wpOpIn
    simp only [hi, hw, if_true]
    refine ⟨fun _ _ => trivial, ?_⟩
    rw [Oper.semAt_eq _ _ _ (op_noDefer hop e2), k1]
    simp only [Sem.run_bind, k2, Result.andThen_ok, Sem.run_pure]
    exact hK
end
end Go.Lv

namespace Go.Lv
open Go
section
variable {P : Program} {φ φ' φ'' : Emb} {g g' g'' : G} {w w' w'' : World}

def OrdE (listed : Array Bool) : List PStep → Prop
  | [] => True
  | p :: E => (∀ i ∈ p.waits, listed.getD i false = true ∨ ∃ q ∈ E, q.ix = i) ∧ OrdE listed E

theorem getD_listed {listed : Array Bool} {i : Nat} (h1 : listed.getD i true = false) : listed.getD i false = false := by
  by_cases hl : i < listed.size
  · simp [Array.getD_eq_getD_getElem?, hl] at h1 ⊢; exact h1
  · simp [Array.getD_eq_getD_getElem?, hl] at h1

theorem OrdE.last : ∀ {E : List PStep} {listed : Array Bool}, OrdE listed E → E ≠ [] → ∃ q ∈ E, ∀ i ∈ q.waits, listed.getD i false = true
  | [], _, _, h => absurd rfl h
  | [p], _, h, _ => ⟨p, by simp, fun i hi => by
      rcases h.1 i hi with h | ⟨q, hq, _⟩
      · exact h
      · cases hq⟩
  | _ :: q :: E, _, h, _ => by
    obtain ⟨r, h1, h2⟩ := OrdE.last h.2 (by simp)
    exact ⟨r, by simp [h1], h2⟩
theorem OrdE.erase {j : Nat} : ∀ {E : List PStep} {listed : Array Bool}, j < listed.size → OrdE listed E → OrdE (listed.setIfInBounds j true) (E.filter fun p => p.ix != j)
  | [], _, _, _ => trivial
  | p :: E, listed, hj, h => by
    have ih := OrdE.erase hj h.2
    by_cases e : p.ix = j
    · rw [List.filter_cons_of_neg (by simp [e])]; exact ih
    · rw [List.filter_cons_of_pos (by simp [e])]
      refine ⟨fun i hi => ?_, ih⟩
      by_cases hij : i = j
      · subst hij; left; simp [Array.getD_eq_getD_getElem?, hj]
      · rcases h.1 i hi with h | ⟨q, hq, rfl⟩
        · exact .inl (getD_set_true h)
        · exact .inr ⟨q, by simp [hq, hij], rfl⟩
theorem OrdE.mono {j : Nat} : ∀ {E : List PStep} {listed : Array Bool}, OrdE listed E → OrdE (listed.setIfInBounds j true) E
  | [], _, _ => trivial
  | _ :: _, _, h => ⟨fun i hi => (h.1 i hi).imp getD_set_true id, OrdE.mono h.2⟩

section drawn
variable {F : PT FE} {ih : Ev} {ops : Array Oper} {φ₀ : Emb} {g₀ : G} {w₀ : World} {a₀ : Act} {l₀ : List PStep}

/-- the state within a drawn region: the machine at (φ, a, w), the evaluator ahead of it by the operations of E -/
structure DInv (P : Program) (ops : Array Oper) (φ₀ : Emb) (g₀ : G) (w₀ : World) (a₀ : Act) (l₀ : List PStep) (listed : Array Bool) (E : List PStep) (nm : Nat → Option Pos) (h : List Held) (tm : PT AV) (df : List ADef) (g : G) (φ : Emb) (a : Act) (w : World) : Prop where
  st : Step P φ₀ g₀ w₀ φ g w
  gl : GlR P φ
  df : DfR φ df a.defers
  sz : a.tmps.size = a₀.tmps.size
  tmr : ∀ t v, tm.get (Pos.ofNat t) = some v → (∀ p ∈ E, p.op.dst ≠ some (Pos.ofNat t)) → VR φ v (a.tmps.getD t undef)
  mem : ∀ p ∈ E, IsStep P ops p ∧ freeE (stepsOf P ops) p = true ∧ listed.getD p.ix true = false ∧ p ∈ l₀ ∧ p.early = true
  pend : ∀ p ∈ E, ∃ d v, p.op.dst = some d ∧ tm.get d = some v ∧ PendA φ (nm p.ix) tm g p.op v ∧ (∀ a, p.op.k = .op (.load a) → ∃ x ∈ h, x.ix = p.ix ∧ x.op = p.op ∧ x.v = v)
  nodup : E.Pairwise fun p q => p.ix ≠ q.ix
  names : ∀ p ∈ E, ∀ b, nm p.ix = some b → b.n < g.nx.n ∧ g₀.nx.n ≤ b.n ∧ ∀ q ∈ E, q.ix ≠ p.ix → nm q.ix ≠ some b
  ord : OrdE listed E

/-- what a step looks at, no pending one writes -/
theorem looks_free {listed : Array Bool} {p q : PStep} (hp : IsStep P ops p) (hq : IsStep P ops q ∧ freeE (stepsOf P ops) q = true ∧ listed.getD q.ix true = false) (hw : ∀ i ∈ p.waits, listed.getD i false = true) : ∀ d, q.op.dst = some d → d ∉ looksA p.op := fun d hd => by
  obtain ⟨d', h1, h2, h3⟩ := free_spec hq.2.1 hp
  rw [h1] at hd; cases hd
  by_cases e : p.ix = q.ix
  · obtain ⟨o, k1, k2, _⟩ := hp
    obtain ⟨o', k3, k4, _⟩ := hq.1
    rw [e, k3] at k1; cases k1
    rw [k2, ← k4]; exact h2
  · rcases (h3 e).2 with h | h
    · exact h
    · have := hw _ h
      rw [getD_listed hq.2.2] at this; cases this

theorem agree_erase {o : AOper} {E : List PStep} {tm : PT AV} (h : ∀ q ∈ E, ∀ d, q.op.dst = some d → d ∉ looksA o) : Agree o tm (eraseE E tm) := fun x hx => by
  rw [eraseE_out fun q hq hd => h q hq x hd hx]

theorem DInv.str {listed : Array Bool} {E : List PStep} {nm : Nat → Option Pos} {h : List Held} {tm : PT AV} {df : List ADef} {a : Act} (d : DInv P ops φ₀ g₀ w₀ a₀ l₀ listed E nm h tm df g φ a w) (hsz : a₀.tmps.size + 1 < 2 ^ 64) : StR P φ (eraseE E tm) df g a w :=
  ⟨d.st.hr, d.gl, fun t v hv => by obtain ⟨h1, h2⟩ := eraseE_some hv; exact d.tmr t v h1 h2, d.df, by rw [d.sz]; exact hsz⟩

theorem step_dst {p : PStep} {o : Oper} (h : p.op = cOper P ops o) : p.op.dst = o.dst.map Pos.ofNat := by rw [h]; rfl

/-- a pending operation is carried out -/
theorem DInv.exec {listed : Array Bool} {E : List PStep} {nm : Nat → Option Pos} {h : List Held} {tm : PT AV} {df : List ADef} {a : Act} (d : DInv P ops φ₀ g₀ w₀ a₀ l₀ listed E nm h tm df g φ a w) (hsz : a₀.tmps.size + 1 < 2 ^ 64) (hls : listed.size = ops.size)
    (hdd : ∀ o ∈ ops.toList, ∀ d, o.dst = some d → d < a₀.tmps.size) {q : PStep} (hq : q ∈ E) (hw : ∀ i ∈ q.waits, listed.getD i false = true) {r : Option Nat} {n : Nat} {Q : Exit → Act → World → Prop} :
    ∃ φ' a' w', (∀ K : Act → World → Prop, K a' w' → wpOpIn (Fw r) n P ops Q q.ix K a w) ∧ DInv P ops φ₀ g₀ w₀ a₀ l₀ (listed.setIfInBounds q.ix true) (E.filter fun p => p.ix != q.ix) nm h tm df g φ' a' w' := by
  obtain ⟨⟨o, ho, hop, hwt⟩, hfree, hun, hl0⟩ := d.mem q hq
  obtain ⟨dd, v, hd1, hd2, hd3, _⟩ := d.pend q hq
  have hstep : IsStep P ops q := ⟨o, ho, hop, hwt⟩
  have hag : Agree q.op tm (eraseE E tm) := agree_erase fun p hp e he => looks_free hstep ⟨(d.mem p hp).1, (d.mem p hp).2.1, (d.mem p hp).2.2.1⟩ hw e he
  have hpd := hd3.agree hag
  rw [hop] at hpd
  obtain ⟨φ', w', cv, k1, k2, k3, k4, k5⟩ := pend_exec (r := r) (n := n) (Q := Q) ho (d.str hsz) d.st hpd (fun b hb => (d.names q hq b hb).2.1)
  have hdst := step_dst (P := P) hop
  obtain ⟨t0, ht0, rfl⟩ : ∃ t0, o.dst = some t0 ∧ dd = Pos.ofNat t0 := by
    rw [hd1] at hdst
    obtain ⟨t0, h1, h2⟩ := Option.map_eq_some_iff.1 hdst.symm
    exact ⟨t0, h1, h2.symm⟩
  have hmemo : o ∈ ops.toList := by rw [← Array.getElem?_toList] at ho; exact List.mem_of_getElem? ho
  have hlt : t0 < a.tmps.size := by rw [d.sz]; exact hdd o hmemo t0 ht0
  have hqlt : q.ix < listed.size := by rw [hls]; exact (Array.getElem?_eq_some_iff.1 ho).1
  refine ⟨φ', a.put o.dst cv, w', k1, ?_⟩
  have hsub : ∀ {p}, p ∈ E.filter (fun p => p.ix != q.ix) → p ∈ E ∧ p.ix ≠ q.ix := fun hp => by
    obtain ⟨h1, h2⟩ := List.mem_filter.1 hp
    exact ⟨h1, by simpa using h2⟩
  refine ⟨k2, d.gl.mono k3, ?_, by rw [put_size]; exact d.sz, fun t x hx hne => ?_, fun p hp => ?_, fun p hp => ?_, d.nodup.filter _, fun p hp b hb => ?_, d.ord.erase hqlt⟩
  · have : (a.put o.dst cv).defers = a.defers := by rw [ht0]; rfl
    rw [this]; exact d.df.mono k3
  · by_cases e : Pos.ofNat t0 = Pos.ofNat t
    · obtain rfl := Pos.ofNat_inj' (Nat.lt_of_le_of_lt hlt (by rw [d.sz]; omega)) e
      rw [hd2] at hx; cases hx
      rw [ht0]
      simpa [Act.put, Array.getD_eq_getD_getElem?, hlt] using k4
    · have hold := d.tmr t x hx fun p hp hpd => by
        by_cases hpq : p.ix = q.ix
        · have : p.op.dst = some (Pos.ofNat t0) := by
            obtain ⟨⟨o', ho', hop', _⟩, _⟩ := d.mem p hp
            rw [hpq, ho] at ho'; cases ho'
            rw [step_dst hop', ht0]; rfl
          rw [this] at hpd; exact e (Option.some.inj hpd)
        · exact hne p (List.mem_filter.2 ⟨hp, by simpa using hpq⟩) hpd
      have hne : t0 ≠ t := fun q => e (by rw [q])
      rw [ht0]
      simp only [Act.put, Array.getD_eq_getD_getElem?, Array.getElem?_setIfInBounds, hne, if_false]
      rw [← Array.getD_eq_getD_getElem?]
      exact hold.mono k3
  · obtain ⟨h1, h2⟩ := hsub hp
    obtain ⟨q1, q2, q3, q4⟩ := d.mem p h1
    exact ⟨q1, q2, by rw [getD_set_ne true (Ne.symm h2)]; exact q3, q4⟩
  · obtain ⟨h1, h2⟩ := hsub hp
    obtain ⟨e, u, q1, q2, q3, q4⟩ := d.pend p h1
    refine ⟨e, u, q1, q2, ?_, q4⟩
    cases q3 with
    | skip x z1 z2 z3 => exact .skip x z1 z2 z3
    | pure K z0 z1 z2 z3 => exact .pure K z0 z1 z2 z3
    | load a z0 z1 z3 => exact .load a z0 z1 z3
    | news K f ob mk b hb z0 z1 z2 z3 z4 z5 z6 z7 =>
      exact .news K f ob mk b hb z0 z1 z2 z3 z4 z5 ((k5 b z5 ((d.names p h1 b hb).2.2 q hq (Ne.symm h2))).trans z6) z7
  · obtain ⟨h1, h2⟩ := hsub hp
    obtain ⟨q1, q2, q3⟩ := d.names p h1 b hb
    exact ⟨q1, q2, fun p' hp' hne => q3 p' (hsub hp').1 hne⟩

theorem bif_cases' {c x y : Bool} (h : bif' c x y = true) : (c = true ∧ x = true) ∨ (c = false ∧ y = true) := by cases c <;> simp_all

theorem OrdE.waits : ∀ {E : List PStep} {listed : Array Bool}, OrdE listed E → ∀ q ∈ E, ∀ i ∈ q.waits, listed.getD i false = true ∨ ∃ q' ∈ E, q'.ix = i
  | [], _, _, q, hq, _, _ => by cases hq
  | p :: E, _, h, q, hq, i, hi => by
    rcases List.mem_cons.1 hq with rfl | hq
    · exact (h.1 i hi).imp id fun ⟨q', h1, h2⟩ => ⟨q', by simp [h1], h2⟩
    · exact (OrdE.waits h.2 q hq i hi).imp id fun ⟨q', h1, h2⟩ => ⟨q', by simp [h1], h2⟩

/-- a block of the evaluator's that the machine has not laid yet -/
theorem HR.ghostNew (h : HR P φ g w) (ob : AObj) : Step P φ g w φ (g.new ob) w := by
  have hnx := h.none_nx
  have hget : ∀ {b o L}, (g.new ob).hp.get b = some o → φ b = some L → g.hp.get b = some o := fun {b o L} hb hL => by
    have hne : g.nx ≠ b := fun q => by subst q; rw [hnx] at hL; cases hL
    have : (g.hp.set g.nx (some ob)).get b = some o := hb
    rw [PT.get_set_ne hne] at this; exact this
  have hlt : g.nx.n < (g.new ob).nx.n := by show g.nx.n < g.nx.succ.n; rw [Pos.n_succ]; omega
  refine ⟨⟨fun b hb => Nat.lt_trans (h.fresh b hb) hlt, fun b o L hb hL => h.obj b o L (hget hb hL) hL, fun b b' o o' L L' hne hb hb' hL hL' hw => h.sep b b' o o' L L' hne (hget hb hL) (hget hb' hL') hL hL' hw⟩,
    fun _ _ => rfl, Nat.le_of_lt hlt, Nat.le_refl _, fun _ _ _ => rfl, fun b o L hb hL hw _ => ⟨b, o, L, hget hb hL, hL, hw, rfl⟩, fun b hb _ => ?_, rfl, rfl, rfl⟩
  exact PT.get_set_ne (fun q => by rw [q] at hb; omega) _ _

theorem holdIt_sub {p : PStep} {tm : PT AV} {h : List Held} {x : Held} (hx : x ∈ h) : x ∈ holdIt p tm h := by
  unfold holdIt
  split
  · cases p.op.dst with
    | none => exact hx
    | some d =>
      show x ∈ opt (tm.get d) h fun v => ⟨p.ix, p.op, v⟩ :: h
      cases tm.get d with
      | none => exact hx
      | some v => exact List.mem_cons_of_mem _ hx
  · exact hx

/-- an operation is taken early -/
theorem DInv.take {listed : Array Bool} {E : List PStep} {nm : Nat → Option Pos} {h : List Held} {tm : PT AV} {df : List ADef} {a : Act} (d : DInv P ops φ₀ g₀ w₀ a₀ l₀ listed E nm h tm df g φ a w) {p : PStep} (hp : p.early = true) (hl : p ∈ l₀) (hs : IsStep P ops p) (hfree : freeE (stepsOf P ops) p = true)
    (hk : p.op.k.isPure = true ∨ p.op.k.isNews = true ∨ p.op.k.isLoads = true) (hun : listed.getD p.ix true = false) (hE : ∀ q ∈ E, q.ix ≠ p.ix) (hw : ∀ i ∈ p.waits, listed.getD i false = true ∨ ∃ q ∈ E, q.ix = i) {K : PT AV → List ADef → G → Bool} {kx : KX}
    (e : evOper P F ih p.op tm df g K kx = true) (hK : ∀ tm' g', K tm' df g' = true → p.op.k.isNews = true → ∀ x ∈ h, heldOk tm' g' x = true) :
    ∃ nm' tm' g', K tm' df g' = true ∧ DInv P ops φ₀ g₀ w₀ a₀ l₀ listed (p :: E) nm' (holdIt p tm' h) tm' df g' φ a w := by
  rw [evOper_eq] at e
  obtain ⟨v, g', h1, h2⟩ := pend_take (φ := φ) hk d.st.hr e
  obtain ⟨dd, hd, hself, _⟩ := free_spec hfree hs
  have hput : putT tm p.op.dst v = tm.set dd (some v) := by rw [hd]; rfl
  rw [hput] at h1
  -- the value of 'p' does not reach what the pending ones look at
  have hnl : ∀ q ∈ E, dd ∉ looksA q.op ∧ q.op.dst ≠ some dd := fun q hq => by
    obtain ⟨m1, m2, m3, _⟩ := d.mem q hq
    obtain ⟨d1, hd1, _, f1⟩ := free_spec hfree m1
    obtain rfl : dd = d1 := by rw [hd] at hd1; exact Option.some.inj hd1
    obtain ⟨f2, f3⟩ := f1 (hE q hq)
    refine ⟨?_, fun he => (f2 dd he).1 rfl⟩
    rcases f3 with f3 | f3
    · exact f3
    · rcases d.ord.waits q hq _ f3 with h | ⟨q', h1, h2⟩
      · rw [getD_listed hun] at h; cases h
      · exact absurd h2 (hE q' h1)
  have hagq : ∀ q ∈ E, Agree q.op tm (tm.set dd (some v)) := fun q hq x hx => by
    rw [PT.get_set_ne (fun e => (hnl q hq).1 (by rw [e]; exact hx))]
  have hagp : Agree p.op tm (tm.set dd (some v)) := fun x hx => by
    rw [PT.get_set_ne (fun e => hself (by rw [e]; exact hx))]
  -- the pending ones, with the heap of the evaluator
  have core : ∀ (nmp : Option Pos), Step P φ₀ g₀ w₀ φ g' w → g.nx.n ≤ g'.nx.n → PendA φ nmp tm g' p.op v → (∀ b, nmp = some b → b.n < g'.nx.n ∧ g₀.nx.n ≤ b.n ∧ g.nx.n ≤ b.n) → (∀ q ∈ E, ∀ u, PendA φ (nm q.ix) tm g q.op u → (∀ a, q.op.k = .op (.load a) → ∃ x ∈ h, x.ix = q.ix ∧ x.op = q.op ∧ x.v = u) → PendA φ (nm q.ix) (tm.set dd (some v)) g' q.op u) →
      ∃ nm' tm' g', K tm' df g' = true ∧ DInv P ops φ₀ g₀ w₀ a₀ l₀ listed (p :: E) nm' (holdIt p tm' h) tm' df g' φ a w := fun nmp hst hnx hpa hnmp hothers => by
    classical
    refine ⟨fun i => if i = p.ix then nmp else nm i, tm.set dd (some v), g', h1, ⟨hst, d.gl, d.df, d.sz, fun t x hx hne => ?_, fun q hq => ?_, fun q hq => ?_, List.pairwise_cons.2 ⟨fun q hq => Ne.symm (hE q hq), d.nodup⟩, fun q hq b hb => ?_, ⟨hw, d.ord⟩⟩⟩
    · have hpt : dd ≠ Pos.ofNat t := fun e => hne p (by simp) (by rw [hd, e])
      rw [PT.get_set_ne hpt] at hx
      exact d.tmr t x hx fun q hq => hne q (by simp [hq])
    · rcases List.mem_cons.1 hq with rfl | hq
      · exact ⟨hs, hfree, hun, hl, hp⟩
      · exact d.mem q hq
    · rcases List.mem_cons.1 hq with rfl | hq
      · refine ⟨dd, v, hd, PT.get_set _ _ _, ?_, fun al hal => ⟨⟨q.ix, q.op, v⟩, ?_, rfl, rfl, rfl⟩⟩
        · simp only [if_true]; exact hpa.agree hagp
        · unfold holdIt
          simp only [hal, hd]
          show _ ∈ opt ((tm.set dd (some v)).get dd) h _
          rw [PT.get_set]
          exact List.mem_cons_self
      · obtain ⟨e1, u, q1, q2, q3, q4⟩ := d.pend q hq
        refine ⟨e1, u, q1, ?_, ?_, fun al hal => ?_⟩
        · rw [PT.get_set_ne (fun e => (hnl q hq).2 (by rw [q1, e]))]; exact q2
        · simp only [hE q hq, if_false]; exact hothers q hq u q3 q4
        · obtain ⟨x, x1, x2⟩ := q4 al hal; exact ⟨x, holdIt_sub x1, x2⟩
    · rcases List.mem_cons.1 hq with rfl | hq
      · simp only [if_true] at hb
        obtain ⟨b1, b2, b3⟩ := hnmp b hb
        refine ⟨b1, b2, fun q' hq' hne => ?_⟩
        rcases List.mem_cons.1 hq' with rfl | hq'
        · exact absurd rfl hne
        · simp only [hne, if_false]
          intro hbb
          have := (d.names q' hq' b hbb).1
          omega
      · have hne0 := hE q hq
        simp only [hne0, if_false] at hb
        obtain ⟨b1, b2, b3⟩ := d.names q hq b hb
        refine ⟨Nat.lt_of_lt_of_le b1 hnx, b2, fun q' hq' hne => ?_⟩
        rcases List.mem_cons.1 hq' with rfl | hq'
        · simp only [if_true]
          intro hbb
          have := (hnmp b hbb).2.2
          omega
        · simp only [hE q' hq', if_false]; exact b3 q' hq' hne
  rcases h2 with ⟨rfl, hpa⟩ | ⟨ob, rfl, hisn, hpa⟩
  · exact core none d.st (Nat.le_refl _) (hpa none) (fun b hb => by cases hb) fun q hq u hu _ => hu.agree (hagq q hq)
  · have hgst := d.st.hr.ghostNew ob
    refine core (some g.nx) (d.st.trans hgst) hgst.nx hpa (fun b hb => ?_) fun q hq u hu hld => ?_
    · cases hb
      refine ⟨?_, d.st.nx, Nat.le_refl _⟩
      show g.nx.n < g.nx.succ.n; rw [Pos.n_succ]; omega
    · refine (hu.agree (hagq q hq)).heap hgst fun al hal ix => ?_
      obtain ⟨x, x1, x2, x3, x4⟩ := hld al hal
      have := hK _ _ h1 hisn x x1
      obtain ⟨xi, xo, xv⟩ := x
      simp only at x3 x4
      subst x3 x4
      exact this

theorem allB_mem {α : Type} {f : α → Bool} : ∀ {l : List α}, allB f l = true → ∀ x ∈ l, f x = true
  | [], _, x, hx => by cases hx
  | a :: l, h, x, hx => by
    obtain ⟨h1, h2⟩ := bif_and (show bif' (f a) (allB f l) false = true from h)
    rcases List.mem_cons.1 hx with rfl | hx
    · exact h1
    · exact allB_mem h2 x hx

theorem listed_of_ready {i : Nat} {listed : Array Bool} (h : i ∈ Region.ready .any ops listed) : listed.getD i true = false := (ready_waits.1 h).1

theorem mem_readyP {listed : Array Bool} {E : List PStep} {lA : List Nat} (hlA : ∀ i, i ∈ lA ↔ listed.getD i false = true ∨ ∃ p ∈ E, p.ix = i) {i : Nat} (hi : i ∈ Region.ready .any ops listed) (hE : ∀ q ∈ E, q.ix ≠ i) : ∃ p, p.ix = i ∧ p ∈ readyP (stepsOf P ops) lA := by
  obtain ⟨h1, o, h2, h3⟩ := ready_waits.1 hi
  refine ⟨⟨i, false, waitsOf o, cOper P ops o⟩, rfl, readyP_mem.2 ⟨stepsOf_mem.2 ⟨rfl, o, h2, rfl, rfl⟩, fun hm => ?_, fun j hj => (hlA j).2 (.inl (h3 j hj))⟩⟩
  rcases (hlA i).1 hm with h | ⟨q, hq, he⟩
  · rw [getD_listed h1] at h; cases h
  · exact hE q hq he

theorem DInv.none_ready {listed : Array Bool} {E : List PStep} {nm : Nat → Option Pos} {h : List Held} {tm : PT AV} {df : List ADef} {a : Act} (d : DInv P ops φ₀ g₀ w₀ a₀ l₀ listed E nm h tm df g φ a w) (hr : Region.ready .any ops listed = []) : E = [] := by
  cases hE : E with
  | nil => rfl
  | cons p r =>
    exfalso
    obtain ⟨q, hq, hw⟩ := d.ord.last (by rw [hE]; simp)
    obtain ⟨⟨o, h1, _, h2⟩, _, h3, _⟩ := d.mem q hq
    have : q.ix ∈ Region.ready .any ops listed := ready_waits.2 ⟨h3, o, h1, by rw [← h2]; exact hw⟩
    rw [hr] at this; cases this

theorem evDrawn_cons {p : PStep} {l : List PStep} {h : List Held} {tm : PT AV} {df : List ADef} {kn : KS} {kx : KX} : evDrawn P F ih (p :: l) h tm df g kn kx = evOper P F ih p.op tm df g (fun tm df g =>
    bif' p.early (bif' p.op.k.isNews (bif' (allB (heldOk tm g) h) (evDrawn P F ih l (holdIt p tm h) tm df g kn kx) false) (evDrawn P F ih l (holdIt p tm h) tm df g kn kx))
      (bif' (allB (heldOk tm g) (heldAfter p h)) (evDrawn P F ih l (heldAfter p h) tm df g kn kx) false)) kx := rfl

/-- the next operation is carried out -/
theorem DInv.next (hih : EvOK P ih) (hF : FTab P F) {r : Option Nat} {n : Nat} {Q : Exit → Act → World → Prop} (hnd : r ≠ none → ∀ o ∈ ops.toList, notDefer o.op = true) (hsz : a₀.tmps.size + 1 < 2 ^ 64)
    (hdd : ∀ o ∈ ops.toList, ∀ d, o.dst = some d → d < a₀.tmps.size) {kx : KX} (hkx : KxOK P φ₀ g₀ w₀ a₀ kx Q)
    {listed : Array Bool} {E : List PStep} {nm : Nat → Option Pos} {h : List Held} {tm : PT AV} {df : List ADef} {a : Act} (d : DInv P ops φ₀ g₀ w₀ a₀ l₀ listed E nm h tm df g φ a w) {p : PStep} (hs : IsStep P ops p)
    (hun : listed.getD p.ix true = false) (hE : ∀ q ∈ E, q.ix ≠ p.ix) (hw : ∀ i ∈ p.waits, listed.getD i false = true) {K : PT AV → List ADef → G → Bool}
    (e : evOper P F ih p.op tm df g (fun tm df g => bif' (allB (heldOk tm g) (heldAfter p h)) (K tm df g) false) (fun x tm df g => kx x (eraseT l₀ tm) df g) = true) {next : Act → World → Prop}
    (hnext : ∀ tm' df' g' φ' a' w', K tm' df' g' = true → DInv P ops φ₀ g₀ w₀ a₀ l₀ (listed.setIfInBounds p.ix true) E nm (heldAfter p h) tm' df' g' φ' a' w' → next a' w') : wpOpIn (Fw r) n P ops Q p.ix next a w := by
  obtain ⟨o, ho, hop, hwt⟩ := hs
  have hs : IsStep P ops p := ⟨o, ho, hop, hwt⟩
  have hmemo : o ∈ ops.toList := by rw [← Array.getElem?_toList] at ho; exact List.mem_of_getElem? ho
  have hag : Agree p.op tm (eraseE E tm) := agree_erase fun q hq e he => looks_free hs ⟨(d.mem q hq).1, (d.mem q hq).2.1, (d.mem q hq).2.2.1⟩ hw e he
  rw [evOper_eq, hag.evOperV, hop] at e
  have hdst := step_dst (P := P) hop
  unfold wpOpIn
  simp only [ho]
  refine oper_okV hih hF e (d.str hsz) (fun h => hnd h o hmemo) (fun φ' v cv df' ds' g' w' st hdf hv hk => ?_) (fun φ' x e' g' w' st hx hk => ?_)
  · obtain ⟨hk1, hk2⟩ := bif_and hk
    have hle := st.le d.st.hr
    refine hnext _ df' g' φ' _ w' hk2 ?_
    have hdst2 : (cOper P ops o).dst = o.dst.map Pos.ofNat := rfl
    rw [hdst2] at hk1 ⊢
    -- what 'p' writes, no pending one looks at
    have hnq : ∀ q ∈ E, ∀ t0, o.dst = some t0 → Pos.ofNat t0 ∉ looksA q.op ∧ q.op.dst ≠ some (Pos.ofNat t0) := fun q hq t0 ht0 => by
      obtain ⟨m1, m2, m3, _⟩ := d.mem q hq
      obtain ⟨d1, hd1, _, f1⟩ := free_spec m2 hs
      have f2 := (f1 (fun e => hE q hq e.symm)).1 (Pos.ofNat t0) (by rw [hdst, ht0]; rfl)
      refine ⟨?_, fun he => f2.1 (by rw [hd1] at he; exact Option.some.inj he)⟩
      rcases f2.2 with f3 | f3 | f3
      · exact f3
      · rcases d.ord.waits q hq _ f3 with h | ⟨q', h1, h2⟩
        · rw [getD_listed hun] at h; cases h
        · exact absurd h2 (hE q' h1)
      · have := hw _ f3
        rw [getD_listed m3] at this; cases this
    have hagq : ∀ q ∈ E, Agree q.op tm (putT tm (o.dst.map Pos.ofNat) v) := fun q hq x hx => by
      cases ht : o.dst with
      | none => rfl
      | some t0 =>
        show tm.get x = (tm.set (Pos.ofNat t0) (some v)).get x
        rw [PT.get_set_ne (fun e => (hnq q hq t0 ht).1 (by rw [e]; exact hx))]
    refine ⟨d.st.trans st, d.gl.mono hle, ?_, by rw [put_size]; exact d.sz, fun t x hx hne => ?_, fun q hq => ?_, fun q hq => ?_, d.nodup, fun q hq b hb => ?_, d.ord.mono⟩
    · have : (({ a with defers := ds' } : Act).put o.dst cv).defers = ds' := by cases o.dst <;> rfl
      rw [this]; exact hdf
    · cases ht : o.dst with
      | none =>
        rw [ht] at hx
        exact (d.tmr t x hx hne).mono hle
      | some t0 =>
        rw [ht] at hx
        have hx : (tm.set (Pos.ofNat t0) (some v)).get (Pos.ofNat t) = some x := hx
        have hlt : t0 < a.tmps.size := by rw [d.sz]; exact hdd o hmemo t0 ht
        by_cases e : Pos.ofNat t0 = Pos.ofNat t
        · obtain rfl := Pos.ofNat_inj' (Nat.lt_of_le_of_lt hlt (by rw [d.sz]; omega)) e
          rw [PT.get_set] at hx; cases hx
          simpa [Act.put, Array.getD_eq_getD_getElem?, hlt] using hv
        · rw [PT.get_set_ne e] at hx
          have hold := d.tmr t x hx hne
          have hne : t0 ≠ t := fun q => e (by rw [q])
          simp only [Act.put, Array.getD_eq_getD_getElem?, Array.getElem?_setIfInBounds, hne, if_false]
          rw [← Array.getD_eq_getD_getElem?]
          exact hold.mono hle
    · obtain ⟨m1, m2, m3, m4⟩ := d.mem q hq
      exact ⟨m1, m2, by rw [getD_set_ne true (fun e => hE q hq e.symm)]; exact m3, m4⟩
    · obtain ⟨d1, u, q1, q2, q3, q4⟩ := d.pend q hq
      have hkeep : ∀ x ∈ h, x.ix = q.ix → x ∈ heldAfter p h := fun x hx hix => by
        refine List.mem_filter.2 ⟨hx, ?_⟩
        cases hm : memN x.ix p.waits with
        | false => rfl
        | true =>
          have := hw _ ((memN_eq _ _).1 hm)
          rw [hix, getD_listed (d.mem q hq).2.2.1] at this; cases this
      refine ⟨d1, u, q1, ?_, (q3.agree (hagq q hq)).heap st fun al hal ix => ?_, fun al hal => ?_⟩
      · cases ht : o.dst with
        | none => exact q2
        | some t0 =>
          show (tm.set (Pos.ofNat t0) (some v)).get d1 = some u
          rw [PT.get_set_ne (fun e => (hnq q hq t0 ht).2 (by rw [q1, e]))]; exact q2
      · obtain ⟨x, x1, x2, x3, x4⟩ := q4 al hal
        have := allB_mem hk1 x (hkeep x x1 x2)
        obtain ⟨xi, xo, xv⟩ := x
        simp only at x3 x4
        subst x3 x4
        exact this
      · obtain ⟨x, x1, x2, x3⟩ := q4 al hal
        exact ⟨x, hkeep x x1 x2, x2, x3⟩
    · obtain ⟨b1, b2, b3⟩ := d.names q hq b hb
      exact ⟨Nat.lt_of_lt_of_le b1 st.nx, b2, b3⟩
  · have hle := st.le d.st.hr
    refine hkx φ' (eraseT l₀ tm) df g' a w' x e' (d.st.trans st) d.sz ⟨st.hr, d.gl.mono hle, fun t u hu => ?_, d.df.mono hle, by rw [d.sz]; exact hsz⟩ hx hk
    obtain ⟨h1, h2⟩ := eraseT_get hu
    exact (d.tmr t u h1 fun q hq => h2 q (d.mem q hq).2.2.2.1 (d.mem q hq).2.2.2.2).mono hle

/-- **A drawn region.** -/
theorem drawn_main (hih : EvOK P ih) (hF : FTab P F) {r : Option Nat} {n : Nat} {Q : Exit → Act → World → Prop} (hnd : r ≠ none → ∀ o ∈ ops.toList, notDefer o.op = true) (hsz : a₀.tmps.size + 1 < 2 ^ 64)
    (hdd : ∀ o ∈ ops.toList, ∀ d, o.dst = some d → d < a₀.tmps.size) {kn : KS} {kx : KX} (hkn : KnOK P φ₀ g₀ w₀ a₀ kn (Q .normal)) (hkx : KxOK P φ₀ g₀ w₀ a₀ kx Q) :
    ∀ (fuel : Nat) (l : List PStep) (lA : List Nat) (E : List PStep) (listed : Array Bool) (nm : Nat → Option Pos) (h : List Held) (tm : PT AV) (df : List ADef) (g : G) (φ : Emb) (a : Act) (w : World), listed.size = ops.size → (∀ p ∈ l, p ∈ l₀) →
      DInv P ops φ₀ g₀ w₀ a₀ l₀ listed E nm h tm df g φ a w → PlanOK (stepsOf P ops) lA l → (∀ i, i ∈ lA ↔ listed.getD i false = true ∨ ∃ p ∈ E, p.ix = i) → E.length + l.length ≤ fuel →
      evDrawn P F ih l h tm df g kn (fun x tm df g => kx x (eraseT l₀ tm) df g) = true → wpAnyIn (Fw r) n P .any ops Q fuel listed a w := by
  -- the end
  have fin : ∀ {listed : Array Bool} {nm : Nat → Option Pos} {h : List Held} {tm : PT AV} {df : List ADef} {g : G} {φ : Emb} {a : Act} {w : World}, DInv P ops φ₀ g₀ w₀ a₀ l₀ listed [] nm h tm df g φ a w → kn tm df g = true → Q .normal a w := fun d e =>
    hkn _ _ _ _ _ _ d.st d.sz (d.str hsz) e
  intro fuel
  induction fuel with
  | zero =>
    intro l lA E listed nm h tm df g φ a w hls hl0 d hpl hlA hlen e
    have hE : E = [] := List.length_eq_zero_iff.1 (by omega)
    have hl : l = [] := List.length_eq_zero_iff.1 (by omega)
    subst hE hl
    refine ⟨List.eq_nil_iff_forall_not_mem.2 fun i hi => ?_, fin d e⟩
    obtain ⟨p, _, hp⟩ := mem_readyP (P := P) hlA hi (fun q hq => by cases hq)
    cases hpl with
    | nil _ hr => rw [hr] at hp; cases hp
  | succ fuel ihf =>
    -- a pending operation comes next
    have pend : ∀ {l : List PStep} {lA : List Nat} {E : List PStep} {listed : Array Bool} {nm : Nat → Option Pos} {h : List Held} {tm : PT AV} {df : List ADef} {g : G} {φ : Emb} {a : Act} {w : World}, listed.size = ops.size → (∀ p ∈ l, p ∈ l₀) →
        DInv P ops φ₀ g₀ w₀ a₀ l₀ listed E nm h tm df g φ a w → PlanOK (stepsOf P ops) lA l → (∀ i, i ∈ lA ↔ listed.getD i false = true ∨ ∃ p ∈ E, p.ix = i) → E.length + l.length ≤ fuel + 1 →
        evDrawn P F ih l h tm df g kn (fun x tm df g => kx x (eraseT l₀ tm) df g) = true → ∀ q ∈ E, q.ix ∈ Region.ready .any ops listed → wpOpIn (Fw r) n P ops Q q.ix (wpAnyIn (Fw r) n P .any ops Q fuel (listed.setIfInBounds q.ix true)) a w := by
      intro l lA E listed nm h tm df g φ a w hls hl0 d hpl hlA hlen e q hq hrd
      have hw : ∀ i ∈ q.waits, listed.getD i false = true := by
        obtain ⟨_, o, h2, h3⟩ := ready_waits.1 hrd
        obtain ⟨o', h4, _, h5⟩ := (d.mem q hq).1
        rw [h2] at h4; cases h4
        rw [h5]; exact h3
      obtain ⟨φ', a', w', k1, k2⟩ := d.exec hsz hls hdd hq hw
      have hqlt : q.ix < listed.size := by rw [hls]; obtain ⟨o', h4, _⟩ := (d.mem q hq).1; exact (Array.getElem?_eq_some_iff.1 h4).1
      refine k1 _ (ihf l lA _ _ nm h tm df g φ' a' w' (by simpa using hls) hl0 k2 hpl (fun i => ?_) ?_ e)
      · rw [hlA i]
        constructor
        · rintro (h1 | ⟨p, hp, rfl⟩)
          · exact .inl (getD_set_true h1)
          · by_cases hpq : p.ix = q.ix
            · left; rw [hpq]; simp [Array.getD_eq_getD_getElem?, hqlt]
            · exact .inr ⟨p, List.mem_filter.2 ⟨hp, by simpa using hpq⟩, rfl⟩
        · rintro (h1 | ⟨p, hp, rfl⟩)
          · by_cases hiq : q.ix = i
            · exact .inr ⟨q, hq, hiq⟩
            · rw [getD_set_ne false hiq] at h1; exact .inl h1
          · exact .inr ⟨p, (List.mem_filter.1 hp).1, rfl⟩
      · have : (E.filter fun p => p.ix != q.ix).length < E.length := List.length_filter_lt_length_iff_exists.2 ⟨q, hq, by simp⟩
        omega
    intro l
    induction l with
    | nil =>
      intro lA E listed nm h tm df g φ a w hls hl0 d hpl hlA hlen e
      refine ⟨fun hr => ?_, fun i hi => ?_⟩
      · have := d.none_ready hr
        subst this
        exact fin d e
      · by_cases hq : ∃ q ∈ E, q.ix = i
        · obtain ⟨q, hq, rfl⟩ := hq
          exact pend hls hl0 d hpl hlA hlen e q hq hi
        · obtain ⟨p, _, hp⟩ := mem_readyP (P := P) hlA hi (fun q hq' he => hq ⟨q, hq', he⟩)
          cases hpl with
          | nil _ hr => rw [hr] at hp; cases hp
    | cons p l ihl =>
      intro lA E listed nm h tm df g φ a w hls hl0 d hpl hlA hlen e
      have e0 := e
      rw [evDrawn_cons] at e
      cases hpl with
      | one _ _ _ hrd hpl' =>
        have hpm : p ∈ readyP (stepsOf P ops) lA := by rw [hrd]; simp
        obtain ⟨m1, m2, m3⟩ := readyP_mem.1 hpm
        obtain ⟨he, hs⟩ := stepsOf_mem.1 m1
        have hunl : listed.getD p.ix false = true → False := fun hh => m2 ((hlA _).2 (.inl hh))
        have hEp : ∀ q ∈ E, q.ix ≠ p.ix := fun q hq hh => m2 ((hlA _).2 (.inr ⟨q, hq, hh⟩))
        have hplt : p.ix < listed.size := by rw [hls]; obtain ⟨o', h4, _⟩ := hs; exact (Array.getElem?_eq_some_iff.1 h4).1
        have hun : listed.getD p.ix true = false := by
          have h1 : listed.getD p.ix false = listed.getD p.ix true := by simp [Array.getD_eq_getD_getElem?, hplt]
          cases hh : listed.getD p.ix true with
          | false => rfl
          | true => exact (hunl (by rw [h1, hh])).elim
        refine ⟨fun hr => ?_, fun i hi => ?_⟩
        · exfalso
          have hE := d.none_ready hr
          subst hE
          obtain ⟨o, h4, _, h5⟩ := hs
          have : p.ix ∈ Region.ready .any ops listed := ready_waits.2 ⟨hun, o, h4, fun j hj => by
            rcases (hlA j).1 (m3 j (by rw [h5]; exact hj)) with h | ⟨q, hq, _⟩
            · exact h
            · cases hq⟩
          rw [hr] at this; cases this
        · by_cases hq : ∃ q ∈ E, q.ix = i
          · obtain ⟨q, hq, rfl⟩ := hq
            exact pend hls hl0 d (.one _ _ _ hrd hpl') hlA hlen e0 q hq hi
          · obtain ⟨p', hp1, hp2⟩ := mem_readyP (P := P) hlA hi (fun q hq' he => hq ⟨q, hq', he⟩)
            rw [hrd] at hp2
            obtain rfl : p' = p := by simpa using hp2
            subst hp1
            have hw : ∀ j ∈ p'.waits, listed.getD j false = true := by
              obtain ⟨_, o, h2, h3⟩ := ready_waits.1 hi
              obtain ⟨o', h4, _, h5⟩ := hs
              rw [h2] at h4; cases h4
              rw [h5]; exact h3
            rw [he] at e
            refine d.next hih hF hnd hsz hdd hkx hs hun hEp hw (K := fun tm df g => evDrawn P F ih l (heldAfter p' h) tm df g kn fun x tm df g => kx x (eraseT l₀ tm) df g) e fun tm' df' g' φ' a' w' k1 k2 => ?_
            refine ihf l (p'.ix :: lA) E _ nm _ tm' df' g' φ' a' w' (by simpa using hls) (fun q hq => hl0 q (by simp [hq])) k2 hpl' (fun i => ?_) (by simp at hlen; omega) k1
            constructor
            · intro hm
              rcases List.mem_cons.1 hm with rfl | hm
              · left; simp [Array.getD_eq_getD_getElem?, hplt]
              · exact ((hlA i).1 hm).imp getD_set_true id
            · intro hm
              by_cases hip : p'.ix = i
              · simp [hip]
              · refine List.mem_cons_of_mem _ ((hlA i).2 (hm.imp (fun hm => ?_) id))
                rw [getD_set_ne false hip] at hm; exact hm
      | early _ p₀ _ hrd hfree hk hpl' =>
        obtain ⟨m1, m2, m3⟩ := readyP_mem.1 hrd
        obtain ⟨_, hs⟩ := stepsOf_mem.1 m1
        have hEp : ∀ q ∈ E, q.ix ≠ p₀.ix := fun q hq hh => m2 ((hlA _).2 (.inr ⟨q, hq, hh⟩))
        have hplt : p₀.ix < listed.size := by rw [hls]; obtain ⟨o', h4, _⟩ := hs; exact (Array.getElem?_eq_some_iff.1 h4).1
        have hun : listed.getD p₀.ix true = false := by
          have h1 : listed.getD p₀.ix false = listed.getD p₀.ix true := by simp [Array.getD_eq_getD_getElem?, hplt]
          cases hh : listed.getD p₀.ix true with
          | false => rfl
          | true => exact absurd ((hlA _).2 (.inl (by rw [h1, hh]))) m2
        obtain ⟨nm', tm', g', k1, k2⟩ := d.take (p := { p₀ with early := true }) rfl (hl0 _ (by simp)) hs hfree hk hun hEp (fun i hi => (hlA i).1 (m3 i hi)) e (fun tm' g' hK hn x hx => by
          have hK : bif' p₀.op.k.isNews (bif' (allB (heldOk tm' g') h) _ false) _ = true := hK
          have hn : p₀.op.k.isNews = true := hn
          rw [hn] at hK
          exact allB_mem (bif_and hK).1 x hx)
        refine ihl (p₀.ix :: lA) _ listed nm' _ tm' df g' φ a w hls (fun q hq => hl0 q (by simp [hq])) k2 hpl' (fun i => ?_) (by simp at hlen ⊢; omega) ?_
        · constructor
          · intro hm
            rcases List.mem_cons.1 hm with rfl | hm
            · exact .inr ⟨_, List.mem_cons_self, rfl⟩
            · exact ((hlA i).1 hm).imp id fun ⟨q, h1, h2⟩ => ⟨q, by simp [h1], h2⟩
          · rintro (hm | ⟨q, hq, rfl⟩)
            · exact List.mem_cons_of_mem _ ((hlA i).2 (.inl hm))
            · rcases List.mem_cons.1 hq with rfl | hq
              · simp
              · exact List.mem_cons_of_mem _ ((hlA _).2 (.inr ⟨q, hq, rfl⟩))
        · have k1 : bif' p₀.op.k.isNews (bif' (allB (heldOk tm' g') h) (evDrawn P F ih l (holdIt { p₀ with early := true } tm' h) tm' df g' kn fun x tm df g => kx x (eraseT l₀ tm) df g) false) (evDrawn P F ih l (holdIt { p₀ with early := true } tm' h) tm' df g' kn fun x tm df g => kx x (eraseT l₀ tm) df g) = true := k1
          rcases bif_cases' k1 with ⟨_, k1⟩ | ⟨_, k1⟩
          · exact (bif_and k1).2
          · exact k1

theorem drawn_ok (hmix : P.follows .mixedOrders = true) (hih : EvOK P ih) (hF : FTab P F) {r : Option Nat} {n : Nat} {Q : Exit → Act → World → Prop} {id : Nat} {tm : PT AV} {df : List ADef} {a : Act} {kn : KS} {kx : KX} {l : List PStep} (hpl : plan P ops = some l) (hnd : r ≠ none → ∀ o ∈ ops.toList, notDefer o.op = true)
    (s : StR P φ tm df g a w) (hdd : ∀ o ∈ ops.toList, ∀ d, o.dst = some d → d < a.tmps.size) (hkn : KnOK P φ g w a kn (Q .normal)) (hkx : KxOK P φ g w a kx Q) (e : stDrawn l P F ih tm df g kn kx = true) : (Code.region id ops true).wpIn (Fw r) n P Q a w := by
  obtain ⟨h1, h2⟩ := planF_ok hpl
  refine wpIn_region_any hmix ?_
  have hst : Step P φ g w φ g { w with drawn := w.drawn + 1 } := ⟨⟨s.hr.fresh, fun b o L h1 h2 => (s.hr.obj b o L h1 h2).of_heap (Le.refl φ) (Nat.le_refl _) rfl, s.hr.sep⟩, fun _ _ => rfl, Nat.le_refl _, Nat.le_refl _, fun _ _ _ => rfl,
    fun b o L hb hL hw _ => ⟨b, o, L, hb, hL, hw, rfl⟩, fun _ _ _ => rfl, rfl, rfl, rfl⟩
  have s' := s.step hst
  refine drawn_main (φ₀ := φ) (g₀ := g) (w₀ := { w with drawn := w.drawn + 1 }) (a₀ := a) (l₀ := l) hih hF hnd s.sz hdd (hkn.step hst rfl) (hkx.step hst rfl) ops.size l [] [] _ (fun _ => none) [] tm df g φ a _ (by simp) (fun p hp => hp)
    ⟨Step.refl s'.hr, s'.gl, s'.df, rfl, fun t v hv _ => s'.tm t v hv, fun p hp => (by cases hp), fun p hp => (by cases hp), List.Pairwise.nil, fun p hp => (by cases hp), trivial⟩ h1 (fun i => ?_) (by simpa using h2) e
  constructor
  · intro h; cases h
  · rintro (h | ⟨p, hp, _⟩)
    · by_cases hi : i < ops.size
      · simp [Array.getD_eq_getD_getElem?, hi] at h
      · simp [Array.getD_eq_getD_getElem?, hi] at h
    · cases hp
end drawn
end
end Go.Lv

namespace Go.Lv
open Go
section
variable {P : Program} {φ φ' φ'' : Emb} {g g' g'' : G} {w w' w'' : World}

/-! ### loops -/
/-- what a loop achieves, seen from the begin of a round -/
def loopR (F : Fence) (n : Nat) (P : Program) (c : Code) (Q : Exit → Act → World → Prop) (a : Act) (w : World) : Prop :=
  ∀ (b : Frame) (k : List Item) (cs : List Frame), b.roundOf = F.round → F.fn b.fn → F.room (cs.length + 1 + n) →
    ∃ e a' w', Q e a' w' ∧ ArrivesIn (Machine.fenced P F) P (lone (b.atR a (.code c :: .inLoop c :: k)) cs w) b k cs e a' w'
theorem loopR.wp {F : Fence} {n : Nat} {c : Code} {Q : Exit → Act → World → Prop} {a : Act} (h : loopR F n P c Q a w) : (Code.loop c).wpIn F n P Q a w := by
  intro b k cs hro hb hr
  obtain ⟨e, a', w', hq, harr⟩ := h b k cs hro hb hr
  exact ⟨e, a', w', hq, .of_steps (.one (fenced_calm hb hr rfl) stepR_loop) harr⟩
theorem loopR.of {F : Fence} {n : Nat} {c : Code} {Q : Exit → Act → World → Prop} {a : Act} (h : c.wpIn F n P (Exit.then (loopR F n P c Q) Q) a w) : loopR F n P c Q a w := by
  intro b k cs hro hb hr
  obtain ⟨e, a₁, w₁, hq, harr⟩ := h b (.inLoop c :: k) cs hro hb hr
  cases e with
  | normal =>
    obtain ⟨e₂, a₂, w₂, hq₂, harr₂⟩ := hq b k cs hro hb hr
    exact ⟨e₂, a₂, w₂, hq₂, .of_steps (StepsIn.trans harr (.one (fenced_calm hb hr rfl) stepR_inLoop)) harr₂⟩
  | exit id => exact ⟨_, a₁, w₁, hq, .pass (x := .inLoop c) rfl (fun _ _ => .inl (by simp)) harr⟩
  | goto l => exact ⟨_, a₁, w₁, hq, .pass (x := .inLoop c) rfl (fun _ _ => .inl (by simp)) harr⟩
  | ret => exact ⟨_, a₁, w₁, hq, .pass (x := .inLoop c) rfl (fun _ _ => .inl (by simp)) harr⟩
  | panic ch => exact ⟨_, a₁, w₁, hq, .pass (x := .inLoop c) rfl (fun _ _ => .inl (by simp)) harr⟩
  | outgrown => exact ⟨_, a₁, w₁, hq, .pass (x := .inLoop c) rfl (fun _ _ => .inl (by simp)) harr⟩

def EvLoop (P : Program) (ih : Ev) : Prop := ∀ (c : Code) (tm : PT AV) (df : List ADef) (g : G) (kn : KS) (kx : KX), ih (.loop (comp P c)) tm df g kn kx = true →
  ∀ (r : Option Nat) (n : Nat) (φ : Emb) (a : Act) (w : World) (Q : Exit → Act → World → Prop), StR P φ tm df g a w → (r ≠ none → c.rok = true) → c.dok a.tmps.size = true →
    KnOK P φ g w a kn (Q .normal) → KxOK P φ g w a kx Q → loopR (Fw r) n P c Q a w

theorem KxOK.then {a : Act} {kx : KX} {Q : Exit → Act → World → Prop} (h : KxOK P φ g w a kx Q) (N : Act → World → Prop) : KxOK P φ g w a kx (Exit.then N Q) := fun φ' tm' df' g' a' w' x e h1 h2 h3 h4 h5 => by
  have := h φ' tm' df' g' a' w' x e h1 h2 h3 h4 h5
  cases x with
  | exit id => obtain rfl : e = _ := h4; exact this
  | ret => obtain rfl : e = _ := h4; exact this
  | panic v => obtain ⟨cv, rfl, _⟩ := h4; exact this

theorem loop_ok {F : PT FE} {ih : Ev} (hih : EvOK P ih) (hil : EvLoop P ih) {c : Code} {tm : PT AV} {df : List ADef} {kn : KS} {kx : KX} (e : evStep P F ih (.loop (comp P c)) tm df g kn kx = true)
    {r : Option Nat} {n : Nat} {a : Act} {Q : Exit → Act → World → Prop} (s : StR P φ tm df g a w) (hr : r ≠ none → c.rok = true) (hd : c.dok a.tmps.size = true) (hkn : KnOK P φ g w a kn (Q .normal)) (hkx : KxOK P φ g w a kx Q) : loopR (Fw r) n P c Q a w := by
  have e : ih (comp P c) tm df g (fun tm df g => ih (.loop (comp P c)) tm df g kn kx) kx = true := e
  refine loopR.of (hih c tm df g _ _ e r n φ a w _ s hr hd (fun φ' tm' df' g' a' w' h1 h2 h3 h4 => ?_) (hkx.then _))
  exact hil c tm' df' g' kn kx h4 r n φ' a' w' Q h3 hr (by rw [h2]; exact hd) (hkn.step h1 h2) (hkx.step h1 h2)

theorem region_dok {n : Nat} {ops : Array Oper} {id : Nat} {d : Bool} (h : (Code.region id ops d).dok n = true) : ∀ o ∈ ops.toList, ∀ t, o.dst = some t → t < n := fun o ho t ht => by
  simp only [Code.dok, List.all_eq_true] at h
  have := h o ho
  rw [ht] at this
  exact Nat.le_of_ble_eq_true this
theorem region_rok {ops : Array Oper} {id : Nat} {d : Bool} (h : (Code.region id ops d).rok = true) : ∀ o ∈ ops.toList, notDefer o.op = true := fun o ho => by
  simp only [Code.rok, List.all_eq_true] at h
  exact h o ho

/-- **One step of the evaluator.** -/
theorem evStep_ok (hmix : P.follows .mixedOrders = true) {F : PT FE} {ih : Ev} (hF : FTab P F) (hih : EvOK P ih) (hil : EvLoop P ih) : EvOK P (evStep P F ih) := by
  intro c tm df g kn kx e r n φ a w Q s hr hd hkn hkx
  cases c with
  | skip => exact wpIn_skip (hkn φ tm df g a w (Step.refl s.hr) rfl s e)
  | region id ops d =>
    cases d with
    | false =>
      have e : evOps P F ih (ops.toList.map (cOper P ops)) tm df g kn kx = true := e
      have := ops_ok (n := n) hih hF (fun h => region_rok (hr h)) ops.toList 0 rfl e s (region_dok hd) hkn hkx
      refine wpIn_region ?_
      rw [List.range_eq_range']
      simpa using this
    | true =>
      have e : evStep P F ih (comp P (.region id ops true)) tm df g kn kx = true := e
      simp only [comp] at e
      split at e
      · rename_i l hl
        exact drawn_ok hmix hih hF hl (fun h => region_rok (hr h)) s (region_dok hd) hkn hkx e
      · cases e
  | seq x y =>
    simp only [Code.dok, Bool.and_eq_true] at hd
    have hrx : r ≠ none → x.rok = true := fun h => by have := hr h; simp only [Code.rok, Bool.and_eq_true] at this; exact this.1
    have hry : r ≠ none → y.rok = true := fun h => by have := hr h; simp only [Code.rok, Bool.and_eq_true] at this; exact this.2
    have e : ih (comp P x) tm df g (fun tm df g => ih (comp P y) tm df g kn kx) kx = true := e
    refine wpIn_seq (hih x tm df g _ _ e r n φ a w _ s hrx hd.1 (fun φ' tm' df' g' a' w' h1 h2 h3 h4 => ?_) (hkx.then _))
    exact hih y tm' df' g' kn kx h4 r n φ' a' w' Q h3 hry (by rw [h2]; exact hd.2) (hkn.step h1 h2) (hkx.step h1 h2)
  | cond c x y =>
    simp only [Code.dok, Bool.and_eq_true] at hd
    have e : evStep P F ih (comp P (.cond c x y)) tm df g kn kx = true := e
    simp only [comp] at e
    split at e
    · rename_i co hco
      obtain ⟨v, h1, h2⟩ := AO.ev_ok s (show co.ev tm _ = true from e)
      obtain ⟨t, rfl, h3⟩ := asBool_ok h1
      refine wpIn_cond (h2 c hco) ?_
      cases t with
      | true => exact hih x tm df g kn kx h3 r n φ a w Q s (fun h => by have := hr h; simp only [Code.rok, Bool.and_eq_true] at this; exact this.1) hd.1 hkn hkx
      | false => exact hih y tm df g kn kx h3 r n φ a w Q s (fun h => by have := hr h; simp only [Code.rok, Bool.and_eq_true] at this; exact this.2) hd.2 hkn hkx
    · cases e
  | block id b =>
    have e : ih (comp P b) tm df g kn (fun x tm df g => AX.rec (motive := fun _ => Bool) (fun j => bif' (Nat.beq j id) (kn tm df g) (kx (.exit j) tm df g)) (kx .ret tm df g) (fun v => kx (.panic v) tm df g) x) = true := e
    refine wpIn_block (hih b tm df g _ _ e r n φ a w _ s (fun h => by have := hr h; simpa only [Code.rok] using this) hd hkn (fun φ' tm' df' g' a' w' x e h1 h2 h3 h4 h5 => ?_))
    cases x with
    | exit j =>
      obtain rfl : e = _ := h4
      rcases bif_cases' (show bif' (Nat.beq j id) (kn tm' df' g') (kx (.exit j) tm' df' g') = true from h5) with ⟨q1, q2⟩ | ⟨q1, q2⟩
      · have := Nat.eq_of_beq_eq_true q1
        simp only [Exit.inBlock, this, if_true]
        exact hkn φ' tm' df' g' a' w' h1 h2 h3 q2
      · have := Nat.ne_of_beq_eq_false q1
        simp only [Exit.inBlock, this, if_false]
        exact hkx φ' tm' df' g' a' w' (.exit j) _ h1 h2 h3 rfl q2
    | ret => obtain rfl : e = _ := h4; exact hkx φ' tm' df' g' a' w' .ret _ h1 h2 h3 rfl h5
    | panic v =>
      have h4' := h4
      obtain ⟨cv, rfl, _⟩ := h4
      exact hkx φ' tm' df' g' a' w' (.panic v) _ h1 h2 h3 h4' h5
  | loop b => exact (loop_ok hih hil e s (fun h => by have := hr h; simpa only [Code.rok] using this) hd hkn hkx).wp
  | rangeFunc f ps asg body =>
    have hr0 : r = none := by
      cases r with
      | none => rfl
      | some l => have := hr (by simp); cases this
    subst hr0
    have e : evStep P F ih (comp P (.rangeFunc f ps asg body)) tm df g kn kx = true := e
    simp only [comp] at e
    split at e
    · rename_i fo hfo
      cases h1 : asg.rok with
      | false => rw [h1] at e; cases e
      | true =>
        cases h2 : body.rok with
        | false => rw [h1, h2] at e; cases e
        | true =>
          rw [h1, h2] at e
          exact range_ok hih hF hfo h1 h2 e s hd hkn hkx
    · cases e
  | exit id => exact wpIn_exit (hkx φ tm df g a w (.exit id) (.exit id) (Step.refl s.hr) rfl s rfl e)
  | scope b =>
    have hr0 : r = none := by
      cases r with
      | none => rfl
      | some l => have := hr (by simp); cases this
    subst hr0
    have e : ih (comp P b) tm df g kn kx = true := e
    refine wpIn_scope (hih b tm df g kn kx e none n φ a w _ s (fun h => absurd rfl h) hd hkn (fun φ' tm' df' g' a' w' x e h1 h2 h3 h4 h5 => ?_))
    have := hkx φ' tm' df' g' a' w' x e h1 h2 h3 h4 h5
    cases x with
    | exit id => obtain rfl : e = _ := h4; exact this
    | ret => obtain rfl : e = _ := h4; exact this
    | panic v => obtain ⟨cv, rfl, _⟩ := h4; exact this
  | label l => exact wpIn_label (hkn φ tm df g a w (Step.refl s.hr) rfl s e)
  | goto l => cases e
  | ret => exact wpIn_ret (hkx φ tm df g a w .ret .ret (Step.refl s.hr) rfl s rfl e)
  | refuse why => cases e

/-- **The evaluator is right.** -/
theorem ev_ok (hmix : P.follows .mixedOrders = true) {F : PT FE} (hF : FTab P F) : ∀ n, EvOK P (ev P F n) ∧ EvLoop P (ev P F n)
  | 0 => ⟨fun _ _ _ _ _ _ e => (by cases e), fun _ _ _ _ _ _ e => (by cases e)⟩
  | n + 1 => by
    obtain ⟨h1, h2⟩ := ev_ok hmix hF n
    exact ⟨evStep_ok hmix hF h1 h2, fun c tm df g kn kx e r m φ a w Q s hr hd hkn hkx => loop_ok h1 h2 (show evStep P F (ev P F n) (.loop (comp P c)) tm df g kn kx = true from e) s hr hd hkn hkx⟩
end
end Go.Lv

namespace Go.Lv
open Go
section
variable {P : Program}

/-! ### the table of functions -/
theorem mkFl_get : ∀ (l : List Func) (t : PT FE) (p : Pos) {q : Pos} {fe : FE}, (mkFl P l t p).get q = some fe → (∃ i fn, l[i]? = some fn ∧ q.n = p.n + i ∧ fe = mkFE P fn) ∨ t.get q = some fe
  | [], _, _, _, _, h => .inr h
  | f :: l, t, p, q, fe, h => by
    have h : (mkFl P l (t.set p (some (mkFE P f))) p.succ).get q = some fe := h
    rcases mkFl_get l _ p.succ h with ⟨i, fn, h1, h2, h3⟩ | h
    · exact .inl ⟨i + 1, fn, by simpa using h1, by rw [h2, Pos.n_succ]; omega, h3⟩
    · by_cases e : p = q
      · subst e
        rw [PT.get_set] at h
        cases h
        exact .inl ⟨0, f, rfl, rfl, rfl⟩
      · rw [PT.get_set_ne e] at h; exact .inr h

def fnCheck (f : Func) : Bool := f.name != "runtime.NumGoroutine" && (Nat.blt (f.ntmps + 100000) 18446744073709551616 && (match f.body with
  | some c => c.dok f.ntmps
  | none => true))

theorem mkF_ok (hc : P.funcs.toList.all fnCheck = true) (hs : P.funcs.size + 1 < 2 ^ 64) : FTab P (mkF P) := by
  intro f fe h
  rcases mkFl_get P.funcs.toList .nil .one h with ⟨i, fn, h1, h2, rfl⟩ | h
  · have hi : i < P.funcs.size := by have := (List.getElem?_eq_some_iff.1 h1).1; simpa using this
    have hfi : i = f := by
      refine Pos.ofNat_inj' (by omega) (Pos.n_inj ?_)
      rw [h2, Pos.ofNat_n (by omega)]
      simp; omega
    subst hfi
    have hm := List.all_eq_true.1 hc fn (List.mem_of_getElem? h1)
    unfold fnCheck at hm
    simp only [Bool.and_eq_true, bne_iff_ne, ne_eq] at hm
    obtain ⟨m1, m2, m3⟩ := hm
    refine ⟨fn, by rw [← Array.getElem?_toList]; exact h1, m1, rfl, rfl, fun c hcc => by rw [hcc] at m3; exact m3, ?_, fun o ho => by cases ho⟩
    have : fn.ntmps + 100000 < 18446744073709551616 := Nat.le_of_ble_eq_true m2
    omega
  · rw [PT.get_nil] at h; cases h

/-- does it answer 'true'? -/
def endTrue (e : AEnd) (_ : G) : Bool := match e with
  | .returned (.bool b) => b
  | _ => false
theorem endTrue_ok {e : AEnd} {g : G} (h : endTrue e g = true) : e = .returned (.bool true) := by
  unfold endTrue at h
  split at h
  · rw [h]
  · cases h

/-- **A closed call**: what the evaluator answers. -/
theorem run_ok (hmix : P.follows .mixedOrders = true) {F : PT FE} (hF : FTab P F) {f n : Nat} {φ : Emb} {g : G} {W : World} (h : HR P φ g W) (hg : GlR P φ) (hro : ∀ b o L, g.hp.get b = some o → φ b = some L → o.wr = false)
    (e : evCall P F (ev P F n) (Pos.ofNat f) [] g endTrue = true) :
    Calls P f #[] W fun e W' => e = .returned (.bool true) ∧ W.heap.size ≤ W'.heap.size ∧ (∀ B, B < W.heap.size → W'.heap[B]? = W.heap[B]?) ∧ W'.os = W.os ∧ W'.output = W.output ∧ W'.tape = W.tape := by
  have hk : KrOK P φ g W endTrue fun e W' => e = .returned (.bool true) ∧ W.heap.size ≤ W'.heap.size ∧ (∀ B, B < W.heap.size → W'.heap[B]? = W.heap[B]?) ∧ W'.os = W.os ∧ W'.output = W.output ∧ W'.tape = W.tape := by
    intro φ' g' w' ae e h1 h2 h3
    obtain rfl := endTrue_ok h3
    obtain ⟨cv, rfl, hv⟩ := h2
    obtain rfl : cv = .bool true := hv
    exact ⟨rfl, h1.size, fun B hB => h1.old B hB fun b o L hb hL hw => (by rw [hro b o L hb hL] at hw; cases hw), h1.os, h1.out, h1.tape⟩
  exact callsIn_wide.1 ((call_ok (ev_ok hmix hF n).1 hF e h hg (cargs := []) VRs.nil hk).2 0)

/-! ### the heap at the begin -/
/-- the variables of the packages that hold tables: number, cells -/
noncomputable def startHp (l : List (Nat × List AV)) : PT AObj := l.foldr (fun x t => t.set (Pos.ofNat x.1) (some (.row true false x.2.length (ofCells x.2)))) .nil
noncomputable def startEmb (n cc : Nat) : Emb := fun p => if 0 < p.n ∧ p.n ≤ n then some ⟨p.n - 1, 0, 0, cc⟩ else none
def sumLen (l : List (Nat × List AV)) : Nat := l.foldr (fun x s => x.2.length + s) 0
theorem sumLen_le : ∀ {l : List (Nat × List AV)} {x}, x ∈ l → x.2.length ≤ sumLen l
  | y :: l, x, h => by
    show x.2.length ≤ y.2.length + sumLen l
    rcases List.mem_cons.1 h with rfl | h
    · omega
    · have := sumLen_le h; omega

theorem startHp_get : ∀ {l : List (Nat × List AV)} {b : Pos} {o : AObj}, (startHp l).get b = some o → ∃ x ∈ l, b = Pos.ofNat x.1 ∧ o = .row true false x.2.length (ofCells x.2)
  | [], b, o, h => by have : (PT.nil : PT AObj).get b = some o := h; rw [PT.get_nil] at this; cases this
  | x :: l, b, o, h => by
    have h : ((startHp l).set (Pos.ofNat x.1) (some (.row true false x.2.length (ofCells x.2)))).get b = some o := h
    by_cases e : Pos.ofNat x.1 = b
    · subst e; rw [PT.get_set] at h; cases h; exact ⟨x, by simp, rfl, rfl⟩
    · rw [PT.get_set_ne e] at h
      obtain ⟨y, h1, h2⟩ := startHp_get h
      exact ⟨y, by simp [h1], h2⟩

theorem start_ok {W : World} {l : List (Nat × List AV)} {nx : Pos} {N : Nat} (hN : P.globals.size = N) (hN2 : N + 1 < 2 ^ 64) (hnx : N < nx.n)
    (hl : ∀ x ∈ l, x.1 < N ∧ (∀ v ∈ x.2, v.one = true) ∧ ∃ cvs : List Value, cvs ≠ [] ∧ (∀ φ, VRs φ x.2 cvs) ∧ ∀ j, j < cvs.length → W.cell? ⟨x.1, j, none⟩ = cvs[j]?) :
    ∃ φ, HR P φ ⟨startHp l, nx⟩ W ∧ GlR P φ ∧ ∀ b o L, (startHp l).get b = some o → φ b = some L → o.wr = false := by
  refine ⟨startEmb N (sumLen l), ⟨fun b hb => ?_, fun b o L hb hL => ?_, fun b b' o o' L L' hne hb hb' hL hL' hw => ?_⟩, fun n hn => ?_, fun b o L hb hL => ?_⟩
  · unfold startEmb at hb
    split at hb
    · rename_i hh; show b.n < nx.n; omega
    · exact absurd rfl hb
  · obtain ⟨x, hx, rfl, rfl⟩ := startHp_get hb
    obtain ⟨h1, h2, cvs, hne, h3, h4⟩ := hl x hx
    have hn : (Pos.ofNat x.1).n = x.1 + 1 := Pos.ofNat_n (by omega)
    unfold startEmb at hL
    rw [if_pos ⟨by omega, by omega⟩, hn] at hL
    cases hL
    have hblk : x.1 < W.heap.size := by
      have hpos : 0 < cvs.length := List.length_pos_iff.2 hne
      have h0 := h4 0 hpos
      rw [List.getElem?_eq_getElem hpos] at h0
      obtain ⟨_, _, _, hh⟩ := cells_of_cell h0
      exact (Array.getElem?_eq_some_iff.1 hh).1
    refine ⟨by show x.1 + 1 - 1 < _; omega, sumLen_le hx, ofCells_row (h3 _) h2 fun j hj => ?_, fun h => by cases h⟩
    have := h4 j hj
    unfold Loc.addr
    simp only [Nat.zero_add, Nat.add_sub_cancel]
    exact this
  · obtain ⟨x, _, _, rfl⟩ := startHp_get hb; cases hw
  · refine ⟨⟨n, 0, 0, sumLen l⟩, ?_, rfl⟩
    unfold startEmb
    have : (Pos.ofNat n).n = n + 1 := Pos.ofNat_n (by omega)
    rw [if_pos ⟨by omega, by omega⟩, this]
    simp
  · obtain ⟨x, _, _, rfl⟩ := startHp_get hb; rfl
end
end Go.Lv

namespace Go.Lv
open Go
section
variable {P : Program}

/-- one listed variable: how it reads -/
theorem laid_reads {W : World} : ∀ {l : List (String × DataW Unit)} {ps : List MemPlace}, DataW.LaidVars P W l ps → ∀ n d, (n, d) ∈ l →
    ∃ g t cs fuel p, P.globalNamed n = some g ∧ (P.globals[g]?).map (·.type) = some t ∧ W.var? P n = some cs ∧ DataW.trod (fun _ => ()) P W 0 (fun _ => true) false fuel t cs.toList = some (d, p)
  | [], _, _, _, _, hm => by cases hm
  | (n', d') :: r, ps, h, n, d, hm => by
    obtain ⟨g, t, cs, fuel, p, q, h1, h2, h3, h4, h5, _⟩ := h
    rcases List.mem_cons.1 hm with e | e
    · cases e
      exact ⟨g, t, cs, fuel, p, h1, h2, h3, h4⟩
    · exact laid_reads h5 n d e

/-- a listed array of strings: its cells -/
theorem strings_laid {W : World} {l : List (String × DataW Unit)} (h : laidMet P l W) {name : String} {bss : List (List UInt8)} (hm : (name, (.agg (bss.map fun b => .lit (.string b)) : DataW Unit)) ∈ l) {g t e n : Nat} (hg : P.globalNamed name = some g)
    (ht : (P.globals[g]?).map (·.type) = some t) (hu : P.underlying t = some (.array n e)) (hn : n = bss.length) (he : P.underlying e = some .string) (hc : P.cellsOf e = 1) :
    ∀ j, j < (bss.map fun b => Value.string ⟨b.toArray⟩).length → W.cell? ⟨g, j, none⟩ = (bss.map fun b => Value.string ⟨b.toArray⟩)[j]? := by
  intro j hj
  obtain ⟨ps, hv, _⟩ := h
  obtain ⟨g', t', cs, fuel, p, h1, h2, h3, h4⟩ := laid_reads hv _ _ hm
  rw [hg] at h1; cases h1
  rw [ht] at h2; cases h2
  obtain ⟨xs, m, _, ex, _, hl, hel⟩ := DataW.trod_array hu h4
  have hj : j < n := by rw [hn]; simpa using hj
  have hE := hel j hj
  rw [hc, Nat.mul_one, List.getElem?_eq_getElem (by omega)] at hE
  obtain ⟨s, e1, e2, _⟩ := DataW.trod_string he hE
  have e3 : (xs.map (·.1)) = bss.map fun b => .lit (.string b) := (DataW.agg.inj (Prod.mk.inj ex).1).symm
  have hjx : j < xs.length := by omega
  have hjb : j < bss.length := by omega
  have e4 : (xs.map (·.1))[j]? = (bss.map fun b => (DataW.lit (.string b) : DataW Unit))[j]? := by rw [e3]
  rw [List.getElem?_map, List.getElem?_map, List.getElem?_eq_getElem hjx, List.getElem?_eq_getElem hjb, e2] at e4
  simp only [Option.map_some, Option.some.injEq, DataW.lit.injEq, Lit.string.injEq] at e4
  rw [World.var?_cell hg h3 j]
  have h0 : cs[j]? = some (.string s) := by
    have h0 : ((cs.toList.drop j).take 1)[0]? = some (.string s) := by rw [e1]; rfl
    simpa using h0
  rw [h0, List.getElem?_map, List.getElem?_eq_getElem hjb, ← e4]
  simp
/-- strings as the evaluator holds them -/
def strsA (bss : List (List UInt8)) : List AV := bss.map fun b => .str (b.map (·.toNat))
theorem strsA_VRs (φ : Emb) : ∀ (bss : List (List UInt8)), VRs φ (strsA bss) (bss.map fun b => Value.string ⟨b.toArray⟩)
  | [] => VRs.nil
  | b :: r => VRs.cons ⟨⟨b.toArray⟩, rfl, by simp⟩ (strsA_VRs φ r)
theorem strsA_one (bss : List (List UInt8)) : ∀ v ∈ strsA bss, v.one = true := fun v hv => by
  obtain ⟨b, _, rfl⟩ := List.mem_map.1 hv; rfl
end
end Go.Lv

/-
  The evaluator is right, part 6: one operation of a region, ranges over functions, operations that are taken early. Conditions: those of each theorem.
-/
import Derived.Test.YtajkappjebiolaaGreatDoorLv6
import Derived.Scope
namespace Go.Lv
open Go
section
variable {P : Program} {φ φ' φ'' : Emb} {g g' g'' : G} {w w' w'' : World}

theorem VR.not_bool {v : AV} {c : Value} (h : VR φ v c) (hv : ∀ b, v ≠ .bool b) : ∀ b, c ≠ .bool b := by
  intro b
  cases v with
  | bool b => exact absurd rfl (hv b)
  | int => rw [show c = _ from h]; simp
  | str => obtain ⟨_, rfl, _⟩ := h; simp
  | ptr => obtain ⟨_, _, rfl⟩ := h; simp
  | nilp => rw [show c = _ from h]; simp
  | sl => obtain ⟨_, _, rfl⟩ := h; simp
  | gsl => obtain ⟨_, _, _, _, _, rfl, _⟩ := h; simp
  | nils => rw [show c = _ from h]; simp
  | mp => obtain ⟨_, _, rfl⟩ := h; simp
  | nilm => rw [show c = _ from h]; simp
  | fn => obtain ⟨_, _, _, rfl, _⟩ := h; simp
  | yld => obtain ⟨_, _, rfl⟩ := h; simp
  | nilf => rw [show c = _ from h]; simp
  | ifc => obtain ⟨_, rfl, _⟩ := h; simp
  | nili => rw [show c = _ from h]; simp
  | agg => obtain ⟨_, rfl, _⟩ := h; simp
  | tup => obtain ⟨_, rfl, _⟩ := h; simp

/-! ### guards -/
theorem guard_ok {tm : PT AV} {a : Act} (ht : TmR φ tm a.tmps) {ops : Array Oper} {o : Oper} {j : Nat} {wnt : Bool} (ho : o.guard = some (j, wnt)) {yes no : Bool} (e : guardV (((ops[j]?).bind (·.dst)).map Pos.ofNat, wnt) tm yes no = true) :
    (Region.wanted o (yielded ops a.tmps) = true ∧ yes = true) ∨ (Region.wanted o (yielded ops a.tmps) = false ∧ no = true) := by
  unfold Region.wanted
  rw [ho]
  simp only
  cases hd : (ops[j]?).bind (·.dst) with
  | none =>
    rw [hd] at e
    refine .inr ⟨?_, e⟩
    unfold yielded
    rw [hd]
    rfl
  | some d =>
    rw [hd] at e
    obtain ⟨v, h1, h2⟩ := opt_some (show opt (tm.get (Pos.ofNat d)) false _ = true from e)
    have hv := ht d v h1
    have hy : yielded ops a.tmps j = match a.tmps[d]? with
        | some (.bool b) => some b
        | _ => none := by
      unfold yielded; rw [hd]; rfl
    rw [hy]
    split at h2
    · rename_i b
      have hb : a.tmps[d]? = some (.bool b) := by
        have : a.tmps.getD d undef = .bool b := hv
        rw [Array.getD_eq_getD_getElem?] at this
        cases hx : a.tmps[d]? with
        | none => rw [hx] at this; cases this
        | some x => rw [hx] at this; simpa using this
      rw [hb]
      cases hbw : (b == wnt) with
      | true => rw [hbw] at h2; left; refine ⟨?_, h2⟩; simpa using hbw
      | false => rw [hbw] at h2; right; refine ⟨?_, h2⟩; simpa using hbw
    · rename_i hnb
      have hn := hv.not_bool hnb
      refine .inr ⟨?_, h2⟩
      cases hx : a.tmps[d]? with
      | none => rfl
      | some x =>
        have hx' : a.tmps.getD d undef = x := by rw [Array.getD_eq_getD_getElem?, hx]; rfl
        rw [hx'] at hn
        cases x <;> first | exact absurd rfl (hn _) | rfl

/-! ### one operation of a region -/
/-- what follows a call -/
def callPost (o : Oper) (a : Act) (next : Act → World → Prop) (Q : Exit → Act → World → Prop) : Ending → World → Prop := fun
  | .returned v, w'' => next (a.put o.dst v) w''
  | .panicked chain, w'' => Q (.panic chain) a w''
  | .outgrown, _ => LetsOut Q

theorem put_size (a : Act) (dst : Option Tmp) (v : Value) : (a.put dst v).tmps.size = a.tmps.size := by cases dst <;> simp [Act.put]

/-! ### an operation, its value handed on -/
noncomputable def finV (df : List ADef) (knV : AV → List ADef → G → Bool) (kxV : AX → G → Bool) : KR := fun e g =>
  AEnd.rec (motive := fun _ => Bool) (fun v => knV v df g) (fun v => kxV (.panic v) g) e
noncomputable def goBV (P : Program) (F : PT FE) (ih : Ev) (k : BK) (vs : List AV) (df : List ADef) (g : G) (knV : AV → List ADef → G → Bool) (kxV : AX → G → Bool) : Bool := match k with
  | .op k => opV k vs g fun g v => knV v df g
  | .callF f => evCall P F ih f vs g (finV df knV kxV)
  | .callV => aC vs fun f as => callAny P F ih f as g (finV df knV kxV)
  | .callI name => aC vs fun x as => methEv P x name as fun f as => evCall P F ih f as g (finV df knV kxV)
  | .recover => false
  | .deferV => aC vs fun f as => fnOf f as fun h as => knV aundef (.call h as :: df) g
  | .panic => a1 vs fun v => bif' (isIfc v) (kxV (.panic v) g) false
noncomputable def evGoV (P : Program) (F : PT FE) (ih : Ev) (o : AOper) (tm : PT AV) (df : List ADef) (g : G) (knV : AV → List ADef → G → Bool) (kxV : AX → G → Bool) : Bool := evs o.args tm fun vs => goBV P F ih o.k vs df g knV kxV
noncomputable def evOperV (P : Program) (F : PT FE) (ih : Ev) (o : AOper) (tm : PT AV) (df : List ADef) (g : G) (knV : AV → List ADef → G → Bool) (kxV : AX → G → Bool) : Bool :=
  opt o.guard (evGoV P F ih o tm df g knV kxV) fun x => guardV x tm (evGoV P F ih o tm df g knV kxV) (knV aundef df g)
theorem evOper_eq (P : Program) (F : PT FE) (ih : Ev) (o : AOper) (tm : PT AV) (df : List ADef) (g : G) (kn : KS) (kx : KX) :
    evOper P F ih o tm df g kn kx = evOperV P F ih o tm df g (fun v df g => kn (putT tm o.dst v) df g) (fun x g => kx x tm df g) := by
  have h : evGo P F ih o tm df g kn kx = evGoV P F ih o tm df g (fun v df g => kn (putT tm o.dst v) df g) (fun x g => kx x tm df g) := by
    unfold evGo evGoV
    congr 1
    funext vs
    cases o.k <;> rfl
  unfold evOper evOperV
  rw [h]

/-- what is to be shown of what follows an operation -/
def KnV (P : Program) (φ : Emb) (g : G) (w : World) (a : Act) (dst : Option Tmp) (knV : AV → List ADef → G → Bool) (next : Act → World → Prop) : Prop :=
  ∀ φ' v cv df' ds' g' w', Step P φ g w φ' g' w' → DfR φ' df' ds' → VR φ' v cv → knV v df' g' = true → next (({ a with defers := ds' } : Act).put dst cv) w'
def KxV (P : Program) (φ : Emb) (g : G) (w : World) (a : Act) (kxV : AX → G → Bool) (Q : Exit → Act → World → Prop) : Prop :=
  ∀ φ' x e g' w', Step P φ g w φ' g' w' → ExR φ' x e → kxV x g' = true → Q e a w'

theorem fin_ok {df : List ADef} {a : Act} (h : HR P φ g w) (hdf : DfR φ df a.defers) {o : Oper} {knV : AV → List ADef → G → Bool} {kxV : AX → G → Bool} {next : Act → World → Prop} {Q : Exit → Act → World → Prop} (hkn : KnV P φ g w a o.dst knV next) (hkx : KxV P φ g w a kxV Q) :
    KrOK P φ g w (finV df knV kxV) (callPost o a next Q) := by
  intro φ' g' w' ae e h1 h2 h3
  cases ae with
  | returned v =>
    obtain ⟨cv, rfl, hv⟩ := h2
    exact hkn φ' v cv df a.defers g' w' h1 (hdf.mono (h1.le h)) hv h3
  | panicked v =>
    obtain ⟨cv, rfl, hv⟩ := h2
    exact hkx φ' (.panic v) _ g' w' h1 ⟨cv, rfl, hv⟩ h3

theorem nextOK_upon {r : Option Nat} {n : Nat} {o : Oper} {a : Act} {next : Act → World → Prop} {Q : Exit → Act → World → Prop} {x : Next} (h : NextOK P r w (callPost o a next Q) x) : o.uponIn (Fw r) n P a next Q (.ok x w) := by
  rcases h with ⟨f, cargs, rfl, hc⟩ | ⟨l, f, tmps, asg, body, rfl, hc⟩
  · refine ⟨fun hh => by simp [Fw, Fence.wide] at hh, (hc (n - 1)).mono fun e w'' he => ?_⟩
    cases e <;> exact he
  · refine ⟨fun hh => by simp [Fw, Fence.wide] at hh, (hc (n - 1)).mono fun e w'' he => ?_⟩
    cases e <;> exact he

theorem args_list {ρ : Operand → Value} {c : Call} : (c.args.toList.map ρ) = (c.args.map ρ).toList := by simp

theorem oper_okV {F : PT FE} {ih : Ev} (hih : EvOK P ih) (hF : FTab P F) {ops : Array Oper} {o : Oper} {tm : PT AV} {df : List ADef} {knV : AV → List ADef → G → Bool} {kxV : AX → G → Bool} (e : evOperV P F ih (cOper P ops o) tm df g knV kxV = true)
    {r : Option Nat} {n : Nat} {a : Act} {next : Act → World → Prop} {Q : Exit → Act → World → Prop} (s : StR P φ tm df g a w) (hnd : r ≠ none → notDefer o.op = true)
    (hkn : KnV P φ g w a o.dst knV next) (hkx : KxV P φ g w a kxV Q) :
    if Region.wanted o (yielded ops a.tmps) = true then o.wpIn (Fw r) n P a w next Q else (∀ f, o.about P w a.eval = some f → (Fw r).fn f) ∧ next (a.put o.dst undef) w := by
  have go : evGoV P F ih (cOper P ops o) tm df g knV kxV = true → o.wpIn (Fw r) n P a w next Q := by
    intro e
    refine ⟨fun _ _ => trivial, ?_⟩
    obtain ⟨vs, e1, hvs⟩ := evs_ok s e
    have hargs : ∀ l, cOs P l = some (cOper P ops o).args → VRs φ vs (l.map a.eval) := hvs
    have sem : (∀ c, o.op ≠ .defer c) → o.semAt (Fw r).round a.eval = execOp a.eval o := fun hh => Oper.semAt_eq _ _ _ hh
    have hop : cOp P o.op = ((cOper P ops o).k, (cOper P ops o).args) := rfl
    generalize (cOper P ops o).k = k at e1 hop
    generalize (cOper P ops o).args = as at hargs hop
    cases k with
    | op K =>
      have hnodef : ∀ c, o.op ≠ .defer c := fun c hc => by
        have e1 : opV K vs g _ = true := e1
        rw [hc] at hop
        unfold cOp at hop
        simp only at hop
        split at hop
        · unfold orBad withArgsB at hop
          rename_i f _
          cases hx : (cOs P (f :: c.args.toList)) with
          | none => rw [hx] at hop; cases hop; cases e1
          | some y => rw [hx] at hop; cases hop
        · cases hop; cases e1
      rw [sem hnodef]
      obtain ⟨x, w', φ', g', v', cv, h1, h2, h3, h4, h5⟩ := op_ok s.hr hop hargs (show opV K vs g _ = true from e1)
      rw [h1]
      have := hkn φ' v' cv df a.defers g' w' h3 (s.df.mono (h3.le s.hr)) h4 h5
      rcases h2 with rfl | ⟨rfl, rfl⟩
      · exact this
      · exact this
    | callF p =>
      rcases cOp_call hop (fun K q => by cases q) with q | ⟨c, f, ho, hcal, hk, has⟩ | ⟨c, f, ho, hcal, hk, has⟩ | ⟨c, x, name, ho, hcal, hk, has⟩ | ⟨c, f, ho, hcal, hk, has⟩ | ⟨x, ho, hk, has⟩ <;> first | (cases q; done) | (cases hk; done) | skip
      cases hk
      rw [sem (fun c' hc => by rw [ho] at hc; cases hc)]
      obtain ⟨x, h1, h2⟩ := callF_ok hih hF (show evCall P F ih (Pos.ofNat f) vs g _ = true from e1) s.hr s.gl (cargs := c.args.map a.eval) (by rw [← args_list]; exact hargs _ has) (fin_ok s.hr s.df hkn hkx) r
      have hrun : (execOp a.eval o).run P w = .ok x w := by
        simp only [execOp, ho, resolve, hcal, Act.eval, Deferred.ofValue]
        simpa [invoke] using h1
      rw [hrun]
      exact nextOK_upon h2
    | callV =>
      rcases cOp_call hop (fun K q => by cases q) with q | ⟨c, f, ho, hcal, hk, has⟩ | ⟨c, f, ho, hcal, hk, has⟩ | ⟨c, x, name, ho, hcal, hk, has⟩ | ⟨c, f, ho, hcal, hk, has⟩ | ⟨x, ho, hk, has⟩ <;> first | (cases q; done) | (cases hk; done) | skip
      rw [sem (fun c' hc => by rw [ho] at hc; cases hc)]
      obtain ⟨fv, as', rfl, e2⟩ := aC_ok (show aC vs _ = true from e1)
      obtain ⟨cf, cl, hcl, hv1, hv2⟩ := hargs _ has
      simp only [List.map_cons, List.cons.injEq] at hcl
      obtain ⟨rfl, rfl⟩ := hcl
      obtain ⟨d, x, h1, h2, h3⟩ := callV_ok hih hF hv1 e2 s.hr s.gl (cargs := c.args.map a.eval) (by rw [← args_list]; exact hv2) (fin_ok s.hr s.df hkn hkx) r
      have hrun : (execOp a.eval o).run P w = .ok x w := by
        simp only [execOp, ho, resolve, hcal, Sem.run_bind, h1, Result.andThen_ok, h2]
      rw [hrun]
      exact nextOK_upon h3
    | callI name =>
      rcases cOp_call hop (fun K q => by cases q) with q | ⟨c, f, ho, hcal, hk, has⟩ | ⟨c, f, ho, hcal, hk, has⟩ | ⟨c, x, name', ho, hcal, hk, has⟩ | ⟨c, f, ho, hcal, hk, has⟩ | ⟨x, ho, hk, has⟩ <;> first | (cases q; done) | (cases hk; done) | skip
      cases hk
      rw [sem (fun c' hc => by rw [ho] at hc; cases hc)]
      obtain ⟨fv, as', rfl, e2⟩ := aC_ok (show aC vs _ = true from e1)
      obtain ⟨cf, cl, hcl, hv1, hv2⟩ := hargs _ has
      simp only [List.map_cons, List.cons.injEq] at hcl
      obtain ⟨rfl, rfl⟩ := hcl
      obtain ⟨y, h1, h2⟩ := methEv_ok hih hF hv1 e2 s.hr s.gl (cargs := c.args.map a.eval) (by rw [← args_list]; exact hv2) (fin_ok s.hr s.df hkn hkx) r
      have hrun : (execOp a.eval o).run P w = .ok y w := by
        simp only [execOp, ho, resolve, hcal]
        have hext : (#[a.eval x] ++ c.args.map a.eval).extract 1 (#[a.eval x] ++ c.args.map a.eval).size = c.args.map a.eval := by
          apply Array.ext'; simp; exact List.take_of_length_le (by simp)
        have h0 : ((#[a.eval x] ++ c.args.map a.eval : Array Value)[0]? : Option Value) = some (a.eval x) := by
          rw [Array.getElem?_append_left (by simp)]; rfl
        show (invoke (.fn (.method name) #[]) (#[a.eval x] ++ c.args.map a.eval)).run P w = _
        unfold invoke
        simp only [h0, hext]
        exact h1
      rw [hrun]
      exact nextOK_upon h2
    | recover => cases e1
    | deferV =>
      rcases cOp_call hop (fun K q => by cases q) with q | ⟨c, f, ho, hcal, hk, has⟩ | ⟨c, f, ho, hcal, hk, has⟩ | ⟨c, x, name', ho, hcal, hk, has⟩ | ⟨c, f, ho, hcal, hk, has⟩ | ⟨x, ho, hk, has⟩ <;> first | (cases q; done) | (cases hk; done) | skip
      have hr : r = none := by
        cases r with
        | none => rfl
        | some l => have := hnd (by simp); rw [ho] at this; cases this
      subst hr
      obtain ⟨fv, as', rfl, e2⟩ := aC_ok (show aC vs _ = true from e1)
      obtain ⟨cf, cl, hcl, hv1, hv2⟩ := hargs _ has
      simp only [List.map_cons, List.cons.injEq] at hcl
      obtain ⟨rfl, rfl⟩ := hcl
      obtain ⟨p, ca, cc, rfl, e3⟩ := fnOf_some e2
      obtain ⟨_, fs, cs, hf, hva, hvc⟩ := hv1
      have hrun : (o.semAt (Fw none).round a.eval).run P w = .ok (.defer { target := .fn (.func p) cs.toArray, args := fs.toArray ++ c.args.map a.eval }) w := by
        show (execOp a.eval o).run P w = _
        simp [execOp, ho, resolve, hcal, hf, Deferred.ofValue]
      rw [hrun]
      have hv2' : VRs φ as' (c.args.map a.eval).toList := by rw [← args_list]; exact hv2
      have hdf : DfR φ (.call (Pos.ofNat p) (ca ++ (as' ++ cc)) :: df) ({ target := .fn (.func p) cs.toArray, args := fs.toArray ++ c.args.map a.eval } :: a.defers) :=
        ⟨_, _, rfl, ⟨p, fs.toArray ++ c.args.map a.eval, cs.toArray, rfl, rfl, rfl, by simpa using hva.append (hv2'.append hvc)⟩, s.df⟩
      exact hkn φ aundef undef _ _ g w (Step.refl s.hr) hdf ⟨[], rfl, rfl⟩ e3
    | panic =>
      rcases cOp_call hop (fun K q => by cases q) with q | ⟨c, f, ho, hcal, hk, has⟩ | ⟨c, f, ho, hcal, hk, has⟩ | ⟨c, x, name', ho, hcal, hk, has⟩ | ⟨c, f, ho, hcal, hk, has⟩ | ⟨x, ho, hk, has⟩ <;> first | (cases q; done) | (cases hk; done) | skip
      rw [sem (fun c' hc => by rw [ho] at hc; cases hc)]
      obtain ⟨v, rfl, e2⟩ := a1_ok (show a1 vs _ = true from e1)
      obtain ⟨cv, hcv, hv⟩ := (hargs _ has).one_inv
      obtain rfl := one_eq hcv
      obtain ⟨e3, e4⟩ := bif_and e2
      cases v <;> first | (cases e3; done) | skip
      rename_i t x'
      have hv0 := hv
      obtain ⟨y, hy, _⟩ := hv
      have hrun : (execOp a.eval o).run P w = .halt (.panic (a.eval x)) w := by
        simp [execOp, ho, hy, Instr.panic, goPanic, Sem.run]
      rw [hrun]
      exact hkx φ (.panic (.ifc t x')) _ g w (Step.refl s.hr) ⟨_, rfl, hv0⟩ e4
  unfold evOperV at e
  have hgd : (cOper P ops o).guard = o.guard.map fun (j, w) => (((ops[j]?).bind (·.dst)).map Pos.ofNat, w) := rfl
  rw [hgd] at e
  cases hg : o.guard with
  | none =>
    rw [hg] at e
    have hw : Region.wanted o (yielded ops a.tmps) = true := by unfold Region.wanted; rw [hg]
    rw [if_pos hw]
    exact go e
  | some p =>
    obtain ⟨j, wnt⟩ := p
    rw [hg] at e
    rcases guard_ok s.tm hg (show guardV _ tm _ _ = true from e) with ⟨h1, h2⟩ | ⟨h1, h2⟩
    · rw [if_pos h1]; exact go h2
    · rw [if_neg (by rw [h1]; simp)]
      refine ⟨fun _ _ => trivial, ?_⟩
      exact hkn φ aundef undef df a.defers g w (Step.refl s.hr) s.df ⟨[], rfl, rfl⟩ h2

theorem oper_ok {F : PT FE} {ih : Ev} (hih : EvOK P ih) (hF : FTab P F) {ops : Array Oper} {o : Oper} {tm : PT AV} {df : List ADef} {kn : KS} {kx : KX} (e : evOper P F ih (cOper P ops o) tm df g kn kx = true)
    {r : Option Nat} {n : Nat} {a : Act} {next : Act → World → Prop} {Q : Exit → Act → World → Prop} (s : StR P φ tm df g a w) (hd : ∀ d, o.dst = some d → d < a.tmps.size) (hnd : r ≠ none → notDefer o.op = true)
    (hkn : KnOK P φ g w a kn next) (hkx : KxOK P φ g w a kx Q) :
    if Region.wanted o (yielded ops a.tmps) = true then o.wpIn (Fw r) n P a w next Q else (∀ f, o.about P w a.eval = some f → (Fw r).fn f) ∧ next (a.put o.dst undef) w := by
  rw [evOper_eq] at e
  refine oper_okV hih hF e s hnd (fun φ' v cv df' ds' g' w' h1 h2 h3 h4 => ?_) (fun φ' x e' g' w' h1 h2 h3 => ?_)
  · have s' := s.step h1
    have s2 : StR P φ' tm df' g' { a with defers := ds' } w' := ⟨s'.hr, s'.gl, s'.tm, h2, s'.sz⟩
    exact hkn φ' _ df' g' _ w' h1 (put_size _ _ _) (s2.put hd h3) h4
  · exact hkx φ' tm df g' a w' x e' h1 rfl (s.step h1) h2 h3
end
end Go.Lv

namespace Go.Lv
open Go
section
variable {P : Program} {φ φ' φ'' : Emb} {g g' g'' : G} {w w' w'' : World}

/-- **A region** that draws no order. -/
theorem ops_ok {F : PT FE} {ih : Ev} (hih : EvOK P ih) (hF : FTab P F) {ops : Array Oper} {r : Option Nat} {n : Nat} {Q : Exit → Act → World → Prop} (hnd : r ≠ none → ∀ o ∈ ops.toList, notDefer o.op = true) : ∀ (l : List Oper) (k : Nat), ops.toList.drop k = l →
    ∀ {tm : PT AV} {df : List ADef} {g : G} {kn : KS} {kx : KX}, evOps P F ih (l.map (cOper P ops)) tm df g kn kx = true → ∀ {φ : Emb} {w : World} {a : Act}, StR P φ tm df g a w → (∀ o ∈ ops.toList, ∀ d, o.dst = some d → d < a.tmps.size) →
      KnOK P φ g w a kn (Q .normal) → KxOK P φ g w a kx Q → wpOpsIn (Fw r) n P ops Q (List.range' k l.length) a w
  | [], k, _, tm, df, g, kn, kx, e, φ, w, a, s, _, hkn, _ => hkn φ tm df g a w (Step.refl s.hr) rfl s e
  | o :: l, k, hl, tm, df, g, kn, kx, e, φ, w, a, s, hd, hkn, hkx => by
    have hk : ops[k]? = some o := by
      rw [← Array.getElem?_toList]
      have : (ops.toList.drop k)[0]? = some o := by rw [hl]; rfl
      simpa using this
    have hl' : ops.toList.drop (k + 1) = l := by
      have : (ops.toList.drop k).drop 1 = l := by rw [hl]; rfl
      rw [List.drop_drop] at this; exact this
    have hmem : o ∈ ops.toList := by
      have : o ∈ ops.toList.drop k := by rw [hl]; simp
      exact List.mem_of_mem_drop this
    show wpOpsIn (Fw r) n P ops Q (k :: List.range' (k + 1) l.length) a w
    simp only [wpOpsIn, hk]
    exact oper_ok hih hF (show evOper P F ih (cOper P ops o) tm df g (fun tm df g => evOps P F ih (l.map (cOper P ops)) tm df g kn kx) kx = true from e) s (hd o hmem) (fun h => hnd h o hmem)
      (fun φ' tm' df' g' a' w' h1 h2 h3 h4 => ops_ok hih hF hnd l (k + 1) hl' h4 h3 (fun o ho d hdd => by rw [h2]; exact hd o ho d hdd) (hkn.step h1 h2) (hkx.step h1 h2)) hkx

theorem wpIn_scope {n : Nat} {Q : Exit → Act → World → Prop} {a : Act} {c : Code} (h : c.wpIn (Fw none) n P (Exit.noGoto Q) a w) : (Code.scope c).wpIn (Fw none) n P Q a w :=
  wpIn_wide.2 (wp_scope_straight (wpIn_wide.1 h))

theorem endLoop_ok (h : HR P φ g w) {l : Pos} {L : Loc} (hL : φ l = some L) {tm : PT AV} {df : List ADef} {kn : KS} {kx : KX} (e : rangeEnd l g tm df kn kx = true) :
    ∃ jump w' g', (Instr.endLoop L.blk).run P w = .ok jump w' ∧ Step P φ g w φ g' w' ∧
      ((jump = none ∧ kn tm df g' = true) ∨ (jump = some .ret ∧ kx .ret tm df g' = true) ∨ (∃ id, jump = some (.exit id) ∧ kx (.exit id) tm df g' = true)) := by
  obtain ⟨st, pend, tm0, ps, asg, body, d, hl, e⟩ := loopAt_some e
  obtain ⟨h1, h2, D, hD, j0, f, tmps, ps', asg', body', h3, h4, h5⟩ := loop_inv h hl hL
  have hlt := (Array.getElem?_eq_some_iff.1 h3).1
  have hs := h.writeObj hl hL rfl (.loop .exhausted pend tm0 ps asg body d) rfl h3 rfl
    (.loop { state := .exhausted, pending := j0, fn := f, tmps := tmps, params := ps', assign := asg', body := body', defers := D.blk }) h2 h1
    ⟨h1, h2, D, hD, j0, f, tmps, ps', asg', body', by simp [hlt], h4, h5⟩
  have hst : st ≠ .busy := fun q => by subst q; cases e
  have hrun : (Instr.endLoop L.blk).run P w = .ok j0 { w with heap := w.heap.setIfInBounds L.blk (.loop { state := .exhausted, pending := j0, fn := f, tmps := tmps, params := ps', assign := asg', body := body', defers := D.blk }) } := by
    simp [Instr.endLoop, Instr.getLoop, run_getObj' h3 rfl, run_setObj' h3 rfl, hst]
  refine ⟨j0, _, _, hrun, hs, ?_⟩
  have e' : (match (generalizing := false) pend with
    | none => kn tm df (g.upd l (.loop .exhausted pend tm0 ps asg body d))
    | some .ret => kx .ret tm df (g.upd l (.loop .exhausted pend tm0 ps asg body d))
    | some (.exit id) => kx (.exit id) tm df (g.upd l (.loop .exhausted pend tm0 ps asg body d))
    | _ => false) = true := by
    cases st with
    | busy => cases e
    | _ => exact e
  cases pend with
  | none => obtain rfl : j0 = none := h4; exact .inl ⟨rfl, e'⟩
  | some c =>
    cases c <;> first | (cases e'; done) | skip
    · rename_i id; obtain rfl : j0 = some (.exit id) := h4; exact .inr (.inr ⟨id, rfl, e'⟩)
    · obtain rfl : j0 = some .ret := h4; exact .inr (.inl ⟨rfl, e'⟩)

theorem range_ok {F : PT FE} {ih : Ev} (hih : EvOK P ih) (hF : FTab P F) {f : Operand} {fo : AO} (hf : cO P f = some fo) {ps : Array Tmp} {asg body : Code} (hr1 : asg.rok = true) (hr2 : body.rok = true) {tm : PT AV} {df : List ADef} {kn : KS} {kx : KX}
    (e : stRange fo (ps.toList.map Pos.ofNat) (comp P asg) (comp P body) P F ih tm df g kn kx = true) {n : Nat} {a : Act} {Q : Exit → Act → World → Prop} (s : StR P φ tm df g a w) (hd : (Code.rangeFunc f ps asg body).dok a.tmps.size = true)
    (hkn : KnOK P φ g w a kn (Q .normal)) (hkx : KxOK P φ g w a kx Q) : (Code.rangeFunc f ps asg body).wpIn (Fw none) n P Q a w := by
  simp only [Code.dok, Bool.and_eq_true, List.all_eq_true] at hd
  obtain ⟨hp, hd1, hd2⟩ := hd
  obtain ⟨fv, e1, hfv⟩ := AO.ev_ok s e
  have hfv := hfv f hf
  obtain ⟨p, ca, cc, rfl, e2⟩ := fnOf_some e1
  obtain ⟨_, fs, cs, hev, hva, hvc⟩ := hfv
  refine wpIn_rangeFunc (fun fn _ => ?_)
  -- the two new objects
  have hs1 := s.hr.alloc (w' := World.withObj w (.deferred (some []))) (.deferred (some [])) (.defd true) ⟨w.heap.size, 0, 0, 1⟩ rfl rfl rfl rfl rfl ⟨rfl, rfl, by show (w.heap.push _)[w.heap.size]? = _; simp⟩
  generalize hφ1 : φ.put g.nx ⟨w.heap.size, 0, 0, 1⟩ = φ1 at hs1
  have s1 := s.step hs1
  have hc1 : φ1 g.nx = some ⟨w.heap.size, 0, 0, 1⟩ := by rw [← hφ1]; exact Emb.put_same _ _ _
  generalize hw1 : World.withObj w (.deferred (some [])) = w1 at hs1 s1
  have hsz1 : w1.heap.size = w.heap.size + 1 := by rw [← hw1]; simp [World.withObj]
  have hg1 : (g.new (.defd true)).nx = g.nx.succ := rfl
  let rec_ : Loop := { state := .ready, pending := none, fn := fn, tmps := a.tmps, params := ps, assign := asg, body := body, defers := w.heap.size }
  have hs2 := s1.hr.alloc (w' := World.withObj w1 (.loop rec_)) (.loop rec_) (.loop .ready none tm (ps.toList.map Pos.ofNat) (comp P asg) (comp P body) g.nx) ⟨w1.heap.size, 0, 0, 1⟩ rfl rfl rfl rfl rfl
    (by
      refine ⟨rfl, rfl, ⟨w.heap.size, 0, 0, 1⟩, ?_, none, fn, a.tmps, ps, asg, body, by show (w1.heap.push _)[w1.heap.size]? = _; simp [rec_], rfl, ?_, rfl, rfl, rfl, s.sz, (fun p hpp => Nat.le_of_ble_eq_true (hp p hpp)), ⟨hd1, hd2⟩, hr1, hr2⟩
      · rw [Emb.put_ne]
        · exact hc1
        · rw [hg1, Pos.n_succ]; omega
      · exact (s1.step (Step.refl s1.hr)).tm.mono (fun b L hb => by
          rw [Emb.put_ne]; exact hb; have := s1.hr.lt hb; omega))
  have hle1 := hs1.le s.hr
  generalize hφ2 : φ1.put (g.new (.defd true)).nx ⟨w1.heap.size, 0, 0, 1⟩ = φ2 at hs2
  have s2 := s1.step hs2
  have hle2 := hs2.le s1.hr
  have hl2 : φ2 g.nx.succ = some ⟨w1.heap.size, 0, 0, 1⟩ := by rw [← hφ2]; exact Emb.put_same _ _ _
  have hc2 := hle2 _ _ hc1
  have he : (Instr.enterLoop fn a.tmps ps asg body (Fw none).round).run P w = .ok (w1.heap.size, [{ target := .collected w.heap.size, args := #[] }]) (World.withObj w1 (.loop rec_)) := by
    subst hw1
    simp [Instr.enterLoop, Fw]
    exact ⟨by simp [World.withObj], rfl⟩
  generalize World.withObj w1 (.loop rec_) = w2 at hs2 s2 he
  have hs12 := hs1.trans hs2
  have h2 : HR P φ2 (rangeG g tm (ps.toList.map Pos.ofNat) (comp P asg) (comp P body)) w2 := hs2.hr
  have s2' : StR P φ2 tm (.coll g.nx :: df) (rangeG g tm (ps.toList.map Pos.ofNat) (comp P asg) (comp P body)) { a with defers := [{ target := .collected w.heap.size, args := #[] }] ++ a.defers } w2 :=
    ⟨s2.hr, s2.gl, s2.tm, ⟨_, _, rfl, ⟨_, hc2, rfl⟩, s2.df⟩, s2.sz⟩
  have hk : KrOK P φ2 (rangeG g tm (ps.toList.map Pos.ofNat) (comp P asg) (comp P body)) w2 (fun e g3 => match e with
      | .returned _ => rangeEnd g.nx.succ g3 tm (.coll g.nx :: df) kn kx
      | .panicked v => kx (.panic v) tm (.coll g.nx :: df) g3) (rangePost (Fw none) n P w1.heap.size Q { a with defers := [{ target := .collected w.heap.size, args := #[] }] ++ a.defers }) := by
    intro φ' g' w' ae e h1 h2' h3
    have s3 := s2'.step h1
    cases ae with
    | returned v =>
      obtain ⟨cv, rfl, _⟩ := h2'
      obtain ⟨jump, w4, g4, q1, q2, q3⟩ := endLoop_ok h1.hr (h1.le h2 _ _ hl2) h3
      refine ⟨jump, w4, q1, ?_⟩
      have s4 := s3.step q2
      have hst := (hs12.trans h1).trans q2
      rcases q3 with ⟨rfl, q3⟩ | ⟨rfl, q3⟩ | ⟨id, rfl, q3⟩
      · exact hkn _ _ _ _ _ _ hst rfl s4 q3
      · exact wpIn_ret (hkx _ _ _ _ _ _ .ret .ret hst rfl s4 rfl q3)
      · exact wpIn_exit (hkx _ _ _ _ _ _ (.exit id) (.exit id) hst rfl s4 rfl q3)
    | panicked v =>
      obtain ⟨cv, rfl, hv⟩ := h2'
      exact hkx _ _ _ _ _ _ (.panic v) _ (hs12.trans h1) rfl s3 ⟨cv, rfl, hv⟩ h3
  obtain ⟨⟨fd, z1, z2, z3⟩, hc⟩ := call_ok hih hF e2 h2 s2.gl (cargs := fs ++ ([.func (.yield w1.heap.size) #[] #[]] ++ cs)) ((hva.mono (fun b L hb => hle2 b L (hle1 b L hb))).append (VRs.append (VRs.cons ⟨_, hl2, rfl⟩ VRs.nil) (hvc.mono (fun b L hb => hle2 b L (hle1 b L hb))))) hk
  refine ⟨w1.heap.size, _, w2, { target := .fn (.func p) cs.toArray, args := fs.toArray ++ #[Value.func (.yield w1.heap.size) #[] #[]] }, w2, p, (fs ++ ([Value.func (.yield w1.heap.size) #[] #[]] ++ cs)).toArray, w2, he, ?_, fun _ _ => trivial, ?_, ?_, ?_⟩
  · show (Deferred.ofValue (a.eval f) ((#[Operand.const (Value.func (.yield w1.heap.size) #[] #[])] : Array Operand).map a.eval)).run P w2 = _
    rw [hev]
    simp [Deferred.ofValue, Act.eval]
  · have : (fs.toArray ++ #[Value.func (.yield w1.heap.size) #[] #[]]) ++ cs.toArray = (fs ++ ([Value.func (.yield w1.heap.size) #[] #[]] ++ cs)).toArray := by simp
    simp only [invoke, this]
    exact callFunc_run z1 z2 z3 _ _
  · intro hh; simp [Fw, Fence.wide] at hh
  · exact hc (n - 1)
end
end Go.Lv

namespace Go.Lv
open Go
section
variable {P : Program} {φ φ' φ'' : Emb} {g g' g'' : G} {w w' w'' : World}

/-! ### new blocks, laid later -/
noncomputable def newF (K : AK) : Option NewF := match K with
  | .alloc z => some (newAlloc z)
  | .box => some newBox
  | .buildS n l z ps => some (newBuildS n l z ps)
  | .mkMap => some newMap
  | _ => none
theorem newF_op {K : AK} {f : NewF} (h : newF K = some f) : opV K = opNew f := by
  unfold newF at h
  split at h <;> first | (cases h; rfl) | cases h

theorem new_ok {o : Oper} {K : AK} {as : List AO} (hc : cOp P o.op = (.op K, as)) {ρ : Operand → Value} {vs : List AV} (hvs : ArgsR P φ as vs ρ) {f : NewF} (hf : newF K = some f) {p : AObj × (Pos → AV)} (hp : f vs = some p) :
    ∃ s : Sem Value, (execOp ρ o).run P w = (do pure (Next.value (← s)) : Sem Next).run P w ∧ NewOK P φ w s p.1 p.2 := by
  have e : opV K vs (⟨.nil, .one⟩ : G) (fun _ _ => true) = true := by rw [newF_op hf]; unfold opNew; rw [hp]
  unfold cOp at hc
  split at hc
  · obtain ⟨hk, has⟩ := inv_withArgs hc e
    cases hk; cases hf
  · obtain ⟨hk, has⟩ := inv_withArgs hc e
    cases hk; cases hf
  · obtain ⟨hk, has⟩ := inv_withArgs hc e
    cases hk; cases hf
  · rename_i t ho
    have hc := inv_orBad hc e
    obtain ⟨z, hz, hc⟩ := Option.bind_eq_some_iff.1 hc
    split at hc
    · cases hc
    · rename_i hze
      cases hc
      cases hf
      exact ⟨_, by simp [execOp, ho], new_alloc hz (by simpa using hze) hp⟩
  · rename_i t x ho
    obtain ⟨hk, has⟩ := inv_withArgs hc e
    cases hk
    cases hf
    exact ⟨Instr.box t (ρ x), by simp [execOp, ho], new_box (hvs _ has) hp⟩
  · have hc := inv_orBad hc e
    obtain ⟨pl, hpl, hc⟩ := Option.bind_eq_some_iff.1 hc
    obtain ⟨⟨l, as'⟩, hpp, hc⟩ := Option.bind_eq_some_iff.1 hc
    obtain ⟨z, hz, hc⟩ := Option.bind_eq_some_iff.1 hc
    split at hc
    · cases hc
    · cases hc; cases hf
  · rename_i t len ps ho
    have hc := inv_orBad hc e
    obtain ⟨el, hel, hc⟩ := Option.bind_eq_some_iff.1 hc
    obtain ⟨n, hn, hc⟩ := Option.bind_eq_some_iff.1 hc
    obtain ⟨z, hz, hc⟩ := Option.bind_eq_some_iff.1 hc
    split at hc
    · cases hc
    · rename_i hcond
      obtain ⟨⟨l, as'⟩, hpp, hc⟩ := Option.map_eq_some_iff.1 hc
      cases hc
      cases hf
      simp only [Bool.or_eq_true, Bool.not_eq_true', not_or, Bool.not_eq_true, Bool.not_eq_false] at hcond
      obtain ⟨⟨c1, c2⟩, c3⟩ := hcond
      obtain ⟨p1, p2⟩ := cParts_ok hpp
      obtain ⟨m1, m2⟩ := parts_map ρ ps
      exact ⟨_, by simp only [execOp, ho], new_buildS (elemSliceT_ok hel) hn hz (by simpa using c1) (Nat.eq_of_beq_eq_true c2) (Nat.le_of_ble_eq_true c3) (parts := ps.map fun (i, x) => (i, ρ x)) (by rw [m1]; exact p1) (by rw [m2]; exact hvs _ p2) hp⟩
  · obtain ⟨hk, has⟩ := inv_withArgs hc e
    split at hk
    · obtain ⟨ks, hks, hk⟩ := Option.map_eq_some_iff.1 hk
      subst hk; cases hf
    · cases hk
  · obtain ⟨hk, has⟩ := inv_withArgs hc e
    split at hk
    · obtain ⟨ks, hks, hk⟩ := Option.map_eq_some_iff.1 hk
      subst hk; cases hf
    · cases hk
  · obtain ⟨hk, has⟩ := inv_withArgs hc e
    obtain ⟨ag, hag, hk⟩ := Option.map_eq_some_iff.1 hk
    subst hk; cases hf
  · obtain ⟨hk, has⟩ := inv_withArgs hc e
    obtain ⟨n, hn, hk⟩ := Option.bind_eq_some_iff.1 hk
    split at hk <;> cases hk
    cases hf
  · obtain ⟨hk, has⟩ := inv_withArgs hc e
    cases hk; cases hf
  · obtain ⟨hk, has⟩ := inv_withArgs hc e
    cases hk; cases hf
  · obtain ⟨hk, has⟩ := inv_withArgs hc e
    cases hk; cases hf
  · obtain ⟨hk, has⟩ := inv_withArgs hc e
    cases hk; cases hf
  · obtain ⟨hk, has⟩ := inv_withArgs hc e
    split at hk <;> cases hk
    cases hf
  · have hc := inv_orBad hc e
    split at hc
    · cases hc
    · obtain ⟨hk, has⟩ := inv_args hc
      cases hk; cases hf
  · rename_i t ho
    cases hc
    cases hf
    exact ⟨Instr.makeMap t none, by simp [execOp, ho], new_map hp⟩
  · have hc := inv_orBad hc e
    obtain ⟨el, hel, hc⟩ := Option.bind_eq_some_iff.1 hc
    obtain ⟨n, hn, hc⟩ := Option.bind_eq_some_iff.1 hc
    obtain ⟨z, hz, hc⟩ := Option.bind_eq_some_iff.1 hc
    split at hc
    · cases hc
    · obtain ⟨it, hit, hc⟩ := Option.bind_eq_some_iff.1 hc
      split at hc
      · obtain ⟨hk, has⟩ := inv_args hc
        cases hk; cases hf
      · cases hc
  · obtain ⟨hk, has⟩ := inv_withArgs hc e
    split at hk
    · split at hk <;> cases hk
      cases hf
    · obtain ⟨n, hn, hk⟩ := Option.map_eq_some_iff.1 hk
      subst hk; cases hf
    · obtain ⟨n, hn, hk⟩ := Option.map_eq_some_iff.1 hk
      subst hk; cases hf
    · cases hk
  · obtain ⟨hk, has⟩ := inv_withArgs hc e
    split at hk
    · obtain ⟨fd, hfd, hk⟩ := Option.bind_eq_some_iff.1 hk
      obtain ⟨n, hn, hk⟩ := Option.bind_eq_some_iff.1 hk
      split at hk <;> cases hk
      cases hf
    · cases hk
  · obtain ⟨hk, has⟩ := inv_withArgs hc e
    split at hk
    · obtain ⟨fd, hfd, hk⟩ := Option.bind_eq_some_iff.1 hk
      obtain ⟨a, ha, hk⟩ := Option.map_eq_some_iff.1 hk
      subst hk; cases hf
    · cases hk
  · obtain ⟨hk, has⟩ := inv_withArgs hc e
    split at hk
    · obtain ⟨n, hn, hk⟩ := Option.map_eq_some_iff.1 hk
      subst hk; cases hf
    · obtain ⟨n, hn, hk⟩ := Option.map_eq_some_iff.1 hk
      subst hk; cases hf
    · cases hk
  · obtain ⟨hk, has⟩ := inv_withArgs hc e
    split at hk
    · obtain ⟨n, hn, hk⟩ := Option.bind_eq_some_iff.1 hk
      obtain ⟨a, ha, hk⟩ := Option.map_eq_some_iff.1 hk
      subst hk; cases hf
    · cases hk; cases hf
    · cases hk
  · obtain ⟨hk, has⟩ := inv_withArgs hc e
    split at hk
    · obtain ⟨ks, hks, hk⟩ := Option.bind_eq_some_iff.1 hk
      obtain ⟨z, hz, hk⟩ := Option.map_eq_some_iff.1 hk
      subst hk; cases hf
    · cases hk
  · obtain ⟨hk, has⟩ := inv_withArgs hc e
    split at hk <;> cases hk <;> cases hf
  · obtain ⟨hk, has⟩ := inv_withArgs hc e
    cases hk; cases hf
  · obtain ⟨hk, has⟩ := inv_withArgs hc e
    cases hk; cases hf
  · obtain ⟨hk, has⟩ := inv_withArgs hc e
    split at hk
    · cases hk
    · obtain ⟨z, hz, hk⟩ := Option.map_eq_some_iff.1 hk
      subst hk; cases hf
    · cases hk
  · obtain ⟨hk, has⟩ := inv_withArgs hc e
    cases hk; cases hf
  · rename_i c ho
    split at hc
    · rename_i b hcal
      unfold cBuiltin at hc
      split at hc
      · cases hc
      · obtain ⟨hk, has⟩ := inv_withArgs hc e
        split at hk
        · split at hk <;> cases hk <;> cases hf
        · split at hk <;> cases hk <;> cases hf
        · cases hk; cases hf
        · cases hk; cases hf
        · obtain ⟨st, h0, hk⟩ := Option.bind_eq_some_iff.1 hk
          obtain ⟨el, hel, hk⟩ := Option.bind_eq_some_iff.1 hk
          obtain ⟨it, hit, hk⟩ := Option.bind_eq_some_iff.1 hk
          split at hk
          · cases hk
          · obtain ⟨z, hz, hk⟩ := Option.bind_eq_some_iff.1 hk
            split at hk <;> cases hk
            cases hf
          · cases hk
        · obtain ⟨st, h0, hk⟩ := Option.bind_eq_some_iff.1 hk
          obtain ⟨el, hel, hk⟩ := Option.bind_eq_some_iff.1 hk
          obtain ⟨n, hn, hk⟩ := Option.map_eq_some_iff.1 hk
          subst hk; cases hf
        · obtain ⟨st, h0, hk⟩ := Option.bind_eq_some_iff.1 hk
          obtain ⟨el, hel, hk⟩ := Option.bind_eq_some_iff.1 hk
          obtain ⟨n, hn, hk⟩ := Option.bind_eq_some_iff.1 hk
          obtain ⟨z, hz, hk⟩ := Option.bind_eq_some_iff.1 hk
          split at hk <;> cases hk
          cases hf
        · split at hk
          · obtain ⟨ks, hks, hk⟩ := Option.map_eq_some_iff.1 hk
            subst hk; cases hf
          · cases hk
        · cases hk; cases hf
        · cases hk; cases hf
        · cases hk
    · have := (withArgsB_call (orBad_or hc e)).1; cases this
    · have := (withArgsB_call (orBad_or hc e)).1; cases this
    · have := (withArgsB_call (orBad_or hc e)).1; cases this
  · split at hc
    · have := (withArgsB_call (orBad_or hc e)).1; cases this
    · cases hc; cases e
  · have := (withArgsB_call (orBad_or hc e)).1; cases this
  · cases hc; cases e
  where orBad_or {why : Nat} {x : Option KA} {K : AK} {as : List AO} {vs : List AV} {g : G} {kn : KN} (h : orBad why x = (.op K, as)) (e : opV K vs g kn = true) : x = some (.op K, as) := inv_orBad h e

/-! ### operations that only compute -/
/-- a function of continuations that hands on one value, or answers false -/
def Det (f : (AV → Bool) → Bool) : Prop := (∃ v, ∀ k, f k = k v) ∨ ∀ k, f k = false
theorem Det.k (v : AV) : Det fun k => k v := .inl ⟨v, fun _ => rfl⟩
theorem Det.no : Det fun _ => false := .inr fun _ => rfl
theorem Det.bif {c : Bool} {f f' : (AV → Bool) → Bool} (h : Det f) (h' : Det f') : Det fun k => bif' c (f k) (f' k) := by cases c <;> assumption
theorem Det.opt {α : Type} {o : Option α} {n : (AV → Bool) → Bool} {s : α → (AV → Bool) → Bool} (h : Det n) (h' : ∀ a, Det (s a)) : Det fun k => opt o (n k) fun a => s a k := by
  cases o with
  | none => exact h
  | some a => exact h' a
theorem Det.a0 {vs : List AV} {f : (AV → Bool) → Bool} (h : Det f) : Det fun k => Lv.a0 vs (f k) := by cases vs <;> first | exact h | exact Det.no
theorem Det.a1 {vs : List AV} {f : AV → (AV → Bool) → Bool} (h : ∀ x, Det (f x)) : Det fun k => Lv.a1 vs fun x => f x k := by
  cases vs with
  | nil => exact Det.no
  | cons a r => exact Det.a0 (vs := r) (h a)
theorem Det.a2 {vs : List AV} {f : AV → AV → (AV → Bool) → Bool} (h : ∀ x y, Det (f x y)) : Det fun k => Lv.a2 vs fun x y => f x y k := by
  cases vs with
  | nil => exact Det.no
  | cons a r => exact Det.a1 (vs := r) (h a)
theorem Det.a3 {vs : List AV} {f : AV → AV → AV → (AV → Bool) → Bool} (h : ∀ x y z, Det (f x y z)) : Det fun k => Lv.a3 vs fun x y z => f x y z k := by
  cases vs with
  | nil => exact Det.no
  | cons a r => exact Det.a2 (vs := r) (h a)
theorem Det.aC {vs : List AV} {f : AV → List AV → (AV → Bool) → Bool} (h : ∀ x y, Det (f x y)) : Det fun k => Lv.aC vs fun x y => f x y k := by
  cases vs with
  | nil => exact Det.no
  | cons a r => exact h a r
theorem Det.asInt {v : AV} {f : IntKind → Int → (AV → Bool) → Bool} (h : ∀ x y, Det (f x y)) : Det fun k => Lv.asInt v fun x y => f x y k := by cases v <;> first | exact h _ _ | exact Det.no
theorem Det.asNat {v : AV} {f : Nat → (AV → Bool) → Bool} (h : ∀ x, Det (f x)) : Det fun k => Lv.asNat v fun x => f x k := by
  cases v with
  | int kd n => cases n with
    | ofNat n => exact h n
    | negSucc n => exact Det.no
  | _ => exact Det.no
theorem Det.asBool {v : AV} {f : Bool → (AV → Bool) → Bool} (h : ∀ x, Det (f x)) : Det fun k => Lv.asBool v fun x => f x k := by cases v <;> first | exact h _ | exact Det.no
theorem Det.asStr {v : AV} {f : List Nat → (AV → Bool) → Bool} (h : ∀ x, Det (f x)) : Det fun k => Lv.asStr v fun x => f x k := by cases v <;> first | exact h _ | exact Det.no
theorem Det.asPtr {v : AV} {f : Pos → Nat → (AV → Bool) → Bool} (h : ∀ x y, Det (f x y)) : Det fun k => Lv.asPtr v fun x y => f x y k := by cases v <;> first | exact h _ _ | exact Det.no
theorem Det.asAgg {v : AV} {f : List AV → (AV → Bool) → Bool} (h : ∀ x, Det (f x)) : Det fun k => Lv.asAgg v fun x => f x k := by cases v <;> first | exact h _ | exact Det.no
theorem Det.asTup {v : AV} {f : List AV → (AV → Bool) → Bool} (h : ∀ x, Det (f x)) : Det fun k => Lv.asTup v fun x => f x k := by cases v <;> first | exact h _ | exact Det.no
theorem Det.asSl {v : AV} {f : Pos → Nat → Nat → (AV → Bool) → Bool} (h : ∀ x y z, Det (f x y z)) : Det fun k => Lv.asSl v fun x y z => f x y z k := by cases v <;> first | exact h _ _ _ | exact Det.no
theorem Det.isRow {o : AObj} {f : Bool → Bool → Nat → PT AV → (AV → Bool) → Bool} (h : ∀ a b c d, Det (f a b c d)) : Det fun k => Lv.isRow o fun a b c d => f a b c d k := by cases o <;> first | exact h _ _ _ _ | exact Det.no
theorem Det.comp {F : AV → AV} {f : (AV → Bool) → Bool} (h : Det f) : Det fun k => f fun v => k (F v) := by
  rcases h with ⟨v, h⟩ | h
  · exact .inl ⟨F v, fun k => h _⟩
  · exact .inr fun k => h _

theorem det_intBin (op : BinOp) (k : IntKind) (a b : Int) : Det (intBin op k a b) := by
  cases op <;> first | exact Det.k _ | exact Det.bif Det.no (Det.k _)
theorem det_strBin (op : BinOp) (a b : List Nat) : Det (strBin op a b) := by
  cases op <;> first | exact Det.k _ | exact Det.no | exact Det.bif (Det.k _) Det.no
theorem det_eqV (ek : EK) (cst : Bool) (x y : AV) (F : Bool → AV) : Det fun kv => eqV ek cst x y fun r => kv (F r) := by
  cases ek with
  | none => exact Det.no
  | bool => exact Det.asBool fun a => Det.asBool fun b => Det.k _
  | flat ks => exact Det.asAgg fun a => Det.asAgg fun b => Det.opt Det.no fun r => Det.k _
  | iface => exact Det.bif (Det.bif (Det.bif (Det.k _) Det.no) (Det.bif (Det.k _) Det.no)) (Det.bif (Det.bif (Det.k _) Det.no) Det.no)
  | ptr => cases x <;> cases y <;> first | exact Det.no | exact Det.k _ | exact Det.bif (Det.k _) Det.no
  | slice => cases x <;> cases y <;> first | exact Det.no | exact Det.k _
  | map => cases x <;> cases y <;> first | exact Det.no | exact Det.k _
  | func => cases x <;> cases y <;> first | exact Det.no | exact Det.k _
theorem det_binEv (op : BinOp) (eq : EK) (cst : Bool) (x y : AV) : Det (binEv op eq cst x y) := by
  refine Det.bif (Det.asInt fun k a => Det.asInt fun k' b => Det.bif (det_intBin op k a b) Det.no) (Det.bif (Det.asStr fun a => Det.asStr fun b => det_strBin op a b) (Det.opt Det.no fun e => ?_))
  exact det_eqV eq cst x y fun r => .bool (bif' e r (!r))
theorem det_minmax (mx : Bool) : ∀ (l : List AV) (a : AV), Det (minmaxEv mx l a)
  | [], a => Det.k a
  | x :: r, a => by
    cases x <;> first | exact Det.no | skip
    cases a <;> first | exact Det.no | skip
    exact det_minmax mx r _
theorem det_sliceV (arr : Option Nat) (size : Nat) (lo hi mx : Bool) (x : AV) (vs : List AV) : Det (sliceV arr size lo hi mx x vs) := by
  cases arr with
  | none =>
    cases x <;> first | exact Det.no | skip
    · rename_i b off len cap
      show Det fun kv => match bounds3 lo hi mx 0 len cap vs with
        | some (l, h, m) => bif' (Nat.ble m cap && Nat.ble h m && Nat.ble l h) (kv (.sl b (bif' (Nat.beq m l) off (off + l * size)) (h - l) (m - l))) false
        | none => false
      cases bounds3 lo hi mx 0 len cap vs with
      | none => exact Det.no
      | some t => exact Det.bif (Det.k _) Det.no
    · rename_i b off len d es
      show Det fun kv => match bounds3 lo hi mx 0 len len vs with
        | some (l, h, m) => bif' (Nat.ble m len && Nat.ble h m && Nat.ble l h && Nat.beq es size)
          (bif' mx (bif' (Nat.ble 1 m) (kv (.sl b (bif' (Nat.beq m l) off (off + l * size)) (h - l) (m - l))) false)
          (kv (.gsl b (off + l * size) (h - l) (d + l) es))) false
        | none => false
      cases bounds3 lo hi mx 0 len len vs with
      | none => exact Det.no
      | some t => exact Det.bif (Det.bif (Det.bif (Det.k _) Det.no) (Det.k _)) Det.no
    · show Det fun kv => match bounds3 lo hi mx 0 0 0 vs with
        | some (l, h, m) => bif' (Nat.beq h 0 && Nat.beq l 0 && Nat.beq m 0) (kv .nils) false
        | none => false
      cases bounds3 lo hi mx 0 0 0 vs with
      | none => exact Det.no
      | some t => exact Det.bif (Det.k _) Det.no
  | some n =>
    cases x <;> first | exact Det.no | skip
    rename_i b off
    show Det fun kv => match bounds3 lo hi mx 0 n n vs with
      | some (l, h, m) => bif' (Nat.ble m n && Nat.ble h m && Nat.ble l h) (kv (.sl b (bif' (Nat.beq m l) off (off + l * size)) (h - l) (m - l))) false
      | none => false
    cases bounds3 lo hi mx 0 n n vs with
    | none => exact Det.no
    | some t => exact Det.bif (Det.k _) Det.no

theorem det_unEv (op : UnOp) (x : AV) : Det (unEv op x) := by
  cases op <;> cases x <;> first | exact Det.no | exact Det.k _

/-- an operation that only computes: one value, whatever the heap -/
theorem det_pure {K : AK} (hK : K.pure = true) (vs : List AV) : (∃ v, ∀ g kn, opV K vs g kn = kn g v) ∨ ∀ g kn, opV K vs g kn = false := by
  have lift : ∀ (f : (AV → Bool) → Bool), Det f → (∀ g kn, opV K vs g kn = f (kn g)) → (∃ v, ∀ g kn, opV K vs g kn = kn g v) ∨ ∀ g kn, opV K vs g kn = false := fun f hf h => by
    rcases hf with ⟨v, hv⟩ | hf
    · exact .inl ⟨v, fun g kn => (h g kn).trans (hv _)⟩
    · exact .inr fun g kn => (h g kn).trans (hf _)
  cases K <;> first | (cases hK; done) | skip
  · exact lift (fun k => Lv.a1 vs k) (Det.a1 fun x => Det.k x) fun g kn => rfl
  · exact lift _ (Det.a3 (vs := vs) fun c a b => Det.asBool (v := c) fun c => Det.k (bif' c a b)) fun g kn => rfl
  · exact lift _ (Det.opt (o := fillParts _ vs _) Det.no fun l => Det.k (.agg l)) fun g kn => rfl
  · exact lift _ (Det.a1 (vs := vs) fun v => Det.bif (c := notNil v) (Det.k v) Det.no) fun g kn => rfl
  · exact lift _ (Det.a2 (vs := vs) fun a b => det_binEv _ _ _ a b) fun g kn => rfl
  · exact lift _ (Det.a1 (vs := vs) fun a => det_unEv _ a) fun g kn => rfl
  · rename_i c
    cases c <;> first | (cases hK; done) | skip
    · rename_i k
      refine lift (fun kv => Lv.a1 vs fun a => match a with | .int _ n => kv (.int k (wrapI k n)) | _ => false) (Det.a1 fun a => by cases a <;> first | exact Det.no | exact Det.k _) fun g kn => ?_
      cases vs with
      | nil => rfl
      | cons a r => cases r <;> cases a <;> rfl
    · refine lift (fun kv => Lv.a1 vs fun a => match a with | .str l => kv (.str l) | _ => false) (Det.a1 fun a => by cases a <;> first | exact Det.no | exact Det.k _) fun g kn => ?_
      cases vs with
      | nil => rfl
      | cons a r => cases r <;> cases a <;> rfl
  · exact lift _ (Det.a1 (vs := vs) fun a => Det.k (.ifc _ a)) fun g kn => rfl
  · exact lift _ (Det.k _) fun g kn => rfl
  · rename_i lo hi
    exact lift _ (Det.aC (vs := vs) fun t vs => Det.asStr (v := t) fun t => Det.opt (o := bounds3 lo hi false 0 (len t) (len t) vs) Det.no fun b => Det.bif (c := Nat.ble b.2.1 (len t)) (Det.bif (c := Nat.ble b.1 b.2.1) (Det.k (.str (dropN (takeN t b.2.1) b.1))) Det.no) Det.no) fun g kn => rfl
  · exact lift _ (Det.aC (vs := vs) fun x vs => det_sliceV _ _ _ _ _ x vs) fun g kn => rfl
  · exact lift _ (Det.a1 (vs := vs) fun x => Det.asPtr (v := x) fun b o => Det.k (.ptr b (Nat.add o _))) fun g kn => rfl
  · rename_i off a
    exact lift _ (Det.a1 (vs := vs) fun x => Det.asAgg (v := x) fun l => Det.opt (o := a) (Det.opt (o := nth l off) Det.no fun v => Det.k v) fun n => Det.k (.agg (takeN (dropN l off) n))) fun g kn => rfl
  · rename_i arr size
    exact lift _ (Det.a2 (vs := vs) fun x i => Det.asNat (v := i) fun i => Det.opt (o := arr) (Det.asSl (v := x) fun b o l => Det.bif (c := Nat.blt i l) (Det.k (.ptr b (Nat.add o (Nat.mul i size)))) Det.no)
      fun n => Det.asPtr (v := x) fun b o => Det.bif (c := Nat.blt i n) (Det.k (.ptr b (Nat.add o (Nat.mul i size)))) Det.no) fun g kn => rfl
  · rename_i arr
    exact lift _ (Det.a2 (vs := vs) fun x i => Det.asNat (v := i) fun i => Det.opt (o := arr) (Det.asStr (v := x) fun l => Det.opt (o := nth l i) Det.no fun b => Det.k (.int .u8 (.ofNat b)))
      fun m => Det.asAgg (v := x) fun l => Det.bif (c := Nat.blt i m.1) (Det.opt (o := m.2.2) (Det.opt (o := nth l (Nat.mul i m.2.1)) Det.no fun v => Det.k v) fun n => Det.k (.agg (takeN (dropN l (Nat.mul i m.2.1)) n))) Det.no) fun g kn => rfl
  · rename_i t z ok
    refine lift (fun kv => Lv.a1 vs fun x => match x with
      | .ifc u v => bif' (Nat.beq t u) (kv (bif' ok (.tup [v, .bool true]) v)) (bif' ok (kv (.tup [z, .bool false])) false)
      | .nili => bif' ok (kv (.tup [z, .bool false])) false
      | _ => false) (Det.a1 fun a => by cases a <;> first | exact Det.no | exact Det.bif (Det.k _) (Det.bif (Det.k _) Det.no) | exact Det.bif (Det.k _) Det.no) fun g kn => ?_
    rfl
  · exact lift _ (Det.a1 (vs := vs) fun x => Det.asTup (v := x) fun l => Det.opt (o := nth l _) Det.no fun v => Det.k v) fun g kn => rfl
  · rename_i arr
    exact lift _ (Det.a1 (vs := vs) fun x => Det.opt (o := arr) (Det.opt (o := slLen x) Det.no fun n => Det.k (.int .i64 (.ofNat n))) fun n => Det.k (.int .i64 (.ofNat n))) fun g kn => rfl
  · exact lift _ (Det.a1 (vs := vs) fun x => Det.asStr (v := x) fun s => Det.k (.int .i64 (.ofNat (len s)))) fun g kn => rfl
  · refine lift (fun kv => Lv.a1 vs fun x => match x with
      | .nils => kv (.int .i64 0)
      | .sl _ _ _ c => kv (.int .i64 (.ofNat c))
      | _ => false) (Det.a1 fun a => by cases a <;> first | exact Det.no | exact Det.k _) fun g kn => rfl
  · exact lift _ (Det.aC (vs := vs) fun a r => det_minmax _ r a) fun g kn => rfl

theorem det_load (a : Option Nat) (vs : List AV) (g : G) : Det fun k => opLoad a vs g fun _ v => k v := by
  refine Det.a1 fun v => Det.asPtr fun b off => Det.opt ?_ fun n => ?_
  · exact Det.opt Det.no fun o => Det.isRow fun _ _ _ c => Det.opt Det.no fun v => Det.k v
  · exact Det.opt Det.no fun o => Det.isRow fun _ _ _ c => Det.opt Det.no fun l => Det.k (.agg l)
end
end Go.Lv

namespace Go.Lv
open Go
section
variable {P : Program} {φ φ' φ'' : Emb} {g g' g'' : G} {w w' w'' : World}

theorem zip_all_eq {f : AV → AV → Bool} (hf : ∀ x y, f x y = true → x = y) : ∀ {l l' : List AV}, l.length = l'.length → ((l.zip l').all fun p => f p.1 p.2) = true → l = l'
  | [], [], _, _ => rfl
  | [], _ :: _, h, _ => by cases h
  | _ :: _, [], h, _ => by cases h
  | a :: l, b :: l', h, e => by
    simp only [List.zip_cons_cons, List.all_cons, Bool.and_eq_true] at e
    rw [hf a b e.1, zip_all_eq hf (by simpa using h) e.2]
theorem veqF_eq : ∀ (n : Nat) (x y : AV), veqF n x y = true → x = y
  | 0, x, y, h => by cases h
  | n + 1, x, y, h => by
    have ih := veqF_eq n
    have h : (match (generalizing := false) x, y with
      | .bool a, .bool b => a == b
      | .int k a, .int k' b => kbeq k k' && ibeq a b
      | .str a, .str b => nbeq a b
      | .ptr b o, .ptr b' o' => b.beq b' && Nat.beq o o'
      | .nilp, .nilp => true
      | .sl b o l c, .sl b' o' l' c' => b.beq b' && Nat.beq o o' && Nat.beq l l' && Nat.beq c c'
      | .gsl b o l d e, .gsl b' o' l' d' e' => b.beq b' && Nat.beq o o' && Nat.beq l l' && Nat.beq d d' && Nat.beq e e'
      | .nils, .nils => true
      | .mp b, .mp b' => b.beq b'
      | .nilm, .nilm => true
      | .nilf, .nilf => true
      | .nili, .nili => true
      | .fn (.func i) a c, .fn (.func j) a' c' => Nat.beq i j && Nat.beq (len a) (len a') && Nat.beq (len c) (len c') && ((a.zip a').all fun p => veqF n p.1 p.2) && ((c.zip c').all fun p => veqF n p.1 p.2)
      | .yld b, .yld b' => b.beq b'
      | .ifc t v, .ifc t' v' => Nat.beq t t' && veqF n v v'
      | .agg l, .agg l' => Nat.beq (len l) (len l') && (l.zip l').all fun p => veqF n p.1 p.2
      | _, _ => false) = true := h
    split at h
    · simp at h; rw [h]
    · simp only [Bool.and_eq_true] at h
      have h2 := h.2
      rw [ibeq_eq] at h2
      rw [kbeq_eq h.1]; simp at h2; rw [h2]
    · rw [nbeq_eq] at h; simp at h; rw [h]
    · simp only [Bool.and_eq_true] at h; rw [Pos.beq_eq h.1, Nat.eq_of_beq_eq_true h.2]
    · rfl
    · simp only [Bool.and_eq_true] at h; obtain ⟨⟨⟨h1, h2⟩, h3⟩, h4⟩ := h
      rw [Pos.beq_eq h1, Nat.eq_of_beq_eq_true h2, Nat.eq_of_beq_eq_true h3, Nat.eq_of_beq_eq_true h4]
    · simp only [Bool.and_eq_true] at h; obtain ⟨⟨⟨⟨h1, h2⟩, h3⟩, h4⟩, h5⟩ := h
      rw [Pos.beq_eq h1, Nat.eq_of_beq_eq_true h2, Nat.eq_of_beq_eq_true h3, Nat.eq_of_beq_eq_true h4, Nat.eq_of_beq_eq_true h5]
    · rfl
    · rw [Pos.beq_eq h]
    · rfl
    · rfl
    · rfl
    · simp only [Bool.and_eq_true] at h; obtain ⟨⟨⟨⟨h1, h2⟩, h3⟩, h4⟩, h5⟩ := h
      have h2 := Nat.eq_of_beq_eq_true h2; have h3 := Nat.eq_of_beq_eq_true h3
      rw [len_eq, len_eq] at h2 h3
      rw [Nat.eq_of_beq_eq_true h1, zip_all_eq ih h2 h4, zip_all_eq ih h3 h5]
    · rw [Pos.beq_eq h]
    · simp only [Bool.and_eq_true] at h; rw [Nat.eq_of_beq_eq_true h.1, ih _ _ h.2]
    · simp only [Bool.and_eq_true] at h
      have h1 := Nat.eq_of_beq_eq_true h.1
      rw [len_eq, len_eq] at h1
      rw [zip_all_eq ih h1 h.2]
    · cases h
theorem veq_eq {x y : AV} (h : veq x y = true) : x = y := veqF_eq 4 x y h

/-! ### what an operation looks at -/
theorem memP_mem {p : Pos} {l : List Pos} (h : memP p l = false) : p ∉ l := fun hm => by
  have hb : ∀ q : Pos, q.beq q = true := fun q => by
    induction q with
    | one => rfl
    | o q ih => exact ih
    | i q ih => exact ih
  have : memP p l = true := List.any_eq_true.2 ⟨p, hm, hb p⟩
  rw [h] at this; cases this

/-- two stores of temporaries agree where an operation looks -/
def Agree (o : AOper) (tm tm' : PT AV) : Prop := ∀ p ∈ looksA o, tm.get p = tm'.get p
theorem AO.ev_congr {x : AO} {tm tm' : PT AV} (h : ∀ p, x = .tmp p → tm.get p = tm'.get p) (k : AV → Bool) : x.ev tm k = x.ev tm' k := by
  cases x with
  | tmp p => show opt (tm.get p) false k = opt (tm'.get p) false k; rw [h p rfl]
  | val v => rfl
theorem evs_congr {tm tm' : PT AV} : ∀ {l : List AO} (_ : ∀ p, .tmp p ∈ l → tm.get p = tm'.get p) (k : List AV → Bool), evs l tm k = evs l tm' k
  | [], _, _ => rfl
  | x :: l, h, k => by
    show x.ev tm (fun v => evs l tm fun vs => k (v :: vs)) = x.ev tm' (fun v => evs l tm' fun vs => k (v :: vs))
    rw [AO.ev_congr (fun p hp => h p (by simp [hp]))]
    congr 1
    funext v
    exact evs_congr (fun p hp => h p (by simp [hp])) _
theorem Agree.args {o : AOper} {tm tm' : PT AV} (h : Agree o tm tm') (k : List AV → Bool) : evs o.args tm k = evs o.args tm' k :=
  evs_congr (fun p hp => h p (List.mem_append_left _ (List.mem_filterMap.2 ⟨.tmp p, hp, rfl⟩))) k
theorem Agree.guard {o : AOper} {tm tm' : PT AV} (h : Agree o tm tm') {x : Option Pos × Bool} (hg : o.guard = some x) (yes no : Bool) : guardV x tm yes no = guardV x tm' yes no := by
  obtain ⟨p, b⟩ := x
  cases p with
  | none => rfl
  | some p =>
    have hp : p ∈ looksA o := List.mem_append_right _ (by rw [hg]; simp)
    show opt (tm.get p) false _ = opt (tm'.get p) false _
    rw [h p hp]
theorem Agree.evOperV {o : AOper} {tm tm' : PT AV} (h : Agree o tm tm') {F : PT FE} {ih : Ev} {df : List ADef} {knV : AV → List ADef → G → Bool} {kxV : AX → G → Bool} : evOperV P F ih o tm df g knV kxV = evOperV P F ih o tm' df g knV kxV := by
  unfold Lv.evOperV evGoV
  rw [h.args]
  cases hg : o.guard with
  | none => rfl
  | some x => exact h.guard hg _ _

/-- an operation that is taken early: what it gives, as the temporaries and the heap are -/
inductive PendA (φ : Emb) (nm : Option Pos) (tm : PT AV) (g : G) (o : AOper) (v : AV) : Prop
  | skip (x : Option Pos × Bool) (h1 : o.guard = some x) (h2 : ∀ yes no, guardV x tm yes no = no) (h3 : v = aundef)
  | pure (K : AK) (h0 : o.guard = none ∨ ∃ x, o.guard = some x ∧ ∀ yes no, guardV x tm yes no = yes) (h1 : o.k = .op K) (h2 : K.pure = true) (h3 : evs o.args tm (fun vs => opV K vs g fun g' v' => open Classical in decide (g' = g ∧ v' = v)) = true)
  | load (a : Option Nat) (h0 : o.guard = none ∨ ∃ x, o.guard = some x ∧ ∀ yes no, guardV x tm yes no = yes) (h1 : o.k = .op (.load a)) (h3 : evs o.args tm (fun vs => opV (.load a) vs g fun g' v' => open Classical in decide (g' = g ∧ v' = v)) = true)
  | news (K : AK) (f : NewF) (ob : AObj) (mk : Pos → AV) (b : Pos) (hb : nm = some b) (h0 : o.guard = none ∨ ∃ x, o.guard = some x ∧ ∀ yes no, guardV x tm yes no = yes) (h1 : o.k = .op K) (h2 : newF K = some f)
      (h3 : evs o.args tm (fun vs => open Classical in decide (f vs = some (ob, mk))) = true) (h4 : g.hp.get b = some ob) (h5 : b.n < g.nx.n) (h6 : φ b = none) (h7 : v = mk b)

theorem guardV_det (x : Option Pos × Bool) (tm : PT AV) : (∀ yes no, guardV x tm yes no = yes) ∨ (∀ yes no, guardV x tm yes no = no) ∨ (∀ yes no, guardV x tm yes no = false) := by
  obtain ⟨p, b⟩ := x
  cases p with
  | none => exact .inr (.inl fun _ _ => rfl)
  | some p =>
    cases h : tm.get p with
    | none => exact .inr (.inr fun yes no => by show opt (tm.get p) false _ = false; rw [h])
    | some v =>
      have hh : ∀ yes no, guardV (some p, b) tm yes no = (match (generalizing := false) v with | .bool c => bif' (c == b) yes no | _ => no) := fun yes no => by show opt (tm.get p) false _ = _; rw [h]; rfl
      cases v <;> first | exact .inr (.inl hh) | skip
      rename_i c
      cases hc : (c == b) with
      | true => exact .inl fun yes no => by rw [hh]; show bif' (c == b) yes no = yes; rw [hc]
      | false => exact .inr (.inl fun yes no => by rw [hh]; show bif' (c == b) yes no = no; rw [hc])

theorem evs_get : ∀ (l : List AO) (tm : PT AV), (∃ vs, ∀ k, evs l tm k = k vs) ∨ ∀ k, evs l tm k = false
  | [], tm => .inl ⟨[], fun _ => rfl⟩
  | x :: l, tm => by
    have hx : (∃ v, ∀ k, x.ev tm k = k v) ∨ ∀ k, x.ev tm k = false := by
      cases x with
      | val v => exact .inl ⟨v, fun _ => rfl⟩
      | tmp p =>
        cases h : tm.get p with
        | none => exact .inr fun k => by show opt (tm.get p) false k = false; rw [h]
        | some v => exact .inl ⟨v, fun k => by show opt (tm.get p) false k = k v; rw [h]⟩
    rcases hx with ⟨v, hv⟩ | hx
    · rcases evs_get l tm with ⟨vs, h⟩ | h
      · exact .inl ⟨v :: vs, fun k => (hv _).trans (h _)⟩
      · exact .inr fun k => (hv _).trans (h _)
    · exact .inr fun k => hx _

/-- taking an operation early -/
theorem pend_take {F : PT FE} {ih : Ev} {o : AOper} {tm : PT AV} {df : List ADef} {knV : AV → List ADef → G → Bool} {kxV : AX → G → Bool} (hk : o.k.isPure = true ∨ o.k.isNews = true ∨ o.k.isLoads = true) (h : HR P φ g w) (e : evOperV P F ih o tm df g knV kxV = true) :
    ∃ v g', knV v df g' = true ∧ (g' = g ∧ (∀ nm, PendA φ nm tm g o v) ∨ ∃ ob, g' = g.new ob ∧ o.k.isNews = true ∧ PendA φ (some g.nx) tm g' o v) := by
  classical
  have go : (o.guard = none ∨ ∃ x, o.guard = some x ∧ ∀ yes no, guardV x tm yes no = yes) → evGoV P F ih o tm df g knV kxV = true → ∃ v g', knV v df g' = true ∧ (g' = g ∧ (∀ nm, PendA φ nm tm g o v) ∨ ∃ ob, g' = g.new ob ∧ o.k.isNews = true ∧ PendA φ (some g.nx) tm g' o v) := fun h0 e => by
    rcases evs_get o.args tm with ⟨vs, hv⟩ | hv
    · unfold evGoV at e
      rw [hv] at e
      cases ho : o.k with
      | op K =>
        rw [ho] at e hk
        have e : opV K vs g (fun g v => knV v df g) = true := e
        rcases hk with hk | hk | hk
        · rcases det_pure (K := K) hk vs with ⟨v, hd⟩ | hd
          · rw [hd] at e
            exact ⟨v, g, e, .inl ⟨rfl, fun nm => .pure K h0 ho hk (by rw [hv, hd]; simp)⟩⟩
          · rw [hd] at e; cases e
        · obtain ⟨f, hf⟩ : ∃ f, newF K = some f := by
            have hk : K.news = true := hk
            cases K <;> first | (cases hk; done) | exact ⟨_, rfl⟩
          rw [newF_op hf] at e
          obtain ⟨p, h1, h2⟩ := opt_some (show opt (f vs) false _ = true from e)
          refine ⟨p.2 g.nx, g.new p.1, h2, .inr ⟨p.1, rfl, hk, .news K f p.1 p.2 g.nx rfl h0 ho hf (by rw [hv]; simp [h1]) ?_ ?_ h.none_nx rfl⟩⟩
          · exact PT.get_set _ _ _
          · show g.nx.n < g.nx.succ.n; rw [Pos.n_succ]; omega
        · have hk : K.loads = true := hk
          obtain ⟨a, rfl⟩ : ∃ a, K = .load a := by cases K <;> first | (cases hk; done) | exact ⟨_, rfl⟩
          have hg : ∀ kn : KN, opV (.load a) vs g kn = opLoad a vs g fun _ v => kn g v := fun kn => by
            show opLoad a vs g kn = opLoad a vs g fun _ v => kn g v
            cases a <;> rfl
          rw [hg] at e
          rcases det_load a vs g with ⟨v, hd⟩ | hd
          · have := hd fun v => knV v df g
            simp only at this
            rw [this] at e
            refine ⟨v, g, e, .inl ⟨rfl, fun nm => .load a h0 ho ?_⟩⟩
            rw [hv, hg]
            exact (hd fun v' => decide (g = g ∧ v' = v)).trans (by simp)
          · have := hd fun v => knV v df g
            simp only at this
            rw [this] at e; cases e
      | _ => rw [ho] at hk; rcases hk with hk | hk | hk <;> cases hk
    · unfold evGoV at e
      rw [hv] at e; cases e
  unfold evOperV at e
  cases hg : o.guard with
  | none => rw [hg] at e; exact go (.inl hg) e
  | some x =>
    rw [hg] at e
    have e : guardV x tm (evGoV P F ih o tm df g knV kxV) (knV aundef df g) = true := e
    rcases guardV_det x tm with hd | hd | hd
    · rw [hd] at e; exact go (.inr ⟨x, hg, hd⟩) e
    · rw [hd] at e; exact ⟨aundef, g, e, .inl ⟨rfl, fun nm => .skip x hg hd rfl⟩⟩
    · rw [hd] at e; cases e

/-- a pending operation, seen from temporaries that agree where it looks -/
theorem PendA.agree {nm : Option Pos} {tm tm' : PT AV} {o : AOper} {v : AV} (h : PendA φ nm tm g o v) (ha : Agree o tm tm') : PendA φ nm tm' g o v := by
  have hw : (o.guard = none ∨ ∃ x, o.guard = some x ∧ ∀ yes no, guardV x tm yes no = yes) → (o.guard = none ∨ ∃ x, o.guard = some x ∧ ∀ yes no, guardV x tm' yes no = yes) := fun h => h.imp id fun ⟨x, h1, h2⟩ => ⟨x, h1, fun yes no => by rw [← ha.guard h1]; exact h2 yes no⟩
  cases h with
  | skip x h1 h2 h3 => exact .skip x h1 (fun yes no => by rw [← ha.guard h1]; exact h2 yes no) h3
  | pure K h0 h1 h2 h3 => exact .pure K (hw h0) h1 h2 (by rw [← ha.args]; exact h3)
  | load a h0 h1 h3 => exact .load a (hw h0) h1 (by rw [← ha.args]; exact h3)
  | news K f ob mk b hb h0 h1 h2 h3 h4 h5 h6 h7 => exact .news K f ob mk b hb (hw h0) h1 h2 (by rw [← ha.args]; exact h3) h4 h5 h6 h7

/-- the heap goes on: a load must be looked at again -/
theorem PendA.heap {nm : Option Pos} {tm : PT AV} {o : AOper} {v : AV} (h : PendA φ nm tm g o v) (hs : Step P φ g w φ' g' w') (hload : ∀ a, o.k = .op (.load a) → ∀ ix, heldOk tm g' ⟨ix, o, v⟩ = true) : PendA φ' nm tm g' o v := by
  classical
  cases h with
  | skip x h1 h2 h3 => exact .skip x h1 h2 h3
  | pure K h0 h1 h2 h3 =>
    refine .pure K h0 h1 h2 ?_
    rcases evs_get o.args tm with ⟨vs, hv⟩ | hv
    · rw [hv] at h3 ⊢
      rcases det_pure h2 vs with ⟨v', hd⟩ | hd
      · rw [hd] at h3 ⊢; simp at h3 ⊢; exact h3
      · rw [hd] at h3; cases h3
    · rw [hv] at h3; cases h3
  | load a h0 h1 h3 =>
    have hh := hload a h1 0
    refine .load a h0 h1 ?_
    have hchk : evs o.args tm (fun vs => opLoad a vs g' fun _ v' => veq v' v) = true := by
      unfold heldOk at hh
      simp only [h1] at hh
      rcases h0 with h0 | ⟨x, h0, hg⟩
      · rw [h0] at hh; exact hh
      · rw [h0] at hh
        have hh : guardV x tm _ true = true := hh
        rw [hg] at hh; exact hh
    rcases evs_get o.args tm with ⟨vs, hv⟩ | hv
    · rw [hv] at hchk ⊢
      rcases det_load a vs g' with ⟨v', hd⟩ | hd
      · have h1 := hd fun v' => veq v' v
        simp only at h1
        rw [h1] at hchk
        have hvv := veq_eq hchk
        subst hvv
        have hg : opV (.load a) vs g' (fun g2 v2 => decide (g2 = g' ∧ v2 = v')) = opLoad a vs g' fun _ v2 => decide (g' = g' ∧ v2 = v') := by cases a <;> rfl
        rw [hg]
        exact (hd fun v2 => decide (g' = g' ∧ v2 = v')).trans (by simp)
      · have h1 := hd fun v' => veq v' v
        simp only at h1
        rw [h1] at hchk; cases hchk
    · rw [hv] at hchk; cases hchk
  | news K f ob mk b hb h0 h1 h2 h3 h4 h5 h6 h7 =>
    exact .news K f ob mk b hb h0 h1 h2 h3 ((hs.ghost b h5 h6).trans h4) (Nat.lt_of_lt_of_le h5 hs.nx) ((hs.ext b h5).trans h6) h7
end
end Go.Lv

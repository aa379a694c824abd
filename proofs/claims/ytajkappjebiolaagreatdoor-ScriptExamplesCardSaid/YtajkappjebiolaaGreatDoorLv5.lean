/-
  The evaluator is right, part 4: maps, ranges; one operation. Conditions: those of each theorem.
-/
import Derived.Test.YtajkappjebiolaaGreatDoorLv4
namespace Go.Lv
open Go
section
variable {P : Program} {φ : Emb} {g : G} {w w' : World}

def notCells (o : Obj) : Bool := match o with
  | .cells .. => false
  | _ => true
theorem run_getObj' {r : Nat} {o : Obj} (h : w.heap[r]? = some o) (hn : notCells o = true) : (getObj r).run P w = .ok o w := by
  cases o <;> first | (cases hn; done) | simp [getObj, Sem.run, h]
theorem run_setObj' {r : Nat} {o o' : Obj} (h : w.heap[r]? = some o) (hn : notCells o = true) : (setObj r o').run P w = .ok () { w with heap := w.heap.setIfInBounds r o' } := by
  show (match w.heap[r]? with
    | some (.cells ..) => Result.halt (.stuck "setObj: a row of cells") w
    | some _ => (Sem.pure ()).run P { w with heap := w.heap.setIfInBounds r o' }
    | none => Result.halt (.stuck "setObj: no such block") w) = _
  rw [h]
  cases o <;> first | (cases hn; done) | rfl

theorem op_clear (h : HR P φ g w) {st el : TypeId} {size : Nat} {ts : Array TypeId} (h0 : ts[0]? = some st) (hs : P.underlying st = some (.slice el)) {z : List AV} (hz : zeroCellsT P el = some z) (hz0 : z.length ≠ 0) {ty : TypeId} {kn : KN} {vs : List AV} {cvs : List Value}
    (hvs : VRs φ vs cvs) (e : opClear size z vs g kn = true) : ∃ cx, cvs = [cx] ∧ OpOK P φ g w kn (do pure (.value (← Builtin.clear_ ts ty #[cx]))) := by
  obtain ⟨x, rfl, e⟩ := a1_ok e
  obtain ⟨cx, rfl, hx⟩ := hvs.one_inv
  refine ⟨cx, rfl, ?_⟩
  obtain ⟨n, hn, e⟩ := opt_some e
  obtain ⟨base, cap, hc⟩ := slLen_ok hn hx
  rcases bif_cases e with ⟨e1, e2⟩ | ⟨e1, e2⟩
  · obtain rfl := Nat.eq_of_beq_eq_true e1
    refine OpOK.of_value (w' := w) (v' := .tup []) (cv := .tuple #[]) ?_ (Step.refl h) ⟨[], rfl, rfl⟩ e2
    rw [hc]
    cases base <;> simp [Builtin.clear_, h0, run_underlying hs]
  · have hn0 : n ≠ 0 := fun q => by rw [q] at e1; cases e1
    obtain ⟨zv, k1, k2, k3⟩ := zeroCellsT_ok (φ := φ) hz hz0
    have hzs := zeros_eq zv.cells n
    have go : ∀ {b : Pos} {off : Nat} {L : Loc}, φ b = some L → cx = .slice (some (L.addr off)) n cap → writeRow g b off (repl z n) (fun g => kn g (.tup [])) = true →
        OpOK P φ g w kn (do pure (.value (← Builtin.clear_ ts ty #[cx]))) := by
      intro b off L hL hc e
      obtain ⟨g', w', q1, q2, q3⟩ := writeRow_ok h hL (repl_VRs k2 n) (repl_one k3 n) e
      refine OpOK.of_value (w' := w') (v' := .tup []) (cv := .tuple #[]) ?_ q3 ⟨[], rfl, rfl⟩ q1
      rw [← hzs] at q2
      rw [hc]
      obtain ⟨n', rfl⟩ : ∃ n', n = n' + 1 := ⟨n - 1, by omega⟩
      simp only [Builtin.clear_, h0, Sem.run_bind, run_underlying hs, Result.andThen_ok, k1 w, Builtin.zeroCells, q2, List.getElem?_toArray, List.getElem?_cons_zero, Sem.run_pure]
    rcases asSl_ok e2 with ⟨b, off, l, c, rfl, e3⟩ | ⟨b, off, l, d, es, rfl, e3⟩
    · obtain ⟨L, hL, rfl⟩ := hx
      cases hc
      exact go hL rfl e3
    · obtain ⟨L, hL, c1, c2, a, rfl, ha⟩ := hx
      cases hc
      obtain rfl := ha (by omega)
      exact go hL rfl e3

theorem EsR.length : ∀ {l : List (AV × AV × Nat)} {es : List MapEntry}, EsR φ l es → es.length = l.length
  | [], _, e => by rw [e]; rfl
  | (_, _, _) :: _, _, ⟨_, _, e, _, _, _, h⟩ => by rw [e]; simp [EsR.length h]

theorem op_mlen (h : HR P φ g w) {st kt el : TypeId} {ts : Array TypeId} (h0 : ts[0]? = some st) (hs : P.underlying st = some (.map kt el)) {ty : TypeId} {kn : KN} {vs : List AV} {cvs : List Value}
    (hvs : VRs φ vs cvs) (e : opMlen vs g kn = true) : ∃ cx, cvs = [cx] ∧ ValOK P φ w (kn g) (Builtin.len_ ts ty #[cx]) := by
  obtain ⟨x, rfl, e⟩ := a1_ok e
  obtain ⟨cx, rfl, hx⟩ := hvs.one_inv
  refine ⟨cx, rfl, ?_⟩
  cases x <;> first | (cases e; done) | skip
  · obtain ⟨L, hL, rfl⟩ := hx
    obtain ⟨o, hob, e1⟩ := opt_some e
    obtain ⟨ro, es, cl, rfl, e2⟩ := isMap_some e1
    obtain ⟨_, _, en, hen, hes⟩ := h.obj _ _ L hob hL
    have e2 : kn g (.int .i64 (.ofNat (len es))) = true := e2
    refine ValOK.int (k := .i64) (n := .ofNat (len es)) ?_ e2
    have hl := hes.length
    simp [Builtin.len_, h0, run_underlying hs, goInt, run_getObj' hen rfl, len_eq, ← hl]
  · obtain rfl : cx = .map none := hx
    refine ValOK.int (k := .i64) (n := 0) ?_ e
    simp [Builtin.len_, h0, run_underlying hs, goInt]
end
end Go.Lv

namespace Go.Lv
open Go
section
variable {P : Program} {φ : Emb} {g : G} {w w' : World}

theorem checkFields_ok {D : Nat} {em : Bool} {XS : Array Value} {base n : Nat} {F : Field → Option (List (Nat × CK))} : ∀ {fs : List Field} {ls : List (List (Nat × CK))} {w : World}, fs.mapM F = some ls →
    (∀ f ∈ fs, ∀ l w, F f = some l → eqAt XS XS l = some true → f.name ≠ "_" ∧ ∃ a, (part f.type (XS.extract base (base + n)) f.offset).run P w = .ok a w ∧ (Instr.checkKey em D f.type a).run P w = .ok () w) →
    eqAt XS XS ls.flatten = some true →
    (forIn fs PUnit.unit fun f (_ : PUnit) => (if f.name ≠ "_" then do Instr.checkKey em D f.type (← part f.type (XS.extract base (base + n)) f.offset); pure (ForInStep.yield PUnit.unit) else pure (ForInStep.yield PUnit.unit) : Sem (ForInStep PUnit))).run P w = .ok PUnit.unit w
  | [], ls, w, h, _, he => by simp
  | f :: fs, ls, w, h, hf, he => by
    simp only [List.mapM_cons, Option.pure_def, Option.bind_eq_bind, Option.bind_eq_some_iff] at h
    obtain ⟨l, hl, z, hz, hlz⟩ := h
    simp at hlz; subst hlz
    rw [List.flatten_cons, eqAt_append] at he
    cases h1 : eqAt XS XS l with
    | none => rw [h1] at he; cases he
    | some t =>
      rw [h1] at he
      cases t with
      | false => cases he
      | true =>
        obtain ⟨hn, a, k1, k2⟩ := hf f (by simp) l w hl h1
        simp only [List.forIn_cons, if_pos hn, Sem.run_bind, k1, k2, Result.andThen_ok, Sem.run_pure]
        exact checkFields_ok hz (fun f hf' => hf f (by simp [hf'])) he

theorem flat_check (em : Bool) : ∀ (d D : Nat), d ≤ D → ∀ {t : TypeId} {base : Nat} {l : List (Nat × CK)} {XS : Array Value} {w : World}, flatO P d t base = some l → eqAt XS XS l = some true →
    ∀ a, partV P XS t base = some a → (Instr.checkKey em D t a).run P w = .ok () w := by
  intro d
  induction d with
  | zero => intro D _ t base l XS w h; cases h
  | succ d ih =>
    intro D hD t base l XS w h he a ha
    obtain ⟨D, rfl⟩ : ∃ D', D = D' + 1 := ⟨D - 1, by omega⟩
    unfold flatO at h
    split at h
    · rename_i ht; simp [Instr.checkKey, run_underlying ht]
    · rename_i k ht; simp [Instr.checkKey, run_underlying ht]
    · rename_i ht; simp [Instr.checkKey, run_underlying ht]
    · rename_i fs ht
      split at h
      · cases h
      · obtain ⟨n, hn, h⟩ := Option.bind_eq_some_iff.1 h
        obtain ⟨ls, hls, rfl⟩ := Option.map_eq_some_iff.1 h
        have hagg : isAggT P t = true := by unfold isAggT; rw [ht]
        unfold partV at ha; rw [if_pos hagg, hn] at ha
        cases ha
        have := checkFields_ok (P := P) (D := D) (em := em) (XS := XS) (base := base) (n := n) (w := w) hls (fun f hf l' w' hl' he' => by
          obtain ⟨m, hm, hl'⟩ := Option.bind_eq_some_iff.1 hl'
          split at hl'
          · rename_i hcond
            simp only [Bool.and_eq_true, bne_iff_ne, Bool.or_eq_true] at hcond
            obtain ⟨hname, hle, hag⟩ := hcond
            have hle := Nat.le_of_ble_eq_true hle
            have hag' : isAggT P f.type = true ∨ m = 1 := hag.imp id Nat.eq_of_beq_eq_true
            have hdd := flat_under hl'
            obtain ⟨⟨a, ha⟩, _⟩ := flat_part hl' he' hm
            exact ⟨hname, a, part_run hdd (by rw [partV_extract hm hag' hle]; exact ha), ih D (by omega) hl' he' a ha⟩
          · cases hl') he
        simp only [Instr.checkKey, Sem.run_bind, run_underlying ht, Result.andThen_ok]
        rw [← Array.forIn_toList]
        simp at this
        simp [this]
    · cases h
end
end Go.Lv

namespace Go.Lv
open Go
section
variable {P : Program} {φ : Emb} {g : G} {w w' : World}

theorem sameNow_run {t : TypeId} {d : TypeDesc} (hd : P.underlying t = some d) {a b : Value} {r : Bool} (h : Instr.sameNow d a b = some r) : (Op.equal t a b).run P w = .ok r w := by
  show (Op.equalIn (9999 + 1) t a b).run P w = .ok r w
  unfold Instr.sameNow at h
  split at h
  · split at h
    · rename_i hk; subst hk
      cases h
      exact run_equalIn_int w 9999 t _ _ _ _ hd
    · cases h
  · cases h
    rw [run_equalIn_string w 9999 t _ _ hd]
    simp [beq_toListBytes]
  · cases h
    exact run_equalIn_bool w 9999 t _ _ hd
  · cases h

/-- the entries with the key asked for -/
theorem findM_ok {t : TypeId} {ks : Bool × List CK} (ht : flatT P t = some ks) {key : AV} {k : Value} (hk : VR φ key k) : ∀ {es : List (AV × AV × Nat)} {en : List MapEntry} {r : Option AV} (i : Nat), findM ks key es = some r → EsR φ es en →
    (r = none ∧ (Instr.findAsking t k en i).run P w = .ok none w) ∨ ∃ v cv j, r = some v ∧ VR φ v cv ∧ (Instr.findAsking t k en i).run P w = .ok (some (i + j, cv)) w ∧ j < en.length
  | [], en, r, i, h, he => by
    obtain rfl : en = [] := he
    cases h
    exact .inl ⟨rfl, by simp [Instr.findAsking]⟩
  | (k', v, n) :: es, en, r, i, h, he => by
    obtain ⟨e, en, rfl, h1, h2, h3, h4⟩ := he
    have h : opt (keq ks key k') none (fun r => bif' r (some (some v)) (findM ks key es)) = some r := h
    cases hq : keq ks key k' with
    | none => rw [hq] at h; cases h
    | some q =>
      rw [hq] at h
      have hrun : (Op.equal t k e.key).run P w = .ok q w := keq_ok ht hq hk h1 10000 (by omega) w
      cases q with
      | true =>
        cases h
        exact .inr ⟨v, e.val, 0, rfl, h2, by simp [Instr.findAsking, hrun], by simp⟩
      | false =>
        rcases findM_ok ht hk (i + 1) h h4 with ⟨q1, q2⟩ | ⟨v', cv, j, q1, q2, q3, q4⟩
        · exact .inl ⟨q1, by simp [Instr.findAsking, hrun, q2]⟩
        · exact .inr ⟨v', cv, j + 1, q1, q2, by simp [Instr.findAsking, hrun, q3]; omega, by simp; exact q4⟩

theorem findNow_ok {t : TypeId} {d : TypeDesc} (hd : P.underlying t = some d) {k : Value} : ∀ {en : List MapEntry} {i : Nat} {r r' : Option (Nat × Value)}, Instr.findNow d k en i = some r' → (Instr.findAsking t k en i).run P w = .ok r w → r' = r
  | [], i, r, r', h, he => by
    cases h
    simp [Instr.findAsking] at he
    exact he
  | e :: en, i, r, r', h, he => by
    unfold Instr.findNow at h
    split at h
    · rename_i hs
      cases h
      simp [Instr.findAsking, sameNow_run hd hs] at he
      exact he
    · rename_i hs
      simp [Instr.findAsking, sameNow_run hd hs] at he
      exact findNow_ok hd h he
    · cases h

theorem findKey_run {t : TypeId} (hd : (P.underlying t).isSome = true) {k : Value} {en : List MapEntry} {r : Option (Nat × Value)} (he : (Instr.findAsking t k en 0).run P w = .ok r w) : (Instr.findKey t k en).run P w = .ok r w := by
  obtain ⟨d, hd⟩ := Option.isSome_iff_exists.1 hd
  simp only [Instr.findKey, Sem.run_bind, run_underlying hd, Result.andThen_ok]
  cases h : Instr.findNow d k en 0 with
  | none => simpa using he
  | some r' =>
    obtain rfl := findNow_ok hd h he
    simp
end
end Go.Lv

namespace Go.Lv
open Go
section
variable {P : Program} {φ φ' : Emb} {g : G} {w w' : World}

/-! ### keys -/
theorem keyOk_some {ks : Bool × List CK} {key : AV} {b : Bool} (h : keyOk ks key b = true) : keq ks key key = some true ∧ b = true := by
  unfold keyOk at h
  obtain ⟨r, h1, h2⟩ := opt_some h
  obtain ⟨rfl, h3⟩ := bif_and h2
  exact ⟨h1, h3⟩

theorem key_check {t : TypeId} {ks : Bool × List CK} (ht : flatT P t = some ks) {key : AV} (h : keq ks key key = some true) {k : Value} (hk : VR φ key k) (em : Bool) (w : World) :
    (Instr.checkKey em 10000 t k).run P w = .ok () w := by
  obtain ⟨l, n, hl, hn, hlk, hag, hlen, h1, _⟩ := flatT_ok ht
  unfold keq at h
  cases hxo : (key.one == !ks.1) with
  | false => rw [hxo] at h; cases h
  | true =>
    rw [hxo] at h
    obtain ⟨hcx, _, h⟩ := ceqsL_ok (show ceqsL ks.2 key.cells key.cells = some true from h)
    have hcx' : key.cells.length ≠ 0 := by omega
    cases hg : ks.1 with
    | true =>
      rw [hg] at hxo hag
      have hx1 : key.one = false := by simpa using hxo
      obtain ⟨lx, vx, rfl, rfl, hvx⟩ := hk.agg_of_not_one hx1 hcx'
      have he : eqAt vx.toArray vx.toArray l = some true := by
        rw [hlk]
        exact ceqs_ok (i := 0) h hvx hvx (fun j hj => by simp) (fun j hj => by simp)
      exact flat_check em 8 10000 (by omega) hl he _ (part_whole hag.symm hn (by rw [hvx.length]; exact hcx.trans hlen))
    | false =>
      rw [hg] at hxo hag
      have hx1 : key.one = true := by simpa using hxo
      have cx : key.cells = [key] := by cases key <;> first | rfl | cases hx1
      rw [cx] at h
      have he : eqAt #[k] #[k] l = some true := by
        rw [hlk]
        exact ceqs_ok (i := 0) h (VRs.cons hk VRs.nil) (VRs.cons hk VRs.nil) (fun j hj => by simp) (fun j hj => by simp)
      have hagf : ¬ isAggT P t = true := by rw [← hag]; decide
      refine flat_check em 8 10000 (by omega) hl (XS := #[k]) he _ ?_
      unfold partV; rw [if_neg hagf]; rfl

theorem sameBits_eqC {k : CK} {a b : Value} (h : eqC k a b = some true) (n : Nat) : Instr.sameBits n b a = true := by
  unfold eqC at h
  split at h
  · simp at h; subst h; cases n <;> simp [Instr.sameBits]
  · split at h
    · rename_i hk; simp at h; subst h hk; cases n <;> simp [Instr.sameBits]
    · cases h
  · rename_i x y; simp at h
    have hxy : y = x := by
      have := h
      simp only [ByteArray.toList_eq] at this
      cases x; cases y
      congr 1
      exact (Array.toList_inj.1 this).symm
    subst hxy; cases n <;> simp [Instr.sameBits, beq_toListBytes]
  · cases h

theorem ceqs_bits : ∀ {ks : List CK} {l l' : List AV} {vs vs' : List Value}, ceqs ks l l' = some true → VRs φ l vs → VRs φ l' vs' → vs.length = vs'.length ∧ ∀ p ∈ vs'.zip vs, Instr.sameBits 9999 p.1 p.2 = true
  | [], l, l', vs, vs', h, hl, hl' => by
    cases l with
    | cons a l => cases h
    | nil =>
      cases l' with
      | cons a l => cases h
      | nil =>
        obtain rfl : vs = [] := hl
        obtain rfl : vs' = [] := hl'
        simp
  | k :: ks, l, l', vs, vs', h, hl, hl' => by
    cases l with
    | nil => cases h
    | cons a l =>
      cases l' with
      | nil => cases h
      | cons b l' =>
        obtain ⟨x, vs, rfl, hx, hl⟩ := hl
        obtain ⟨y, vs', rfl, hy, hl'⟩ := hl'
        have h : opt (ceq k a b) none (fun e => bif' e (ceqs ks l l') (some false)) = some true := h
        cases hc : ceq k a b with
        | none => rw [hc] at h; cases h
        | some e =>
          rw [hc] at h
          cases e with
          | false => cases h
          | true =>
            obtain ⟨h1, h2⟩ := ceqs_bits (show ceqs ks l l' = some true from h) hl hl'
            refine ⟨by simp [h1], fun p hp => ?_⟩
            rw [List.zip_cons_cons] at hp
            rcases List.mem_cons.1 hp with rfl | hp
            · exact sameBits_eqC (ceq_ok hc hx hy) 9999
            · exact h2 p hp

theorem keq_bits {ks : Bool × List CK} {x y : AV} {a b : Value} (h : keq ks x y = some true) (hne : ks.2 ≠ []) (hx : VR φ x a) (hy : VR φ y b) : Instr.sameBits 10000 b a = true := by
  unfold keq at h
  cases hxo : (x.one == !ks.1) with
  | false => rw [hxo] at h; cases h
  | true =>
    cases hyo : (y.one == !ks.1) with
    | false => rw [hxo, hyo] at h; cases h
    | true =>
      rw [hxo, hyo] at h
      obtain ⟨hcx, hcy, h⟩ := ceqsL_ok (show ceqsL ks.2 x.cells y.cells = some true from h)
      have hlen : ks.2.length ≠ 0 := fun e => hne (List.length_eq_zero_iff.1 e)
      have hcx' : x.cells.length ≠ 0 := by omega
      have hcy' : y.cells.length ≠ 0 := by omega
      cases hg : ks.1 with
      | true =>
        rw [hg] at hxo hyo
        have hx1 : x.one = false := by simpa using hxo
        have hy1 : y.one = false := by simpa using hyo
        obtain ⟨lx, vx, rfl, rfl, hvx⟩ := hx.agg_of_not_one hx1 hcx'
        obtain ⟨ly, vy, rfl, rfl, hvy⟩ := hy.agg_of_not_one hy1 hcy'
        obtain ⟨k1, k2⟩ := ceqs_bits (show ceqs ks.2 lx ly = some true from h) hvx hvy
        show Instr.sameBits (9999 + 1) _ _ = true
        simp only [Instr.sameBits, List.size_toArray, Bool.and_eq_true, beq_iff_eq, List.all_eq_true]
        exact ⟨k1.symm, fun p hp => k2 p hp⟩
      | false =>
        rw [hg] at hxo hyo
        have hx1 : x.one = true := by simpa using hxo
        have hy1 : y.one = true := by simpa using hyo
        have cx : x.cells = [x] := by cases x <;> first | rfl | cases hx1
        have cy : y.cells = [y] := by cases y <;> first | rfl | cases hy1
        rw [cx, cy] at h
        cases hks : ks.2 with
        | nil => exact absurd hks hne
        | cons k r =>
          rw [hks] at h
          have h : opt (ceq k x y) none (fun e => bif' e (ceqs r [] []) (some false)) = some true := h
          cases hc : ceq k x y with
          | none => rw [hc] at h; cases h
          | some e =>
            rw [hc] at h
            cases e with
            | false => cases h
            | true => exact sameBits_eqC (ceq_ok hc hx hy) 10000

/-! ### finding an entry -/
/-- what the lists say of the entry that was found -/
structure FoundR (ks : Bool × List CK) (φ : Emb) (key : AV) (es : List (AV × AV × Nat)) (en : List MapEntry) (j : Nat) : Prop where
  upd : ∀ {x : AV} {k cx : Value}, VR φ key k → VR φ x cx → EsR φ (updM ks key x es) (en.modify j fun e => { e with key := k, val := cx })
  del : EsR φ (delM ks key es) (en.eraseIdx j)
  key : ∃ e ke, en[j]? = some e ∧ VR φ ke e.key ∧ keq ks key ke = some true

theorem findM_found {t : TypeId} {ks : Bool × List CK} (ht : flatT P t = some ks) {key : AV} {k : Value} (hk : VR φ key k) : ∀ {es : List (AV × AV × Nat)} {en : List MapEntry} {r : Option AV} (i : Nat), findM ks key es = some r → EsR φ es en →
    (r = none ∧ (Instr.findAsking t k en i).run P w = .ok none w ∧ delM ks key es = es) ∨ ∃ v cv j, r = some v ∧ VR φ v cv ∧ (Instr.findAsking t k en i).run P w = .ok (some (i + j, cv)) w ∧ j < en.length ∧ FoundR ks φ key es en j
  | [], en, r, i, h, he => by
    obtain rfl : en = [] := he
    cases h
    exact .inl ⟨rfl, by simp [Instr.findAsking], rfl⟩
  | (k', v, n) :: es, en, r, i, h, he => by
    obtain ⟨e, en, rfl, h1, h2, h3, h4⟩ := he
    have h : opt (keq ks key k') none (fun r => bif' r (some (some v)) (findM ks key es)) = some r := h
    cases hq : keq ks key k' with
    | none => rw [hq] at h; cases h
    | some q =>
      rw [hq] at h
      have hrun : (Op.equal t k e.key).run P w = .ok q w := keq_ok ht hq hk h1 10000 (by omega) w
      have hu : ∀ x, updM ks key x ((k', v, n) :: es) = bif' q ((key, x, n) :: es) ((k', v, n) :: updM ks key x es) := fun x => by
        show bif' ((keq ks key k').getD false) ((key, x, n) :: es) ((k', v, n) :: updM ks key x es) = _
        rw [hq]; rfl
      have hd : delM ks key ((k', v, n) :: es) = bif' q es ((k', v, n) :: delM ks key es) := by
        show bif' ((keq ks key k').getD false) es ((k', v, n) :: delM ks key es) = _
        rw [hq]; rfl
      cases q with
      | true =>
        cases h
        refine .inr ⟨v, e.val, 0, rfl, h2, by simp [Instr.findAsking, hrun], by simp, ⟨fun {x k cx} hk hx => ?_, ?_, ?_⟩⟩
        · rw [hu]
          exact ⟨{ e with key := k, val := cx }, en, by simp, hk, hx, h3, h4⟩
        · rw [hd]; exact h4
        · exact ⟨e, k', by simp, h1, hq⟩
      | false =>
        rcases findM_found ht hk (i + 1) h h4 with ⟨q1, q2, q3⟩ | ⟨v', cv, j, q1, q2, q3, q4, q5⟩
        · exact .inl ⟨q1, by simp [Instr.findAsking, hrun, q2], by rw [hd]; show (k', v, n) :: delM ks key es = _; rw [q3]⟩
        · refine .inr ⟨v', cv, j + 1, q1, q2, by simp [Instr.findAsking, hrun, q3]; omega, by simp; exact q4, ⟨fun {x k cx} hk hx => ?_, ?_, ?_⟩⟩
          · rw [hu]
            exact ⟨e, en.modify j fun e => { e with key := k, val := cx }, by simp, h1, h2, h3, q5.upd hk hx⟩
          · rw [hd]
            exact ⟨e, en.eraseIdx j, by simp, h1, h2, h3, q5.del⟩
          · obtain ⟨e', ke, z1, z2, z3⟩ := q5.key
            exact ⟨e', ke, by simpa using z1, z2, z3⟩

theorem flatT_under {t : TypeId} {ks : Bool × List CK} (ht : flatT P t = some ks) : (P.underlying t).isSome = true ∧ ks.2 ≠ [] := by
  obtain ⟨l, n, hl, hn, hlk, hag, hlen, h1, _⟩ := flatT_ok ht
  exact ⟨flat_under hl, fun e => by rw [e] at hlen; simp at hlen; omega⟩

/-! ### lookup -/
theorem lkFin_ok {z : AV} {zv : Value} (hz : VR φ z zv) {ok : Bool} {kn : KN} {v : AV} {cv : Value} (hv : VR φ v cv) : 
    (∀ {r : Option AV}, r = none → lkFin z ok g kn r = true → ∃ v', VR φ v' (if ok then .tuple #[zv, .bool false] else zv) ∧ kn g v' = true) ∧
    (∀ {r : Option AV}, r = some v → lkFin z ok g kn r = true → ∃ v', VR φ v' (if ok then .tuple #[cv, .bool true] else cv) ∧ kn g v' = true) := by
  refine ⟨fun hr h => ?_, fun hr h => ?_⟩ <;> subst hr <;> cases ok
  · exact ⟨z, hz, h⟩
  · exact ⟨.tup [z, .bool false], ⟨[zv, .bool false], rfl, VRs.cons hz (VRs.cons rfl VRs.nil)⟩, h⟩
  · exact ⟨v, hv, h⟩
  · exact ⟨.tup [v, .bool true], ⟨[cv, .bool true], rfl, VRs.cons hv (VRs.cons rfl VRs.nil)⟩, h⟩

theorem op_lookup (h : HR P φ g w) {t kt el : TypeId} (ht : P.underlying t = some (.map kt el)) {ks : Bool × List CK} (hks : flatT P kt = some ks) {z : AV} (hz : zeroT P el = some z) {ok : Bool} {kn : KN} {vs : List AV} {cvs : List Value}
    (hvs : VRs φ vs cvs) (e : opLookup ks z ok vs g kn = true) : ∃ cm ck, cvs = [cm, ck] ∧ ValOK P φ w (kn g) (Instr.lookup t cm ck ok) := by
  obtain ⟨m, key, rfl, e⟩ := a2_ok e
  obtain ⟨cm, ck, rfl, hm, hk⟩ := hvs.two_inv
  refine ⟨cm, ck, rfl, ?_⟩
  obtain ⟨hkk, e⟩ := keyOk_some e
  have hck := fun em => key_check hks hkk hk em w
  obtain ⟨zv, hz1, hz2⟩ := zeroT_ok (φ := φ) hz
  cases m <;> first | (cases e; done) | skip
  · rename_i b
    obtain ⟨L, hL, rfl⟩ := hm
    obtain ⟨o, hob, e1⟩ := opt_some e
    obtain ⟨ro, es, cl, rfl, e2⟩ := isMap_some e1
    obtain ⟨_, _, en, hen, hes⟩ := h.obj _ _ L hob hL
    obtain ⟨r, hr, e3⟩ := opt_some e2
    rcases findM_found (w := w) hks hk 0 hr hes with ⟨q1, q2, _⟩ | ⟨v, cv, j, q1, q2, q3, _, _⟩
    · obtain ⟨v', k1, k2⟩ := (lkFin_ok hz2 (v := z) hz2).1 q1 e3
      refine ⟨v', _, ?_, k1, k2⟩
      have := findKey_run (flatT_under hks).1 q2
      cases ok <;> simp [Instr.lookup, run_underlying ht, run_getObj' hen rfl, hck, this, hz1 w]
    · obtain ⟨v', k1, k2⟩ := (lkFin_ok hz2 q2).2 q1 e3
      refine ⟨v', _, ?_, k1, k2⟩
      have := findKey_run (flatT_under hks).1 q3
      cases ok <;> simp [Instr.lookup, run_underlying ht, run_getObj' hen rfl, hck, this]
  · obtain rfl : cm = .map none := hm
    obtain ⟨v', k1, k2⟩ := (lkFin_ok hz2 (v := z) hz2).1 rfl e
    refine ⟨v', _, ?_, k1, k2⟩
    have : (Instr.findKey kt ck []).run P w = .ok none w := findKey_run (flatT_under hks).1 (by simp [Instr.findAsking])
    cases ok <;> simp [Instr.lookup, run_underlying ht, hck, this, hz1 w]

/-! ### objects that are no rows, written -/
theorem HR.writeObj (h : HR P φ g w) {b : Pos} {o : AObj} {L : Loc} (hb : g.hp.get b = some o) (hL : φ b = some L) (hwr : o.wr = true) (o' : AObj) (hwr' : o'.wr = true) {x : Obj} (hx : w.heap[L.blk]? = some x) (hn : notCells x = true)
    (ob : Obj) (hlen : L.cc = 1) (hbase : L.base = 0)
    (hobj : ObjR P φ { w with heap := w.heap.setIfInBounds L.blk ob } L o') : Step P φ g w φ (g.upd b o') { w with heap := w.heap.setIfInBounds L.blk ob } := by
  refine h.write hb hL hwr o' hwr' rfl rfl rfl (by simp) (fun B hB => ?_) hobj (fun b' o₁ L' hne hb' hL' hblk => ?_)
  · simp [Array.getElem?_setIfInBounds, Ne.symm hB]
  · have hs := h.sep b b' o o₁ L L' (Ne.symm hne) hb hb' hL hL' hwr
    have hob' := h.obj b' o₁ L' hb' hL'
    rcases hs with hs | hs
    · exact absurd hblk.symm hs
    · have hb0 : ∀ {L' : Loc}, L'.base = 0 ∧ L'.cc = 1 → (L.base + L.cc ≤ L'.base ∨ L'.base + L'.cc ≤ L.base) → False := by intro L' hh hc; omega
      cases o₁ with
      | row ro gr n c =>
        obtain ⟨h1, h2, h3, h4⟩ := hob'
        have hnc : ∀ i, w.cell? (L'.addr i) = none := fun i => by
          unfold World.cell? Loc.addr
          rw [hblk, hx]
          cases x <;> first | rfl | cases hn
        refine ⟨by simpa using h1, h2, fun i v hv => ?_, fun hro i hi => ?_⟩
        · obtain ⟨_, _, cv, hcv, _⟩ := h3 i v hv
          rw [hnc] at hcv; cases hcv
        · have := (h4 hro i hi).1
          rw [hnc] at this; cases this
      | map => exact (hb0 ⟨hob'.1, hob'.2.1⟩ hs).elim
      | iter => exact (hb0 ⟨hob'.1, hob'.2.1⟩ hs).elim
      | siter => exact (hb0 ⟨hob'.1, hob'.2.1⟩ hs).elim
      | loop => exact (hb0 ⟨hob'.1, hob'.2.1⟩ hs).elim
      | defd => exact (hb0 ⟨hob'.1, hob'.2.1⟩ hs).elim
end
end Go.Lv

namespace Go.Lv
open Go
section
variable {P : Program} {φ φ' : Emb} {g : G} {w w' : World}

theorem EsR.append : ∀ {l l' : List (AV × AV × Nat)} {es es' : List MapEntry}, EsR φ l es → EsR φ l' es' → EsR φ (l ++ l') (es ++ es')
  | [], _, _, _, h, h' => by obtain rfl := h; simpa using h'
  | (_, _, _) :: _, _, _, _, ⟨e, r, h0, h1, h2, h3, h4⟩, h' => by subst h0; exact ⟨e, _, rfl, h1, h2, h3, EsR.append h4 h'⟩

theorem map_inv (h : HR P φ g w) {b : Pos} {L : Loc} {ro : Bool} {es : List (AV × AV × Nat)} {cl : Nat} (hob : g.hp.get b = some (.map ro es cl)) (hL : φ b = some L) :
    L.base = 0 ∧ L.cc = 1 ∧ ∃ en : Array MapEntry, w.heap[L.blk]? = some (.map en cl) ∧ EsR φ es en.toList := h.obj _ _ L hob hL

/-- a map is written -/
theorem map_write (h : HR P φ g w) {b : Pos} {L : Loc} {es es' : List (AV × AV × Nat)} {cl cl' : Nat} (hob : g.hp.get b = some (.map false es cl)) (hL : φ b = some L) {en en' : Array MapEntry} (hen : w.heap[L.blk]? = some (.map en cl)) (hes : EsR φ es' en'.toList) :
    (setObj L.blk (.map en' cl')).run P w = .ok () { w with heap := w.heap.setIfInBounds L.blk (.map en' cl') } ∧ Step P φ g w φ (g.upd b (.map false es' cl')) { w with heap := w.heap.setIfInBounds L.blk (.map en' cl') } := by
  obtain ⟨h1, h2, _⟩ := map_inv h hob hL
  have hlt := (Array.getElem?_eq_some_iff.1 hen).1
  exact ⟨run_setObj' hen rfl, h.writeObj hob hL rfl _ rfl hen rfl _ h2 h1 ⟨h1, h2, en', by simp [hlt], hes⟩⟩

theorem op_mapSet (h : HR P φ g w) {t kt el : TypeId} (ht : P.underlying t = some (.map kt el)) {ks : Bool × List CK} (hks : flatT P kt = some ks) {kn : KN} {vs : List AV} {cvs : List Value}
    (hvs : VRs φ vs cvs) (e : opMapSet ks vs g kn = true) : ∃ cm ck cx, cvs = [cm, ck, cx] ∧ OpOK P φ g w kn (do Instr.mapUpdate t cm ck cx; pure .skip) := by
  obtain ⟨m, key, x, rfl, e⟩ := a3_ok e
  obtain ⟨cm, ck, cx, rfl, hm, hk, hx⟩ := hvs.three_inv
  refine ⟨cm, ck, cx, rfl, ?_⟩
  obtain ⟨hkk, e⟩ := keyOk_some e
  have hck := fun em => key_check hks hkk hk em w
  obtain ⟨b, rfl, e⟩ := asMp_ok e
  obtain ⟨L, hL, rfl⟩ := hm
  obtain ⟨o, hob, e1⟩ := opt_some e
  obtain ⟨ro, es, cl, rfl, e2⟩ := isMap_some e1
  cases ro with
  | true => cases e2
  | false =>
    obtain ⟨_, _, en, hen, hes⟩ := map_inv h hob hL
    obtain ⟨r, hr, e3⟩ := opt_some (show opt (findM ks key es) false _ = true from e2)
    obtain ⟨hkd, hne⟩ := flatT_under hks
    rcases findM_found (w := w) hks hk 0 hr hes with ⟨q1, q2, _⟩ | ⟨v, cv, j, q1, q2, q3, q4, q5⟩
    · subst q1
      have hf := findKey_run hkd q2
      have hes' : EsR φ (app es [(key, x, cl)]) (en.push { key := ck, val := cx, born := cl }).toList := by
        rw [app_eq, Array.toList_push]
        exact hes.append ⟨_, _, rfl, hk, hx, rfl, rfl⟩
      obtain ⟨z1, z2⟩ := map_write h hob hL (cl' := cl + 1) hen hes'
      refine OpOK.of_unit (φ' := φ) ?_ z2 e3
      simp [Instr.mapUpdate, run_underlying ht, run_getObj' hen rfl, hck, hf, z1]
    · subst q1
      have hf := findKey_run hkd q3
      obtain ⟨en', ke, k1, k2, k3⟩ := q5.key
      have hbits : Instr.sameBits 10000 (((en[j]?).map (·.key)).getD ck) ck = true := by
        have : en[j]? = some en' := by rw [← Array.getElem?_toList]; exact k1
        rw [this]
        exact keq_bits k3 hne hk k2
      have hst : ∀ a, Instr.sameBits 10000 a ck = true → (Instr.keyThatStays a ck).run P w = .ok ck w := fun a ha => by simp [Instr.keyThatStays, ha]
      have hes' : EsR φ (updM ks key x es) (en.modify j fun e => { e with key := ck, val := cx }).toList := by
        rw [Array.toList_modify]; exact q5.upd hk hx
      obtain ⟨z1, z2⟩ := map_write h hob hL (cl' := cl) hen hes'
      refine OpOK.of_unit (φ' := φ) ?_ z2 e3
      simp only [Nat.zero_add] at hf
      simp [Instr.mapUpdate, run_underlying ht, run_getObj' hen rfl, hck, hf, hst _ hbits, z1]

theorem op_delete (h : HR P φ g w) {ts : Array TypeId} {ty t kt el : TypeId} (h0 : ts[0]? = some t) (ht : P.underlying t = some (.map kt el)) {ks : Bool × List CK} (hks : flatT P kt = some ks) {kn : KN} {vs : List AV} {cvs : List Value}
    (hvs : VRs φ vs cvs) (e : opDelete ks vs g kn = true) : ∃ cm ck, cvs = [cm, ck] ∧ OpOK P φ g w kn (do pure (.value (← Builtin.delete_ ts ty #[cm, ck]))) := by
  obtain ⟨m, key, rfl, e⟩ := a2_ok e
  obtain ⟨cm, ck, rfl, hm, hk⟩ := hvs.two_inv
  refine ⟨cm, ck, rfl, ?_⟩
  obtain ⟨hkk, e⟩ := keyOk_some e
  have hck := fun em => key_check hks hkk hk em w
  cases m <;> first | (cases e; done) | skip
  · obtain ⟨L, hL, rfl⟩ := hm
    obtain ⟨o, hob, e1⟩ := opt_some e
    obtain ⟨ro, es, cl, rfl, e2⟩ := isMap_some e1
    cases ro with
    | true => cases e2
    | false =>
      obtain ⟨_, _, en, hen, hes⟩ := map_inv h hob hL
      obtain ⟨r, hr, e3⟩ := opt_some (show opt (findM ks key es) false _ = true from e2)
      obtain ⟨hkd, hne⟩ := flatT_under hks
      rcases findM_found (w := w) hks hk 0 hr hes with ⟨q1, q2, q3⟩ | ⟨v, cv, j, q1, q2, q3, q4, q5⟩
      · have hf := findKey_run hkd q2
        rw [q3] at e3
        obtain ⟨z1, z2⟩ := map_write h hob hL (cl' := cl) hen hes
        refine OpOK.of_value (φ' := φ) (v' := .tup []) (cv := .tuple #[]) ?_ z2 ⟨[], rfl, rfl⟩ e3
        simp [Builtin.delete_, h0, run_underlying ht, run_getObj' hen rfl, hck, hf, z1]
      · have hf := findKey_run hkd q3
        simp only [Nat.zero_add] at hf
        have hes' : EsR φ (delM ks key es) (en.eraseIdxIfInBounds j).toList := by
          rw [Array.toList_eraseIdxIfInBounds]; exact q5.del
        obtain ⟨z1, z2⟩ := map_write h hob hL (cl' := cl) hen hes'
        refine OpOK.of_value (φ' := φ) (v' := .tup []) (cv := .tuple #[]) ?_ z2 ⟨[], rfl, rfl⟩ e3
        simp [Builtin.delete_, h0, run_underlying ht, run_getObj' hen rfl, hck, hf, z1]
  · obtain rfl : cm = .map none := hm
    refine OpOK.of_value (w' := w) (φ' := φ) (v' := .tup []) (cv := .tuple #[]) ?_ (Step.refl h) ⟨[], rfl, rfl⟩ e
    simp [Builtin.delete_, h0, run_underlying ht, hck]

/-! ### ranges -/
theorem bif_false_left {c x : Bool} (h : bif' c false x = true) : c = false ∧ x = true := by cases c <;> simp_all

theorem op_range (h : HR P φ g w) {t : TypeId} {d : TypeDesc} (ht : P.underlying t = some d) {isStr : Bool} (hd : (isStr = true ∧ d = .string) ∨ (isStr = false ∧ ∃ k e, d = .map k e)) {kn : KN} {vs : List AV} {cvs : List Value} (hvs : VRs φ vs cvs) (e : opRange isStr vs g kn = true) :
    ∃ cx, cvs = [cx] ∧ OpOK P φ g w kn (do pure (.value (← Instr.range t cx))) := by
  obtain ⟨x, rfl, e⟩ := a1_ok e
  obtain ⟨cx, rfl, hx⟩ := hvs.one_inv
  refine ⟨cx, rfl, ?_⟩
  have fin : ∀ (ob : Obj) (o : AObj), ObjR P (φ.put g.nx ⟨w.heap.size, 0, 0, 1⟩) (World.withObj w ob) ⟨w.heap.size, 0, 0, 1⟩ o → kn (g.new o) (.ptr g.nx 0) = true →
      (Instr.range t cx).run P w = .ok (.pointer (some ⟨w.heap.size, 0, none⟩)) (World.withObj w ob) → OpOK P φ g w kn (do pure (.value (← Instr.range t cx))) := fun ob o hob hk hr =>
    OpOK.of_value hr (h.alloc (w' := World.withObj w ob) ob o ⟨w.heap.size, 0, 0, 1⟩ rfl rfl rfl rfl rfl hob) (v' := .ptr g.nx 0) ⟨_, Emb.put_same _ _ _, rfl⟩ hk
  have hnew : ∀ ob, (World.withObj w ob).heap[w.heap.size]? = some ob := fun ob => by show (w.heap.push _)[w.heap.size]? = _; simp
  cases x <;> first | (cases e; done) | skip
  · rename_i l _
    obtain ⟨s, rfl, hs⟩ := hx
    obtain ⟨rfl, e⟩ := bif_and e
    obtain rfl : d = .string := by simpa using hd
    refine fin (.stringIter s 0) (.siter l 0) ⟨rfl, rfl, s, hnew _, hs⟩ e ?_
    simp [Instr.range, run_underlying ht]
    rfl
  · rename_i b _
    obtain ⟨L, hL, rfl⟩ := hx
    obtain ⟨rfl, e⟩ := bif_false_left e
    obtain ⟨o, hob, e1⟩ := opt_some e
    obtain ⟨ro, es, cl, rfl, e2⟩ := isMap_some e1
    obtain ⟨_, _, en, hen, hes⟩ := map_inv h hob hL
    obtain ⟨k, el, rfl⟩ : ∃ k e, d = .map k e := by simpa using hd
    have hle : (φ.put g.nx ⟨w.heap.size, 0, 0, 1⟩) b = some L := by rw [Emb.put_ne]; exact hL; have := h.lt hL; omega
    refine fin (.mapIter (some L.blk) cl #[] cl) (.iter (some b) cl [] cl) ⟨rfl, rfl, some L.blk, hnew _, L, hle, rfl⟩ e2 ?_
    simp [Instr.range, run_underlying ht, run_getObj' hen rfl]
    rfl
  · obtain rfl : cx = .map none := hx
    obtain ⟨rfl, e⟩ := bif_false_left e
    obtain ⟨k, el, rfl⟩ : ∃ k e, d = .map k e := by simpa using hd
    refine fin (.mapIter none 0 #[] 0) (.iter none 0 [] 0) ⟨rfl, rfl, none, hnew _, rfl⟩ e ?_
    simp [Instr.range, run_underlying ht]
    rfl

/-! ### the next entry -/
theorem EsR.mem : ∀ {l : List (AV × AV × Nat)} {es : List MapEntry}, EsR φ l es → ∀ {e : MapEntry}, e ∈ es → ∃ k v, (k, v, e.born) ∈ l ∧ VR φ k e.key ∧ VR φ v e.val
  | [], _, h, e, he => by obtain rfl := h; cases he
  | (k, v, n) :: l, _, ⟨x, r, h0, h1, h2, h3, h4⟩, e, he => by
    subst h0
    rcases List.mem_cons.1 he with rfl | he
    · exact ⟨k, v, by simp [h3], h1, h2⟩
    · obtain ⟨k', v', q1, q2, q3⟩ := EsR.mem h4 he
      exact ⟨k', v', by simp [q1], q2, q3⟩
theorem EsR.filter (p : Nat → Bool) : ∀ {l : List (AV × AV × Nat)} {es : List MapEntry}, EsR φ l es → EsR φ (l.filter fun e => p e.2.2) (es.filter fun e => p e.born)
  | [], _, h => by obtain rfl := h; rfl
  | (k, v, n) :: l, _, ⟨x, r, h0, h1, h2, h3, h4⟩ => by
    subst h0
    have := EsR.filter p h4
    cases hp : p n with
    | true => rw [List.filter_cons_of_pos (by simpa using hp), List.filter_cons_of_pos (by rw [h3]; exact hp)]; exact ⟨x, _, rfl, h1, h2, h3, this⟩
    | false => rw [List.filter_cons_of_neg (by simp [hp]), List.filter_cons_of_neg (by rw [h3]; simp [hp])]; exact this
theorem EsR.all {p : Nat → Bool} {l : List (AV × AV × Nat)} {es : List MapEntry} (h : EsR φ l es) (ha : (l.all fun e => p e.2.2) = true) : ∀ e ∈ es, p e.born = true := fun e he => by
  obtain ⟨k, v, hm, _⟩ := h.mem he
  exact List.all_eq_true.1 ha _ hm
theorem allE_ok {l : List (AV × AV × Nat)} {f : AV × AV × Nat → Bool} (h : allE l f = true) : ∀ e ∈ l, f e = true := by
  induction l with
  | nil => simp
  | cons a l ih =>
    obtain ⟨h1, h2⟩ := bif_and (show bif' (f a) (allE l f) false = true from h)
    intro e he
    rcases List.mem_cons.1 he with rfl | he
    · exact h1
    · exact ih h2 e he

theorem iter_inv (h : HR P φ g w) {b : Pos} {L : Loc} {m : Pos} {since last : Nat} {seen : List Nat} (hob : g.hp.get b = some (.iter (some m) since seen last)) (hL : φ b = some L) :
    L.base = 0 ∧ L.cc = 1 ∧ ∃ M, φ m = some M ∧ w.heap[L.blk]? = some (.mapIter (some M.blk) since seen.toArray last) := by
  obtain ⟨h1, h2, m', h3, M, h4, rfl⟩ := h.obj _ _ L hob hL
  exact ⟨h1, h2, M, h4, h3⟩

theorem iter_write (h : HR P φ g w) {b : Pos} {L : Loc} {o : AObj} (hob : g.hp.get b = some o) (hL : φ b = some L) (hwr : o.wr = true) {x : Obj} (hx : w.heap[L.blk]? = some x) (hn : notCells x = true) (hb : L.base = 0) (hc : L.cc = 1) (o' : AObj) (hwr' : o'.wr = true) (ob : Obj)
    (hobj : ∀ w' : World, w'.heap[L.blk]? = some ob → ObjR P φ w' L o') (d : Nat) :
    (setObj L.blk ob).run P { w with drawn := d } = .ok () { w with heap := w.heap.setIfInBounds L.blk ob, drawn := d } ∧ Step P φ g w φ (g.upd b o') { w with heap := w.heap.setIfInBounds L.blk ob, drawn := d } := by
  have hlt := (Array.getElem?_eq_some_iff.1 hx).1
  have hs := h.writeObj hob hL hwr o' hwr' hx hn ob hc hb (hobj _ (by simp [hlt]))
  exact ⟨run_setObj' (w := { w with drawn := d }) hx hn, ⟨⟨hs.hr.fresh, fun b o L h1 h2 => (hs.hr.obj b o L h1 h2).of_heap (Le.refl φ) (Nat.le_refl _) rfl, hs.hr.sep⟩, hs.ext, hs.nx, hs.size, hs.old, hs.own, hs.ghost, hs.os, hs.out, hs.tape⟩⟩

/-- what 'next' does on a map whose entries were all there when the range began -/
theorem next_run {r M : Nat} {since last cl : Nat} {seen : Array Nat} {en : Array MapEntry} (hr : w.heap[r]? = some (.mapIter (some M) since seen last)) (hm : w.heap[M]? = some (.map en cl)) (h1 : ∀ x ∈ en, x.born < since) (h2 : ∀ x ∈ en, x.born < last) (ty : TypeId) :
    (en.filter (fun e => !seen.contains e.born) = #[] ∧ (Instr.next (.pointer (some ⟨r, 0, none⟩)) false ty).run P w = .ok (.tuple #[.bool false]) w) ∨
    ∃ e ∈ en.filter (fun e => !seen.contains e.born), ∃ d, ∀ w', (setObj r (.mapIter (some M) since (seen.push e.born) cl)).run P { w with drawn := d } = .ok () w' →
      (Instr.next (.pointer (some ⟨r, 0, none⟩)) false ty).run P w = .ok (.tuple #[.bool true, e.key, e.val]) w' := by
  have hno : (!seen.isEmpty && !en.isEmpty && en.all (·.born ≥ last)) = false := by
    cases hen : en.isEmpty with
    | true => simp
    | false =>
      have : en.all (·.born ≥ last) = false := by
        rw [Bool.eq_false_iff]
        intro ha
        rw [Array.all_eq_true_iff_forall_mem] at ha
        obtain ⟨x, hx⟩ : ∃ x, x ∈ en := by
          cases hl : en.toList with
          | nil => simp at hen; exact absurd (by simpa using hl) hen
          | cons x l => exact ⟨x, by rw [← Array.mem_toList_iff, hl]; simp⟩
        have := ha x hx
        have := h2 x hx
        simp at *; omega
      simp [this]
  have hold : (en.filter fun e => !seen.contains e.born).filter (·.born < since) = en.filter fun e => !seen.contains e.born := by
    rw [Array.filter_eq_self]
    intro x hx
    have := h1 x (Array.mem_filter.1 hx).1
    simpa using this
  have hnew : (en.filter fun e => !seen.contains e.born).filter (·.born ≥ since) = #[] := by
    rw [Array.filter_eq_empty_iff]
    intro x hx
    have := h1 x (Array.mem_filter.1 hx).1
    simpa using this
  generalize hleft : en.filter (fun e => !seen.contains e.born) = left at hold hnew ⊢
  have hcand : (if left.isEmpty then #[none] else #[]) ++ (left ++ #[]).map some = if left.isEmpty then #[none] else left.map some := by
    cases he : left.isEmpty with
    | true => have : left = #[] := by simpa using he
              subst this; simp
    | false => simp
  cases he : left.isEmpty with
  | true =>
    have hl : left = #[] := by simpa using he
    refine .inl ⟨hl, ?_⟩
    rw [he, if_pos rfl] at hcand
    simp only [Instr.next, Sem.run_bind, run_getObj' hr rfl, run_getObj' hm rfl, Result.andThen_ok, hno, Bool.false_eq_true, if_false, hleft, hold, hnew, Sem.run_pure]
    simp only [he, if_true] at hcand ⊢
    rw [hcand]
    simp [choose, Sem.run, Question.forced]
  | false =>
    right
    rw [he] at hcand
    have hpos : 0 < left.size := by
      have : left ≠ #[] := by simpa using he
      exact Array.size_pos_iff.2 this
    obtain ⟨i, d, hi, hch⟩ : ∃ i d, i < left.size ∧ (choose (.mapNext (left.map some).size)).run P w = .ok i { w with drawn := d } := by
      by_cases h1 : left.size ≤ 1
      · exact ⟨0, w.drawn, hpos, by simp [choose, Sem.run, Question.forced, h1]⟩
      · exact ⟨w.tape w.drawn (.mapNext left.size) % left.size, w.drawn + 1, Nat.mod_lt _ hpos, by simp [choose, Sem.run, Question.forced, h1, Question.cut]⟩
    refine ⟨left[i], Array.getElem_mem hi, d, fun w' hw' => ?_⟩
    simp only [Instr.next, Sem.run_bind, run_getObj' hr rfl, run_getObj' hm rfl, Result.andThen_ok, hno, Bool.false_eq_true, if_false, hleft, hold, hnew, Sem.run_pure]
    simp only [he, Bool.false_eq_true, if_false] at hcand ⊢
    rw [hcand, hch]
    simp [hi, hw']

theorem op_next (h : HR P φ g w) {isStr : Bool} {ty : TypeId} {kn : KN} {vs : List AV} {cvs : List Value} (hvs : VRs φ vs cvs) (e : opNext isStr vs g kn = true) :
    ∃ cx, cvs = [cx] ∧ OpOK P φ g w kn (do pure (.value (← Instr.next cx isStr ty))) := by
  obtain ⟨x, rfl, e1⟩ := a1_ok e
  obtain ⟨cx, rfl, hx⟩ := hvs.one_inv
  refine ⟨cx, rfl, ?_⟩
  obtain ⟨b, off, rfl, e2⟩ := asPtr_ok e1
  obtain ⟨L, hL, rfl⟩ := hx
  obtain ⟨e0, e3⟩ := bif_and e2
  clear e e1 e2
  obtain rfl := Nat.eq_of_beq_eq_true e0
  have over : ∀ {w'}, (Instr.next (.pointer (some (L.addr 0))) isStr ty).run P w = .ok (.tuple #[.bool false]) w' → Step P φ g w φ g w' → kn g (.tup [.bool false]) = true → OpOK P φ g w kn (do pure (.value (← Instr.next (.pointer (some (L.addr 0))) isStr ty))) := fun hr hs hk =>
    OpOK.of_value hr hs (v' := .tup [.bool false]) ⟨[.bool false], rfl, VRs.cons rfl VRs.nil⟩ hk
  split at e3
  · rename_i l pos hob
    obtain ⟨hb, hc, t, ht, hl⟩ := h.obj _ _ L hob hL
    obtain ⟨rfl, e4⟩ := bif_and e3
    have ha : L.addr 0 = ⟨L.blk, 0, none⟩ := by unfold Loc.addr; rw [hb]
    have hsz : l.length = t.size := by rw [← hl]; simp
    cases hn : nth l pos with
    | none =>
      rw [hn] at e4
      rw [nth_eq] at hn
      have : ¬ pos < t.size := by have := List.getElem?_eq_none_iff.1 hn; omega
      exact over (by rw [ha]; simp [Instr.next, run_getObj' ht rfl, this]) (Step.refl h) e4
    | some c =>
      rw [hn] at e4
      rw [nth_eq] at hn
      obtain ⟨hlt, hcv⟩ := List.getElem?_eq_some_iff.1 hn
      obtain ⟨e5, e6⟩ := bif_and (show bif' (Nat.blt c 128) _ false = true from e4)
      have e5 : c < 128 := Nat.le_of_ble_eq_true e5
      have hlt' : pos < t.size := by omega
      have hget : (t.get! pos).toNat = c := by
        subst hl
        have h1 : pos < t.data.size := hlt'
        have : t.get! pos = t.data[pos] := by show t.data[pos]! = _; exact getElem!_pos t.data pos h1
        rw [this, ← hcv]
        simp
      have hdec : Utf8.decode t pos = (c, 1) := by
        unfold Utf8.decode
        simp only [Nat.add_zero, hget]
        rw [if_pos e5]
      obtain ⟨z1, z2⟩ := iter_write h hob hL rfl ht rfl hb hc (.siter l (pos + 1)) rfl (.stringIter t (pos + 1)) (fun w' hw' => ⟨hb, hc, t, hw', hl⟩) w.drawn
      refine OpOK.of_value ?_ z2 (v' := .tup [.bool true, .int .i64 (.ofNat pos), .int .i32 (.ofNat c)]) (cv := .tuple #[.bool true, goInt pos, .int .i32 c]) ⟨_, rfl, VRs.cons rfl (VRs.cons rfl (VRs.cons rfl VRs.nil))⟩ e6
      rw [ha]
      simp [Instr.next, run_getObj' ht rfl, hlt', hdec, z1]
  · rename_i since seen last hob
    obtain ⟨hb, hc, m', ht, hm⟩ := h.obj _ _ L hob hL
    obtain rfl : m' = none := hm
    obtain ⟨rfl, e4⟩ := bif_false_left e3
    have ha : L.addr 0 = ⟨L.blk, 0, none⟩ := by unfold Loc.addr; rw [hb]
    exact over (by rw [ha]; simp [Instr.next, run_getObj' ht rfl]) (Step.refl h) e4
  · rename_i m since seen last hob
    obtain ⟨hb, hc, M, hM, ht⟩ := iter_inv h hob hL
    obtain ⟨rfl, e4⟩ := bif_false_left e3
    have ha : L.addr 0 = ⟨L.blk, 0, none⟩ := by unfold Loc.addr; rw [hb]
    obtain ⟨o, hom, e5⟩ := opt_some e4
    obtain ⟨ro, es, cl, rfl, e6⟩ := isMap_some e5
    obtain ⟨_, _, en, hen, hes⟩ := map_inv h hom hM
    obtain ⟨e7, e8⟩ := bif_and e6
    have hborn : ∀ x ∈ en.toList, (Nat.blt x.born since && Nat.blt x.born last) = true := EsR.all (p := fun n => Nat.blt n since && Nat.blt n last) hes e7
    have hb1 : ∀ x ∈ en, x.born < since := fun x hx => by
      have := hborn x (by simpa using hx); simp only [Bool.and_eq_true] at this; exact Nat.le_of_ble_eq_true this.1
    have hb2 : ∀ x ∈ en, x.born < last := fun x hx => by
      have := hborn x (by simpa using hx); simp only [Bool.and_eq_true] at this; exact Nat.le_of_ble_eq_true this.2
    have hp : ∀ n, (!memN n seen) = !seen.toArray.contains n := fun n => by
      have := memN_eq n seen
      cases hmm : memN n seen with
      | true => have := this.1 hmm; simp [this]
      | false => have : ¬ n ∈ seen := fun q => by rw [this.2 q] at hmm; cases hmm
                 simp [this]
    have hfil : EsR φ (es.filter fun e => !memN e.2.2 seen) (en.filter fun e => !seen.toArray.contains e.born).toList := by
      have := EsR.filter (fun n => !memN n seen) hes
      rw [Array.toList_filter]
      simp only [hp] at this ⊢
      exact this
    rw [ha]
    rcases next_run (P := P) ht hen hb1 hb2 ty with ⟨q1, q2⟩ | ⟨x, q1, d, q2⟩
    · rw [q1] at hfil
      have hnil : (es.filter fun e => !memN e.2.2 seen) = [] := by
        have := hfil.length; simpa using this.symm
      rw [hnil] at e8
      have := over (w' := w) (by rw [ha]; exact q2) (Step.refl h) e8
      rw [ha] at this; exact this
    · obtain ⟨k, v, k1, k2, k3⟩ := hfil.mem (e := x) (by simpa using q1)
      have e9 : allE (es.filter fun e => !memN e.2.2 seen) (fun e => kn (g.upd b (.iter (some m) since (app seen [e.2.2]) cl)) (.tup [.bool true, e.1, e.2.1])) = true := by
        cases hl : es.filter fun e => !memN e.2.2 seen with
        | nil => rw [hl] at k1; cases k1
        | cons a r => rw [hl] at e8; exact e8
      have e10 := allE_ok e9 _ k1
      obtain ⟨z1, z2⟩ := iter_write h hob hL rfl ht rfl hb hc (.iter (some m) since (app seen [x.born]) cl) rfl (.mapIter (some M.blk) since (seen.toArray.push x.born) cl) (fun w' hw' => ⟨hb, hc, some M.blk, by rw [hw', app_eq]; simp, M, hM, rfl⟩) d
      exact OpOK.of_value (q2 _ z1) z2 (v' := .tup [.bool true, k, v]) ⟨_, rfl, VRs.cons rfl (VRs.cons k2 (VRs.cons k3 VRs.nil))⟩ e10
  · cases e3

theorem op_entry (h : HR P φ g w) {kn : KN} {vs : List AV} {cvs : List Value} (hvs : VRs φ vs cvs) (e : opEntry vs g kn = true) :
    ∃ cx, cvs = [cx] ∧ ValOK P φ w (kn g) (Instr.entry cx) := by
  obtain ⟨x, rfl, e1⟩ := a1_ok e
  obtain ⟨cx, rfl, hx⟩ := hvs.one_inv
  refine ⟨cx, rfl, ?_⟩
  obtain ⟨b, off, rfl, e2⟩ := asPtr_ok e1
  obtain ⟨L, hL, rfl⟩ := hx
  obtain ⟨e0, e3⟩ := bif_and e2
  clear e e1 e2
  obtain rfl := Nat.eq_of_beq_eq_true e0
  split at e3
  · rename_i m since seen last hob
    obtain ⟨hb, hc, M, hM, ht⟩ := iter_inv h hob hL
    have ha : L.addr 0 = ⟨L.blk, 0, none⟩ := by unfold Loc.addr; rw [hb]
    obtain ⟨o, hom, e5⟩ := opt_some e3
    obtain ⟨ro, es, cl, rfl, e6⟩ := isMap_some e5
    obtain ⟨_, _, en, hen, hes⟩ := map_inv h hom hM
    obtain ⟨n, hn, e7⟩ := opt_some e6
    obtain ⟨e8, e9⟩ := bif_and e7
    obtain rfl := Nat.eq_of_beq_eq_true e8
    obtain ⟨x, hx, e10⟩ := opt_some e9
    have hfind : ∀ {l : List (AV × AV × Nat)} {es : List MapEntry} {x}, EsR φ l es → l.find? (fun e => Nat.beq e.2.2 n) = some x → ∃ y, es.find? (fun e => e.born == n) = some y ∧ VR φ x.1 y.key ∧ VR φ x.2.1 y.val := by
      intro l
      induction l with
      | nil => intro es x _ h; cases h
      | cons a l ih =>
        intro es x hh hx
        obtain ⟨k, v, m'⟩ := a
        obtain ⟨y, r, h0, h1, h2, h3, h4⟩ := hh
        subst h0
        cases hq : Nat.beq m' n with
        | true =>
          rw [List.find?_cons_of_pos (by simpa using hq)] at hx
          cases hx
          have := Nat.eq_of_beq_eq_true hq
          exact ⟨y, by rw [List.find?_cons_of_pos (by simp [h3, this])], h1, h2⟩
        | false =>
          rw [List.find?_cons_of_neg (by simp [hq])] at hx
          have := Nat.ne_of_beq_eq_false hq
          rw [List.find?_cons_of_neg (by simp [h3, this])]
          exact ih h4 hx
    obtain ⟨y, y1, y2, y3⟩ := hfind hes hx
    have hback : seen.toArray.back? = some n := by simpa using hn
    have hf : en.find? (fun e => e.born == n) = some y := by rw [← Array.find?_toList]; exact y1
    refine ⟨.tup [x.1, x.2.1], .tuple #[y.key, y.val], ?_, ⟨_, rfl, VRs.cons y2 (VRs.cons y3 VRs.nil)⟩, e10⟩
    rw [ha]
    simp [Instr.entry, run_getObj' ht rfl, run_getObj' hen rfl, hn, hf]
  · cases e3
end
end Go.Lv

namespace Go.Lv
open Go
section
variable {P : Program} {φ φ' : Emb} {g : G} {w w' : World}

theorem aggU_ok {t : TypeId} {a : Option Nat} (h : aggU P t = some a) : aggT P t = some a ∧ (P.underlying t).isSome = true := by
  unfold aggU at h
  split at h
  · rename_i e; exact ⟨h, by rw [e]; rfl⟩
  · cases h
theorem inv_orBad {why : Nat} {x : Option KA} {K : AK} {as : List AO} {vs : List AV} {kn : KN} (h : orBad why x = (.op K, as)) (e : opV K vs g kn = true) : x = some (.op K, as) := by
  cases x with
  | none => cases h; cases e
  | some y => exact congrArg some h
theorem inv_args {l : List Operand} {k : Option AK} {K : AK} {as : List AO} (h : withArgs P l k = some (.op K, as)) : k = some K ∧ cOs P l = some as := by
  unfold withArgs withArgsB at h
  obtain ⟨bs, h1, h2⟩ := Option.bind_eq_some_iff.1 h
  cases k with
  | none => cases h2
  | some k => cases h2; exact ⟨rfl, h1⟩
theorem inv_withArgs {why : Nat} {l : List Operand} {k : Option AK} {K : AK} {as : List AO} {vs : List AV} {kn : KN} (h : orBad why (withArgs P l k) = (.op K, as)) (e : opV K vs g kn = true) : k = some K ∧ cOs P l = some as :=
  inv_args (inv_orBad h e)

theorem OpOK.congr {kn : KN} {s s' : Sem Next} (h : OpOK P φ g w kn s) (he : s'.run P w = s.run P w) : OpOK P φ g w kn s' := by
  obtain ⟨r, w', φ', g', v', cv, h1, h2⟩ := h
  exact ⟨r, w', φ', g', v', cv, he.trans h1, h2⟩

/-- operands: what they stand for -/
def ArgsR (P : Program) (φ : Emb) (as : List AO) (vs : List AV) (ρ : Operand → Value) : Prop := ∀ l, cOs P l = some as → VRs φ vs (l.map ρ)

theorem one_eq {ρ : Operand → Value} {x : Operand} {c : Value} (h : [ρ x] = [c]) : c = ρ x := by cases h; rfl
theorem cOs_nil : cOs P [] = some [] := rfl

theorem builtin_ok (h : HR P φ g w) {b : Builtin} {ts : Array TypeId} {l : List Operand} {K : AK} {as : List AO} (hc : cBuiltin P b ts l = (.op K, as)) {ρ : Operand → Value} {vs : List AV} (hvs : ArgsR P φ as vs ρ) {kn : KN} (e : opV K vs g kn = true)
    (ty : TypeId) (consts : Array Bool) : OpOK P φ g w kn (Go.builtin b ts ty consts (l.map ρ).toArray) := by
  unfold cBuiltin at hc
  split at hc
  · cases hc
  · obtain ⟨hk, has⟩ := inv_withArgs hc e
    have hv := hvs l has
    split at hk
    · -- len
      rename_i x
      simp only [List.map_cons, List.map_nil] at hv ⊢
      cases h0 : ts[0]? with
      | none => rw [h0] at hk; cases hk
      | some t =>
        rw [h0] at hk
        simp only [Option.bind_some] at hk
        split at hk
        · rename_i n el hu
          cases hk
          obtain ⟨cx, hcx, hr⟩ := op_len_array (ty := ty) hu h0 hv e
          obtain rfl := one_eq hcx
          exact ValOK.op h hr
        · rename_i hu
          cases hk
          obtain ⟨cx, hcx, hr⟩ := op_slen (ty := ty) hu h0 hv e
          obtain rfl := one_eq hcx
          exact ValOK.op h hr
        · rename_i el hu
          cases hk
          obtain ⟨cx, hcx, hr⟩ := op_len_slice (ty := ty) hu h0 hv e
          obtain rfl := one_eq hcx
          exact ValOK.op h hr
        · rename_i kt el hu
          cases hk
          obtain ⟨cx, hcx, hr⟩ := op_mlen (ty := ty) h h0 hu hv e
          obtain rfl := one_eq hcx
          exact ValOK.op h hr
        · cases hk
    · -- cap
      rename_i x
      simp only [List.map_cons, List.map_nil] at hv ⊢
      cases h0 : ts[0]? with
      | none => rw [h0] at hk; cases hk
      | some t =>
        rw [h0] at hk
        simp only [Option.bind_some] at hk
        split at hk
        · rename_i el hu
          cases hk
          obtain ⟨cx, hcx, hr⟩ := op_cap (ty := ty) hu h0 hv e
          obtain rfl := one_eq hcx
          exact ValOK.op h hr
        · cases hk
    · cases hk; cases e
    · cases hk; cases e
    · -- append
      rename_i x y
      simp only [List.map_cons, List.map_nil] at hv ⊢
      obtain ⟨st, h0, hk⟩ := Option.bind_eq_some_iff.1 hk
      obtain ⟨el, hel, hk⟩ := Option.bind_eq_some_iff.1 hk
      obtain ⟨it, hit, hk⟩ := Option.bind_eq_some_iff.1 hk
      have hs : P.underlying st = some (.slice el) := by
        unfold elemSliceT at hel; split at hel
        · cases hel; assumption
        · cases hel
      split at hk
      · cases hk
      · rename_i d hnd hd
        obtain ⟨z, hz, hk⟩ := Option.bind_eq_some_iff.1 hk
        split at hk
        · cases hk
        · rename_i hcond
          simp only [Bool.or_eq_true, Bool.not_eq_true', not_or, Bool.not_eq_true, Bool.not_eq_false] at hcond
          obtain ⟨⟨c1, c2⟩, c3⟩ := hcond
          cases hk
          obtain ⟨xt, h1, hd'⟩ := Option.bind_eq_some_iff.1 hd
          obtain ⟨cx, cy, hcx, hr⟩ := op_append (ty := ty) h h0 h1 hs hd' (fun k q => hnd k q) hit (Nat.le_of_ble_eq_true c3) hz (by simpa using c1) (Nat.eq_of_beq_eq_true c2) hv e
          cases hcx
          exact hr
      · cases hk
    · -- copy
      rename_i x y
      simp only [List.map_cons, List.map_nil] at hv ⊢
      obtain ⟨st, h0, hk⟩ := Option.bind_eq_some_iff.1 hk
      obtain ⟨el, hel, hk⟩ := Option.bind_eq_some_iff.1 hk
      obtain ⟨n, hn, hk⟩ := Option.map_eq_some_iff.1 hk
      have hs : P.underlying st = some (.slice el) := by
        unfold elemSliceT at hel; split at hel
        · cases hel; assumption
        · cases hel
      subst hk
      obtain ⟨cx, cy, hcx, hr⟩ := op_copy (ty := ty) h h0 hs hn hv e
      cases hcx
      exact hr
    · -- clear
      rename_i x
      simp only [List.map_cons, List.map_nil] at hv ⊢
      obtain ⟨st, h0, hk⟩ := Option.bind_eq_some_iff.1 hk
      obtain ⟨el, hel, hk⟩ := Option.bind_eq_some_iff.1 hk
      obtain ⟨n, hn, hk⟩ := Option.bind_eq_some_iff.1 hk
      obtain ⟨z, hz, hk⟩ := Option.bind_eq_some_iff.1 hk
      have hs : P.underlying st = some (.slice el) := by
        unfold elemSliceT at hel; split at hel
        · cases hel; assumption
        · cases hel
      split at hk
      · cases hk
      · rename_i hcond
        simp only [Bool.or_eq_true, Bool.not_eq_true', not_or, Bool.not_eq_true, Bool.not_eq_false] at hcond
        cases hk
        obtain ⟨cx, hcx, hr⟩ := op_clear (size := n) (ty := ty) h h0 hs hz (by simpa using hcond.1) hv e
        obtain rfl := one_eq hcx
        exact hr
    · -- delete
      rename_i x y
      simp only [List.map_cons, List.map_nil] at hv ⊢
      cases h0 : ts[0]? with
      | none => rw [h0] at hk; cases hk
      | some t =>
        rw [h0] at hk
        simp only [Option.bind_some] at hk
        split at hk
        · rename_i kt el hu
          obtain ⟨ks, hks, hk⟩ := Option.map_eq_some_iff.1 hk
          subst hk
          obtain ⟨cx, cy, hcx, hr⟩ := op_delete (ty := ty) h h0 hu hks hv e
          cases hcx
          exact hr
        · cases hk
    · cases hk
      exact ValOK.op h (op_minmax (mx := false) (ty := ty) (ts := ts) hv e)
    · cases hk
      exact ValOK.op h (op_minmax (mx := true) (ty := ty) (ts := ts) hv e)
    · cases hk
end
end Go.Lv

namespace Go.Lv
open Go
section
variable {P : Program} {φ φ' : Emb} {g : G} {w w' : World}

theorem elemSliceT_ok {t el : TypeId} (h : elemSliceT P t = some el) : P.underlying t = some (.slice el) := by
  unfold elemSliceT at h; split at h
  · cases h; assumption
  · cases h

theorem parts_map (ρ : Operand → Value) (ps : Array (Nat × Operand)) : (ps.map fun (i, x) => (i, ρ x)).toList.map (·.1) = ps.toList.map (·.1) ∧ (ps.map fun (i, x) => (i, ρ x)).toList.map (·.2) = (ps.toList.map (·.2)).map ρ := by
  simp [Array.toList_map, List.map_map, Function.comp_def]

theorem optList_map (ρ : Operand → Value) (o : Option Operand) : (o.map ρ).toList = o.toList.map ρ := by cases o <;> rfl

/-- **ONE OPERATION**: what the evaluator answers, the machine does. -/
theorem op_ok (h : HR P φ g w) {o : Oper} {K : AK} {as : List AO} (hc : cOp P o.op = (.op K, as)) {ρ : Operand → Value} {vs : List AV} (hvs : ArgsR P φ as vs ρ) {kn : KN} (e : opV K vs g kn = true) :
    OpOK P φ g w kn (execOp ρ o) := by
  unfold cOp at hc
  split at hc
  · rename_i x ho
    obtain ⟨hk, has⟩ := inv_withArgs hc e
    cases hk
    obtain ⟨cx, hcx, hr⟩ := op_mv (P := P) (w := w) (hvs _ has) e
    obtain rfl := one_eq hcx
    exact (ValOK.op h hr).congr (by simp [execOp, ho])
  · rename_i x ho
    obtain ⟨hk, has⟩ := inv_withArgs hc e
    cases hk
    obtain ⟨cx, hcx, hr⟩ := op_mv (P := P) (w := w) (hvs _ has) e
    obtain rfl := one_eq hcx
    exact (ValOK.op h hr).congr (by simp [execOp, ho])
  · rename_i c a b ho
    obtain ⟨hk, has⟩ := inv_withArgs hc e
    cases hk
    obtain ⟨c1, c2, c3, hcx, hr⟩ := op_pick (P := P) (w := w) (hvs _ has) e
    cases hcx
    exact (ValOK.op h hr).congr (by simp [execOp, ho])
  · rename_i t ho
    have hc := inv_orBad hc e
    obtain ⟨z, hz, hc⟩ := Option.bind_eq_some_iff.1 hc
    split at hc
    · cases hc
    · rename_i hze
      cases hc
      have hr := op_alloc (t := t) h hz (by simpa using hze) (hvs [] rfl) e
      exact hr.congr (by simp [execOp, ho])
  · rename_i t x ho
    obtain ⟨hk, has⟩ := inv_withArgs hc e
    cases hk
    have hr := op_box (t := t) (ca := ρ x) h (hvs _ has) e
    exact hr.congr (by simp [execOp, ho])
  · rename_i t ps ho
    have hc := inv_orBad hc e
    obtain ⟨pl, hpl, hc⟩ := Option.bind_eq_some_iff.1 hc
    obtain ⟨⟨l, as'⟩, hp, hc⟩ := Option.bind_eq_some_iff.1 hc
    obtain ⟨z, hz, hc⟩ := Option.bind_eq_some_iff.1 hc
    split at hc
    · cases hc
    · rename_i hze
      cases hc
      obtain ⟨p1, p2⟩ := cParts_ok hp
      obtain ⟨m1, m2⟩ := parts_map ρ ps
      have hr := op_build (P := P) (w := w) hpl hz (by simpa using hze) (parts := ps.map fun (i, x) => (i, ρ x)) (by rw [m1]; exact p1) (by rw [m2]; exact hvs _ p2) e
      exact (ValOK.op h hr).congr (by simp [execOp, ho])
  · rename_i t len ps ho
    have hc := inv_orBad hc e
    obtain ⟨el, hel, hc⟩ := Option.bind_eq_some_iff.1 hc
    obtain ⟨n, hn, hc⟩ := Option.bind_eq_some_iff.1 hc
    obtain ⟨z, hz, hc⟩ := Option.bind_eq_some_iff.1 hc
    split at hc
    · cases hc
    · rename_i hcond
      obtain ⟨⟨l, as'⟩, hp, hc⟩ := Option.map_eq_some_iff.1 hc
      cases hc
      simp only [Bool.or_eq_true, Bool.not_eq_true', not_or, Bool.not_eq_true, Bool.not_eq_false] at hcond
      obtain ⟨⟨c1, c2⟩, c3⟩ := hcond
      obtain ⟨p1, p2⟩ := cParts_ok hp
      obtain ⟨m1, m2⟩ := parts_map ρ ps
      have hr := op_buildS h (elemSliceT_ok hel) hn hz (by simpa using c1) (Nat.eq_of_beq_eq_true c2) (Nat.le_of_ble_eq_true c3) (parts := ps.map fun (i, x) => (i, ρ x)) (by rw [m1]; exact p1) (by rw [m2]; exact hvs _ p2) e
      exact hr.congr (by simp [execOp, ho])
  · rename_i t m k v ho
    obtain ⟨hk, has⟩ := inv_withArgs hc e
    split at hk
    · rename_i kt el hu
      obtain ⟨ks, hks, hk⟩ := Option.map_eq_some_iff.1 hk
      subst hk
      obtain ⟨_, _, _, hcx, hr⟩ := op_mapSet h hu hks (hvs _ has) e
      cases hcx
      exact hr.congr (by simp [execOp, ho])
    · cases hk
  · rename_i t m k v ho
    obtain ⟨hk, has⟩ := inv_withArgs hc e
    split at hk
    · rename_i kt el hu
      obtain ⟨ks, hks, hk⟩ := Option.map_eq_some_iff.1 hk
      subst hk
      obtain ⟨_, _, _, hcx, hr⟩ := op_mapSet h hu hks (hvs _ has) e
      cases hcx
      exact hr.congr (by simp [execOp, ho])
    · cases hk
  · rename_i t a ho
    obtain ⟨hk, has⟩ := inv_withArgs hc e
    obtain ⟨ag, hag, hk⟩ := Option.map_eq_some_iff.1 hk
    subst hk
    obtain ⟨h1, h2⟩ := aggU_ok hag
    obtain ⟨cx, hcx, hr⟩ := op_load h h1 h2 (hvs _ has) e
    obtain rfl := one_eq hcx
    exact (ValOK.op h hr).congr (by simp [execOp, ho])
  · rename_i t a x ho
    obtain ⟨hk, has⟩ := inv_withArgs hc e
    obtain ⟨n, hn, hk⟩ := Option.bind_eq_some_iff.1 hk
    split at hk
    · cases hk
    · rename_i hn0
      cases hk
      obtain ⟨_, _, hcx, hr⟩ := op_store h hn hn0 (hvs _ has) e
      cases hcx
      exact hr.congr (by simp [execOp, ho])
  · rename_i x ho
    obtain ⟨hk, has⟩ := inv_withArgs hc e
    cases hk
    exact op_nilCheck (t := 0) h ho (hvs _ has) e
  · rename_i op t x y _ ho
    obtain ⟨hk, has⟩ := inv_withArgs hc e
    cases hk
    obtain ⟨_, _, hcx, hr⟩ := op_bin h (x := x) (y := y) (fun q => by cases x <;> cases y <;> first | exact .inl rfl | exact .inr rfl | cases q) (hvs _ has) e
    cases hcx
    exact (ValOK.op h hr).congr (by simp [execOp, ho])
  · rename_i op t x ho
    obtain ⟨hk, has⟩ := inv_withArgs hc e
    cases hk
    obtain ⟨cx, hcx, hr⟩ := op_un (P := P) (w := w) (t := 0) (hvs _ has) e
    obtain rfl := one_eq hcx
    exact (ValOK.op h hr).congr (by simp [execOp, ho])
  · rename_i s d x ho
    obtain ⟨hk, has⟩ := inv_withArgs hc e
    cases hk
    obtain ⟨cx, hcx, hr⟩ := op_conv h (hvs _ has) e
    obtain rfl := one_eq hcx
    exact hr.congr (by simp [execOp, ho])
  · rename_i t x ho
    obtain ⟨hk, has⟩ := inv_withArgs hc e
    split at hk
    · cases hk
    · rename_i d hd hu
      cases hk
      obtain ⟨cx, hcx, hr⟩ := op_mkIfc (P := P) (w := w) ⟨_, hu, fun ms q => hd ms q⟩ (hvs _ has) e
      obtain rfl := one_eq hcx
      exact (ValOK.op h hr).congr (by simp [execOp, ho])
    · cases hk
  · rename_i f a c ho
    have hc := inv_orBad hc e
    split at hc
    · cases hc
    · rename_i hf
      obtain ⟨hk, has⟩ := inv_args hc
      cases hk
      have htake : ((a.toList ++ c.toList).map ρ).take a.size = a.toList.map ρ := by simp
      have hdrop : ((a.toList ++ c.toList).map ρ).drop a.size = c.toList.map ρ := by simp
      have hr := op_mkFn (P := P) (w := w) (f := f) (fun l q => hf l q) (hvs _ has) e
      rw [htake, hdrop] at hr
      refine (ValOK.op h hr).congr ?_
      simp only [execOp, ho]
      rw [show (a.toList.map ρ).toArray = a.map ρ by simp [← Array.toList_map], show (c.toList.map ρ).toArray = c.map ρ by simp [← Array.toList_map]]
  · rename_i t ho
    cases hc
    have hr := op_mkMap (t := t) h (hvs [] rfl) e
    exact hr.congr (by simp [execOp, ho])
  · rename_i t l c ho
    have hc := inv_orBad hc e
    obtain ⟨el, hel, hc⟩ := Option.bind_eq_some_iff.1 hc
    obtain ⟨n, hn, hc⟩ := Option.bind_eq_some_iff.1 hc
    obtain ⟨z, hz, hc⟩ := Option.bind_eq_some_iff.1 hc
    split at hc
    · cases hc
    · rename_i hcond
      simp only [Bool.or_eq_true, Bool.not_eq_true', not_or, Bool.not_eq_true, Bool.not_eq_false] at hcond
      obtain ⟨it, hit, hc⟩ := Option.bind_eq_some_iff.1 hc
      split at hc
      · rename_i hb
        obtain ⟨hk, has⟩ := inv_args hc
        cases hk
        obtain ⟨_, _, hcx, hr⟩ := op_mkSl h (elemSliceT_ok hel) hn hz (by simpa using hcond.1) (Nat.eq_of_beq_eq_true hcond.2) hit (Nat.le_of_ble_eq_true hb) (hvs _ has) e
        cases hcx
        exact hr.congr (by simp [execOp, ho])
      · cases hc
  · rename_i t x lo hi mx ho
    obtain ⟨hk, has⟩ := inv_withArgs hc e
    have hv := hvs _ has
    simp only [List.map_cons, List.map_append, ← optList_map] at hv
    split at hk
    · rename_i hu
      split at hk
      · cases hk
      · rename_i hmx
        cases hk
        obtain rfl : mx = none := by simpa using hmx
        have hr := op_sslice (P := P) (w := w) hu (lo := lo.map ρ) (hi := hi.map ρ) (cx := ρ x) (kn := kn) (vs := vs) (by simpa using hv) (by rw [Option.isSome_map, Option.isSome_map]; exact e)
        exact (ValOK.op h hr).congr (by simp [execOp, ho])
    · rename_i el hu
      obtain ⟨n, hn, hk⟩ := Option.map_eq_some_iff.1 hk
      subst hk
      have hr := op_slice_slice (P := P) (w := w) hu hn (lo := lo.map ρ) (hi := hi.map ρ) (mx := mx.map ρ) (cx := ρ x) (kn := kn) (vs := vs) hv (by rw [Option.isSome_map, Option.isSome_map, Option.isSome_map]; exact e)
      exact (ValOK.op h hr).congr (by simp [execOp, ho])
    · rename_i m el hu
      obtain ⟨n, hn, hk⟩ := Option.map_eq_some_iff.1 hk
      subst hk
      have hr := op_slice_array (P := P) (w := w) hu hn (lo := lo.map ρ) (hi := hi.map ρ) (mx := mx.map ρ) (cx := ρ x) (kn := kn) (vs := vs) hv (by rw [Option.isSome_map, Option.isSome_map, Option.isSome_map]; exact e)
      exact (ValOK.op h hr).congr (by simp [execOp, ho])
    · cases hk
  · rename_i s x f ho
    obtain ⟨hk, has⟩ := inv_withArgs hc e
    split at hk
    · rename_i fs hu
      obtain ⟨fd, hf, hk⟩ := Option.bind_eq_some_iff.1 hk
      obtain ⟨n, hn, hk⟩ := Option.bind_eq_some_iff.1 hk
      split at hk
      · cases hk
      · rename_i h0
        cases hk
        obtain ⟨cx, hcx, hr⟩ := op_fAddr (P := P) (w := w) hu hf hn h0 (hvs _ has) e
        obtain rfl := one_eq hcx
        exact (ValOK.op h hr).congr (by simp [execOp, ho])
    · cases hk
  · rename_i s x f ho
    obtain ⟨hk, has⟩ := inv_withArgs hc e
    split at hk
    · rename_i fs hu
      obtain ⟨fd, hf, hk⟩ := Option.bind_eq_some_iff.1 hk
      obtain ⟨a, ha, hk⟩ := Option.map_eq_some_iff.1 hk
      subst hk
      obtain ⟨h1, h2⟩ := aggU_ok ha
      obtain ⟨cx, hcx, hr⟩ := op_fld (P := P) (w := w) hu hf h1 h2 (hvs _ has) e
      obtain rfl := one_eq hcx
      exact (ValOK.op h hr).congr (by simp [execOp, ho])
    · cases hk
  · rename_i t x i ho
    obtain ⟨hk, has⟩ := inv_withArgs hc e
    split at hk
    · rename_i m el hu
      obtain ⟨n, hn, hk⟩ := Option.map_eq_some_iff.1 hk
      subst hk
      obtain ⟨_, _, hcx, hr⟩ := op_iAddr_array (P := P) (w := w) hu hn (hvs _ has) e
      cases hcx
      exact (ValOK.op h hr).congr (by simp [execOp, ho])
    · rename_i el hu
      obtain ⟨n, hn, hk⟩ := Option.map_eq_some_iff.1 hk
      subst hk
      obtain ⟨_, _, hcx, hr⟩ := op_iAddr_slice (P := P) (w := w) hu hn (hvs _ has) e
      cases hcx
      exact (ValOK.op h hr).congr (by simp [execOp, ho])
    · cases hk
  · rename_i t x i ho
    obtain ⟨hk, has⟩ := inv_withArgs hc e
    split at hk
    · rename_i m el hu
      obtain ⟨n, hn, hk⟩ := Option.bind_eq_some_iff.1 hk
      obtain ⟨a, ha, hk⟩ := Option.map_eq_some_iff.1 hk
      subst hk
      obtain ⟨h1, h2⟩ := aggU_ok ha
      obtain ⟨_, _, hcx, hr⟩ := op_idx_array (P := P) (w := w) hu hn h1 h2 (hvs _ has) e
      cases hcx
      exact (ValOK.op h hr).congr (by simp [execOp, ho])
    · rename_i hu
      cases hk
      obtain ⟨_, _, hcx, hr⟩ := op_idx_string (P := P) (w := w) hu (hvs _ has) e
      cases hcx
      exact (ValOK.op h hr).congr (by simp [execOp, ho])
    · cases hk
  · rename_i t m k ok ho
    obtain ⟨hk, has⟩ := inv_withArgs hc e
    split at hk
    · rename_i kt el hu
      obtain ⟨ks, hks, hk⟩ := Option.bind_eq_some_iff.1 hk
      obtain ⟨z, hz, hk⟩ := Option.map_eq_some_iff.1 hk
      subst hk
      obtain ⟨_, _, hcx, hr⟩ := op_lookup h hu hks hz (hvs _ has) e
      cases hcx
      exact (ValOK.op h hr).congr (by simp [execOp, ho])
    · cases hk
  · rename_i t x ho
    obtain ⟨hk, has⟩ := inv_withArgs hc e
    split at hk
    · rename_i hu
      cases hk
      obtain ⟨cx, hcx, hr⟩ := op_range h hu (.inl ⟨rfl, rfl⟩) (hvs _ has) e
      obtain rfl := one_eq hcx
      exact hr.congr (by simp [execOp, ho])
    · rename_i kt el hu
      cases hk
      obtain ⟨cx, hcx, hr⟩ := op_range h hu (.inr ⟨rfl, _, _, rfl⟩) (hvs _ has) e
      obtain rfl := one_eq hcx
      exact hr.congr (by simp [execOp, ho])
    · cases hk
  · rename_i x s ho
    obtain ⟨hk, has⟩ := inv_withArgs hc e
    cases hk
    obtain ⟨cx, hcx, hr⟩ := op_next (ty := o.type) h (hvs _ has) e
    obtain rfl := one_eq hcx
    exact hr.congr (by simp [execOp, ho])
  · rename_i x ho
    obtain ⟨hk, has⟩ := inv_withArgs hc e
    cases hk
    obtain ⟨cx, hcx, hr⟩ := op_entry h (hvs _ has) e
    obtain rfl := one_eq hcx
    exact (ValOK.op h hr).congr (by simp [execOp, ho])
  · rename_i x xt t ok ho
    obtain ⟨hk, has⟩ := inv_withArgs hc e
    split at hk
    · cases hk
    · rename_i d hd hu
      obtain ⟨z, hz, hk⟩ := Option.map_eq_some_iff.1 hk
      subst hk
      obtain ⟨cx, hcx, hr⟩ := op_asrt (P := P) (w := w) (x := xt) hu (fun ms q => hd ms q) hz (hvs _ has) e
      obtain rfl := one_eq hcx
      exact (ValOK.op h hr).congr (by simp [execOp, ho])
    · cases hk
  · rename_i x i ho
    obtain ⟨hk, has⟩ := inv_withArgs hc e
    cases hk
    obtain ⟨cx, hcx, hr⟩ := op_extract (P := P) (w := w) (hvs _ has) e
    obtain rfl := one_eq hcx
    exact (ValOK.op h hr).congr (by simp [execOp, ho])
  · rename_i c ho
    split at hc
    · rename_i b hcal
      have hr := builtin_ok h hc hvs e o.type (c.args.map fun | .const _ => true | _ => false)
      rw [show (c.args.toList.map ρ).toArray = c.args.map ρ by simp [← Array.toList_map]] at hr
      refine hr.congr ?_
      simp only [execOp, ho, resolve, hcal]
      rfl
    · exfalso
      unfold orBad withArgsB at hc
      cases hx : (cOs P c.args.toList) with
      | none => rw [hx] at hc; cases hc; cases e
      | some y => rw [hx] at hc; cases hc
    · exfalso
      unfold orBad withArgsB at hc
      rename_i f _ _
      cases hx : (cOs P (f :: c.args.toList)) with
      | none => rw [hx] at hc; cases hc; cases e
      | some y => rw [hx] at hc; cases hc
    · exfalso
      unfold orBad withArgsB at hc
      rename_i x _ _
      cases hx : (cOs P (x :: c.args.toList)) with
      | none => rw [hx] at hc; cases hc; cases e
      | some y => rw [hx] at hc; cases hc
  · exfalso
    split at hc
    · unfold orBad withArgsB at hc
      rename_i c _ _ f _
      cases hx : (cOs P (f :: c.args.toList)) with
      | none => rw [hx] at hc; cases hc; cases e
      | some y => rw [hx] at hc; cases hc
    · cases hc; cases e
  · exfalso
    unfold orBad withArgsB at hc
    rename_i x _
    cases hx : (cOs P [x]) with
    | none => rw [hx] at hc; cases hc; cases e
    | some y => rw [hx] at hc; cases hc
  · cases hc; cases e
end
end Go.Lv

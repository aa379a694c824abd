/-
  The evaluator is right, part 3: conversions, new blocks, append, copy. Conditions: those of each theorem.
-/
import Derived.Test.YtajkappjebiolaaGreatDoorLv3
import Derived.Laws.IdiomStrings
import Derived.Laws.NewFold
import Derived.Laws.Tables
import Derived.Laws.Append
import Derived.Laws.AppendOwn
namespace Go.Lv
open Go
section
variable {P : Program} {φ : Emb} {g : G} {w w' : World}

/-- a new row, seen through a world that may have drawn since, and whose cells lie outside of what is frozen -/
theorem new_row' (h : HR P φ g w) (e : TypeId) {vs : List AV} {cvs : List Value} (hvs : VRs φ vs cvs) (ho : ∀ v ∈ vs, v.one = true) (rest : List Value) (gr : Bool) (cap : Nat) {c : PT AV} (hcc : c = ofCells vs)
    {fr : Nat × Nat} (hfr : ∀ i, i < (cvs ++ rest).length → (decide (fr.1 ≤ i) && decide (i < fr.2)) = false) (hos : w'.os = w.os) (hou : w'.output = w.output) (hta : w'.tape = w.tape)
    (hw : w'.heap = w.heap.push (.cells (cvs ++ rest).toArray e fr)) :
    Step P φ g w (φ.put g.nx ⟨w.heap.size, 0, cap, (cvs ++ rest).length⟩) (g.new (.row false gr vs.length c)) w' := by
  subst hcc
  have hle : Le φ (φ.put g.nx ⟨w.heap.size, 0, cap, (cvs ++ rest).length⟩) := fun b M hb => by rw [Emb.put_ne]; exact hb; have := h.lt hb; omega
  have hlen := hvs.length
  have hget : w'.heap[w.heap.size]? = some (.cells (cvs ++ rest).toArray e fr) := by rw [hw]; simp
  have hc : ∀ i, w'.cell? ⟨w.heap.size, i, none⟩ = (cvs ++ rest)[i]? := fun i => by unfold World.cell?; simp [hget]
  refine h.alloc _ _ _ rfl hos hou hta hw ⟨by rw [hw]; simp, by simp; omega, ?_, fun _ i hi => ?_⟩
  · refine ofCells_row (cvs := cvs) (VRs.mono hle hvs) ho (fun j hj => ?_)
    unfold Loc.addr; simp only [Nat.zero_add]; rw [hc j]
    simp [List.getElem?_append, hj]
  · unfold Loc.addr; simp only [Nat.zero_add]
    have hi : i < (cvs ++ rest).length := hi
    refine ⟨?_, ?_⟩
    · rw [hc i]; rw [List.getElem?_eq_getElem hi]; rfl
    · have := hfr i hi
      unfold World.frozen?; simp only [hget]; exact this

theorem nums_VRs (l : List Nat) : VRs φ (l.map fun b : Nat => AV.int .u8 b) (l.map fun b : Nat => Value.int .u8 b) := by
  induction l with
  | nil => exact rfl
  | cons a l ih => exact ⟨_, _, rfl, rfl, ih⟩

theorem byteOf_some {a : AV} {n : Nat} (h : byteOf a = some n) : a = .int .u8 (n : Int) ∧ n < 256 := by
  unfold byteOf at h
  split at h
  · rename_i m
    revert h
    cases hb : Nat.blt m 256 with
    | true => intro h; cases h; exact ⟨rfl, by have hb : Nat.ble (n + 1) 256 = true := hb; have := Nat.le_of_ble_eq_true hb; omega⟩
    | false => intro h; cases h
  · cases h
theorem bytes_of {l : List AV} {r : List Nat} {cvs : List Value} (h : bytesOfCells l = some r) (hv : VRs φ l cvs) : cvs = (r.map fun b : Nat => (b : Int)).map (Value.int .u8) ∧ ∀ n ∈ r, n < 256 := by
  induction l generalizing r cvs with
  | nil => cases h; obtain rfl : cvs = [] := hv; exact ⟨rfl, by simp⟩
  | cons a l ih =>
    unfold bytesOfCells at h
    rw [List.mapM_cons] at h
    obtain ⟨n, hn, h⟩ := Option.bind_eq_some_iff.1 h
    obtain ⟨r', hr', h⟩ := Option.bind_eq_some_iff.1 h
    cases h
    obtain ⟨c, cs, rfl, hc, hcs⟩ := hv
    obtain ⟨h1, h2⟩ := ih hr' hcs
    obtain ⟨rfl, hn2⟩ := byteOf_some hn
    obtain rfl : c = .int .u8 _ := hc
    exact ⟨by rw [h1]; rfl, by simpa using ⟨hn2, h2⟩⟩
theorem push_bytes : ∀ (r : List Nat) (s : ByteArray), (∀ n ∈ r, n < 256) → (((r.map fun b : Nat => (b : Int)).foldl (fun r n => r.push (UInt8.ofNat n.toNat)) s).data.toList.map (·.toNat)) = s.data.toList.map (·.toNat) ++ r
  | [], s, _ => by simp
  | n :: r, s, h => by
    simp only [List.map_cons, List.foldl_cons]
    rw [push_bytes r _ (fun m hm => h m (by simp [hm]))]
    have : n < 256 := h n (by simp)
    simp [ByteArray.push]
    omega

theorem modify_push {α : Type} (H : Array α) (x : α) (f : α → α) : (H.push x).modify H.size f = H.push (f x) := by
  apply Array.ext
  · simp
  · intro i h1 h2
    simp only [Array.getElem_modify, Array.getElem_push]
    by_cases h : i < H.size
    · have : H.size ≠ i := by omega
      simp [h, this]
    · have : i = H.size := by simp at h2; omega
      subst this; simp
theorem run_mark_new (W : World) (C : Array Value) (e : TypeId) : (markStringish ⟨W.heap.size, 0, none⟩).run P (W.alloc (.cells C e)) = .ok () { W with heap := W.heap.push (.cells C e (C.size, C.size + 1)) } := by
  have hs : (W.alloc (.cells C e)).shape? W.heap.size = some (e, C.size) := by
    have : (W.alloc (.cells C e)).heap[W.heap.size]? = some (.cells C e) := by show (W.heap.push (.cells C e))[W.heap.size]? = _; simp
    unfold World.shape?; rw [this]
  unfold markStringish
  simp only [Sem.run_bind, run_shape, hs, Result.andThen_ok, run_freeze]
  congr 1
  unfold World.freeze
  simp only [Nat.add_one_ne_zero, if_false]
  have : (W.alloc (.cells C e)).heap = W.heap.push (.cells C e) := rfl
  simp only [this, modify_push]
  rfl

theorem op_conv (h : HR P φ g w) {s d : TypeId} {kn : KN} {vs : List AV} {cvs : List Value} (hvs : VRs φ vs cvs) (e : opConv (cConv P s d) vs g kn = true) :
    ∃ ca, cvs = [ca] ∧ OpOK P φ g w kn (do pure (.value (← Go.convert s d ca))) := by
  obtain ⟨a, rfl, e⟩ := a1_ok e
  obtain ⟨ca, rfl, ha⟩ := hvs.one_inv
  refine ⟨ca, rfl, ?_⟩
  unfold cConv at e
  split at e
  · rename_i k0 k hs hd
    cases a <;> first | (cases e; done) | skip
    rename_i k1 n _
    obtain rfl : ca = .int _ _ := ha
    refine ValOK.op h (ValOK.int (n := wrapI k n) ?_ e)
    simp [Go.convert, run_underlying hs, run_underlying hd, Conv.intToInt, wrapI_eq]
  · rename_i hs hd
    cases a <;> first | (cases e; done) | skip
    obtain ⟨t, rfl, ht⟩ := ha
    exact ValOK.op h ⟨.str _, .string t, by simp [Go.convert, run_underlying hs, run_underlying hd], ⟨t, rfl, ht⟩, e⟩
  · rename_i el hs hd
    split at e
    · rename_i hel
      cases a <;> first | (cases e; done) | skip
      rename_i l _
      obtain ⟨t, rfl, ht⟩ := ha
      have e : kn (g.new (.row false true (len l) (ofCells (l.map fun b : Nat => .int .u8 b)))) (.gsl g.nx 0 (len l) 0 1) = true := e
      have hl : t.size = l.length := by rw [← ht]; simp
      have hel' : t.data.toList.map (fun b => Value.int .u8 (b.toNat : Int)) = l.map fun b : Nat => Value.int .u8 (b : Int) := by rw [← ht, List.map_map]; rfl
      let cap := (Question.appendCap t.size 0 el).cut (w.tape w.drawn (.appendCap t.size 0 el))
      have hcap : l.length ≤ cap := by rw [← hl]; exact Nat.le_add_right _ _
      let rest := List.replicate (cap - t.size) (Value.int .u8 0)
      let cells := (l.map fun b : Nat => Value.int .u8 (b : Int)) ++ rest
      let w1 : World := { w.drew with heap := w.heap.push (.cells cells.toArray el (cells.length, cells.length + 1)) }
      have hlen : cells.length = cap := by simp [cells, rest, hl]; omega
      have hstep := new_row' h (w' := w1) el (nums_VRs (φ := φ) l) (by intro v hv; obtain ⟨_, _, rfl⟩ := List.mem_map.1 hv; rfl) rest true cap rfl (fr := (cells.length, cells.length + 1))
        (fun i hi => by
          have : ¬ cells.length ≤ i := by show ¬ ((l.map fun b : Nat => Value.int .u8 (b : Int)) ++ rest).length ≤ i; omega
          simp [this]) rfl rfl rfl rfl
      refine OpOK.of_value (w' := w1) (v' := .gsl g.nx 0 (len l) 0 1) (cv := .slice (some ⟨w.heap.size, 0, none⟩) t.size cap) ?_ (by simpa [len_eq] using hstep) ?_ (by simpa [len_eq] using e)
      · have hcells : (t.data.map fun b => Value.int .u8 (b.toNat : Int)) ++ Array.replicate (cap - t.size) (Value.int .u8 0) = cells.toArray := by
          apply Array.toList_inj.1
          simp [cells, rest, hel']
        have hne : (Question.appendCap t.size 0 el).forced = false := rfl
        have h1 : (choose (.appendCap t.size 0 el)).run P w = .ok cap w.drew := by rw [run_choose_drew, hne]; rfl
        have h2 : ∀ W : World, (newObj (.cells cells.toArray el)).run P W = .ok W.heap.size (W.alloc (.cells cells.toArray el)) := fun W => rfl
        have h3 := run_mark_new (P := P) w.drew cells.toArray el
        simp only [Go.convert, Sem.run_bind, run_underlying hs, run_underlying hd, run_underlying hel, Result.andThen_ok, Conv.stringToBytes, h1, newRow, hcells, h2, Sem.run_pure, h3]
        simp [w1]
        rfl
      · refine ⟨_, Emb.put_same _ _ _, ?_, ?_, _, ?_, fun _ => rfl⟩
        · simp [len_eq]; exact hcap
        · have hlr : l.length + rest.length = cap := by simpa [cells] using hlen
          show 0 + (cap - 0) * 1 = l.length + rest.length
          omega
        · simp [len_eq, hl, Loc.addr]
    · cases e
  · rename_i el hs hd
    split at e
    · rename_i hel
      have go : ∀ {b : Pos} {off n c : Nat} {L : Loc}, φ b = some L → ca = .slice (some (L.addr off)) n c → readRow g.hp b off n (fun l => opt (bytesOfCells l) false fun l => kn g (.str l)) = true →
          OpOK P φ g w kn (do pure (.value (← Go.convert s d ca))) := by
        intro b off n c L hL hc e
        obtain ⟨l, cvs, e1, h1, h2, h3, h4, h5⟩ := readRow_ok h hL e
        obtain ⟨r, hr, e2⟩ := opt_some e1
        obtain ⟨h6, h7⟩ := bytes_of hr h3
        refine ValOK.op h ⟨.str r, .string ((r.map fun b : Nat => (b : Int)).foldl (fun r n => r.push (UInt8.ofNat n.toNat)) ByteArray.empty), ?_, ⟨_, rfl, ?_⟩, e2⟩
        · rw [hc, run_convert_bytes_string w s d el _ n c hs hel hd]
          refine run_bytesToString w _ n c (r.map fun b : Nat => (b : Int)) ?_
          rw [← h6]; exact loadCells_run h4 h5
        · rw [push_bytes r _ h7]; rfl
      cases a <;> first | (cases e; done) | skip
      · obtain ⟨L, hL, rfl⟩ := ha
        exact go hL rfl e
      · obtain ⟨L, hL, h1, h2, x, rfl, hx⟩ := ha
        rename_i b off n d0 es _
        by_cases hc : 0 < L.cap - d0
        · exact go hL (by rw [hx hc]) e
        · obtain rfl : n = 0 := by omega
          obtain ⟨l, cvs, e1, h1, h2, h3, h4, h5⟩ := readRow_ok h hL e
          obtain rfl : l = [] := List.length_eq_zero_iff.1 h1
          exact ValOK.op h ⟨.str [], .string ByteArray.empty, by rw [run_convert_bytes_string w s d el _ 0 _ hs hel hd]; exact run_bytesToString w _ 0 _ [] rfl, ⟨_, rfl, rfl⟩, e1⟩
      · obtain rfl : ca = .slice none 0 0 := ha
        exact ValOK.op h ⟨.str [], .string ByteArray.empty, by simp [run_convert_bytes_string w s d el _ 0 0 hs hel hd, Conv.bytesToString], ⟨_, rfl, rfl⟩, e⟩
    · cases e
  · cases e
end
end Go.Lv

namespace Go.Lv
open Go
section
variable {P : Program} {φ : Emb} {g : G} {w w' : World}

theorem op_nilCheck {t : TypeId} (h : HR P φ g w) {ρ : Operand → Value} {x : Operand} {o : Oper} (ho : o.op = .nilCheck x) {kn : KN} {vs : List AV} (hvs : VRs φ vs [ρ x]) (e : opNilCheck vs g kn = true) :
    OpOK P φ g w kn (execOp ρ o) := by
  obtain ⟨a, rfl, e⟩ := a1_ok e
  obtain ⟨c, hc, ha⟩ := hvs.one_inv
  obtain ⟨e1, e2⟩ := bif_and e
  have hx : (execOp ρ o).run P w = .ok (.value (ρ x)) w := by
    cases hc
    rcases notNil_ok e1 ha with ⟨p, h1⟩ | ⟨p, l, n, h1⟩ | ⟨i, as, cs, h1⟩ | ⟨t, y, h1⟩ <;> simp [execOp, ho, h1]
  cases hc
  exact ⟨.value (ρ x), w, φ, g, a, ρ x, hx, .inl rfl, Step.refl h, ha, e2⟩

theorem zeroCellsT_ok {t : TypeId} {z : List AV} (h : zeroCellsT P t = some z) (hz : z.length ≠ 0) : ∃ zv, (∀ w, (zeroValue t).run P w = .ok zv w) ∧ VRs φ z zv.cells.toList ∧ ∀ v ∈ z, v.one = true := by
  obtain ⟨a, ha, rfl⟩ := Option.map_eq_some_iff.1 h
  obtain ⟨zv, h1, h2⟩ := zeroT_ok (φ := φ) ha
  obtain ⟨h3, h4⟩ := h2.cells (.inl hz)
  exact ⟨zv, h1, h3, h4⟩

/-! ### new blocks -/
/-- 's' lays one new block, which holds 'o', and hands back 'mk' of its name -/
def NewOK (P : Program) (φ : Emb) (w : World) (s : Sem Value) (o : AObj) (mk : Pos → AV) : Prop :=
  ∃ ob L cv, s.run P w = .ok cv (World.withObj w ob) ∧ L.blk = w.heap.size ∧ ∀ b, φ b = none → ObjR P (φ.put b L) (World.withObj w ob) L o ∧ VR (φ.put b L) (mk b) cv

theorem Emb.put_le {b : Pos} (hb : φ b = none) (L : Loc) : Le φ (φ.put b L) := fun x M hx => by
  by_cases e : x.n = b.n
  · have := Pos.n_inj e; subst this; rw [hb] at hx; cases hx
  · rw [Emb.put_ne φ L e]; exact hx

theorem NewOK.op (h : HR P φ g w) {kn : KN} {s : Sem Value} {o : AObj} {mk : Pos → AV} (hn : NewOK P φ w s o mk) (e : kn (g.new o) (mk g.nx) = true) : OpOK P φ g w kn (do pure (.value (← s))) := by
  obtain ⟨ob, L, cv, h1, h2, h3⟩ := hn
  obtain ⟨h4, h5⟩ := h3 g.nx h.none_nx
  exact OpOK.of_value h1 (h.alloc (w' := World.withObj w ob) ob o L h2 rfl rfl rfl rfl h4) h5 e

theorem row_obj {φ' : Emb} (e : TypeId) {vs : List AV} {cvs : List Value} (hvs : VRs φ' vs cvs) (ho : ∀ v ∈ vs, v.one = true) (rest : List Value) (gr : Bool) (cap : Nat) :
    ObjR P φ' (World.withObj w (.cells (cvs ++ rest).toArray e)) ⟨w.heap.size, 0, cap, (cvs ++ rest).length⟩ (.row false gr vs.length (ofCells vs)) := by
  have hlen := hvs.length
  refine ⟨by simp [World.withObj], by simp; omega, ?_, fun _ i hi => ?_⟩
  · refine ofCells_row (cvs := cvs) hvs ho (fun j hj => ?_)
    have := withObj_cell w (cvs ++ rest).toArray e j
    unfold Loc.addr; simp only [Nat.zero_add]; rw [this]
    simp [List.getElem?_append, hj]
  · have h1 := withObj_cell w (cvs ++ rest).toArray e i
    have h2 := withObj_frozen w (cvs ++ rest).toArray e i
    unfold Loc.addr; simp only [Nat.zero_add]; rw [h1, h2]
    simp at hi ⊢
    exact hi

theorem n0_some {vs : List AV} {x : Option (AObj × (Pos → AV))} {p : AObj × (Pos → AV)} (h : n0 vs x = some p) : vs = [] ∧ x = some p := by cases vs <;> first | exact ⟨rfl, h⟩ | cases h
theorem n1_some {vs : List AV} {f : AV → Option (AObj × (Pos → AV))} {p : AObj × (Pos → AV)} (h : n1 vs f = some p) : ∃ a, vs = [a] ∧ f a = some p := by
  cases vs with
  | nil => cases h
  | cons a r => obtain ⟨rfl, h⟩ := n0_some (show n0 r (f a) = some p from h); exact ⟨a, rfl, h⟩
theorem bif_some {α : Type} {c : Bool} {x : Option α} {p : α} (h : bif' c x none = some p) : c = true ∧ x = some p := by cases c <;> first | exact ⟨rfl, h⟩ | cases h
theorem opt_none_some {α β : Type} {x : Option α} {f : α → Option β} {p : β} (h : opt x none f = some p) : ∃ a, x = some a ∧ f a = some p := by
  cases x with
  | none => cases h
  | some a => exact ⟨a, rfl, h⟩

theorem new_alloc {t : TypeId} {z : List AV} (hz : zeroCellsT P t = some z) (hz0 : z.length ≠ 0) {vs : List AV} {p : AObj × (Pos → AV)} (e : newAlloc z vs = some p) : NewOK P φ w (Instr.alloc t true (.tuple #[])) p.1 p.2 := by
  obtain ⟨rfl, e⟩ := n0_some e
  cases e
  obtain ⟨zv, h1, h2, h3⟩ := zeroCellsT_ok (φ := φ) hz hz0
  refine ⟨.cells (zv.cells.toList ++ []).toArray t, ⟨w.heap.size, 0, 0, (zv.cells.toList ++ []).length⟩, .pointer (some ⟨w.heap.size, 0, none⟩), ?_, rfl, fun b hb => ⟨?_, _, Emb.put_same _ _ _, rfl⟩⟩
  · simp [Instr.alloc, h1 w, newVar, newRow]
    rfl
  · rw [len_eq]; exact row_obj t (VRs.mono (Emb.put_le hb _) h2) h3 [] false 0
theorem new_box {t : TypeId} {vs : List AV} {ca : Value} (hvs : VRs φ vs [ca]) {p : AObj × (Pos → AV)} (e : newBox vs = some p) : NewOK P φ w (Instr.box t ca) p.1 p.2 := by
  obtain ⟨a, rfl, e⟩ := n1_some e
  obtain ⟨_, hca, ha⟩ := hvs.one_inv
  cases hca
  obtain ⟨e1, e⟩ := bif_some e
  have e1 := Nat.le_of_ble_eq_true e1
  rw [len_eq] at e1
  obtain ⟨h2, h3⟩ := ha.cells (.inl (by omega))
  cases e
  refine ⟨.cells (ca.cells.toList ++ []).toArray t, ⟨w.heap.size, 0, 0, (ca.cells.toList ++ []).length⟩, .pointer (some ⟨w.heap.size, 0, none⟩), ?_, rfl, fun b hb => ⟨?_, _, Emb.put_same _ _ _, rfl⟩⟩
  · simp [Instr.box, newVar, newRow]
    rfl
  · rw [len_eq]; exact row_obj t (VRs.mono (Emb.put_le hb _) h2) h3 [] false 0
theorem new_map {t : TypeId} {vs : List AV} {p : AObj × (Pos → AV)} (e : newMap vs = some p) : NewOK P φ w (Instr.makeMap t none) p.1 p.2 := by
  obtain ⟨rfl, e⟩ := n0_some e
  cases e
  refine ⟨.map #[] 0, ⟨w.heap.size, 0, 0, 1⟩, .map (some w.heap.size), ?_, rfl, fun b hb => ⟨⟨rfl, rfl, #[], by show (w.heap.push _)[w.heap.size]? = _; simp, rfl⟩, _, Emb.put_same _ _ _, rfl⟩⟩
  simp [Instr.makeMap]
  rfl

theorem op_alloc (h : HR P φ g w) {t : TypeId} {z : List AV} (hz : zeroCellsT P t = some z) (hz0 : z.length ≠ 0) {kn : KN} {vs : List AV} {cvs : List Value} (_hvs : VRs φ vs cvs) (e : opAlloc z vs g kn = true) :
    OpOK P φ g w kn (do pure (.value (← Instr.alloc t true (.tuple #[])))) := by
  obtain ⟨p, h1, h2⟩ := opt_some e
  exact (new_alloc hz hz0 h1).op h h2
theorem op_box (h : HR P φ g w) {t : TypeId} {kn : KN} {vs : List AV} {ca : Value} (hvs : VRs φ vs [ca]) (e : opBox vs g kn = true) : OpOK P φ g w kn (do pure (.value (← Instr.box t ca))) := by
  obtain ⟨p, h1, h2⟩ := opt_some e
  exact (new_box hvs h1).op h h2
theorem op_mkMap (h : HR P φ g w) {t : TypeId} {kn : KN} {vs : List AV} {cvs : List Value} (_hvs : VRs φ vs cvs) (e : opMkMap vs g kn = true) : OpOK P φ g w kn (do pure (.value (← Instr.makeMap t none))) := by
  obtain ⟨p, h1, h2⟩ := opt_some e
  exact (new_map h1).op h h2

/-! ### composite literals -/
theorem setRange_VRs {l vs : List AV} {cl cvs : List Value} (h : VRs φ l cl) (hv : VRs φ vs cvs) (off : Nat) : VRs φ (setRange l off vs) (cl.take off ++ (cvs ++ cl.drop (off + cvs.length))) := by
  unfold setRange
  rw [app_eq, app_eq, takeN_eq, dropN_eq, len_eq]
  have := hv.length
  exact (h.take off).append (hv.append (by rw [this]; exact h.drop _))

theorem fold_set (off : Nat) : ∀ (ws : List Value) (k : Nat) (cs : Array Value), off + k + ws.length ≤ cs.size →
    ((ws.zipIdx k).foldl (fun (cs : Array Value) (x : Value × Nat) => cs.setIfInBounds (off + x.2) x.1) cs).toList = cs.toList.take (off + k) ++ (ws ++ cs.toList.drop (off + k + ws.length))
  | [], k, cs, _ => by simp
  | a :: ws, k, cs, h => by
    simp only [List.zipIdx_cons, List.foldl_cons]
    rw [fold_set off ws (k + 1) _ (by simp at h ⊢; omega)]
    simp only [List.length_cons] at h ⊢
    have hk : off + k < cs.toList.length := by simp; omega
    simp only [Array.toList_setIfInBounds]
    apply List.ext_getElem?
    intro i
    simp only [List.getElem?_append, List.length_take, List.length_set, List.getElem?_take, List.getElem?_set, List.getElem?_drop, List.getElem?_cons, List.length_cons]
    have h1 : min (off + (k + 1)) cs.toList.length = off + k + 1 := by omega
    have h2 : min (off + k) cs.toList.length = off + k := by omega
    rw [h1, h2]
    rcases Nat.lt_trichotomy i (off + k) with h3 | h3 | h3
    · have : off + k ≠ i := by omega
      simp [h3, show i < off + k + 1 by omega, show i < off + (k + 1) by omega, this]
    · subst h3
      simp
      simp at hk
      omega
    · have e1 : ¬ i < off + k + 1 := by omega
      have e2 : ¬ i < off + k := by omega
      simp only [e1, e2, if_false]
      obtain ⟨j, rfl⟩ : ∃ j, i = off + k + 1 + j := ⟨i - (off + k + 1), by omega⟩
      have e3 : off + k + 1 + j - (off + k + 1) = j := by omega
      have e4 : off + k + 1 + j - (off + k) = j + 1 := by omega
      rw [e3, e4]
      have e5 : j + 1 < ws.length + 1 ↔ j < ws.length := by omega
      by_cases e6 : j < ws.length
      · simp [e6]
      · simp only [e6, e5, if_false]
        have e7 : off + (k + 1) + ws.length + (j - ws.length) = off + k + (ws.length + 1) + (j + 1 - (ws.length + 1)) := by omega
        simp [e7]
        intro h; omega

theorem setRange_one {l vs : List AV} (off : Nat) (h1 : ∀ v ∈ l, v.one = true) (h2 : ∀ v ∈ vs, v.one = true) : ∀ v ∈ setRange l off vs, v.one = true := by
  intro v hv
  unfold setRange at hv
  rw [app_eq, app_eq, takeN_eq, dropN_eq] at hv
  rcases List.mem_append.1 hv with h | h
  · exact h1 v (List.mem_of_mem_take h)
  · rcases List.mem_append.1 h with h | h
    · exact h2 v h
    · exact h1 v (List.mem_of_mem_drop h)

theorem fillParts_ok {place : Nat → Option (Nat × Nat)} : ∀ {ps : List (Nat × Nat)} {vs z l : List AV} {is : List Nat} {cvs : List Value} {cz : Array Value}, fillParts ps vs z = some l → is.map place = ps.map some →
    VRs φ vs cvs → VRs φ z cz.toList → (∀ v ∈ z, v.one = true) → ∃ cl : Array Value, Instr.fill place cz (is.zip cvs) = some cl ∧ VRs φ l cl.toList ∧ (∀ v ∈ l, v.one = true) ∧ l.length = z.length
  | [], vs, z, l, is, cvs, cz, h, hi, hv, hz, ho => by
    obtain rfl : is = [] := by simpa using hi
    cases vs with
    | cons a r => cases h
    | nil =>
      have h : some z = some l := h
      cases h
      exact ⟨cz, by simp [Instr.fill], hz, ho, rfl⟩
  | p :: ps, vs, z, l, is, cvs, cz, h, hi, hv, hz, ho => by
    cases vs with
    | nil => cases h
    | cons a r =>
      have h : bif' (Nat.ble 1 p.2) (bif' (Nat.beq (len a.cells) p.2) (bif' (Nat.ble (Nat.add p.1 p.2) (len z)) (fillParts ps r (setRange z p.1 a.cells)) none) none) none = some l := h
      cases is with
      | nil => cases hi
      | cons i is =>
        simp only [List.map_cons, List.cons.injEq] at hi
        obtain ⟨hp, hi⟩ := hi
        obtain ⟨c, cs, rfl, ha, hr⟩ := hv
        cases h1 : Nat.ble 1 p.2 with
        | false => rw [h1] at h; cases h
        | true =>
        rw [h1] at h
        cases h2 : Nat.beq (len a.cells) p.2 with
        | false => rw [h2] at h; cases h
        | true =>
        rw [h2] at h
        cases h3 : Nat.ble (Nat.add p.1 p.2) (len z) with
        | false => rw [h3] at h; cases h
        | true =>
        rw [h3] at h
        have h : fillParts ps r (setRange z p.1 a.cells) = some l := h
        have h1 := Nat.le_of_ble_eq_true h1
        have h2 := Nat.eq_of_beq_eq_true h2
        have h3 : p.1 + p.2 ≤ len z := Nat.le_of_ble_eq_true h3
        rw [len_eq] at h2 h3
        obtain ⟨hac, hao⟩ := ha.cells (.inl (by omega))
        have hsz : c.cells.size = p.2 := by have := hac.length; simp at this; omega
        have hzl := hz.length
        have hf := fold_set p.1 c.cells.toList 0 cz (by simp at hzl ⊢; omega)
        have hz' : VRs φ (setRange z p.1 a.cells) ((c.cells.zipIdx).foldl (fun (cs : Array Value) (x : Value × Nat) => cs.setIfInBounds (p.1 + x.2) x.1) cz).toList := by
          have := setRange_VRs hz hac p.1
          rw [← Array.foldl_toList, Array.toList_zipIdx, hf]
          simpa using this
        obtain ⟨cl, q1, q2, q3, q4⟩ := fillParts_ok h hi hr hz' (setRange_one _ ho hao)
        have hle : ¬ (p.1 + c.cells.size > cz.size) := by simp at hzl; omega
        refine ⟨cl, ?_, q2, q3, ?_⟩
        · simp only [List.zip_cons_cons, Instr.fill, hp]
          simp only [hsz, ne_eq, not_true_eq_false, decide_false, Bool.false_or, decide_eq_true_eq]
          rw [if_neg (by rw [← hsz]; exact hle)]
          exact q1
        · rw [q4]; unfold setRange; rw [app_eq, app_eq, takeN_eq, dropN_eq, len_eq]; simp; omega

theorem cParts_ok {pl : Nat → Option (Nat × Nat)} {l : List (Nat × Operand)} {ps : List (Nat × Nat)} {as : List AO} (h : cParts P pl l = some (ps, as)) :
    (l.map (·.1)).map pl = ps.map some ∧ cOs P (l.map (·.2)) = some as := by
  obtain ⟨qs, hq, h⟩ := Option.bind_eq_some_iff.1 h
  obtain ⟨bs, hb, h⟩ := Option.map_eq_some_iff.1 h
  cases h
  refine ⟨?_, hb⟩
  obtain ⟨h1, h2⟩ := mapM_some hq
  apply List.ext_getElem
  · simp [h1]
  · intro i hi hj
    simp at hi hj ⊢
    exact h2 i hi hj

theorem repl_VRs {z : List AV} {cz : List Value} (h : VRs φ z cz) : ∀ n, VRs φ (repl z n) (List.replicate n cz).flatten
  | 0 => rfl
  | n + 1 => by
    have : repl z (n + 1) = app z (repl z n) := rfl
    rw [this, app_eq, List.replicate_succ, List.flatten_cons]
    exact h.append (repl_VRs h n)
theorem repl_one {z : List AV} (h : ∀ v ∈ z, v.one = true) : ∀ n, ∀ v ∈ repl z n, v.one = true
  | 0, v, hv => by cases hv
  | n + 1, v, hv => by
    have : repl z (n + 1) = app z (repl z n) := rfl
    rw [this, app_eq] at hv
    rcases List.mem_append.1 hv with h1 | h1
    · exact h v h1
    · exact repl_one h n v h1
theorem repl_len (z : List AV) : ∀ n, (repl z n).length = n * z.length
  | 0 => by rw [Nat.zero_mul]; rfl
  | n + 1 => by
    have : repl z (n + 1) = app z (repl z n) := rfl
    rw [this, app_eq, List.length_append, repl_len z n, Nat.succ_mul]; omega
/-- the kit's way to write the zero cells n times -/
theorem zeros_eq (cz : Array Value) (n : Nat) : ((Array.range (n * cz.size)).map (cz[· % cz.size]!)).toList = (List.replicate n cz.toList).flatten := by
  induction n with
  | zero => simp
  | succ n ih =>
    rw [List.replicate_succ', List.flatten_append, ← ih]
    apply List.ext_getElem?
    intro i
    simp only [Array.toList_map, Array.toList_range, List.getElem?_map, List.getElem?_append, List.length_map, List.length_range, List.getElem?_range, List.flatten_cons, List.flatten_nil, List.append_nil]
    by_cases h1 : i < n * cz.size
    · have h2 : i < (n + 1) * cz.size := by rw [Nat.succ_mul]; omega
      simp [h1, h2]
    · rw [if_neg h1]
      by_cases h2 : i < (n + 1) * cz.size
      · have h2' := h2
        rw [Nat.succ_mul] at h2'
        have h3 : i - n * cz.size < cz.size := by omega
        have h4 : i % cz.size = i - n * cz.size := by
          have : i = (i - n * cz.size) + cz.size * n := by rw [Nat.mul_comm cz.size n]; omega
          rw [this, Nat.add_mul_mod_self_left, Nat.mod_eq_of_lt h3, ← this]
        have h5 : i < ((n + 1) * cz.size) := h2
        simp [h5, h4, h3]
      · have h2' := h2
        rw [Nat.succ_mul] at h2'
        have h3 : ¬ i - n * cz.size < cz.size := by omega
        simp [h2]
        omega

theorem zeroCellsT_info {t : TypeId} {z : List AV} (h : zeroCellsT P t = some z) (hz : z.length ≠ 0) : ∃ it zv, P.info? t = some it ∧ it.zero = some zv ∧ VRs φ z zv.cells.toList ∧ ∀ v ∈ z, v.one = true := by
  obtain ⟨a, ha, rfl⟩ := Option.map_eq_some_iff.1 h
  obtain ⟨zv, h1, h2⟩ := Option.bind_eq_some_iff.1 ha
  obtain ⟨it, h3, h4⟩ := Option.bind_eq_some_iff.1 h1
  obtain ⟨h5, h6⟩ := (ofValue_ok (φ := φ) h2).cells (.inl hz)
  exact ⟨it, zv, h3, h4, h5, h6⟩

theorem op_build {t : TypeId} {pl : Nat → Option (Nat × Nat)} (hpl : placesT P t = some pl) {zl : List AV} (hz : zeroCellsT P t = some zl) (hz0 : zl.length ≠ 0) {ps : List (Nat × Nat)} {kn : KN} {vs : List AV}
    {parts : Array (Nat × Value)} (hp : (parts.toList.map (·.1)).map pl = ps.map some)
    (hvs : VRs φ vs (parts.toList.map (·.2))) (e : opBuild zl ps vs g kn = true) :
    ValOK P φ w (kn g) (Instr.build t parts) := by
  obtain ⟨l, hl, e⟩ := opt_some e
  obtain ⟨it, zv, hi, h1, h2, h3⟩ := zeroCellsT_info (φ := φ) hz hz0
  obtain ⟨cl, q1, q2, q3, _⟩ := fillParts_ok hl hp hvs h2 h3
  rw [← zip_fst_snd] at q1
  refine ⟨.agg l, .agg cl, run_build w t parts cl ?_, ⟨cl.toList, by simp, q2, q3⟩, e⟩
  unfold placesT at hpl
  unfold Program.built
  split at hpl
  · rename_i fs ht
    obtain ⟨places, hpls, rfl⟩ := Option.map_eq_some_iff.1 hpl
    simp only [hi, ht, h1, hpls]
    simpa using q1
  · rename_i n el ht
    obtain ⟨m, hm, rfl⟩ := Option.map_eq_some_iff.1 hpl
    obtain ⟨ie, hie, rfl⟩ := Option.map_eq_some_iff.1 hm
    simp only [hi, ht, h1, hie]
    exact q1
  · cases hpl

theorem new_buildS {t el : TypeId} (ht : P.underlying t = some (.slice el)) {n : Nat} (hn : sizeT P el = some n) {z : List AV} (hz : zeroCellsT P el = some z) (hz0 : z.length ≠ 0) (hzn : n = z.length)
    {l : Nat} (hl0 : l * n ≤ 16777216) {ps : List (Nat × Nat)} {vs : List AV} {parts : Array (Nat × Value)} (hp : (parts.toList.map (·.1)).map (fun i => some (i * n, n)) = ps.map some)
    (hvs : VRs φ vs (parts.toList.map (·.2))) {p : AObj × (Pos → AV)} (e : newBuildS n l z ps vs = some p) :
    NewOK P φ w (Instr.buildSlice t l parts) p.1 p.2 := by
  obtain ⟨cs, hcs, e⟩ := opt_none_some e
  cases e
  obtain ⟨zv, h1, h2, h3⟩ := zeroCellsT_ok (φ := φ) hz hz0
  have hsz : zv.cells.size = n := by have := h2.length; simp at this; omega
  have hzs := zeros_eq zv.cells l
  obtain ⟨cl, q1, q2, q3, q4⟩ := fillParts_ok (cz := (Array.range (l * n)).map (zv.cells[· % zv.cells.size]!)) hcs hp hvs (by rw [← hsz, hzs]; exact repl_VRs h2 l) (repl_one h3 l)
  rw [← zip_fst_snd] at q1
  rw [repl_len] at q4
  have hcl : cs.length = l * n := by rw [q4, hzn]
  refine ⟨.cells (cl.toList ++ []).toArray el, ⟨w.heap.size, 0, 0, (cl.toList ++ []).length⟩, .slice (some ⟨w.heap.size, 0, none⟩) l l, ?_, rfl, fun b hb => ⟨?_, _, Emb.put_same _ _ _, rfl⟩⟩
  rotate_left
  · have := row_obj (P := P) (w := w) el (VRs.mono (Emb.put_le hb ⟨w.heap.size, 0, 0, (cl.toList ++ []).length⟩) q2) q3 [] false 0
    rw [hcl] at this; exact this
  have hle : ¬ (l * n > 2 ^ 24) := by omega
  simp only [Instr.buildSlice, Sem.run_bind, run_underlying ht, Result.andThen_ok, run_sizeOf' hn, if_neg hle]
  have hcle : (cl.toList ++ []).toArray = cl := by simp
  by_cases h0 : l * n = 0
  · have hr : Array.range 0 = #[] := rfl
    rw [h0, hr, Array.map_empty] at q1
    simp only [h0, if_true, Sem.run_bind, Sem.run_pure, Result.andThen_ok, hr, Array.map_empty, q1, newRow]
    rw [hcle]; rfl
  · simp only [h0, if_false, Sem.run_bind, Sem.run_pure, Result.andThen_ok, h1 w, q1, newRow]
    rw [hcle]; rfl

theorem op_buildS (h : HR P φ g w) {t el : TypeId} (ht : P.underlying t = some (.slice el)) {n : Nat} (hn : sizeT P el = some n) {z : List AV} (hz : zeroCellsT P el = some z) (hz0 : z.length ≠ 0) (hzn : n = z.length)
    {l : Nat} (hl0 : l * n ≤ 16777216) {ps : List (Nat × Nat)} {kn : KN} {vs : List AV} {parts : Array (Nat × Value)} (hp : (parts.toList.map (·.1)).map (fun i => some (i * n, n)) = ps.map some)
    (hvs : VRs φ vs (parts.toList.map (·.2))) (e : opBuildS n l z ps vs g kn = true) :
    OpOK P φ g w kn (do pure (.value (← Instr.buildSlice t l parts))) := by
  obtain ⟨p, h1, h2⟩ := opt_some e
  exact (new_buildS ht hn hz hz0 hzn hl0 hp hvs h1).op h h2

theorem wrap_small (n : Nat) (h : n < 2 ^ 63) : IntKind.i64.wrap (n : Int) = (n : Int) := by
  simp only [IntKind.wrap, IntKind.signed, IntKind.bits]
  simp
  omega

theorem op_mkSl (h : HR P φ g w) {t el : TypeId} (ht : P.underlying t = some (.slice el)) {n : Nat} (hn : sizeT P el = some n) {z : List AV} (hz : zeroCellsT P el = some z) (hz0 : z.length ≠ 0) (hzn : n = z.length)
    {it : TypeInfo} (hit : P.info? el = some it) (hb : it.bytes ≤ 1000000) {kn : KN} {vs : List AV} {cvs : List Value} (hvs : VRs φ vs cvs) (e : opMkSl n z vs g kn = true) :
    ∃ cl cc, cvs = [cl, cc] ∧ OpOK P φ g w kn (do pure (.value (← Instr.makeSlice t cl cc))) := by
  obtain ⟨a, b, rfl, e⟩ := a2_ok e
  obtain ⟨ca, cb, rfl, ha, hb'⟩ := hvs.two_inv
  obtain ⟨k, l, rfl, e⟩ := asNat_ok e
  obtain ⟨k', c, rfl, e⟩ := asNat_ok e
  obtain ⟨e1, e⟩ := bif_and e
  obtain ⟨e2, e⟩ := bif_and e
  have e1 := Nat.le_of_ble_eq_true e1
  have e2 := Nat.le_of_ble_eq_true e2
  obtain rfl : ca = .int k (l : Int) := ha
  obtain rfl : cb = .int k' (c : Int) := hb'
  refine ⟨_, _, rfl, ?_⟩
  obtain ⟨zv, h1, h2, h3⟩ := zeroCellsT_ok (φ := φ) hz hz0
  have hsz : zv.cells.size = n := by have := h2.length; simp at this; omega
  have hzs := zeros_eq zv.cells c
  have hcl : (repl z c).length = c * n := by rw [repl_len, hzn]
  have hs := new_row h el (repl_VRs h2 c) (repl_one h3 c) [] false 0 rfl
  rw [hcl, ← hzs] at hs
  refine OpOK.of_value (v' := .sl g.nx 0 l c) (cv := .slice (some ⟨w.heap.size, 0, none⟩) l c) ?_ hs ⟨_, Emb.put_same _ _ _, rfl⟩ e
  have hw1 := wrap_small l (by omega)
  have hw2 := wrap_small c (by omega)
  have hbc : it.bytes * c ≤ 1000000 * 100000 := Nat.mul_le_mul hb e2
  have hbig : ¬ ((it.bytes : Int) * (c : Int) > 2 ^ 48) := by
    have : ((it.bytes * c : Nat) : Int) ≤ ((1000000 * 100000 : Nat) : Int) := Int.ofNat_le.2 hbc
    rw [Int.natCast_mul] at this
    omega
  have hty : (typeInfo el).run P w = .ok it w := by simp [typeInfo, hit]
  have hcle : ∀ X : Array Value, (X.toList ++ []).toArray = X := by simp
  rw [hcle]
  have hcond : (decide ((c : Int) < 0) || decide ((it.bytes : Int) * (c : Int) > 2 ^ 48) || decide ((l : Int) < 0) || decide ((l : Int) > (c : Int))) = false := by
    have q1 : ¬ (c : Int) < 0 := by omega
    have q2 : ¬ (l : Int) < 0 := by omega
    have q3 : ¬ (l : Int) > (c : Int) := by omega
    rw [decide_eq_false q1, decide_eq_false hbig, decide_eq_false q2, decide_eq_false q3]; rfl
  have hai : ∀ (k : IntKind) (n : Int) (w : World), (Go.asInt (.int k n)).run P w = .ok n w := fun _ _ _ => rfl
  simp only [Instr.makeSlice, Sem.run_bind, run_underlying ht, Result.andThen_ok, hai, hty, hw1, hw2, hcond, Bool.false_eq_true, if_false, run_askRoom, run_sizeOf' hn, Int.toNat_natCast]
  by_cases h0 : c * n = 0
  · have hr : Array.range 0 = #[] := rfl
    simp only [h0, if_true, Sem.run_bind, Sem.run_pure, Result.andThen_ok, hr, Array.map_empty, newRow, hsz]
    rfl
  · simp only [h0, if_false, Sem.run_bind, Sem.run_pure, Result.andThen_ok, h1 w, newRow, hsz]
    rfl
end
end Go.Lv

namespace Go.Lv
open Go
section
variable {P : Program} {φ : Emb} {g : G} {w w' : World}

theorem lenOfA_ok {v : AV} {c : Value} {n : Nat} (h : lenOfA v = some n) (hv : VR φ v c) : (Builtin.lenOf c).run P w = .ok n w := by
  cases v <;> first | (cases h; done) | skip
  · obtain ⟨s, rfl, hs⟩ := hv
    rename_i l
    have h : some (len l) = some n := h
    cases h
    have : s.size = len l := by rw [len_eq, ← hs]; simp
    simp [Builtin.lenOf, this]
  · obtain ⟨L, _, rfl⟩ := hv; cases h; simp [Builtin.lenOf]
  · obtain ⟨L, _, _, _, a, rfl, _⟩ := hv; cases h; simp [Builtin.lenOf]
  · obtain rfl : c = .slice none 0 0 := hv; cases h; simp [Builtin.lenOf]

/-- the cells of what is appended or copied -/
theorem cellsOfA_ok (h : HR P φ g w) {size n m : Nat} {x : AV} {c : Value} {k : List AV → Bool} (hn : lenOfA x = some m) (hnm : n ≤ m) (hx : VR φ x c) (e : cellsOfA size n x g.hp k = true) :
    ∃ l cvs, k l = true ∧ (n = 0 → l = []) ∧ (∀ v ∈ l, v.one = true) ∧ VRs φ l cvs ∧ ∀ w1 : World, w1.heap = w.heap → (Builtin.firstCells size n c).run P w1 = .ok cvs.toArray w1 := by
  have go : ∀ {b : Pos} {off l cap : Nat} {a : Addr} {L : Loc}, φ b = some L → (n ≠ 0 → a = L.addr off) → c = .slice (some a) l cap → bif' (Nat.beq n 0) (k []) (readRow g.hp b off (Nat.mul n size) k) = true →
      ∃ l cvs, k l = true ∧ (n = 0 → l = []) ∧ (∀ v ∈ l, v.one = true) ∧ VRs φ l cvs ∧ ∀ w1 : World, w1.heap = w.heap → (Builtin.firstCells size n c).run P w1 = .ok cvs.toArray w1 := by
    intro b off l cap a L hL ha hc e
    rcases bif_cases e with ⟨e1, e2⟩ | ⟨e1, e2⟩
    · obtain rfl := Nat.eq_of_beq_eq_true e1
      refine ⟨[], [], e2, fun _ => rfl, by simp, rfl, fun w1 _ => ?_⟩
      rw [hc]; simp [Builtin.firstCells, loadCells]; rfl
    · have hn0 : n ≠ 0 := fun h => by subst h; cases e1
      obtain ⟨l', cvs, h1, h2, h3, h4, h5, h6⟩ := readRow_ok h hL e2
      refine ⟨l', cvs, h1, fun h0 => absurd h0 hn0, h3, h4, fun w1 hw1 => ?_⟩
      rw [hc, ha hn0]
      simp only [Builtin.firstCells]
      exact loadCells_run h5 (fun j hj => by rw [← h6 j hj]; exact cell_of_heap (by rw [hw1]))
  cases x <;> first | (cases e; done) | skip
  · obtain ⟨t, rfl, ht⟩ := hx
    refine ⟨_, _, e, fun h0 => by rw [h0, takeN_eq]; rfl, by intro v hv; obtain ⟨_, _, rfl⟩ := List.mem_map.1 hv; rfl, nums_VRs _, fun w1 _ => ?_⟩
    simp only [Builtin.firstCells, Sem.run_pure]
    congr 1
    apply Array.toList_inj.1
    rw [takeN_eq, ← ht]
    simp [List.map_take]
    rfl
  · obtain ⟨L, hL, rfl⟩ := hx
    exact go hL (fun _ => rfl) rfl e
  · obtain ⟨L, hL, h1, h2, a, rfl, ha⟩ := hx
    cases hn
    exact go hL (fun h0 => ha (by omega)) rfl e
  · obtain rfl : c = .slice none 0 0 := hx
    exact ⟨[], [], e, fun _ => rfl, by simp, rfl, fun _ _ => by simp [Builtin.firstCells]⟩
end
end Go.Lv

namespace Go.Lv
open Go
theorem PT.set_set {α : Type} (p : Pos) : ∀ (t : PT α) (x y : Option α), (t.set p x).set p y = t.set p y := by
  induction p with
  | one => intro t x y; simp only [PT.set_one, PT.left_node, PT.right_node]
  | o p ih => intro t x y; simp only [PT.set_o, PT.left_node, PT.right_node, PT.val_node, ih]
  | i p ih => intro t x y; simp only [PT.set_i, PT.left_node, PT.right_node, PT.val_node, ih]
section
variable {P : Program} {φ : Emb} {g : G} {w w' : World}

/-- a row goes over to a new name, from 'off' on -/
theorem HR.rename (h : HR P φ g w) {b : Pos} {gr : Bool} {m : Nat} {c : PT AV} {L : Loc} (hb : g.hp.get b = some (.row false gr m c)) (hL : φ b = some L) {off : Nat} (hoff : off ≤ L.cc) {n : Nat} {c' : PT AV} {cap : Nat}
    (hn : n ≤ L.cc - off) (hrow : RowR (φ.put g.nx ⟨L.blk, L.base + off, cap, L.cc - off⟩) w ⟨L.blk, L.base + off, cap, L.cc - off⟩ n c') :
    Step P φ g w (φ.put g.nx ⟨L.blk, L.base + off, cap, L.cc - off⟩) (growRow g b n c') w := by
  have hbn : b.n < g.nx.n := h.lt hL
  have hbnx : b ≠ g.nx := fun e => by rw [e] at hbn; omega
  generalize hL' : (⟨L.blk, L.base + off, cap, L.cc - off⟩ : Loc) = L' at *
  have hblk : L'.blk = L.blk := by rw [← hL']
  have hext : ∀ x, x.n < g.nx.n → (φ.put g.nx L') x = φ x := fun x hx => Emb.put_ne φ L' (by omega)
  have hle : Le φ (φ.put g.nx L') := fun x M e => by rw [hext x (h.lt e)]; exact e
  have hget : ∀ x o, (growRow g b n c').hp.get x = some o → (x = g.nx ∧ o = .row false true n c') ∨ (x ≠ g.nx ∧ x ≠ b ∧ g.hp.get x = some o) := by
    intro x o hx
    have hx : ((g.hp.set b none).set g.nx (some (.row false true n c'))).get x = some o := hx
    by_cases e : g.nx = x
    · subst e; rw [PT.get_set] at hx; exact .inl ⟨rfl, (Option.some.inj hx).symm⟩
    · rw [PT.get_set_ne e] at hx
      by_cases e' : b = x
      · subst e'; rw [PT.get_set] at hx; cases hx
      · rw [PT.get_set_ne e'] at hx; exact .inr ⟨fun q => e q.symm, fun q => e' q.symm, hx⟩
  have hne : ∀ {x : Pos}, x ≠ g.nx → x.n ≠ g.nx.n := fun hx e => hx (Pos.n_inj e)
  have hin : ∀ {x M}, x ≠ g.nx → (φ.put g.nx L') x = some M → φ x = some M := fun hx e => by rw [Emb.put_ne φ L' (hne hx)] at e; exact e
  have hobj := h.obj b _ L hb hL
  have hsub : ∀ {M : Loc}, L.sep M → L'.sep M := by
    intro M hM
    rw [← hL']
    rcases hM with q | q | q
    · exact .inl q
    · exact .inr (.inl (by show L.base + off + (L.cc - off) ≤ M.base; omega))
    · exact .inr (.inr (by show M.base + M.cc ≤ L.base + off; omega))
  have hsym : ∀ {M N : Loc}, M.sep N → N.sep M := by
    intro M N hM
    rcases hM with q | q | q
    · exact .inl (fun e => q e.symm)
    · exact .inr (.inr q)
    · exact .inr (.inl q)
  refine ⟨⟨?_, ?_, ?_⟩, hext, ?_, Nat.le_refl _, fun B hB _ => rfl, ?_, ?_, rfl, rfl, rfl⟩
  · intro x hx
    show x.n < g.nx.succ.n
    rw [Pos.n_succ]
    by_cases e : x = g.nx
    · rw [e]; omega
    · have : φ x ≠ none := by rw [Emb.put_ne φ L' (hne e)] at hx; exact hx
      have := h.fresh x this; omega
  · intro x o M hx hM
    rcases hget x o hx with ⟨rfl, rfl⟩ | ⟨hxn, hxb, hx'⟩
    · rw [Emb.put_same] at hM; cases hM
      refine ⟨by rw [hblk]; exact hobj.1, by rw [← hL']; exact hn, hrow, fun _ i hi => ?_⟩
      have := hobj.2.2.2 rfl (off + i) (by rw [← hL'] at hi; have hi : i < L.cc - off := hi; omega)
      have ha : L'.addr i = L.addr (off + i) := by rw [← hL']; unfold Loc.addr; simp [Nat.add_assoc]
      rw [ha]; exact this
    · exact (h.obj x o M hx' (hin hxn hM)).of_heap hle (Nat.le_refl _) rfl
  · intro x y o₁ o₂ M M' hxy hx hy hM hM' hwr
    rcases hget x o₁ hx with ⟨rfl, rfl⟩ | ⟨hxn, hxb, hx'⟩
    · rcases hget y o₂ hy with ⟨rfl, _⟩ | ⟨hyn, hyb, hy'⟩
      · exact absurd rfl hxy
      · rw [Emb.put_same] at hM; cases hM
        exact hsub (h.sep b y _ o₂ L M' (Ne.symm hyb) hb hy' hL (hin hyn hM') rfl)
    · rcases hget y o₂ hy with ⟨rfl, rfl⟩ | ⟨hyn, hyb, hy'⟩
      · rw [Emb.put_same] at hM'; cases hM'
        exact hsym (hsub (hsym (h.sep x b o₁ _ M L hxb hx' hb (hin hxn hM) hL hwr)))
      · exact h.sep x y o₁ o₂ M M' hxy hx' hy' (hin hxn hM) (hin hyn hM') hwr
  · show g.nx.n ≤ g.nx.succ.n; rw [Pos.n_succ]; omega
  · intro x o M hx hM hwr hlt
    rcases hget x o hx with ⟨rfl, rfl⟩ | ⟨hxn, hxb, hx'⟩
    · rw [Emb.put_same] at hM; cases hM
      exact ⟨b, _, L, hb, hL, rfl, hblk.symm⟩
    · exact ⟨x, o, M, hx', hin hxn hM, hwr, rfl⟩
  · intro x hx hx0
    have e1 : g.nx ≠ x := fun e => by rw [e] at hx; omega
    have e2 : b ≠ x := fun e => by rw [← e, hL] at hx0; cases hx0
    show ((g.hp.set b none).set g.nx _).get x = _
    rw [PT.get_set_ne e1, PT.get_set_ne e2]

/-! ### append -/
section
variable {st xt el : TypeId} {d : TypeDesc} {it : TypeInfo} {ts : Array TypeId}
theorem growBy_le (need : Nat) (hn : need ≤ 100000) : ∀ r c, c ≤ need → Builtin.growBy need r c ≤ 200000 := by
  intro r
  induction r with
  | zero => intro c h; simp only [Builtin.growBy]; omega
  | succ r ih =>
    intro c h
    unfold Builtin.growBy
    split
    · omega
    · by_cases h2 : c + (c + 768) / 4 ≤ need
      · exact ih _ h2
      · cases r with
        | zero => simp only [Builtin.growBy]; omega
        | succ r => unfold Builtin.growBy; rw [if_pos (by omega)]; omega
theorem nextcap_le {need old : Nat} (hn : need ≤ 100000) (ho : old < need) : Builtin.nextslicecap need old ≤ 200000 := by
  unfold Builtin.nextslicecap
  split
  · omega
  · split
    · omega
    · exact growBy_le need hn 4 old (by omega)

theorem run_append_in (h0 : ts[0]? = some st) (h1 : ts[1]? = some xt) (hs : P.underlying st = some (.slice el)) (hx : P.underlying xt = some d) (hd : ∀ k, d ≠ .int k) (hi : P.info? el = some it) {base : Option Addr} {l cap n : Nat} {x : Value} {new : Array Value} {ty : TypeId}
    (hn : (Builtin.lenOf x).run P w = .ok n w) (hfit : l + n ≤ cap) (hnew : (Builtin.firstCells it.size n x).run P w = .ok new w)
    (hst : match base with | some a => (storeCells (a.add (l * it.size)) new.toList).run P w = .ok () w' | none => w' = w) :
    (Builtin.append_ ts ty #[.slice base l cap, x]).run P w = .ok (.slice base (l + n) cap) w' := by
  have hm : (sizeOf el).run P w = .ok it.size w := by simp [sizeOf, typeInfo, hi]
  have hz : (match d with | .int _ => true | _ => false) = false := by cases d <;> first | rfl | exact absurd rfl (hd _)
  cases base with
  | none =>
    obtain rfl : w' = w := hst
    simp [Builtin.append_, h0, h1, run_underlying hs, run_underlying hx, hm, hz, hn, hfit, hnew]
  | some a =>
    have hst : (storeCells (a.add (l * it.size)) new.toList).run P w = .ok () w' := hst
    simp [Builtin.append_, h0, h1, run_underlying hs, run_underlying hx, hm, hz, hn, hfit, hnew, hst]

theorem run_append_grow (h0 : ts[0]? = some st) (h1 : ts[1]? = some xt) (hs : P.underlying st = some (.slice el)) (hx : P.underlying xt = some d) (hd : ∀ k, d ≠ .int k) (hi : P.info? el = some it) (hb : it.bytes ≤ 1000000) {base : Option Addr} {l cap n : Nat} {x : Value} {old new : Array Value} {zv : Value} {ty : TypeId}
    (hz : ∀ w, (zeroValue el).run P w = .ok zv w)
    (hn : (Builtin.lenOf x).run P w = .ok n w) (hfit : ¬ l + n ≤ cap) (hsm : l + n ≤ 100000) (hold : (Builtin.firstCells it.size l (.slice base l cap)).run P w.drew = .ok old w.drew) (hnew : (Builtin.firstCells it.size n x).run P w.drew = .ok new w.drew) :
    ∃ ncap, l + n ≤ ncap ∧ (Builtin.append_ ts ty #[.slice base l cap, x]).run P w =
      .ok (.slice (some ⟨w.heap.size, 0, none⟩) (l + n) ncap) { w.drew with heap := w.heap.push (.cells (old ++ new ++ Builtin.zeroCells zv.cells (ncap - (l + n))) el) } := by
  have hm : (sizeOf el).run P w = .ok it.size w := by simp [sizeOf, typeInfo, hi]
  have hmz : (match d with | .int _ => true | _ => false) = false := by cases d <;> first | rfl | exact absurd rfl (hd _)
  have h63' : ¬ (9223372036854775807 < ((l : Int) + (n : Int))) := by omega
  have hnc : Builtin.nextslicecap (l + n) cap ≤ 200000 := nextcap_le hsm (by omega)
  have h48' : ¬ (281474976710656 < Builtin.nextslicecap (l + n) cap * it.bytes) := by
    have := Nat.mul_le_mul hnc hb
    omega
  have hty : ∀ w, (typeInfo el).run P w = .ok it w := fun w => by simp [typeInfo, hi]
  refine ⟨grownCap w (l + n) cap el, Nat.le_add_right _ _, ?_⟩
  simp [Builtin.append_, h0, h1, run_underlying hs, run_underlying hx, hm, hmz, hn, hfit, hnew, hold, hz, hty, h63', h48', Question.forced, newRow, grownCap]
  rfl
end
end
end Go.Lv

namespace Go.Lv
open Go
section
variable {P : Program} {φ : Emb} {g : G} {w w' : World}

/-- an object is forgotten -/
theorem HR.forget (h : HR P φ g w) {b : Pos} {L : Loc} (hL : φ b = some L) : Step P φ g w φ ⟨g.hp.set b none, g.nx⟩ w := by
  have hget : ∀ x o, (g.hp.set b none).get x = some o → x ≠ b ∧ g.hp.get x = some o := by
    intro x o hx
    by_cases e : b = x
    · subst e; rw [PT.get_set] at hx; cases hx
    · rw [PT.get_set_ne e] at hx; exact ⟨fun q => e q.symm, hx⟩
  refine ⟨⟨h.fresh, fun x o M hx hM => h.obj x o M (hget x o hx).2 hM, fun x y o o' M M' hxy hx hy hM hM' hw => h.sep x y o o' M M' hxy (hget x o hx).2 (hget y o' hy).2 hM hM' hw⟩, fun _ _ => rfl, Nat.le_refl _, Nat.le_refl _, fun _ _ _ => rfl, ?_, ?_, rfl, rfl, rfl⟩
  · intro x o M hx hM hw _
    exact ⟨x, o, M, (hget x o hx).2, hM, hw, rfl⟩
  · intro x _ hn
    exact PT.get_set_ne (fun e => by rw [← e, hL] at hn; cases hn) _ _

theorem zipSet_append : ∀ (a b : List AV) (c : PT AV) (i : Nat), zipSet (a ++ b) c i = zipSet b (zipSet a c i) (i + a.length)
  | [], b, c, i => rfl
  | x :: a, b, c, i => by
    show zipSet (a ++ b) (c.setAt i x) (i + 1) = zipSet b (zipSet a (c.setAt i x) (i + 1)) (i + (a.length + 1))
    rw [zipSet_append a b, show i + 1 + a.length = i + (a.length + 1) by omega]

section
variable {st xt el : TypeId} {d : TypeDesc} {it : TypeInfo} {ts : Array TypeId}
/-- what append gives goes to a new block -/
theorem append_new (h : HR P φ g w) (h0 : ts[0]? = some st) (h1 : ts[1]? = some xt) (hs : P.underlying st = some (.slice el)) (hx : P.underlying xt = some d) (hd : ∀ k, d ≠ .int k) (hi : P.info? el = some it) (hb : it.bytes ≤ 1000000)
    {z : List AV} (hz : zeroCellsT P el = some z) (hz0 : z.length ≠ 0) (hzn : it.size = z.length) {base : Option Addr} {l cap n : Nat} {x : Value} {old xs : List AV} {cold cxs : List Value} {ty : TypeId}
    (ho : VRs φ old cold) (hxs : VRs φ xs cxs) (ho1 : ∀ v ∈ old, v.one = true) (hx1 : ∀ v ∈ xs, v.one = true) (hlen : old.length + xs.length = (l + n) * it.size)
    (hn : (Builtin.lenOf x).run P w = .ok n w) (hfit : ¬ l + n ≤ cap) (hsm : l + n ≤ 100000) (hold : (Builtin.firstCells it.size l (.slice base l cap)).run P w.drew = .ok cold.toArray w.drew)
    (hnew : (Builtin.firstCells it.size n x).run P w.drew = .ok cxs.toArray w.drew) :
    ∃ (φ' : Emb) (w' : World) (cv : Value), (Builtin.append_ ts ty #[.slice base l cap, x]).run P w = .ok cv w' ∧
      Step P φ g w φ' (g.new (.row false true (len old + len xs) (zipSet xs (ofCells old) (len old)))) w' ∧ VR φ' (.gsl g.nx 0 (l + n) 0 it.size) cv := by
  obtain ⟨zv, k1, k2, k3⟩ := zeroCellsT_ok (φ := φ) hz hz0
  have hsz : zv.cells.size = it.size := by have := k2.length; simp at this; omega
  obtain ⟨ncap, hcap, hrun⟩ := run_append_grow (ty := ty) h0 h1 hs hx hd hi hb k1 hn hfit hsm hold hnew
  let rest := (Builtin.zeroCells zv.cells (ncap - (l + n))).toList
  have hrest : rest.length = (ncap - (l + n)) * it.size := by simp [rest, size_zeroCells, hsz]
  have hcl := ho.length
  have hxl := hxs.length
  have hstep := new_row' h (w' := { w.drew with heap := w.heap.push (.cells (cold.toArray ++ cxs.toArray ++ Builtin.zeroCells zv.cells (ncap - (l + n))) el) }) el (ho.append hxs)
    (by intro v hv; rcases List.mem_append.1 hv with q | q; exact ho1 v q; exact hx1 v q) rest true ncap rfl (fr := (0, 0)) (fun i _ => by simp) rfl rfl rfl (by
      have hcat : cold.toArray ++ cxs.toArray ++ Builtin.zeroCells zv.cells (ncap - (l + n)) = (cold ++ cxs ++ rest).toArray := by apply Array.toList_inj.1; simp [rest]
      show w.heap.push (.cells (cold.toArray ++ cxs.toArray ++ Builtin.zeroCells zv.cells (ncap - (l + n))) el) = _
      rw [hcat])
  have hc : ofCells (old ++ xs) = zipSet xs (ofCells old) (len old) := by unfold ofCells; rw [zipSet_append, len_eq, Nat.zero_add]
  rw [hc, show (old ++ xs).length = old.length + xs.length from List.length_append] at hstep
  rw [len_eq xs, show len old + xs.length = old.length + xs.length by rw [len_eq]]
  refine ⟨_, _, _, hrun, hstep, ⟨w.heap.size, 0, ncap, (cold ++ cxs ++ rest).length⟩, Emb.put_same _ _ _, ?_, ?_, ⟨w.heap.size, 0, none⟩, rfl, fun _ => rfl⟩
  · show 0 + (l + n) ≤ ncap; omega
  · show 0 + (ncap - 0) * it.size = (cold ++ cxs ++ rest).length
    rw [List.length_append, List.length_append, hrest, hcl, hxl, hlen, ← Nat.add_mul]
    simp
    congr 1
    omega

theorem op_append (h : HR P φ g w) (h0 : ts[0]? = some st) (h1 : ts[1]? = some xt) (hs : P.underlying st = some (.slice el)) (hx : P.underlying xt = some d) (hd : ∀ k, d ≠ .int k) (hi : P.info? el = some it) (hb : it.bytes ≤ 1000000)
    {z : List AV} (hz : zeroCellsT P el = some z) (hz0 : z.length ≠ 0) (hzn : it.size = z.length) {ty : TypeId} {kn : KN} {vs : List AV} {cvs : List Value} (hvs : VRs φ vs cvs) (e : opAppend it.size vs g kn = true) :
    ∃ cx cy, cvs = [cx, cy] ∧ OpOK P φ g w kn (do pure (.value (← Builtin.append_ ts ty #[cx, cy]))) := by
  obtain ⟨x, y, rfl, e⟩ := a2_ok e
  obtain ⟨cx, cy, rfl, hx', hy⟩ := hvs.two_inv
  refine ⟨cx, cy, rfl, ?_⟩
  obtain ⟨n, hn, e⟩ := opt_some e
  obtain ⟨xs, cxs, e, hxn, hx1, hxs, hnews⟩ := cellsOfA_ok h hn (Nat.le_refl n) hy e
  have hln := lenOfA_ok (P := P) (w := w) hn hy
  have hnew := hnews w rfl
  have hnewd := hnews w.drew rfl
  obtain ⟨l, hl, e⟩ := opt_some e
  have hsz0 : 0 < it.size := by omega
  rcases bif_cases e with ⟨e1, e2⟩ | ⟨e1, e2⟩
  · -- nothing is appended
    obtain rfl := Nat.eq_of_beq_eq_true e1
    obtain ⟨e3, e4⟩ := bif_and e2
    obtain rfl := hxn rfl
    obtain rfl : cxs = [] := hxs
    have go : ∀ {base : Option Addr} {l cap : Nat}, cx = .slice base l cap → l ≤ cap → OpOK P φ g w kn (do pure (.value (← Builtin.append_ ts ty #[cx, cy]))) := by
      intro base l cap hc hlc
      rw [hc]
      rw [hc] at hx'
      refine OpOK.of_value (w' := w) (run_append_in (w' := w) h0 h1 hs hx hd hi hln (by omega) hnew ?_) (Step.refl h) hx' e4
      cases base with
      | none => rfl
      | some a => rfl
    cases x <;> first | (cases hl; done) | skip
    · obtain ⟨L, hL, rfl⟩ := hx'
      exact go rfl (Nat.le_of_ble_eq_true e3)
    · obtain ⟨L, hL, q1, q2, a, rfl, q3⟩ := hx'
      exact go rfl (by omega)
    · obtain rfl : cx = .slice none 0 0 := hx'
      exact go rfl (Nat.le_refl _)
  · obtain ⟨e3, e4⟩ := bif_and e2
    have hn0 : n ≠ 0 := fun q => by subst q; cases e1
    have hsm : l + n ≤ 100000 := Nat.le_of_ble_eq_true e3
    have hdr : ∀ {base : Option Addr} {cap : Nat} {old : List AV} {cold : List Value}, cx = .slice base l cap → VRs φ old cold → (∀ v ∈ old, v.one = true) → ¬ l + n ≤ cap →
        (Builtin.firstCells it.size l (.slice base l cap)).run P w.drew = .ok cold.toArray w.drew → ∀ {g1 : G}, Step P φ g w φ g1 w → g1.nx = g.nx →
        bif' (Nat.beq (Nat.add (len old) (len xs)) (Nat.mul (Nat.add l n) it.size)) (kn (g1.new (.row false true (Nat.add (len old) (len xs)) (zipSet xs (ofCells old) (len old)))) (.gsl g.nx 0 (Nat.add l n) 0 it.size)) false = true →
        OpOK P φ g w kn (do pure (.value (← Builtin.append_ ts ty #[cx, cy]))) := by
      intro base cap old cold hc ho ho1 hfit hold g1 hg1 hnx e
      obtain ⟨e5, e6⟩ := bif_and e
      have e5 : len old + len xs = (l + n) * it.size := Nat.eq_of_beq_eq_true e5
      rw [len_eq, len_eq] at e5
      obtain ⟨φ', w', cv, q1, q2, q3⟩ := append_new (ty := ty) hg1.hr h0 h1 hs hx hd hi hb hz hz0 hzn ho hxs ho1 hx1 e5 hln hfit hsm hold hnewd
      rw [hnx] at q3
      rw [hc]
      exact OpOK.of_value q1 (hg1.trans q2) q3 e6
    cases x with
    | sl b off l0 cap =>
      obtain rfl : l0 = l := Option.some.inj hl
      obtain ⟨L, hL, rfl⟩ := hx'
      have e4 : appendSl it.size n xs g kn b off l0 cap = true := e4
      rcases bif_cases e4 with ⟨e5, e6⟩ | ⟨e5, e6⟩
      · have e5 : l0 + n ≤ cap := Nat.le_of_ble_eq_true e5
        obtain ⟨g', w', q1, q2, q3⟩ := writeRow_ok h hL hxs hx1 e6
        refine OpOK.of_value (v' := .sl b off (l0 + n) cap) (run_append_in h0 h1 hs hx hd hi hln e5 hnew (by show (storeCells ((L.addr off).add (l0 * it.size)) cxs).run P w = _; rw [addr_add]; exact q2)) q3 ⟨L, hL, rfl⟩ q1
      · have e5 : ¬ l0 + n ≤ cap := fun q => by have := Nat.ble_eq_true_of_le q; rw [show (l0 + n).ble cap = false from e5] at this; cases this
        obtain ⟨old, cold, q1, q2, q3, q4, q5, q6⟩ := readRow_ok h hL e6
        refine hdr rfl q4 q3 e5 ?_ (Step.refl h) rfl q1
        simp only [Builtin.firstCells]
        exact loadCells_run q5 (fun j hj => by rw [← q6 j hj]; rfl)
    | gsl b off l0 d0 es =>
      obtain rfl : l0 = l := Option.some.inj hl
      obtain ⟨L, hL, c1, c2, a, rfl, ha⟩ := hx'
      have e4 : appendGsl it.size n xs g kn b off l0 d0 es = true := e4
      obtain ⟨e5, e6⟩ := bif_and e4
      obtain rfl := Nat.eq_of_beq_eq_true e5
      obtain ⟨o, hob, e7⟩ := opt_some e6
      obtain ⟨ro, gr, m, c, rfl, e8⟩ := isRow_some e7
      cases ro with
      | true => cases e8
      | false =>
      have e8 : bif' (Nat.ble (Nat.add off (Nat.mul (Nat.add l0 n) it.size)) m) (writeRow g b (Nat.add off (Nat.mul l0 it.size)) xs fun g => kn g (.gsl b off (Nat.add l0 n) d0 it.size))
        (bif' gr (bif' (Nat.beq (Nat.add off (Nat.mul l0 it.size)) m) (opt (getN (Nat.mul l0 it.size) c off) false fun old =>
          bif' (Nat.beq (Nat.add (len old) (len xs)) (Nat.mul (Nat.add l0 n) it.size))
            (kn (growRow g b (Nat.add (len old) (len xs)) (zipSet xs (ofCells old) (len old))) (.gsl g.nx 0 (Nat.add l0 n) 0 it.size)) false) false) false) = true := e8
      have hobj := h.obj b _ L hob hL
      rcases bif_cases e8 with ⟨e9, e10⟩ | ⟨e9, e10⟩
      · have e9 : off + (l0 + n) * it.size ≤ m := Nat.le_of_ble_eq_true e9
        have hmc : m ≤ L.cc := hobj.2.1
        have hfit : l0 + n ≤ L.cap - d0 := by
          have : (l0 + n) * it.size ≤ (L.cap - d0) * it.size := by omega
          exact Nat.le_of_mul_le_mul_right this hsz0
        obtain ⟨g', w', q1, q2, q3⟩ := writeRow_ok h hL hxs hx1 e10
        obtain rfl := ha (by omega)
        refine OpOK.of_value (v' := .gsl b off (l0 + n) d0 it.size) (run_append_in h0 h1 hs hx hd hi hln hfit hnew (by show (storeCells ((L.addr off).add (l0 * it.size)) cxs).run P w = _; rw [addr_add]; exact q2)) q3 ⟨L, hL, by omega, c2, _, rfl, fun _ => rfl⟩ q1
      · obtain ⟨e11, e12⟩ := bif_and e10
        obtain ⟨e13, e14⟩ := bif_and e12
        have e13 : off + l0 * it.size = m := Nat.eq_of_beq_eq_true e13
        obtain ⟨old, hold, e15⟩ := opt_some e14
        obtain ⟨q1, q2, cold, q3, q4, q5⟩ := getN_row hobj.2.2.1 hold
        by_cases hfit : l0 + n ≤ L.cap - d0
        · obtain rfl := ha (by omega)
          obtain ⟨e16, e17⟩ := bif_and e15
          have e16 : len old + len xs = (l0 + n) * it.size := Nat.eq_of_beq_eq_true e16
          rw [len_eq, len_eq] at e16
          have q1 : old.length = l0 * it.size := q1
          have hcx := hxs.length
          have hroom : off + (l0 + n) * it.size ≤ L.cc := by
            have : (l0 + n) * it.size ≤ (L.cap - d0) * it.size := Nat.mul_le_mul_right _ hfit
            omega
          have hm : m ≤ off + (l0 + n) * it.size := by rw [Nat.add_mul]; omega
          obtain ⟨w', r1, r2⟩ := store_row (gr' := true) h hob hL (off := m) hxs hx1 hm hroom (by omega)
          obtain ⟨w'', r3, r4⟩ := storeCells_run (P := P) L.blk (L.base + m) cxs w (L.base + m) 0 (hxs.isOne hx1) (fun j hj => by
            have := hobj.2.2.2 rfl (m + j) (by omega)
            unfold Loc.addr at this
            rw [show L.base + m + (0 + j) = L.base + (m + j) by omega]; exact this) (by omega)
          have hww : w'' = w' := by
            have r3 : (storeCells (L.addr m) cxs).run P w = .ok () w'' := r3
            rw [r1] at r3; cases r3; rfl
          subst hww
          have hle : Le φ (φ.put (g.upd b (.row false true (off + (l0 + n) * it.size) (zipSet xs c m))).nx ⟨L.blk, L.base + off, L.cap - d0, L.cc - off⟩) := fun x M ex => by
            rw [Emb.put_ne]; exact ex
            have := h.lt ex; show x.n ≠ g.nx.n; omega
          have hren := HR.rename r2.hr (b := b) (gr := true) (m := off + (l0 + n) * it.size) (c := zipSet xs c m) (L := L) (by show (g.hp.set b _).get b = _; rw [PT.get_set]) hL (off := off) (by omega) (n := old.length + xs.length)
            (c' := zipSet xs (ofCells old) (len old)) (cap := L.cap - d0) (by omega) (by
              have hcold : ∀ j, j < cold.length → w''.cell? ((⟨L.blk, L.base + off, L.cap - d0, L.cc - off⟩ : Loc).addr j) = cold[j]? := by
                intro j hj
                have hq := q5 j (by omega)
                rw [← hq]
                have := r4.miss (L.base + off + j) (by omega)
                unfold Loc.addr
                rw [show L.base + (off + j) = L.base + off + j by omega]
                exact this
              have hofc := ofCells_row (φ := φ.put (g.upd b (.row false true (off + (l0 + n) * it.size) (zipSet xs c m))).nx ⟨L.blk, L.base + off, L.cap - d0, L.cc - off⟩) (VRs.mono hle q3) q2 hcold
              refine zipSet_row xs cxs (ofCells old) (len old) (VRs.mono hle hxs) hx1 (by rw [len_eq]; omega) (fun j hj => ?_) (fun i v hv _ => ?_)
              · have := r4.hit j hj
                unfold Loc.addr
                rw [len_eq, q1, show L.base + off + (l0 * it.size + j) = L.base + m + j by omega]
                exact this
              · obtain ⟨t1, t2, t3⟩ := hofc i v hv
                exact ⟨by omega, t2, t3⟩)
          have hg : growRow (g.upd b (.row false true (off + (l0 + n) * it.size) (zipSet xs c m))) b (old.length + xs.length) (zipSet xs (ofCells old) (len old)) = growRow g b (old.length + xs.length) (zipSet xs (ofCells old) (len old)) := by
            unfold growRow G.upd; rw [PT.set_set]
          rw [hg] at hren
          rw [show Nat.add (len old) (len xs) = old.length + xs.length by rw [len_eq, len_eq]; rfl] at e17
          refine OpOK.of_value (v' := .gsl g.nx 0 (l0 + n) 0 it.size) (run_append_in h0 h1 hs hx hd hi hln hfit hnew (by show (storeCells ((L.addr off).add (l0 * it.size)) cxs).run P w = _; rw [addr_add, e13]; exact r1)) (r2.trans hren)
            ⟨_, Emb.put_same _ _ _, by show 0 + (l0 + n) ≤ L.cap - d0; omega, by show 0 + (L.cap - d0 - 0) * it.size = L.cc - off; rw [Nat.sub_zero]; omega, L.addr off, rfl, fun _ => by unfold Loc.addr; rfl⟩ e17
        · refine hdr rfl q3 q2 hfit ?_ (g1 := ⟨g.hp.set b none, g.nx⟩) (h.forget hL) rfl e15
          simp only [Builtin.firstCells]
          by_cases hl0 : l0 = 0
          · subst hl0
            have : cold = [] := by have := q4; simp at this; exact this
            subst this; simp [loadCells]; rfl
          · obtain rfl := ha (by omega)
            exact loadCells_run q4 (fun j hj => by rw [← q5 j hj]; rfl)
    | nils =>
      cases hl
      obtain rfl : cx = .slice none 0 0 := hx'
      exact hdr (old := []) (cold := []) rfl rfl (by simp) (by omega) (by simp [Builtin.firstCells]) (Step.refl h) rfl e4
    | _ => cases hl
end
end
end Go.Lv

namespace Go.Lv
open Go
section
variable {P : Program} {φ : Emb} {g : G} {w w' : World}

theorem slLen_ok {v : AV} {c : Value} {n : Nat} (h : slLen v = some n) (hv : VR φ v c) : ∃ base cap, c = .slice base n cap := by
  cases v <;> first | (cases h; done) | skip
  · obtain ⟨L, _, rfl⟩ := hv; cases h; exact ⟨_, _, rfl⟩
  · obtain ⟨L, _, _, _, a, rfl, _⟩ := hv; cases h; exact ⟨_, _, rfl⟩
  · obtain rfl : c = .slice none 0 0 := hv; cases h; exact ⟨_, _, rfl⟩

theorem op_copy (h : HR P φ g w) {st el : TypeId} {size : Nat} {ts : Array TypeId} (h0 : ts[0]? = some st) (hs : P.underlying st = some (.slice el)) (hsz : sizeT P el = some size) {ty : TypeId} {kn : KN} {vs : List AV} {cvs : List Value}
    (hvs : VRs φ vs cvs) (e : opCopy size vs g kn = true) : ∃ cx cy, cvs = [cx, cy] ∧ OpOK P φ g w kn (do pure (.value (← Builtin.copy_ ts ty #[cx, cy]))) := by
  obtain ⟨x, y, rfl, e⟩ := a2_ok e
  obtain ⟨cx, cy, rfl, hx, hy⟩ := hvs.two_inv
  refine ⟨cx, cy, rfl, ?_⟩
  obtain ⟨dl, hdl, e⟩ := opt_some e
  obtain ⟨sl, hsl, e⟩ := opt_some e
  obtain ⟨xs, cxs, e, hxn, hx1, hxs, hnews⟩ := cellsOfA_ok h hsl (Nat.min_le_left sl dl) hy e
  have hnew := hnews w rfl
  have hln := lenOfA_ok (P := P) (w := w) hsl hy
  obtain ⟨base, cap, hc⟩ := slLen_ok hdl hx
  rcases bif_cases e with ⟨e1, e2⟩ | ⟨e1, e2⟩
  · have e1 := Nat.eq_of_beq_eq_true e1
    obtain rfl := hxn e1
    obtain rfl : cxs = [] := hxs
    refine OpOK.of_value (w' := w) (v' := .int .i64 0) (cv := .int .i64 0) ?_ (Step.refl h) rfl e2
    have hnew : (Builtin.firstCells size 0 cy).run P w = .ok #[] w := by rw [← e1]; exact hnew
    have e1' : Nat.min sl dl = 0 := e1
    cases base with
    | none => simp only [Builtin.copy_, h0, run_underlying hs, hc, hln, run_sizeOf' hsz, hnew, e1', goInt, Sem.run_bind, Result.andThen_ok, List.getElem?_toArray, List.getElem?_cons_zero, List.getElem?_cons_succ, Sem.run_pure]; rfl
    | some a => simp only [Builtin.copy_, h0, run_underlying hs, hc, hln, run_sizeOf' hsz, hnew, e1', goInt, Sem.run_bind, Result.andThen_ok, List.getElem?_toArray, List.getElem?_cons_zero, List.getElem?_cons_succ, Sem.run_pure]; rfl
  · have hn0 : Nat.min sl dl ≠ 0 := fun q => by rw [q] at e1; cases e1
    have hmin : Nat.min sl dl ≤ dl := Nat.min_le_right sl dl
    have go : ∀ {b : Pos} {off : Nat} {L : Loc}, φ b = some L → cx = .slice (some (L.addr off)) dl cap → writeRow g b off xs (fun g => kn g (.int .i64 (.ofNat (Nat.min sl dl)))) = true →
        OpOK P φ g w kn (do pure (.value (← Builtin.copy_ ts ty #[cx, cy]))) := by
      intro b off L hL hc e
      obtain ⟨g', w', q1, q2, q3⟩ := writeRow_ok h hL hxs hx1 e
      refine OpOK.of_value (w' := w') (v' := .int .i64 (.ofNat (Nat.min sl dl))) (cv := .int .i64 (.ofNat (Nat.min sl dl))) ?_ q3 rfl q1
      simp only [Builtin.copy_, h0, run_underlying hs, hc, hln, run_sizeOf' hsz, hnew, goInt, Sem.run_bind, Result.andThen_ok, List.getElem?_toArray, List.getElem?_cons_zero, List.getElem?_cons_succ, Sem.run_pure, q2]
      rfl
    rcases asSl_ok e2 with ⟨b, off, l, c, rfl, e3⟩ | ⟨b, off, l, d, es, rfl, e3⟩
    · obtain ⟨L, hL, rfl⟩ := hx
      cases hc
      exact go hL rfl e3
    · obtain ⟨L, hL, c1, c2, a, rfl, ha⟩ := hx
      cases hc
      obtain rfl := ha (by omega)
      exact go hL rfl e3
end
end Go.Lv

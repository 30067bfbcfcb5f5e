/-
  A walk over the translated code that the kernel reckons, and the proof that it is right, part 1: maps, keys and the other operations; equality; one step of a walk; no condition.
-/
import Derived.RangeFuncLeaves
import Derived.Test.YtelpikbfbaeohacGreatEv0
import GoSem.Core.Utf8

namespace Go.Ev

/-! ## Keys of maps: numbers, bools, strings, and structs and arrays of numbers and bools -/

inductive LK where
  | int (k : IntKind)
  | bool
  deriving DecidableEq

def LK.fits : LK → Value → Bool
  | .int k, .int k' _ => decide (k = k')
  | .bool, .bool _ => true
  | _, _ => false

def vEq : Value → Value → Bool
  | .int _ a, .int _ b => a == b
  | .bool a, .bool b => a == b
  | _, _ => false

def vEqs : List Value → List Value → Bool
  | [], [] => true
  | a :: as, b :: bs => vEq a b && vEqs as bs
  | _, _ => false

def shp : List LK → List Value → Bool
  | [], [] => true
  | k :: ks, v :: vs => k.fits v && shp ks vs
  | _, _ => false

theorem shp_length : ∀ {ks : List LK} {vs : List Value}, shp ks vs = true → vs.length = ks.length
  | [], [], _ => rfl
  | [], _ :: _, h => by simp [shp] at h
  | _ :: _, [], h => by simp [shp] at h
  | k :: ks, v :: vs, h => by simp only [shp, Bool.and_eq_true] at h; simp [shp_length h.2]

theorem shp_append : ∀ {ks ls : List LK} {vs : List Value}, shp (ks ++ ls) vs = true → shp ks (vs.take ks.length) = true ∧ shp ls (vs.drop ks.length) = true
  | [], ls, vs, h => ⟨by simp [shp], by simpa using h⟩
  | k :: ks, ls, [], h => by simp [shp] at h
  | k :: ks, ls, v :: vs, h => by
    simp only [List.cons_append, shp, Bool.and_eq_true] at h
    obtain ⟨h1, h2⟩ := shp_append h.2
    exact ⟨by simp [shp, h.1, h1], by simpa using h2⟩

theorem vEqs_append : ∀ {as bs cs ds : List Value}, as.length = bs.length → vEqs (as ++ cs) (bs ++ ds) = (vEqs as bs && vEqs cs ds)
  | [], [], _, _, _ => by simp [vEqs]
  | [], _ :: _, _, _, h => by simp at h
  | _ :: _, [], _, _, h => by simp at h
  | a :: as, b :: bs, cs, ds, h => by
    simp only [List.cons_append, vEqs, vEqs_append (as := as) (bs := bs) (by simpa using h), Bool.and_assoc]

def leafF (L : TypeId → Option (List LK)) (T : TP) : List Field → Nat → Option (List LK)
  | [], _ => some []
  | f :: fs, o => match decide (f.name ≠ "_"), Nat.beq f.offset o, L f.type, szOf T f.type with
    | true, true, some l, some n => match Nat.beq n l.length, leafF L T fs (o + n) with
      | true, some ls => some (l ++ ls)
      | _, _ => none
    | _, _, _, _ => none

def leaf (T : TP) : Nat → TypeId → Option (List LK)
  | 0, _ => none
  | d + 1, t => match T.und t with
    | some (.int k) => some [.int k]
    | some .bool => some [.bool]
    | some (.struct fs) => match T.P.stoodInHeld t with
      | false => leafF (leaf T d) T fs.toList 0
      | true => none
    | some (.array n e) => match leaf T d e, szOf T e with
      | some l, some m => match Nat.beq m l.length with
        | true => some (List.replicate n l).flatten
        | false => none
      | _, _ => none
    | _ => none

/-- Is the value an aggregate exactly if its type is one? -/
def aggV (P : Program) (t : TypeId) (v : Value) : Prop := ∃ d, P.underlying t = some d ∧ (aggD d = true → ∃ vs, v = .agg vs) ∧ (aggD d = false → v.cells = #[v])

section
variable {P : Program} (w : World)

theorem forIn_all {α : Type} (eqf : α → Bool) (f : α → Option Bool × Unit → Sem (ForInStep (Option Bool × Unit))) : ∀ (l : List α),
    (∀ x ∈ l, ∀ s, (f x s).run P w = .ok (if eqf x then .yield (none, ()) else .done (some false, ())) w) →
    (forIn l ((none, ()) : Option Bool × Unit) f).run P w = .ok (if l.all eqf then (none, ()) else (some false, ())) w
  | [], _ => rfl
  | x :: l, h => by
    have ih := forIn_all eqf f l (fun y hy => h y (by simp [hy]))
    have hx := h x (by simp) (none, ())
    cases he : eqf x
    · simp only [he, Bool.false_eq_true, if_false] at hx
      simp only [List.forIn_cons, Sem.run_bind, hx, Result.andThen_ok, List.all_cons, he, Bool.false_and, Bool.false_eq_true, if_false]
      rfl
    · simp only [he, if_true] at hx
      simp only [List.forIn_cons, Sem.run_bind, hx, Result.andThen_ok, List.all_cons, he, Bool.true_and]
      exact ih

theorem forIn_unit {α : Type} (f : α → PUnit → Sem (ForInStep PUnit)) : ∀ (l : List α), (∀ x ∈ l, ∀ s, (f x s).run P w = .ok (.yield PUnit.unit) w) → (forIn l PUnit.unit f).run P w = .ok PUnit.unit w
  | [], _ => rfl
  | x :: l, h => by
    have ih := forIn_unit f l (fun y hy => h y (by simp [hy]))
    simp only [List.forIn_cons, Sem.run_bind, h x (by simp), Result.andThen_ok]
    exact ih

theorem run_part {t : TypeId} {d : TypeDesc} {n off : Nat} {xs : Array Value} (hd : P.underlying t = some d) (hn : szOf (TP.of P) t = some n) (h1 : aggD d = false → n = 1) (hlen : off + n ≤ xs.size)
    (hc : aggD d = false → ∀ v, xs[off]? = some v → v.cells = #[v]) :
    ∃ v, (part t xs off).run P w = .ok v w ∧ v.cells.toList = (xs.toList.drop off).take n ∧ (aggD d = true → ∃ vs, v = .agg vs) ∧ (aggD d = false → v.cells = #[v]) := by
  cases hagg : aggD d
  · have := h1 hagg
    subst this
    have hlt : off < xs.size := by omega
    have hcv := hc hagg xs[off] (by simp [hlt])
    refine ⟨xs[off], by simp [part, run_isAgg' hd, hagg, hlt], ?_, fun e => (by cases e), fun _ => hcv⟩
    rw [hcv]
    apply List.ext_getElem?
    intro j
    cases j with
    | zero => simp [hlt]
    | succ j =>
      simp
      omega
  · refine ⟨.agg (xs.extract off (off + n)), by simp [part, run_isAgg' hd, hagg, run_sizeOf' hn], ?_, fun _ => ⟨_, rfl⟩, fun e => (by cases e)⟩
    simp [Value.cells, Array.toList_extract, List.extract_eq_take_drop]

theorem fits_cells {k : LK} {v : Value} (h : k.fits v = true) : v.cells = #[v] := by
  cases k <;> cases v <;> first | rfl | simp [LK.fits] at h

theorem leaf_one {d : Nat} {t : TypeId} {ls : List LK} (h : leaf (TP.of P) d t = some ls) : ∃ td, P.underlying t = some td ∧ (aggD td = false → ls.length = 1) := by
  cases d with
  | zero => simp [leaf] at h
  | succ d =>
    simp only [leaf] at h
    split at h
    · rename_i k hu; cases h; exact ⟨_, hu, fun _ => rfl⟩
    · rename_i hu; cases h; exact ⟨_, hu, fun _ => rfl⟩
    · rename_i fs hu; exact ⟨_, hu, fun e => by cases e⟩
    · rename_i n e hu; exact ⟨_, hu, fun e => by cases e⟩
    · cases h

/-- A segment's part. -/
theorem seg_part {d : Nat} {t : TypeId} {ls : List LK} (h : leaf (TP.of P) d t = some ls) (hn : szOf (TP.of P) t = some ls.length) {off : Nat} {xs : Array Value} (hs : shp ls ((xs.toList.drop off).take ls.length) = true) :
    ∃ v, (part t xs off).run P w = .ok v w ∧ v.cells.toList = (xs.toList.drop off).take ls.length ∧ aggV P t v := by
  obtain ⟨td, hu, h1⟩ := leaf_one h
  have hl := shp_length hs
  simp at hl
  cases hz : ls with
  | nil =>
    have hagg : aggD td = true := by
      cases ha : aggD td
      · have := h1 ha; simp [hz] at this
      · rfl
    refine ⟨.agg (xs.extract off (off + 0)), ?_, ?_, td, hu, fun _ => ⟨_, rfl⟩, fun e => by rw [hagg] at e; cases e⟩
    · rw [hz] at hn
      simp [part, run_isAgg' hu, hagg, run_sizeOf' hn]
    · simp [Value.cells, Array.toList_extract, List.extract_eq_take_drop]
  | cons k ks =>
    rw [← hz]
    have hpos : 0 < ls.length := by rw [hz]; simp
    obtain ⟨v, h2, h3, h4, h5⟩ := run_part (P := P) w (off := off) (xs := xs) hu hn h1 (by omega) (fun _ u hu' => by
      rw [hz] at hs
      have hlt : off < xs.toList.length := by simp; omega
      rw [List.drop_eq_getElem_cons hlt, List.length_cons, List.take_succ_cons] at hs
      simp only [shp, Bool.and_eq_true] at hs
      have : xs.toList[off] = u := by
        have := Array.getElem?_eq_some_iff.1 hu'
        obtain ⟨_, e⟩ := this
        simpa using e
      rw [this] at hs
      exact fits_cells hs.1)
    exact ⟨v, h2, h3, td, hu, h4, h5⟩

theorem leafF_spec {L : TypeId → Option (List LK)} : ∀ (fs : List Field) (o : Nat) (ls : List LK) (xs ys : List Value), leafF L (TP.of P) fs o = some ls → shp ls (xs.drop o) = true → shp ls (ys.drop o) = true →
    (∀ f ∈ fs, ∃ l, L f.type = some l ∧ szOf (TP.of P) f.type = some l.length ∧ f.name ≠ "_" ∧ shp l ((xs.drop f.offset).take l.length) = true ∧ shp l ((ys.drop f.offset).take l.length) = true) ∧
    fs.all (fun f => vEqs ((xs.drop f.offset).take ((szOf (TP.of P) f.type).getD 0)) ((ys.drop f.offset).take ((szOf (TP.of P) f.type).getD 0))) = vEqs (xs.drop o) (ys.drop o)
  | [], o, ls, xs, ys, h, hx, hy => by
    simp only [leafF, Option.some.injEq] at h
    subst h
    have h1 := shp_length hx
    have h2 := shp_length hy
    simp only [List.length_nil, List.length_eq_zero_iff] at h1 h2
    refine ⟨by simp, ?_⟩
    rw [h1, h2]
    rfl
  | f :: fs, o, ls, xs, ys, h, hx, hy => by
    unfold leafF at h
    split at h
    · rename_i l n hn0 ho hl hn
      have ho := Nat.eq_of_beq_eq_true ho
      have hn0 : f.name ≠ "_" := by simpa using hn0
      split at h
      · rename_i ls' hnl hfs
        have hnl := Nat.eq_of_beq_eq_true hnl
        subst hnl
        cases h
        obtain ⟨x1, x2⟩ := shp_append hx
        obtain ⟨y1, y2⟩ := shp_append hy
        rw [List.drop_drop] at x2 y2
        obtain ⟨i1, i2⟩ := leafF_spec fs (o + l.length) ls' xs ys hfs x2 y2
        refine ⟨fun g hg => ?_, ?_⟩
        · rcases List.mem_cons.1 hg with rfl | hg
          · exact ⟨l, hl, hn, hn0, by rw [ho]; exact x1, by rw [ho]; exact y1⟩
          · exact i1 g hg
        · rw [List.all_cons, i2, hn, Option.getD_some, ho]
          have e1 : xs.drop o = (xs.drop o).take l.length ++ xs.drop (o + l.length) := by rw [← List.drop_drop, List.take_append_drop]
          have e2 : ys.drop o = (ys.drop o).take l.length ++ ys.drop (o + l.length) := by rw [← List.drop_drop, List.take_append_drop]
          have := vEqs_append (as := (xs.drop o).take l.length) (bs := (ys.drop o).take l.length) (cs := xs.drop (o + l.length)) (ds := ys.drop (o + l.length)) (by rw [shp_length x1, shp_length y1])
          rw [← e1, ← e2] at this
          exact this.symm
      · cases h
    · cases h

theorem arr_spec {l : List LK} : ∀ (n o : Nat) (xs ys : List Value), shp (List.replicate n l).flatten (xs.drop (o * l.length)) = true → shp (List.replicate n l).flatten (ys.drop (o * l.length)) = true →
    (∀ i ∈ List.range' o n, shp l ((xs.drop (i * l.length)).take l.length) = true ∧ shp l ((ys.drop (i * l.length)).take l.length) = true) ∧
    (List.range' o n).all (fun i => vEqs ((xs.drop (i * l.length)).take l.length) ((ys.drop (i * l.length)).take l.length)) = vEqs (xs.drop (o * l.length)) (ys.drop (o * l.length))
  | 0, o, xs, ys, hx, hy => by
    have h1 := shp_length hx
    have h2 := shp_length hy
    simp only [List.replicate_zero, List.flatten_nil, List.length_nil, List.length_eq_zero_iff] at h1 h2
    refine ⟨by simp, ?_⟩
    rw [h1, h2]
    rfl
  | n + 1, o, xs, ys, hx, hy => by
    simp only [List.replicate_succ, List.flatten_cons] at hx hy
    obtain ⟨x1, x2⟩ := shp_append hx
    obtain ⟨y1, y2⟩ := shp_append hy
    rw [List.drop_drop, show o * l.length + l.length = (o + 1) * l.length by rw [Nat.add_mul, Nat.one_mul]] at x2 y2
    obtain ⟨i1, i2⟩ := arr_spec n (o + 1) xs ys x2 y2
    refine ⟨fun i hi => ?_, ?_⟩
    · rw [List.range'_succ] at hi
      rcases List.mem_cons.1 hi with rfl | hi
      · exact ⟨x1, y1⟩
      · exact i1 i hi
    · rw [List.range'_succ, List.all_cons, i2]
      have e1 : xs.drop (o * l.length) = (xs.drop (o * l.length)).take l.length ++ xs.drop ((o + 1) * l.length) := by
        rw [Nat.add_mul, Nat.one_mul, ← List.drop_drop, List.take_append_drop]
      have e2 : ys.drop (o * l.length) = (ys.drop (o * l.length)).take l.length ++ ys.drop ((o + 1) * l.length) := by
        rw [Nat.add_mul, Nat.one_mul, ← List.drop_drop, List.take_append_drop]
      have := vEqs_append (as := (xs.drop (o * l.length)).take l.length) (bs := (ys.drop (o * l.length)).take l.length) (cs := xs.drop ((o + 1) * l.length)) (ds := ys.drop ((o + 1) * l.length)) (by rw [shp_length x1, shp_length y1])
      rw [← e1, ← e2] at this
      exact this.symm

theorem eq_leaf : ∀ (d : Nat) (t : TypeId) (ls : List LK), leaf (TP.of P) d t = some ls → ∀ (D : Nat), d ≤ D → ∀ (x y : Value), aggV P t x → aggV P t y → shp ls x.cells.toList = true → shp ls y.cells.toList = true →
    (Op.equalIn D t x y).run P w = .ok (vEqs x.cells.toList y.cells.toList) w := by
  intro d
  induction d with
  | zero => intro t ls h; simp [leaf] at h
  | succ d ih =>
    intro t ls h D hD x y hx hy sx sy
    obtain ⟨D, rfl⟩ : ∃ k, D = k + 1 := ⟨D - 1, by omega⟩
    obtain ⟨dx, ux, ax, bx⟩ := hx
    obtain ⟨dy, uy, ay, by_⟩ := hy
    rw [ux] at uy
    cases uy
    simp only [leaf, ux] at h
    cases dx <;> simp only [reduceCtorEq, Option.some.injEq] at h
    case int k =>
      subst h
      have cx := bx rfl
      have cy := by_ rfl
      rw [cx] at sx
      rw [cy] at sy
      simp only [shp, Bool.and_true] at sx sy
      rw [cx, cy]
      cases x <;> simp only [LK.fits, Bool.false_eq_true, decide_eq_true_eq] at sx
      cases y <;> simp only [LK.fits, Bool.false_eq_true, decide_eq_true_eq] at sy
      subst sx; subst sy
      simp [Op.equalIn, run_underlying' ux, vEqs, vEq]
    case bool =>
      subst h
      have cx := bx rfl
      have cy := by_ rfl
      rw [cx] at sx
      rw [cy] at sy
      simp only [shp, Bool.and_true] at sx sy
      rw [cx, cy]
      cases x <;> simp only [LK.fits, Bool.false_eq_true] at sx
      cases y <;> simp only [LK.fits, Bool.false_eq_true] at sy
      simp [Op.equalIn, run_underlying' ux, vEqs, vEq]
    case struct fs =>
      obtain ⟨xs, rfl⟩ := ax rfl
      obtain ⟨ys, rfl⟩ := ay rfl
      split at h
      · rename_i hst
        obtain ⟨f1, f2⟩ := leafF_spec fs.toList 0 ls xs.toList ys.toList h sx sy
        simp only [Op.equalIn, Sem.run_bind, run_underlying' ux, Result.andThen_ok, run_program, hst, Bool.false_eq_true, if_false]
        obtain ⟨fs⟩ := fs
        rw [List.forIn_toArray]
        rw [forIn_all w (fun f => vEqs ((xs.toList.drop f.offset).take ((szOf (TP.of P) f.type).getD 0)) ((ys.toList.drop f.offset).take ((szOf (TP.of P) f.type).getD 0))) _ fs (fun f hf s => by
          obtain ⟨l, g1, g2, g3, g4, g5⟩ := f1 f hf
          obtain ⟨vx, p1, p2, p3⟩ := seg_part w g1 g2 g4
          obtain ⟨vy, q1, q2, q3⟩ := seg_part w g1 g2 g5
          have := ih f.type l g1 D (by omega) vx vy p3 q3 (by rw [p2]; exact g4) (by rw [q2]; exact g5)
          rw [p2, q2] at this
          simp only [ne_eq, g3, not_false_eq_true, if_true, Sem.run_bind, p1, q1, Result.andThen_ok, this, g2, Option.getD_some]
          cases vEqs ((xs.toList.drop f.offset).take l.length) ((ys.toList.drop f.offset).take l.length) <;> rfl)]
        simp only [Result.andThen_ok]
        have e : vEqs (Value.agg xs).cells.toList (Value.agg ys).cells.toList = vEqs (xs.toList.drop 0) (ys.toList.drop 0) := rfl
        rw [e, ← f2]
        cases hb : (List.all fs fun f => vEqs ((xs.toList.drop f.offset).take ((szOf (TP.of P) f.type).getD 0)) ((ys.toList.drop f.offset).take ((szOf (TP.of P) f.type).getD 0))) <;> rfl
      · cases h
    case array n e =>
      obtain ⟨xs, rfl⟩ := ax rfl
      obtain ⟨ys, rfl⟩ := ay rfl
      split at h
      · rename_i l m hl hm
        split at h
        · rename_i hml
          have hml := Nat.eq_of_beq_eq_true hml
          subst hml
          cases h
          obtain ⟨f1, f2⟩ := arr_spec n 0 xs.toList ys.toList (by rw [Nat.zero_mul]; exact sx) (by rw [Nat.zero_mul]; exact sy)
          simp only [Op.equalIn, Sem.run_bind, run_underlying' ux, Result.andThen_ok, run_sizeOf' hm, Std.Legacy.Range.forIn_eq_forIn_range', Std.Legacy.Range.size]
          simp only [Nat.sub_zero, Nat.add_sub_cancel, Nat.div_one]
          rw [forIn_all w (fun i => vEqs ((xs.toList.drop (i * l.length)).take l.length) ((ys.toList.drop (i * l.length)).take l.length)) _ (List.range' 0 n) (fun i hi s => by
            obtain ⟨g4, g5⟩ := f1 i hi
            obtain ⟨vx, p1, p2, p3⟩ := seg_part w hl hm g4
            obtain ⟨vy, q1, q2, q3⟩ := seg_part w hl hm g5
            have := ih e l hl D (by omega) vx vy p3 q3 (by rw [p2]; exact g4) (by rw [q2]; exact g5)
            rw [p2, q2] at this
            simp only [Sem.run_bind, p1, q1, Result.andThen_ok, this]
            cases vEqs ((xs.toList.drop (i * l.length)).take l.length) ((ys.toList.drop (i * l.length)).take l.length) <;> rfl)]
          simp only [Result.andThen_ok]
          have e : vEqs (Value.agg xs).cells.toList (Value.agg ys).cells.toList = vEqs (xs.toList.drop (0 * l.length)) (ys.toList.drop (0 * l.length)) := by simp [Value.cells]
          rw [e, ← f2]
          cases hb : ((List.range' 0 n).all fun i => vEqs ((xs.toList.drop (i * l.length)).take l.length) ((ys.toList.drop (i * l.length)).take l.length)) <;> rfl
        · cases h
      · cases h

theorem check_leaf (b : Bool) : ∀ (d : Nat) (t : TypeId) (ls : List LK), leaf (TP.of P) d t = some ls → ∀ (D : Nat), d ≤ D → ∀ (x : Value), aggV P t x → shp ls x.cells.toList = true →
    (Instr.checkKey b D t x).run P w = .ok () w := by
  intro d
  induction d with
  | zero => intro t ls h; simp [leaf] at h
  | succ d ih =>
    intro t ls h D hD x hx sx
    obtain ⟨D, rfl⟩ : ∃ k, D = k + 1 := ⟨D - 1, by omega⟩
    obtain ⟨dx, ux, ax, bx⟩ := hx
    simp only [leaf, ux] at h
    cases dx <;> simp only [reduceCtorEq, Option.some.injEq] at h
    case int k => simp [Instr.checkKey, run_underlying' ux]
    case bool => simp [Instr.checkKey, run_underlying' ux]
    case struct fs =>
      obtain ⟨xs, rfl⟩ := ax rfl
      split at h
      · rename_i hst
        obtain ⟨f1, _⟩ := leafF_spec fs.toList 0 ls xs.toList xs.toList h sx sx
        simp only [Instr.checkKey, Sem.run_bind, run_underlying' ux, Result.andThen_ok]
        obtain ⟨fs⟩ := fs
        rw [List.forIn_toArray]
        rw [forIn_unit w _ fs (fun f hf s => by
          obtain ⟨l, g1, g2, g3, g4, _⟩ := f1 f hf
          obtain ⟨vx, p1, p2, p3⟩ := seg_part w g1 g2 g4
          have := ih f.type l g1 D (by omega) vx p3 (by rw [p2]; exact g4)
          simp only [ne_eq, g3, not_false_eq_true, if_true, Sem.run_bind, p1, Result.andThen_ok, this, Sem.run_pure])]
        rfl
      · cases h
    case array n e =>
      obtain ⟨xs, rfl⟩ := ax rfl
      split at h
      · rename_i l m hl hm
        split at h
        · rename_i hml
          have hml := Nat.eq_of_beq_eq_true hml
          subst hml
          cases h
          obtain ⟨f1, _⟩ := arr_spec n 0 xs.toList xs.toList (by rw [Nat.zero_mul]; exact sx) (by rw [Nat.zero_mul]; exact sx)
          simp only [Instr.checkKey, Sem.run_bind, run_underlying' ux, Result.andThen_ok, Std.Legacy.Range.forIn_eq_forIn_range', Std.Legacy.Range.size]
          simp only [Nat.sub_zero, Nat.add_sub_cancel, Nat.div_one]
          rw [forIn_unit w _ (List.range' 0 n) (fun i hi s => by
            obtain ⟨g4, _⟩ := f1 i hi
            obtain ⟨vx, p1, p2, p3⟩ := seg_part w hl hm g4
            have := ih e l hl D (by omega) vx p3 (by rw [p2]; exact g4)
            simp only [Sem.run_bind, run_sizeOf' hm, p1, Result.andThen_ok, this, Sem.run_pure])]
          rfl
        · cases h
      · cases h
end

end Go.Ev

namespace Go.Ev

/-! ## Maps -/

def keqL : List AV → List AV → Bool
  | [], [] => true
  | .i _ a :: as, .i _ b :: bs => match decide (a = b) with
    | true => keqL as bs
    | false => false
  | .b a :: as, .b b :: bs => match a, b with
    | true, true => keqL as bs
    | false, false => keqL as bs
    | _, _ => false
  | _, _ => false

def keqA : AV → AV → Bool
  | .s a, .s b => a == b
  | .agg as, .agg bs => keqL as bs
  | .i k a, .i l b => keqL [.i k a] [.i l b]
  | .b a, .b b => keqL [.b a] [.b b]
  | _, _ => false

def fitsL : List LK → List AV → Bool
  | [], [] => true
  | .int k :: ks, .i l _ :: as => match decide (k = l) with
    | true => fitsL ks as
    | false => false
  | .bool :: ks, .b _ :: as => fitsL ks as
  | _, _ => false

/-- Is it a key of the type? -/
def keyOK (T : TP) (t : TypeId) (a : AV) : Bool :=
  match T.und t, a with
  | some .string, .s _ => true
  | some d, a => match leaf T 20 t, aggD d, a with
    | some ls, true, .agg cs => fitsL ls cs
    | some ls, false, a => fitsL ls [a]
    | _, _, _ => false
  | none, _ => false

theorem fitsL_ok {X : Cx} : ∀ {ls : List LK} {as : List AV} {vs : List Value}, fitsL ls as = true → VRL X as vs → shp ls vs = true ∧ AV.toVs as = some vs
  | [], [], vs, _, hv => by simp only [VRL] at hv; subst hv; exact ⟨rfl, rfl⟩
  | [], _ :: _, _, h, _ => by simp [fitsL] at h
  | _ :: _, [], _, h, _ => by unfold fitsL at h; split at h <;> simp_all
  | l :: ls, a :: as, vs, h, hv => by
    simp only [VRL] at hv
    obtain ⟨v, vs', rfl, h1, h2⟩ := hv
    unfold fitsL at h
    split at h
    · rename_i heq _; cases heq
    · rename_i k ks l' n as' heq heq2
      cases heq; cases heq2
      split at h
      · rename_i hk
        have hk : k = l' := by simpa using hk
        subst hk
        obtain ⟨i1, i2⟩ := fitsL_ok h h2
        simp only [VR] at h1
        subst h1
        exact ⟨by simp [shp, LK.fits, i1], by simp [AV.toVs, AV.toV, i2]⟩
      · cases h
    · rename_i ks x as' heq heq2
      cases heq; cases heq2
      obtain ⟨i1, i2⟩ := fitsL_ok h h2
      simp only [VR] at h1
      subst h1
      exact ⟨by simp [shp, LK.fits, i1], by simp [AV.toVs, AV.toV, i2]⟩
    · cases h

theorem keqL_ok : ∀ {as bs : List AV} {us vs : List Value}, AV.toVs as = some us → AV.toVs bs = some vs → (∃ ls, shp ls us = true ∧ shp ls vs = true) → keqL as bs = vEqs us vs ∧ (keqL as bs = true → us = vs)
  | [], bs, us, vs, h1, h2, ⟨ls, s1, s2⟩ => by
    simp only [AV.toVs, Option.some.injEq] at h1
    subst h1
    have l1 := shp_length s1
    have l2 := shp_length s2
    have hv : vs = [] := List.length_eq_zero_iff.1 (by rw [l2, ← l1]; rfl)
    subst hv
    cases bs with
    | nil => exact ⟨rfl, fun _ => rfl⟩
    | cons b bs => simp only [AV.toVs] at h2; split at h2 <;> simp at h2
  | a :: as, bs, us, vs, h1, h2, ⟨ls, s1, s2⟩ => by
    simp only [AV.toVs] at h1
    split at h1
    · rename_i u us' hu hus
      simp only [Option.some.injEq] at h1
      subst h1
      cases ls with
      | nil => simp [shp] at s1
      | cons l ls =>
        cases vs with
        | nil => simp [shp] at s2
        | cons v vs =>
          simp only [shp, Bool.and_eq_true] at s1 s2
          cases bs with
          | nil => simp [AV.toVs] at h2
          | cons b bs =>
            simp only [AV.toVs] at h2
            split at h2
            · rename_i v' vs' hv hvs
              simp only [Option.some.injEq, List.cons.injEq] at h2
              obtain ⟨rfl, rfl⟩ := h2
              obtain ⟨i1, i2⟩ := keqL_ok hus hvs ⟨ls, s1.2, s2.2⟩
              cases l with
              | int k =>
                cases u <;> simp only [LK.fits, Bool.false_eq_true, decide_eq_true_eq, false_and] at s1
                cases v' <;> simp only [LK.fits, Bool.false_eq_true, decide_eq_true_eq, false_and] at s2
                rename_i k1 n1 k2 n2
                obtain ⟨rfl, s1⟩ := s1
                obtain ⟨rfl, s2⟩ := s2
                have ha : a = .i k n1 := by
                  cases a <;> simp only [AV.toV, Option.some.injEq, reduceCtorEq] at hu <;> first | (cases hu; rfl) | (split at hu <;> simp at hu) | (simp [undef] at hu)
                have hb : b = .i k n2 := by
                  cases b <;> simp only [AV.toV, Option.some.injEq, reduceCtorEq] at hv <;> first | (cases hv; rfl) | (split at hv <;> simp at hv) | (simp [undef] at hv)
                subst ha; subst hb
                simp only [keqL, vEqs, vEq]
                by_cases he : n1 = n2
                · subst he
                  simp only [decide_true, beq_self_eq_true, Bool.true_and]
                  exact ⟨i1, fun e => by rw [i2 e]⟩
                · simp [he]
              | bool =>
                cases u <;> simp only [LK.fits, Bool.false_eq_true, false_and] at s1
                cases v' <;> simp only [LK.fits, Bool.false_eq_true, false_and] at s2
                rename_i n1 n2
                have ha : a = .b n1 := by
                  cases a <;> simp only [AV.toV, Option.some.injEq, reduceCtorEq] at hu <;> first | (cases hu; rfl) | (split at hu <;> simp at hu) | (simp [undef] at hu)
                have hb : b = .b n2 := by
                  cases b <;> simp only [AV.toV, Option.some.injEq, reduceCtorEq] at hv <;> first | (cases hv; rfl) | (split at hv <;> simp at hv) | (simp [undef] at hv)
                subst ha; subst hb
                simp only [vEqs, vEq]
                cases n1 <;> cases n2 <;> simp only [keqL, beq_self_eq_true, Bool.true_and]
                · exact ⟨i1, fun e => by rw [i2 e]⟩
                · exact ⟨rfl, fun e => by cases e⟩
                · exact ⟨rfl, fun e => by cases e⟩
                · exact ⟨i1, fun e => by rw [i2 e]⟩
            · cases h2
    · cases h1

/-- What is known of a key: its value, and how the model compares it. -/
structure KeyV (P : Program) (t : TypeId) (a : AV) (v : Value) : Prop where
  toV : a.toV = some v
  shape : (P.underlying t = some .string ∧ ∃ x, v = .string x ∧ a = .s x) ∨ (∃ d ls, P.underlying t = some d ∧ d ≠ .string ∧ leaf (TP.of P) 20 t = some ls ∧ aggV P t v ∧ shp ls v.cells.toList = true ∧
    ((∃ cs, a = .agg cs ∧ AV.toVs cs = some v.cells.toList) ∨ (aggD d = false ∧ AV.toVs [a] = some v.cells.toList ∧ ∀ cs, a ≠ .agg cs)))

theorem keyOK_ok {P : Program} {X : Cx} {t : TypeId} {a : AV} {v : Value} (h : keyOK (TP.of P) t a = true) (hv : VR X a v) : KeyV P t a v := by
  unfold keyOK at h
  split at h
  · rename_i x hu
    simp only [VR] at hv
    subst hv
    exact ⟨rfl, .inl ⟨hu, x, rfl, rfl⟩⟩
  · rename_i d hu hns
    split at h
    · rename_i ls cs hl hagg
      simp only [VR] at hv
      obtain ⟨vs, rfl, hv⟩ := hv
      obtain ⟨h1, h2⟩ := fitsL_ok h hv
      refine ⟨by simp [AV.toV, h2], .inr ⟨d, ls, hu, ?_, hl, ⟨d, hu, fun _ => ⟨vs, rfl⟩, fun e => (by rw [hagg] at e; cases e)⟩, h1, .inl ⟨cs, rfl, h2⟩⟩⟩
      intro e; subst e; cases hagg
    · rename_i hns a _ _ _ ls hl hagg
      have hvl : VRL X [a] [v] := ⟨v, [], rfl, hv, rfl⟩
      obtain ⟨h1, h2⟩ := fitsL_ok h hvl
      have hls : ∃ l, ls = [l] := by
        have := shp_length h1
        cases ls with
        | nil => simp at this
        | cons l ls => simp at this; exact ⟨l, by rw [this]⟩
      obtain ⟨l, rfl⟩ := hls
      simp only [shp, Bool.and_true] at h1
      have hc := fits_cells h1
      have htv : a.toV = some v := by
        simp only [AV.toVs] at h2
        split at h2
        · rename_i u us hu1 hus
          simp only [Option.some.injEq, List.cons.injEq] at h2
          rw [hu1, h2.1]
        · cases h2
      refine ⟨htv, .inr ⟨d, [l], hu, ?_, hl, ⟨d, hu, fun e => (by rw [hagg] at e; cases e), fun _ => hc⟩, by rw [hc]; simp [shp, h1], .inr ⟨hagg, by rw [hc]; exact h2, ?_⟩⟩⟩
      · intro e
        subst e
        have hu := tpU hu
        have : leaf (TP.of P) 20 t = none := by simp [leaf, hu]
        rw [this] at hl; cases hl
      · intro cs e
        subst e
        simp [fitsL] at h
    · cases h
  · cases h

end Go.Ev

namespace Go.Ev

/-! ## The entries of a map -/

theorem bytes_beq {x y : ByteArray} (h : (x == y) = true) : x = y := by
  obtain ⟨⟨x⟩⟩ := x
  obtain ⟨⟨y⟩⟩ := y
  have : ((⟨⟨x⟩⟩ : ByteArray).data == (⟨⟨y⟩⟩ : ByteArray).data) = true := h
  rw [beq_iff_eq] at this
  exact congrArg ByteArray.mk this

theorem bytes_refl (x : ByteArray) : (x == x) = true := by
  show (x.data == x.data) = true
  exact beq_self_eq_true x.data


/-- A key, on its own. -/
def keyS (P : Program) (t : TypeId) (v : Value) : Prop :=
  (P.underlying t = some .string ∧ ∃ x, v = .string x) ∨ (∃ d ls, P.underlying t = some d ∧ d ≠ .string ∧ leaf (TP.of P) 20 t = some ls ∧ aggV P t v ∧ shp ls v.cells.toList = true)

theorem KeyV.keyS {P : Program} {t : TypeId} {a : AV} {v : Value} (h : KeyV P t a v) : keyS P t v := by
  rcases h.shape with ⟨h1, x, rfl, _⟩ | ⟨d, ls, h1, h2, h3, h4, h5, _⟩
  · exact .inl ⟨h1, x, rfl⟩
  · exact .inr ⟨d, ls, h1, h2, h3, h4, h5⟩

def kEqV (u v : Value) : Bool :=
  match u, v with
  | .string a, .string b => a == b
  | u, v => vEqs u.cells.toList v.cells.toList

theorem shp_nostring {ls : List LK} {x : ByteArray} (h : shp ls [Value.string x] = true) : False := by
  cases ls with
  | nil => simp [shp] at h
  | cons l ls => simp only [shp, Bool.and_eq_true] at h; cases l <;> simp [LK.fits] at h

theorem keyS_str {P : Program} {t : TypeId} {v : Value} (h : keyS P t v) {d : TypeDesc} (hd : P.underlying t = some d) : (d = .string → ∃ x, v = .string x) ∧ (d ≠ .string → (∀ x, v ≠ .string x) ∧ ∃ ls, leaf (TP.of P) 20 t = some ls ∧ aggV P t v ∧ shp ls v.cells.toList = true) := by
  rcases h with ⟨h1, x, rfl⟩ | ⟨d', ls, h1, h2, h3, h4, h5⟩
  · rw [h1] at hd; cases hd
    exact ⟨fun _ => ⟨x, rfl⟩, fun e => absurd rfl e⟩
  · rw [h1] at hd; cases hd
    exact ⟨fun e => absurd e h2, fun _ => ⟨fun x e => (by subst e; exact shp_nostring h5), ls, h3, h4, h5⟩⟩

theorem kEqV_cells {u v : Value} (h : ∀ x, u ≠ .string x) : kEqV u v = vEqs u.cells.toList v.cells.toList := by
  unfold kEqV
  split
  · exact absurd rfl (h _)
  · rfl

theorem vEqs_eq : ∀ {ls : List LK} {us vs : List Value}, shp ls us = true → shp ls vs = true → vEqs us vs = true → us = vs
  | [], [], [], _, _, _ => rfl
  | [], _ :: _, _, h, _, _ => by simp [shp] at h
  | [], [], _ :: _, _, h, _ => by simp [shp] at h
  | _ :: _, [], _, h, _, _ => by simp [shp] at h
  | _ :: _, _ :: _, [], _, h, _ => by simp [shp] at h
  | l :: ls, u :: us, v :: vs, h, k, e => by
    simp only [shp, Bool.and_eq_true, vEqs] at h k e
    rw [vEqs_eq h.2 k.2 e.2]
    congr 1
    obtain ⟨h, _⟩ := h
    obtain ⟨k, _⟩ := k
    obtain ⟨e, _⟩ := e
    cases l <;> cases u <;> simp only [LK.fits, Bool.false_eq_true, decide_eq_true_eq] at h <;> cases v <;> simp only [LK.fits, Bool.false_eq_true, decide_eq_true_eq] at k
    · simp only [vEq, beq_iff_eq] at e; subst h; subst k; subst e; rfl
    · simp only [vEq, beq_iff_eq] at e; subst e; rfl

/-- Equal keys are one value. -/
theorem kEqV_eq {P : Program} {t : TypeId} {u v : Value} (hu : keyS P t u) (hv : keyS P t v) (h : kEqV u v = true) : u = v := by
  rcases hu with ⟨h1, x, rfl⟩ | ⟨d, ls, h1, h2, h3, h4, h5⟩
  · obtain ⟨y, rfl⟩ := (keyS_str hv h1).1 rfl
    simp only [kEqV] at h
    rw [bytes_beq h]
  · obtain ⟨hns, ls', g3, g4, g5⟩ := (keyS_str hv h1).2 h2
    rw [h3] at g3; cases g3
    rw [kEqV_cells (fun x e => by subst e; exact shp_nostring h5)] at h
    have hc := vEqs_eq h5 g5 h
    obtain ⟨d1, e1, e2, e3⟩ := h4
    obtain ⟨d2, f1, f2, f3⟩ := g4
    rw [h1] at e1 f1; cases e1; cases f1
    cases hag : aggD d
    · have c1 := e3 hag
      have c2 := f3 hag
      rw [c1, c2] at hc
      simpa using hc
    · obtain ⟨us, rfl⟩ := e2 hag
      obtain ⟨vs, rfl⟩ := f2 hag
      simp only [Value.cells] at hc
      rw [Array.ext' hc]

theorem vEqs_refl : ∀ {ls : List LK} {us : List Value}, shp ls us = true → vEqs us us = true
  | [], [], _ => rfl
  | [], _ :: _, h => by simp [shp] at h
  | _ :: _, [], h => by simp [shp] at h
  | l :: ls, u :: us, h => by
    simp only [shp, Bool.and_eq_true] at h
    simp only [vEqs, vEqs_refl h.2, Bool.and_true]
    obtain ⟨h, _⟩ := h
    cases l <;> cases u <;> simp only [LK.fits, Bool.false_eq_true] at h <;> simp [vEq]

theorem keqA_ok {P : Program} {t : TypeId} {a b : AV} {u v : Value} (hu : KeyV P t a u) (hv : KeyV P t b v) : keqA a b = kEqV u v := by
  rcases hu.shape with ⟨h1, x, rfl, rfl⟩ | ⟨d, ls, h1, h2, h3, h4, h5, h6⟩
  · rcases hv.shape with ⟨_, y, rfl, rfl⟩ | ⟨d, ls, g1, g2, _⟩
    · rfl
    · rw [h1] at g1; cases g1; exact absurd rfl g2
  · rcases hv.shape with ⟨g1, y, rfl, rfl⟩ | ⟨d', ls', g1, g2, g3, g4, g5, g6⟩
    · rw [h1] at g1; cases g1; exact absurd rfl h2
    · rw [h1] at g1; cases g1
      rw [h3] at g3; cases g3
      rw [kEqV_cells (fun x e => by subst e; exact shp_nostring h5)]
      have hagv : ∀ {w : Value}, aggV P t w → aggD d = true → ∃ ws, w = .agg ws := fun ⟨d1, e1, e2, _⟩ hag => by
        rw [h1] at e1; cases e1; exact e2 hag
      rcases h6 with ⟨as, rfl, ha⟩ | ⟨hag, ha, hna⟩
      · rcases g6 with ⟨bs, rfl, hb⟩ | ⟨gag, hb, hnb⟩
        · exact (keqL_ok ha hb ⟨ls, h5, g5⟩).1
        · obtain ⟨d1, e1, e2, e3⟩ := h4
          rw [h1] at e1; cases e1
          have c1 := e3 gag
          have := hu.toV
          simp only [AV.toV, ha, Option.some.injEq] at this
          obtain ⟨cs, rfl⟩ : ∃ cs, u = .agg cs := ⟨_, this.symm⟩
          simp only [Value.cells] at c1
          exfalso
          have h5' := h5
          simp only [Value.cells] at h5'
          have hl := congrArg Array.toList c1
          simp at hl
          rw [hl] at h5'
          cases ls with
          | nil => simp [shp] at h5'
          | cons l ls => cases l <;> simp [shp, LK.fits] at h5'
      · rcases g6 with ⟨bs, rfl, hb⟩ | ⟨gag, hb, hnb⟩
        · obtain ⟨d1, e1, e2, e3⟩ := g4
          rw [h1] at e1; cases e1
          have c1 := e3 hag
          have := hv.toV
          simp only [AV.toV, hb, Option.some.injEq] at this
          obtain ⟨cs, rfl⟩ : ∃ cs, v = .agg cs := ⟨_, this.symm⟩
          exfalso
          have g5' := g5
          simp only [Value.cells] at g5' c1
          have hl := congrArg Array.toList c1
          simp at hl
          rw [hl] at g5'
          cases ls with
          | nil => simp [shp] at g5'
          | cons l ls => cases l <;> simp [shp, LK.fits] at g5'
        · have hk := (keqL_ok ha hb ⟨ls, h5, g5⟩).1
          rw [← hk]
          obtain ⟨d1, e1, e2, e3⟩ := h4
          rw [h1] at e1; cases e1
          have c1 := e3 hag
          rw [c1] at h5
          cases ls with
          | nil => simp [shp] at h5
          | cons l ls =>
            have hu' := hu.toV
            have hv' := hv.toV
            obtain ⟨d2, f1, f2, f3⟩ := g4
            rw [h1] at f1; cases f1
            have c2 := f3 hag
            rw [c2] at g5
            simp only [shp, Bool.and_eq_true] at h5 g5
            cases l
            · cases u <;> simp only [LK.fits, Bool.false_eq_true, false_and] at h5
              cases v <;> simp only [LK.fits, Bool.false_eq_true, false_and] at g5
              cases a <;> simp only [AV.toV, Option.some.injEq, reduceCtorEq] at hu' <;> (try cases hu') <;> (try (split at hu' <;> simp at hu'; done)) <;> (try (simp [undef] at hu'; done))
              cases b <;> simp only [AV.toV, Option.some.injEq, reduceCtorEq] at hv' <;> (try cases hv') <;> (try (split at hv' <;> simp at hv'; done)) <;> (try (simp [undef] at hv'; done))
              rfl
            · cases u <;> simp only [LK.fits, Bool.false_eq_true, false_and] at h5
              cases v <;> simp only [LK.fits, Bool.false_eq_true, false_and] at g5
              cases a <;> simp only [AV.toV, Option.some.injEq, reduceCtorEq] at hu' <;> (try cases hu') <;> (try (split at hu' <;> simp at hu'; done)) <;> (try (simp [undef] at hu'; done))
              cases b <;> simp only [AV.toV, Option.some.injEq, reduceCtorEq] at hv' <;> (try cases hv') <;> (try (split at hv' <;> simp at hv'; done)) <;> (try (simp [undef] at hv'; done))
              rfl

def findP (k : Value) : List MapEntry → Nat → Option (Nat × Value)
  | [], _ => none
  | e :: es, i => match kEqV k e.key with
    | true => some (i, e.val)
    | false => findP k es (i + 1)

section
variable {P : Program} {w : World} {t : TypeId} {k : Value}

theorem run_equal_key {u v : Value} (hu : keyS P t u) (hv : keyS P t v) : (Op.equal t u v).run P w = .ok (kEqV u v) w := by
  rcases hu with ⟨h1, x, rfl⟩ | ⟨d, ls, h1, h2, h3, h4, h5⟩
  · obtain ⟨y, rfl⟩ := (keyS_str hv h1).1 rfl
    have key : ∀ n, (Op.equalIn (n + 1) t (.string x) (.string y)).run P w = .ok (x == y) w := fun n => by
      simp only [Op.equalIn, Sem.run_bind, run_underlying' h1, Result.andThen_ok, Sem.run_pure]
    exact key 9999
  · obtain ⟨hns, ls', g3, g4, g5⟩ := (keyS_str hv h1).2 h2
    rw [h3] at g3; cases g3
    rw [kEqV_cells (fun x e => by subst e; exact shp_nostring h5)]
    exact eq_leaf w 20 t ls h3 Op.maxDepth (by decide) u v h4 g4 h5 g5

theorem run_findAsking (hk : keyS P t k) : ∀ (es : List MapEntry) (i : Nat), (∀ e ∈ es, keyS P t e.key) → (Instr.findAsking t k es i).run P w = .ok (findP k es i) w
  | [], i, _ => by simp [Instr.findAsking, findP]
  | e :: es, i, h => by
    have ih := run_findAsking hk es (i + 1) (fun x hx => h x (by simp [hx]))
    simp only [Instr.findAsking, Sem.run_bind, run_equal_key hk (h e (by simp)), Result.andThen_ok, findP]
    cases kEqV k e.key
    · simpa using ih
    · simp

theorem findNow_ok {d : TypeDesc} (hd : P.underlying t = some d) (hk : keyS P t k) : ∀ (es : List MapEntry) (i : Nat), (∀ e ∈ es, keyS P t e.key) →
    Instr.findNow d k es i = some (findP k es i) ∨ Instr.findNow d k es i = none
  | [], i, _ => .inl rfl
  | e :: es, i, h => by
    have ih := findNow_ok hd hk es (i + 1) (fun x hx => h x (by simp [hx]))
    have he := h e (by simp)
    simp only [Instr.findNow]
    have key : Instr.sameNow d k e.key = some (kEqV k e.key) ∨ Instr.sameNow d k e.key = none := by
      by_cases hs : d = .string
      · subst hs
        obtain ⟨x, rfl⟩ := (keyS_str hk hd).1 rfl
        obtain ⟨y, hy⟩ := (keyS_str he hd).1 rfl
        rw [hy]
        exact .inl rfl
      · obtain ⟨k1, ls, k2, k3, k4⟩ := (keyS_str hk hd).2 hs
        obtain ⟨e1, ls', e2, e3, e4⟩ := (keyS_str he hd).2 hs
        rw [k2] at e2; cases e2
        rw [kEqV_cells k1]
        unfold Instr.sameNow
        split
        · split
          · left; rename_i heq _; simp [heq, Value.cells, vEqs, vEq]
          · right; rfl
        · exact absurd rfl (k1 _)
        · left; rename_i heq; rw [heq]; simp [Value.cells, vEqs, vEq]
        · right; rfl
    rcases key with e' | e' <;> rw [e']
    · simp only [findP]
      cases kEqV k e.key
      · exact ih
      · exact .inl rfl
    · exact .inr rfl

theorem run_findKey' (hk : keyS P t k) (es : List MapEntry) (h : ∀ e ∈ es, keyS P t e.key) : (Instr.findKey t k es).run P w = .ok (findP k es 0) w := by
  obtain ⟨d, hd⟩ : ∃ d, P.underlying t = some d := by
    rcases hk with ⟨h1, _⟩ | ⟨d, _, h1, _⟩
    · exact ⟨_, h1⟩
    · exact ⟨_, h1⟩
  simp only [Instr.findKey, Sem.run_bind, run_underlying' hd, Result.andThen_ok]
  rcases findNow_ok hd hk es 0 h with e | e <;> rw [e]
  · simp
  · simpa using run_findAsking hk es 0 h

theorem run_checkKey' (b : Bool) (hk : keyS P t k) : (Instr.checkKey b 10000 t k).run P w = .ok () w := by
  rcases hk with ⟨h1, x, rfl⟩ | ⟨d, ls, h1, h2, h3, h4, h5⟩
  · have key : ∀ n, (Instr.checkKey b (n + 1) t (.string x)).run P w = .ok () w := fun n => by
      simp only [Instr.checkKey, Sem.run_bind, run_underlying' h1, Result.andThen_ok, Sem.run_pure]
    exact key 9999
  · exact check_leaf w b 20 t ls h3 10000 (by decide) k h4 h5

theorem sameBits_key (hk : keyS P t k) : Instr.sameBits 10000 k k = true := by
  have one : ∀ n l v, LK.fits l v = true → Instr.sameBits n v v = true := fun n l v h => by
    cases l <;> cases v <;> simp only [LK.fits, Bool.false_eq_true] at h <;> cases n <;> simp [Instr.sameBits]
  have all : ∀ n (ls : List LK) (vs : List Value), shp ls vs = true → (vs.zip vs).all (fun p => Instr.sameBits n p.1 p.2) = true := by
    intro n ls vs
    induction vs generalizing ls with
    | nil => intro _; rfl
    | cons v vs ih =>
      intro h
      cases ls with
      | nil => simp [shp] at h
      | cons l ls =>
        simp only [shp, Bool.and_eq_true] at h
        simp only [List.zip_cons_cons, List.all_cons, one n l v h.1, ih ls h.2, Bool.and_true]
  rcases hk with ⟨h1, x, rfl⟩ | ⟨d, ls, h1, h2, h3, h4, h5⟩
  · show (x == x) = true
    exact bytes_refl x
  · obtain ⟨d1, e1, e2, e3⟩ := h4
    cases hag : aggD d1
    · have c := e3 hag
      rw [c] at h5
      cases ls with
      | nil => simp [shp] at h5
      | cons l ls =>
        simp only [shp, Bool.and_eq_true] at h5
        exact one _ l _ h5.1
    · obtain ⟨us, rfl⟩ := e2 hag
      have := all 9999 ls us.toList h5
      simpa [Instr.sameBits] using this
end

end Go.Ev

namespace Go.Ev

/-! ## Maps, one operation after another -/

theorem EsR.keys {P : Program} {X : Cx} {t : TypeId} : ∀ {es : List (AV × AV)} {p : List MapEntry}, EsR X es p → es.all (fun e => keyOK (TP.of P) t e.1) = true → ∀ c ∈ p, keyS P t c.key
  | [], p, h, _, c, hc => by simp only [EsR] at h; subst h; cases hc
  | e :: es, p, h, hall, c, hc => by
    simp only [EsR] at h
    obtain ⟨c0, p', rfl, h1, h2, h3⟩ := h
    simp only [List.all_cons, Bool.and_eq_true] at hall
    rcases List.mem_cons.1 hc with rfl | hc
    · exact (keyOK_ok hall.1 h1).keyS
    · exact EsR.keys h3 hall.2 c hc

theorem EsR.filter {P : Program} {X : Cx} {t : TypeId} {k : AV} {kv : Value} (hk : KeyV P t k kv) : ∀ {es : List (AV × AV)} {p : List MapEntry}, EsR X es p → es.all (fun e => keyOK (TP.of P) t e.1) = true →
    EsR X (es.filter fun e => keqA k e.1) (p.filter fun c => kEqV kv c.key)
  | [], p, h, _ => by simp only [EsR] at h; subst h; rfl
  | e :: es, p, h, hall => by
    simp only [EsR] at h
    obtain ⟨c0, p', rfl, h1, h2, h3⟩ := h
    simp only [List.all_cons, Bool.and_eq_true] at hall
    have ih := EsR.filter hk h3 hall.2
    have hq := keqA_ok hk (keyOK_ok hall.1 h1)
    simp only [List.filter_cons, hq]
    cases kEqV kv c0.key
    · simpa using ih
    · simp only [if_true, EsR]
      exact ⟨c0, _, rfl, h1, h2, ih⟩

theorem findP_none {kv : Value} : ∀ (l : List MapEntry) (i : Nat), (l.filter fun c => kEqV kv c.key) = [] → findP kv l i = none
  | [], _, _ => rfl
  | e :: l, i, h => by
    simp only [List.filter_cons] at h
    simp only [findP]
    cases hq : kEqV kv e.key
    · rw [hq] at h; exact findP_none l (i + 1) (by simpa using h)
    · rw [hq] at h; simp at h

theorem map_none {kv : Value} (f : MapEntry → MapEntry) : ∀ (l : List MapEntry), (l.filter fun c => kEqV kv c.key) = [] → l.map (fun c => if kEqV kv c.key then f c else c) = l
  | [], _ => rfl
  | e :: l, h => by
    simp only [List.filter_cons] at h
    cases hq : kEqV kv e.key
    · rw [hq] at h
      simp only [List.map_cons, hq, Bool.false_eq_true, if_false]
      rw [map_none f l (by simpa using h)]
    · rw [hq] at h; simp at h

theorem findP_one {kv : Value} (f : MapEntry → MapEntry) : ∀ (l : List MapEntry) (i : Nat) {c : MapEntry}, (l.filter fun c => kEqV kv c.key) = [c] →
    ∃ j, l[j]? = some c ∧ findP kv l i = some (i + j, c.val) ∧ l.modify j f = l.map (fun c => if kEqV kv c.key then f c else c)
  | [], _, _, h => by simp at h
  | e :: l, i, c, h => by
    simp only [List.filter_cons] at h
    simp only [findP]
    cases hq : kEqV kv e.key
    · rw [hq] at h
      obtain ⟨j, h1, h2, h3⟩ := findP_one f l (i + 1) (c := c) (by simpa using h)
      refine ⟨j + 1, by simpa using h1, by rw [h2, Nat.add_assoc, Nat.add_comm 1 j], ?_⟩
      simp only [List.modify_succ_cons, List.map_cons, hq, Bool.false_eq_true, if_false, h3]
    · rw [hq] at h
      simp only [if_true, List.cons.injEq] at h
      obtain ⟨rfl, h⟩ := h
      refine ⟨0, rfl, rfl, ?_⟩
      simp only [List.modify_zero_cons, List.map_cons, hq, if_true]
      rw [map_none f l h]

def find1 (k : AV) (es : List (AV × AV)) : Option (Option AV) :=
  match es.filter (fun e => keqA k e.1) with
  | [] => some none
  | [e] => some (some e.2)
  | _ => none

theorem find1_none {P : Program} {X : Cx} {t : TypeId} {k : AV} {kv : Value} (hk : KeyV P t k kv) {es : List (AV × AV)} {ents : Array MapEntry} {clock : Nat} (hm : MapR X es ents clock)
    (hall : es.all (fun e => keyOK (TP.of P) t e.1) = true) (h : find1 k es = some none) : (ents.toList.filter fun c => kEqV kv c.key) = [] := by
  obtain ⟨p, hp, hes, _⟩ := hm
  have hf := hes.filter hk hall
  unfold find1 at h
  split at h
  · rename_i h0
    rw [h0] at hf
    simp only [EsR] at hf
    have := hp.filter (fun c => kEqV kv c.key)
    rw [hf] at this
    exact List.nil_perm.1 this
  · cases h
  · cases h

theorem find1_some {P : Program} {X : Cx} {t : TypeId} {k : AV} {kv : Value} (hk : KeyV P t k kv) {es : List (AV × AV)} {ents : Array MapEntry} {clock : Nat} (hm : MapR X es ents clock)
    (hall : es.all (fun e => keyOK (TP.of P) t e.1) = true) {v : AV} (h : find1 k es = some (some v)) :
    ∃ c, (ents.toList.filter fun c => kEqV kv c.key) = [c] ∧ VR X v c.val ∧ c.key = kv ∧ c ∈ ents.toList := by
  obtain ⟨p, hp, hes, _⟩ := hm
  have hf := hes.filter hk hall
  have hks := hes.keys hall
  unfold find1 at h
  split at h
  · cases h
  · rename_i e h0
    simp only [Option.some.injEq] at h
    subst h
    rw [h0] at hf
    simp only [EsR] at hf
    obtain ⟨c, p', hpc, h1, h2, rfl⟩ := hf
    have hperm := hp.filter (fun c => kEqV kv c.key)
    rw [hpc] at hperm
    have hlist := List.perm_singleton.1 hperm.symm
    have hmem : c ∈ ents.toList.filter fun c => kEqV kv c.key := by rw [hlist]; simp
    have hmem' := List.mem_filter.1 hmem
    refine ⟨c, hlist, h2, ?_, hmem'.1⟩
    have hcp : c ∈ p := hp.mem_iff.2 hmem'.1
    exact (kEqV_eq hk.keyS (hks c hcp) hmem'.2).symm
  · cases h

theorem MapR.keys {P : Program} {X : Cx} {t : TypeId} {es : List (AV × AV)} {ents : Array MapEntry} {clock : Nat} (hm : MapR X es ents clock) (hall : es.all (fun e => keyOK (TP.of P) t e.1) = true) :
    ∀ c ∈ ents.toList, keyS P t c.key := by
  obtain ⟨p, hp, hes, _⟩ := hm
  exact fun c hc => hes.keys hall c (hp.mem_iff.2 hc)

def zeroA (T : TP) (t : TypeId) : Option AV := T.zero t

theorem zeroA_ok {P : Program} {X : Cx} {t : TypeId} {a : AV} (h : zeroA (TP.of P) t = some a) : ∃ v, (∀ w, (zeroValue t).run P w = .ok v w) ∧ VR X a v := by
  replace h : (pureR P (zeroValue t)).map ofV = some a := h
  cases hz : pureR P (zeroValue t) with
  | none => rw [hz] at h; cases h
  | some v =>
    rw [hz] at h
    simp only [Option.map_some, Option.some.injEq] at h
    subst h
    exact ⟨v, fun w => pureR_run hz w, VR.ofV v⟩

/-! ### lookup -/

def mapEs (hp : Hp) : AV → Option (List (AV × AV))
  | .nilmap => some []
  | .map id => match hp.get id with
    | some (.map es) => some es
    | _ => none
  | _ => none

def foundA (T : TP) (et : TypeId) : Option AV → Option (AV × Bool)
  | some v => some (v, true)
  | none => match zeroA T et with
    | some z => some (z, false)
    | none => none

def evLookup (T : TP) (t : TypeId) (m k : AV) (ok : Bool) (hp : Hp) (nx : Nat) : Outs :=
  match T.und t with
  | some (.map kt et) => match keyOK T kt k, mapEs hp m with
    | true, some es => match es.all (fun e => keyOK T kt e.1), find1 k es with
      | true, some r => match foundA T et r with
        | some (v, b) => ret1 (.val (match ok with | true => .tup [v, .b b] | false => v)) hp nx
        | none => none
      | _, _ => none
    | _, _ => none
  | _ => none

theorem mapEs_ok {P : Program} {X : Cx} {hp : Hp} (H : HR X hp) {m : AV} {mv : Value} (hv : VR X m mv) {es : List (AV × AV)} (h : mapEs hp m = some es) :
    (mv = .map none ∧ es = []) ∨ ∃ r ents clock, mv = .map (some r) ∧ (getObj r).run P X.w = .ok (.map ents clock) X.w ∧ MapR X es ents clock := by
  unfold mapEs at h
  split at h
  · simp only [Option.some.injEq] at h
    simp only [VR] at hv
    exact .inl ⟨hv, h.symm⟩
  · rename_i id
    split at h
    · rename_i es' hg
      simp only [Option.some.injEq] at h
      subst h
      simp only [VR] at hv
      obtain ⟨_, _, ents, clock, h1, h2⟩ := H.br _ _ hg
      exact .inr ⟨_, ents, clock, hv.2, by simp [getObj, Sem.run, h1], h2⟩
    · cases h
  · cases h

theorem evLookup_ok {P : Program} {X : Cx} {hp : Hp} (H : HR X hp) {t : TypeId} {m k : AV} {ok : Bool} (ρ : Operand → Value) (x y : Operand) (hm : VR X m (ρ x)) (hk : VR X k (ρ y)) (o : Oper)
    (ho : o.op = .lookup t x y ok) : OK X (evLookup (TP.of P) t m k ok hp X.nx) ((execOp ρ o).run P X.w) := by
  have hrun : (execOp ρ o).run P X.w = ((Instr.lookup t (ρ x) (ρ y) ok).run P X.w).andThen fun v w => .ok (.value v) w := by
    simp [execOp, ho]
  rw [hrun]
  unfold evLookup
  split
  · rename_i kt et hu
    split
    · rename_i es hko hes
      have hkv := keyOK_ok hko hk
      split
      · rename_i r hall hf
        split
        · rename_i v b hfa
          have fin : ∀ vv, VR X v vv → VR X (match ok with | true => .tup [v, .b b] | false => v) (if ok then .tuple #[vv, .bool b] else vv) := fun vv hvv => by
            cases ok
            · exact hvv
            · simp only [VR, if_true]
              exact ⟨_, rfl, vv, _, rfl, hvv, .bool b, [], rfl, rfl, rfl⟩
          rcases mapEs_ok (P := P) H hm hes with ⟨h1, h2⟩ | ⟨r0, ents, clock, h1, h2, h3⟩
          · subst h2
            have hr : r = none := by simpa [find1] using hf.symm
            subst hr
            unfold foundA at hfa
            simp only at hfa
            split at hfa
            · rename_i z hz
              cases hfa
              obtain ⟨vz, hz1, hz2⟩ := zeroA_ok (X := X) hz
              refine OK.val H ?_ (fin vz hz2)
              have hfk := run_findKey' (w := X.w) hkv.keyS [] (by simp)
              simp [Instr.lookup, run_underlying' hu, h1, run_checkKey' (w := X.w) true hkv.keyS, hfk, findP, hz1]
            · cases hfa
          · have hfk := run_findKey' (w := X.w) hkv.keyS _ (h3.keys hall)
            cases r with
            | none =>
              rw [findP_none _ 0 (find1_none hkv h3 hall hf)] at hfk
              unfold foundA at hfa
              simp only at hfa
              split at hfa
              · rename_i z hz
                cases hfa
                obtain ⟨vz, hz1, hz2⟩ := zeroA_ok (X := X) hz
                refine OK.val H ?_ (fin vz hz2)
                simp [Instr.lookup, run_underlying' hu, h1, h2, run_checkKey' (w := X.w) _ hkv.keyS, hfk, hz1]
              · cases hfa
            | some v' =>
              simp only [foundA, Option.some.injEq, Prod.mk.injEq] at hfa
              obtain ⟨rfl, rfl⟩ := hfa
              obtain ⟨c, hc1, hc2, _, _⟩ := find1_some hkv h3 hall hf
              obtain ⟨j, _, hj, _⟩ := findP_one id _ 0 hc1
              rw [hj] at hfk
              refine OK.val H ?_ (fin c.val hc2)
              simp [Instr.lookup, run_underlying' hu, h1, h2, run_checkKey' (w := X.w) _ hkv.keyS, hfk]
        · exact OK.none
      · exact OK.none
    · exact OK.none
  · exact OK.none

end Go.Ev

namespace Go.Ev

/-! ## Writing a map -/

/-- Does a walk over a map end here, when the map id is written? -/
def isDrop (hp0 : Hp) (id : Nat) : Blk → Bool
  | .miter (some mid) _ => match Nat.beq mid id with
    | true => true
    | false => match hp0.get mid with
      | some (.map _) => false
      | _ => true
  | _ => false

def dropIt (hp0 : Hp) (id : Nat) : Hp → Hp
  | [] => []
  | (n, b) :: h => match isDrop hp0 id b with
    | true => (dropIt hp0 id h).del n
    | false => (n, b) :: dropIt hp0 id h

theorem dropIt_get (hp0 : Hp) (id : Nat) : ∀ (h : Hp) (n : Nat) (b : Blk), (dropIt hp0 id h).get n = some b → h.get n = some b ∧ isDrop hp0 id b = false
  | [], n, b, h => by simp [dropIt, Hp.get] at h
  | (j, x) :: h, n, b, hg => by
    unfold dropIt at hg
    split at hg
    · rw [Hp.get_del] at hg
      split at hg
      · cases hg
      · rename_i hne
        obtain ⟨h1, h2⟩ := dropIt_get hp0 id h n b hg
        have : Nat.beq j n = false := by rw [Bool.eq_false_iff]; intro h; exact hne (Nat.eq_of_beq_eq_true h).symm
        exact ⟨by simp [Hp.get, this, h1], h2⟩
    · rename_i hd
      simp only [Hp.get] at hg ⊢
      split at hg
      · rename_i he
        simp only [Option.some.injEq] at hg
        subst hg
        simp [hd]
      · rename_i he
        simpa using dropIt_get hp0 id h n b hg

theorem dropIt_keep (hp0 : Hp) (id : Nat) : ∀ (h : Hp) (n : Nat) (b : Blk), h.get n = some b → isDrop hp0 id b = false → (dropIt hp0 id h).get n = some b
  | [], n, b, h, _ => by simp [Hp.get] at h
  | (j, x) :: h, n, b, hg, hd => by
    simp only [Hp.get] at hg
    unfold dropIt
    split at hg
    · rename_i he
      simp only [Option.some.injEq] at hg
      subst hg
      rw [hd]
      simp [Hp.get, he]
    · rename_i he
      have ih := dropIt_keep hp0 id h n b hg hd
      split
      · rw [Hp.get_del, if_neg]
        · exact ih
        · intro e; subst e; simp at he
      · simp only [Hp.get, he]
        exact ih

/-- A map of ours is written. -/
theorem HR.putMap {X : Cx} {hp : Hp} (H : HR X hp) {id : Nat} {es es' : List (AV × AV)} (hg : hp.get id = some (.map es)) {ents ents' : Array MapEntry} {clock clock' : Nat}
    (hc : X.w.heap[(X.m id 0).1]? = some (.map ents clock)) (hk : ∀ c ∈ ents.toList, ∃ c' ∈ ents'.toList, c'.key = c.key ∧ c'.born = c.born) (hm : MapR X es' ents' clock') :
    Ext X (X.put (X.m id 0).1 (.map ents' clock')) ∧ HR (X.put (X.m id 0).1 (.map ents' clock')) ((dropIt hp id hp).set id (.map es')) := by
  have hb := H.br _ _ hg
  obtain ⟨hI, hO, _⟩ := hb
  have E : Ext X (X.put (X.m id 0).1 (.map ents' clock')) := Ext.put hI hO (fun cc ty fz h => by rw [hc] at h; cases h) (fun e c h => by
    rw [hc] at h; cases h
    exact ⟨ents', clock', rfl, hk⟩) (fun L h => by rw [hc] at h; cases h)
  refine ⟨E, ?_⟩
  have Hd : HR X (dropIt hp id hp) := H.del fun j b hj => (dropIt_get hp id hp j b hj).1
  have hgd : (dropIt hp id hp).get id = some (.map es) := dropIt_keep hp id hp id _ hg rfl
  refine Hd.put (blk := .map es) (blk' := .map es') hgd rfl E ?_ ?_
  · refine ⟨hI, hO, ents', clock', get_put_same (Array.getElem?_eq_some_iff.1 hc).1, ?_⟩
    obtain ⟨p, h1, h2, h3⟩ := hm
    exact ⟨p, h1, h2.ext E, h3⟩
  · intro id2 mid seen hne hg2 hpl
    exfalso
    obtain ⟨_, h2⟩ := dropIt_get hp id hp id2 _ hg2
    simp only [isDrop] at h2
    split at h2
    · cases h2
    · rename_i hb2
      split at h2
      · rename_i es2 hgm
        have := H.inj mid id _ _ hgm hg hpl
        subst this
        simp at hb2
      · cases h2

/-! ### New keys -/

def ltI : Int → Int → Bool
  | .ofNat a, .ofNat b => Nat.blt a b
  | .negSucc a, .negSucc b => Nat.blt b a
  | .negSucc _, .ofNat _ => true
  | _, _ => false

def ltL : List AV → List AV → Bool
  | .i _ a :: as, .i _ b :: bs => match ltI a b with
    | true => true
    | false => match decide (a = b) with
      | true => ltL as bs
      | false => false
  | .b a :: as, .b b :: bs => match a, b with
    | false, true => true
    | true, false => false
    | _, _ => ltL as bs
  | _, _ => false

def ltB : List UInt8 → List UInt8 → Bool
  | [], _ :: _ => true
  | a :: as, b :: bs => match Nat.blt a.toNat b.toNat, Nat.beq a.toNat b.toNat with
    | true, _ => true
    | false, true => ltB as bs
    | false, false => false
  | _, _ => false

def ltA : AV → AV → Bool
  | .agg a, .agg b => ltL a b
  | .s a, .s b => ltB a.data.toList b.data.toList
  | a, b => ltL [a] [b]

def insE (k v : AV) : List (AV × AV) → List (AV × AV)
  | [] => [(k, v)]
  | e :: es => match ltA k e.1 with
    | true => (k, v) :: e :: es
    | false => e :: insE k v es

def updE (k v : AV) (es : List (AV × AV)) : List (AV × AV) := es.map fun e => match keqA k e.1 with
  | true => (e.1, v)
  | false => e

theorem insE_rel {X : Cx} {k v : AV} {c : MapEntry} (hk : VR X k c.key) (hv : VR X v c.val) : ∀ {es : List (AV × AV)} {p : List MapEntry}, EsR X es p → ∃ p', EsR X (insE k v es) p' ∧ p'.Perm (c :: p)
  | [], p, h => by
    simp only [EsR] at h
    subst h
    exact ⟨[c], ⟨c, [], rfl, hk, hv, rfl⟩, List.Perm.refl _⟩
  | e :: es, p, h => by
    unfold insE
    split
    · exact ⟨c :: p, ⟨c, p, rfl, hk, hv, h⟩, List.Perm.refl _⟩
    · simp only [EsR] at h
      obtain ⟨c0, p0, rfl, h1, h2, h3⟩ := h
      obtain ⟨p', g1, g2⟩ := insE_rel hk hv h3
      exact ⟨c0 :: p', ⟨c0, p', rfl, h1, h2, g1⟩, ((g2.cons c0).trans (List.Perm.swap c c0 p0))⟩

theorem MapR.ins {X : Cx} {es : List (AV × AV)} {ents : Array MapEntry} {clock : Nat} (hm : MapR X es ents clock) {k v : AV} {kv vv : Value} (hk : VR X k kv) (hv : VR X v vv) :
    MapR X (insE k v es) (ents.push { key := kv, val := vv, born := clock }) (clock + 1) := by
  obtain ⟨p, h1, h2, h3, h4⟩ := hm
  obtain ⟨p', g1, g2⟩ := insE_rel (c := { key := kv, val := vv, born := clock }) hk hv h2
  refine ⟨p', ?_, g1, ?_, ?_⟩
  · rw [Array.toList_push]
    exact g2.trans ((h1.cons _).trans (List.perm_append_singleton _ _).symm)
  · intro c hc
    rw [Array.toList_push] at hc
    rcases List.mem_append.1 hc with hc | hc
    · exact Nat.lt_succ_of_lt (h3 c hc)
    · simp only [List.mem_singleton] at hc
      subst hc
      exact Nat.lt_succ_self _
  · rw [Array.toList_push, List.map_append, List.map_singleton, List.nodup_append]
    refine ⟨h4, by simp, fun a ha b hb => ?_⟩
    simp only [List.mem_singleton] at hb
    subst hb
    obtain ⟨c, hc, rfl⟩ := List.mem_map.1 ha
    exact Nat.ne_of_lt (h3 c hc)

/-! ### Old keys -/

theorem updE_rel {P : Program} {X : Cx} {t : TypeId} {k v : AV} {kv vv : Value} (hk : KeyV P t k kv) (hv : VR X v vv) : ∀ {es : List (AV × AV)} {p : List MapEntry}, EsR X es p → es.all (fun e => keyOK (TP.of P) t e.1) = true →
    EsR X (updE k v es) (p.map fun c => if kEqV kv c.key then { c with key := kv, val := vv } else c)
  | [], p, h, _ => by simp only [EsR] at h; subst h; rfl
  | e :: es, p, h, hall => by
    simp only [EsR] at h
    obtain ⟨c0, p', rfl, h1, h2, h3⟩ := h
    simp only [List.all_cons, Bool.and_eq_true] at hall
    have ih := updE_rel hk hv h3 hall.2
    have hkv := keyOK_ok hall.1 h1
    have hq := keqA_ok hk hkv
    simp only [updE, List.map_cons] at ih ⊢
    rw [hq]
    cases hb : kEqV kv c0.key
    · exact ⟨c0, _, rfl, h1, h2, ih⟩
    · have := kEqV_eq hk.keyS hkv.keyS hb
      refine ⟨{ c0 with key := kv, val := vv }, _, rfl, ?_, hv, ih⟩
      show VR X e.1 kv
      rw [this]; exact h1

theorem MapR.upd {P : Program} {X : Cx} {t : TypeId} {es : List (AV × AV)} {ents : Array MapEntry} {clock : Nat} (hm : MapR X es ents clock) {k v : AV} {kv vv : Value} (hk : KeyV P t k kv) (hv : VR X v vv)
    (hall : es.all (fun e => keyOK (TP.of P) t e.1) = true) {ents' : Array MapEntry} (he : ents'.toList = ents.toList.map fun c => if kEqV kv c.key then { c with key := kv, val := vv } else c) :
    MapR X (updE k v es) ents' clock ∧ ∀ c ∈ ents.toList, ∃ c' ∈ ents'.toList, c'.key = c.key ∧ c'.born = c.born := by
  have hks := hm.keys hall
  obtain ⟨p, h1, h2, h3, h4⟩ := hm
  refine ⟨⟨_, ?_, updE_rel hk hv h2 hall, ?_, ?_⟩, ?_⟩
  · rw [he]; exact h1.map _
  · intro c hc
    rw [he] at hc
    obtain ⟨c0, hc0, rfl⟩ := List.mem_map.1 hc
    split <;> exact h3 c0 hc0
  · rw [he, List.map_map]
    have : ((fun x : MapEntry => x.born) ∘ fun c => if kEqV kv c.key then { c with key := kv, val := vv } else c) = fun c => c.born := by
      funext c
      simp only [Function.comp]
      split <;> rfl
    rw [this]; exact h4
  · intro c hc
    refine ⟨_, by rw [he]; exact List.mem_map.2 ⟨c, hc, rfl⟩, ?_⟩
    split
    · rename_i hb
      exact ⟨kEqV_eq hk.keyS (hks c hc) hb, rfl⟩
    · exact ⟨rfl, rfl⟩

def evMapUpdate (T : TP) (t : TypeId) (m k v : AV) (hp : Hp) (nx : Nat) : Outs :=
  match T.und t, m with
  | some (.map kt _), .map id => match keyOK T kt k, hp.get id with
    | true, some (.map es) => match es.all (fun e => keyOK T kt e.1), find1 k es with
      | true, some (some _) => ret1 .skip ((dropIt hp id hp).set id (.map (updE k v es))) nx
      | true, some none => ret1 .skip ((dropIt hp id hp).set id (.map (insE k v es))) nx
      | _, _ => none
    | _, _ => none
  | _, _ => none

theorem toList_modify' (a : Array MapEntry) (i : Nat) (f : MapEntry → MapEntry) : (a.modify i f).toList = a.toList.modify i f := by
  simp

theorem evMapUpdate_ok {P : Program} {X : Cx} {hp : Hp} (H : HR X hp) {t : TypeId} {m k v : AV} (ρ : Operand → Value) (x y z : Operand) (hm : VR X m (ρ x)) (hk : VR X k (ρ y)) (hv : VR X v (ρ z)) (o : Oper)
    (ho : o.op = .mapUpdate t x y z ∨ o.op = .insert t x y z) : OK X (evMapUpdate (TP.of P) t m k v hp X.nx) ((execOp ρ o).run P X.w) := by
  have hrun : (execOp ρ o).run P X.w = ((Instr.mapUpdate t (ρ x) (ρ y) (ρ z)).run P X.w).andThen fun _ w => .ok .skip w := by
    rcases ho with ho | ho <;> simp [execOp, ho]
  rw [hrun]
  unfold evMapUpdate
  split
  · rename_i kt et id hu
    simp only [VR] at hm
    obtain ⟨hid, hm⟩ := hm
    split
    · rename_i es hko hg
      have hkv := keyOK_ok hko hk
      obtain ⟨_, _, ents, clock, hc, hmr⟩ := H.br _ _ hg
      have hgo : (getObj (X.m id 0).1).run P X.w = .ok (.map ents clock) X.w := by simp [getObj, Sem.run, hc]
      split
      · rename_i v0 hall hf
        obtain ⟨c, hc1, hc2, hc3, hc4⟩ := find1_some hkv hmr hall hf
        obtain ⟨j, hj1, hj2, hj3⟩ := findP_one (fun e => { e with key := ρ y, val := ρ z }) _ 0 hc1
        have hfk := run_findKey' (w := X.w) hkv.keyS _ (hmr.keys hall)
        rw [hj2] at hfk
        obtain ⟨g1, g2⟩ := hmr.upd hkv hv hall (ents' := ents.modify j fun e => { e with key := ρ y, val := ρ z }) (by rw [toList_modify', hj3])
        obtain ⟨E, Hp'⟩ := H.putMap hg hc g2 g1
        refine OK.one ⟨E, rfl, Hp', ?_⟩
        have hjj : ents[j]? = some c := by simpa using hj1
        have hst : (Instr.keyThatStays c.key (ρ y)).run P X.w = .ok (ρ y) X.w := by
          rw [hc3]; simp [Instr.keyThatStays, sameBits_key hkv.keyS]
        simp [Instr.mapUpdate, run_underlying' hu, hm, hgo, run_checkKey' (w := X.w) false hkv.keyS, hfk, hjj, hst, setObj, Sem.run, Cx.put]
        rw [hc]; rfl
      · rename_i hall hf
        have hfk := run_findKey' (w := X.w) hkv.keyS _ (hmr.keys hall)
        rw [findP_none _ 0 (find1_none hkv hmr hall hf)] at hfk
        obtain ⟨E, Hp'⟩ := H.putMap hg hc (ents' := ents.push { key := ρ y, val := ρ z, born := clock }) (fun c hc => ⟨c, by simp; exact .inl (by simpa using hc), rfl, rfl⟩) (hmr.ins hk hv)
        refine OK.one ⟨E, rfl, Hp', ?_⟩
        simp [Instr.mapUpdate, run_underlying' hu, hm, hgo, run_checkKey' (w := X.w) false hkv.keyS, hfk, setObj, Sem.run, Cx.put]
        rw [hc]; rfl
      · exact OK.none
    · exact OK.none
  · exact OK.none

end Go.Ev

namespace Go.Ev

mutual
theorem toV_VR {X : Cx} : ∀ {a : AV} {v : Value}, a.toV = some v → VR X a v
  | .any, _, h => by simp [AV.toV] at h
  | .und, _, h => by simp only [AV.toV, Option.some.injEq] at h; exact h.symm
  | .b _, _, h => by simp only [AV.toV, Option.some.injEq] at h; exact h.symm
  | .i _ _, _, h => by simp only [AV.toV, Option.some.injEq] at h; exact h.symm
  | .s _, _, h => by simp only [AV.toV, Option.some.injEq] at h; exact h.symm
  | .nilp, _, h => by simp only [AV.toV, Option.some.injEq] at h; exact h.symm
  | .ptr .., _, h => by simp [AV.toV] at h
  | .cptr .., _, h => by simp [AV.toV] at h
  | .snil, _, h => by simp only [AV.toV, Option.some.injEq] at h; exact h.symm
  | .sr .., _, h => by simp [AV.toV] at h
  | .srf .., _, h => by simp [AV.toV] at h
  | .sne _, _, h => by simp [AV.toV] at h
  | .itr _, _, h => by simp [AV.toV] at h
  | .sv .., _, h => by simp [AV.toV] at h
  | .nilmap, _, h => by simp only [AV.toV, Option.some.injEq] at h; exact h.symm
  | .map _, _, h => by simp [AV.toV] at h
  | .stmp _ _, _, h => by simp [AV.toV] at h
  | .fn .., _, h => by simp [AV.toV] at h
  | .nilfn, _, h => by simp only [AV.toV, Option.some.injEq] at h; exact h.symm
  | .nilif, _, h => by simp only [AV.toV, Option.some.injEq] at h; exact h.symm
  | .iface t a, _, h => by
    simp only [AV.toV] at h
    split at h
    · rename_i x hx
      simp only [Option.some.injEq] at h
      subst h
      exact ⟨x, rfl, toV_VR hx⟩
    · cases h
  | .agg cs, _, h => by
    simp only [AV.toV] at h
    split at h
    · rename_i x hx
      simp only [Option.some.injEq] at h
      subst h
      exact ⟨_, rfl, toVs_VRL hx⟩
    · cases h
  | .tup cs, _, h => by
    simp only [AV.toV] at h
    split at h
    · rename_i x hx
      simp only [Option.some.injEq] at h
      subst h
      exact ⟨_, rfl, toVs_VRL hx⟩
    · cases h
theorem toVs_VRL {X : Cx} : ∀ {as : List AV} {vs : List Value}, AV.toVs as = some vs → VRL X as vs
  | [], vs, h => by simp only [AV.toVs, Option.some.injEq] at h; exact h.symm
  | a :: as, vs, h => by
    simp only [AV.toVs] at h
    split at h
    · rename_i x xs hx hxs
      simp only [Option.some.injEq] at h
      subst h
      exact ⟨x, xs, rfl, toV_VR hx, toVs_VRL hxs⟩
    · cases h
end

/-! ## mapEntry, entryStore -/

def evMapEntry (T : TP) (t : TypeId) (m k : AV) (hp : Hp) (nx : Nat) : Outs :=
  match T.und t, m with
  | some (.map kt et), .map id => match keyOK T kt k, hp.get id with
    | true, some (.map es) => match es.all (fun e => keyOK T kt e.1), find1 k es with
      | true, some (some v) => ret1 (.val (.tup [v, .stmp id k])) ((dropIt hp id hp).set id (.map es)) nx
      | true, some none => match zeroA T et with
        | some z => ret1 (.val (.tup [z, .stmp id k])) ((dropIt hp id hp).set id (.map (insE k z es))) nx
        | none => none
      | _, _ => none
    | _, _ => none
  | _, _ => none

theorem evMapEntry_ok {P : Program} {X : Cx} {hp : Hp} (H : HR X hp) {t : TypeId} {m k : AV} (ρ : Operand → Value) (x y : Operand) (hm : VR X m (ρ x)) (hk : VR X k (ρ y)) (o : Oper)
    (ho : o.op = .mapEntry t x y) : OK X (evMapEntry (TP.of P) t m k hp X.nx) ((execOp ρ o).run P X.w) := by
  have hrun : (execOp ρ o).run P X.w = ((Instr.mapEntry t (ρ x) (ρ y)).run P X.w).andThen fun v w => .ok (.value v) w := by
    simp [execOp, ho]
  rw [hrun]
  unfold evMapEntry
  split
  · rename_i kt et id hu
    simp only [VR] at hm
    obtain ⟨hid, hm⟩ := hm
    split
    · rename_i es hko hg
      have hkv := keyOK_ok hko hk
      obtain ⟨_, _, ents, clock, hc, hmr⟩ := H.br _ _ hg
      have hlt := (Array.getElem?_eq_some_iff.1 hc).1
      have hgo : (getObj (X.m id 0).1).run P X.w = .ok (.map ents clock) X.w := by simp [getObj, Sem.run, hc]
      split
      · rename_i v hall hf
        obtain ⟨c, hc1, hc2, hc3, hc4⟩ := find1_some hkv hmr hall hf
        obtain ⟨j, hj1, hj2, hj3⟩ := findP_one (fun e => { e with key := ρ y }) _ 0 hc1
        have hfk := run_findKey' (w := X.w) hkv.keyS _ (hmr.keys hall)
        rw [hj2] at hfk
        have hsame : ents.modify j (fun e => { e with key := ρ y }) = ents := by
          apply Array.ext'
          rw [toList_modify', hj3]
          have hks := hmr.keys hall
          conv => rhs; rw [← List.map_id ents.toList]
          apply List.map_congr_left
          intro c' hc'
          split
          · rename_i hb
            have := kEqV_eq hkv.keyS (hks c' hc') hb
            simp only [id_eq]
            rw [this]
          · rfl
        obtain ⟨E, Hp'⟩ := H.putMap hg hc (ents' := ents) (clock' := clock) (fun c hc => ⟨c, hc, rfl, rfl⟩) hmr
        refine OK.one ⟨E, rfl, Hp', .tuple #[c.val, .int .i64 c.born], ?_, ?_⟩
        · have hjj : ents[j]? = some c := by simpa using hj1
          have hst : (Instr.keyThatStays c.key (ρ y)).run P X.w = .ok (ρ y) X.w := by
            rw [hc3]; simp [Instr.keyThatStays, sameBits_key hkv.keyS]
          simp [Instr.mapEntry, run_underlying' hu, hm, hgo, run_checkKey' (w := X.w) false hkv.keyS, hfk, hjj, hst, setObj, Sem.run, Cx.put, hsame, goInt]
          rw [hc]; rfl
        · simp only [VR]
          refine ⟨_, rfl, c.val, _, rfl, hc2.ext E, _, [], rfl, ⟨hid, ents, clock, c, get_put_same hlt, hc4, ?_, rfl⟩, rfl⟩
          rw [hc3]; exact hkv.toV
      · rename_i hall hf
        split
        · rename_i z hz
          obtain ⟨vz, hz1, hz2⟩ := zeroA_ok (X := X) hz
          have hfk := run_findKey' (w := X.w) hkv.keyS _ (hmr.keys hall)
          rw [findP_none _ 0 (find1_none hkv hmr hall hf)] at hfk
          obtain ⟨E, Hp'⟩ := H.putMap hg hc (ents' := ents.push { key := ρ y, val := vz, born := clock }) (fun c hc => ⟨c, by simp; exact .inl (by simpa using hc), rfl, rfl⟩) (hmr.ins hk hz2)
          refine OK.one ⟨E, rfl, Hp', .tuple #[vz, .int .i64 clock], ?_, ?_⟩
          · simp [Instr.mapEntry, run_underlying' hu, hm, hgo, run_checkKey' (w := X.w) false hkv.keyS, hfk, setObj, Sem.run, Cx.put, hz1, goInt]
            rw [hc]; rfl
          · simp only [VR]
            refine ⟨_, rfl, vz, _, rfl, hz2.ext E, _, [], rfl, ⟨hid, _, _, { key := ρ y, val := vz, born := clock }, get_put_same hlt, by simp, hkv.toV, rfl⟩, rfl⟩
        · exact OK.none
      · exact OK.none
    · exact OK.none
  · exact OK.none

def evEntryStore (T : TP) (t : TypeId) (m s v : AV) (hp : Hp) (nx : Nat) : Outs :=
  match T.und t, m, s with
  | some (.map kt _), .map id, .stmp id' k => match Nat.beq id id' && keyOK T kt k, hp.get id with
    | true, some (.map es) => match es.all (fun e => keyOK T kt e.1), find1 k es with
      | true, some (some _) => ret1 .skip ((dropIt hp id hp).set id (.map (updE k v es))) nx
      | _, _ => none
    | _, _ => none
  | _, _, _ => none

theorem find_born {l : List MapEntry} (hn : (l.map (·.born)).Nodup) {c : MapEntry} (hc : c ∈ l) : ∃ i, l.findIdx? (fun e => (e.born : Int) == (c.born : Int)) = some i ∧ l[i]? = some c := by
  induction l with
  | nil => cases hc
  | cons e l ih =>
    simp only [List.map_cons, List.nodup_cons] at hn
    rcases List.mem_cons.1 hc with rfl | hc'
    · exact ⟨0, by simp [List.findIdx?_cons], rfl⟩
    · have hne : ¬ e.born = c.born := fun e' => hn.1 (by rw [e']; exact List.mem_map.2 ⟨c, hc', rfl⟩)
      obtain ⟨i, h1, h2⟩ := ih hn.2 hc'
      refine ⟨i + 1, ?_, by simpa using h2⟩
      have : ((e.born : Int) == (c.born : Int)) = false := by simp; omega
      simp [List.findIdx?_cons, this, h1]

theorem modify_filter {kv : Value} (f : MapEntry → MapEntry) : ∀ (l : List MapEntry) (i : Nat) {c : MapEntry}, (l.filter fun c => kEqV kv c.key) = [c] → l[i]? = some c → kEqV kv c.key = true →
    l.modify i f = l.map (fun c => if kEqV kv c.key then f c else c)
  | [], _, _, h, _, _ => by simp at h
  | e :: l, 0, c, h, hi, hq => by
    simp only [List.getElem?_cons_zero, Option.some.injEq] at hi
    subst hi
    simp only [List.filter_cons, hq, if_true, List.cons.injEq, true_and] at h
    simp only [List.modify_zero_cons, List.map_cons, hq, if_true, map_none f l h]
  | e :: l, i + 1, c, h, hi, hq => by
    simp only [List.getElem?_cons_succ] at hi
    have hmem : c ∈ l.filter fun c => kEqV kv c.key := List.mem_filter.2 ⟨List.mem_of_getElem? hi, hq⟩
    simp only [List.filter_cons] at h
    cases hb : kEqV kv e.key
    · rw [hb] at h
      simp only [List.modify_succ_cons, List.map_cons, hb, Bool.false_eq_true, if_false]
      rw [modify_filter f l i (by simpa using h) hi hq]
    · rw [hb] at h
      simp only [if_true, List.cons.injEq] at h
      rw [h.2] at hmem
      cases hmem

theorem evEntryStore_ok {P : Program} {X : Cx} {hp : Hp} (H : HR X hp) {t : TypeId} {m s v : AV} (ρ : Operand → Value) (x y z : Operand) (hm : VR X m (ρ x)) (hs : VR X s (ρ y)) (hv : VR X v (ρ z)) (o : Oper)
    (ho : o.op = .entryStore t x y z) : OK X (evEntryStore (TP.of P) t m s v hp X.nx) ((execOp ρ o).run P X.w) := by
  have hrun : (execOp ρ o).run P X.w = ((Instr.entryStore t (ρ x) (ρ y) (ρ z)).run P X.w).andThen fun _ w => .ok .skip w := by
    simp [execOp, ho]
  rw [hrun]
  unfold evEntryStore
  split
  · rename_i kt et id id' k hu
    simp only [VR] at hm hs
    obtain ⟨hid, hm⟩ := hm
    obtain ⟨_, ents0, clock0, c, hc0, hmem, hkt, hst⟩ := hs
    split
    · rename_i es hcond hg
      simp only [Bool.and_eq_true] at hcond
      have := Nat.eq_of_beq_eq_true hcond.1
      subst this
      obtain ⟨_, _, ents, clock, hc, hmr⟩ := H.br _ _ hg
      have hsame : ents = ents0 ∧ clock = clock0 := by rw [hc] at hc0; cases hc0; exact ⟨rfl, rfl⟩
      obtain ⟨rfl, rfl⟩ := hsame
      have hkv : KeyV P kt k c.key := keyOK_ok hcond.2 (toV_VR (X := X) hkt)
      have hgo : (getObj (X.m id 0).1).run P X.w = .ok (.map ents clock) X.w := by simp [getObj, Sem.run, hc]
      split
      · rename_i v0 hall hf
        obtain ⟨c', hc1, hc2, hc3, hc4⟩ := find1_some hkv hmr hall hf
        have hks := hmr.keys hall
        have hqc : kEqV c.key c.key = true := by
          have h' : c' ∈ ents.toList.filter (fun x => kEqV c.key x.key) := by rw [hc1]; simp
          have := (List.mem_filter.1 h').2
          rwa [hc3] at this
        have hcc : c = c' := by
          have : c ∈ ents.toList.filter (fun x => kEqV c.key x.key) := List.mem_filter.2 ⟨hmem, hqc⟩
          rw [hc1] at this
          simpa using this
        subst hcc
        obtain ⟨i, hi1, hi2⟩ := find_born (by obtain ⟨_, _, _, _, h4⟩ := hmr; exact h4) hmem
        have hmod := modify_filter (fun e => { e with val := ρ z }) _ i hc1 hi2 hqc
        have he : (ents.modify i fun e => { e with val := ρ z }).toList = ents.toList.map fun x => if kEqV c.key x.key then { x with key := c.key, val := ρ z } else x := by
          rw [toList_modify', hmod]
          apply List.map_congr_left
          intro x hx
          split
          · rename_i hb
            have := kEqV_eq hkv.keyS (hks x hx) hb
            rw [this]
          · rfl
        obtain ⟨g1, g2⟩ := hmr.upd hkv hv hall he
        obtain ⟨E, Hp'⟩ := H.putMap hg hc g2 g1
        refine OK.one ⟨E, rfl, Hp', ?_⟩
        have hfi : ents.findIdx? (fun e => (e.born : Int) == (c.born : Int)) = some i := by
          obtain ⟨l⟩ := ents
          simpa using hi1
        simp [Instr.entryStore, hm, hst, hgo, asInt, asIntOf, hfi, setObj, Sem.run, Cx.put]
        rw [hc]; rfl
      · exact OK.none
    · exact OK.none
  · exact OK.none

end Go.Ev

namespace Go.Ev

/-! ## makeMap, range -/

theorem HR.growNew {X : Cx} {hp : Hp} (H : HR X hp) (o : Obj) (blk : Blk) (hb : ∀ (_ : ¬ X.I X.w.heap.size) (_ : ¬ X.O X.w.heap.size), BR (X.grow o) X.nx blk) : Ext X (X.grow o) ∧ HR (X.grow o) ((X.nx, blk) :: hp) := by
  have hI : ¬ X.I X.w.heap.size := fun h => Nat.lt_irrefl _ (H.I _ h)
  have hO : ¬ X.O X.w.heap.size := fun h => Nat.lt_irrefl _ (H.O _ h)
  exact ⟨Ext.grow X o H.I H.O, H.grow o blk (hb hI hO)⟩

def evMakeMap (T : TP) (t : TypeId) (r : Option AV) (hp : Hp) (nx : Nat) : Outs :=
  match r with
  | none => ret1 (.val (.map nx)) ((nx, .map []) :: hp) (nx + 1)
  | some (.i _ _) => match T.und t with
    | some (.map _ _) => ret1 (.val (.map nx)) ((nx, .map []) :: hp) (nx + 1)
    | _ => none
  | _ => none

theorem evMakeMap_ok {P : Program} {X : Cx} {hp : Hp} (H : HR X hp) {t : TypeId} {ρ : Operand → AV} {ρc : Operand → Value} (hρ : ∀ x, VR X (ρ x) (ρc x)) (r : Option Operand) (o : Oper)
    (ho : o.op = .makeMap t r) : OK X (evMakeMap (TP.of P) t (r.map ρ) hp X.nx) ((execOp ρc o).run P X.w) := by
  have hrun : (execOp ρc o).run P X.w = ((Instr.makeMap t (r.map ρc)).run P X.w).andThen fun v w => .ok (.value v) w := by
    simp [execOp, ho]
  rw [hrun]
  obtain ⟨E, H'⟩ := H.growNew (.map #[] 0) (.map []) (fun hI hO => by
    simp only [BR, Cx.grow, if_pos]
    exact ⟨hI, hO, #[], 0, Array.getElem?_push_size, [], List.Perm.refl _, rfl, by simp, by simp⟩)
  have hv : VR (X.grow (.map #[] 0)) (.map X.nx) (.map (some X.w.heap.size)) := by
    simp [VR, Cx.grow]
  unfold evMakeMap
  cases r with
  | none =>
    refine OK.one ⟨E, rfl, H', _, ?_, hv⟩
    simp [Instr.makeMap, newObj, Sem.run, Cx.grow]
  | some x =>
    simp only [Option.map_some]
    split
    · rename_i h; cases h
    · rename_i k n heq
      have hx := hρ x
      rw [Option.some.inj heq] at hx
      simp only [VR] at hx
      split
      · rename_i kt et hu
        refine OK.one ⟨E, rfl, H', _, ?_, hv⟩
        simp [Instr.makeMap, newObj, Sem.run, Cx.grow, run_underlying' hu, hx, asInt, asIntOf]
      · exact OK.none
    · exact OK.none

def evRange (T : TP) (t : TypeId) (x : AV) (hp : Hp) (nx : Nat) : Outs :=
  match T.und t, x with
  | some .string, .s s => ret1 (.val (.itr nx)) ((nx, .siter s 0) :: hp) (nx + 1)
  | some (.map _ _), .nilmap => ret1 (.val (.itr nx)) ((nx, .miter none []) :: hp) (nx + 1)
  | some (.map _ _), .map id => match hp.get id with
    | some (.map _) => ret1 (.val (.itr nx)) ((nx, .miter (some id) []) :: hp) (nx + 1)
    | _ => none
  | _, _ => none

theorem evRange_ok {P : Program} {X : Cx} {hp : Hp} (H : HR X hp) {t : TypeId} {a : AV} (ρ : Operand → Value) (x : Operand) (ha : VR X a (ρ x)) (o : Oper) (ho : o.op = .range t x) :
    OK X (evRange (TP.of P) t a hp X.nx) ((execOp ρ o).run P X.w) := by
  have hrun : (execOp ρ o).run P X.w = ((Instr.range t (ρ x)).run P X.w).andThen fun v w => .ok (.value v) w := by
    simp [execOp, ho]
  rw [hrun]
  have hv : ∀ ob, VR (X.grow ob) (.itr X.nx) (.pointer (some ⟨X.w.heap.size, 0, none⟩)) := fun ob => by simp [VR, Cx.grow]
  unfold evRange
  split
  · rename_i s hu
    simp only [VR] at ha
    obtain ⟨E, H'⟩ := H.growNew (.stringIter s 0) (.siter s 0) (fun hI hO => by
      simp only [BR, Cx.grow, if_pos]
      exact ⟨hI, hO, Array.getElem?_push_size⟩)
    refine OK.one ⟨E, rfl, H', _, ?_, hv _⟩
    simp [Instr.range, run_underlying' hu, ha, newObj, Sem.run, Cx.grow]
  · rename_i k e hu
    simp only [VR] at ha
    obtain ⟨E, H'⟩ := H.growNew (.mapIter none 0 #[] 0) (.miter none []) (fun hI hO => by
      simp only [BR, Cx.grow, if_pos]
      exact ⟨hI, hO, trivial, Array.getElem?_push_size⟩)
    refine OK.one ⟨E, rfl, H', _, ?_, hv _⟩
    simp [Instr.range, run_underlying' hu, ha, newObj, Sem.run, Cx.grow]
  · rename_i k e id hu
    split
    · rename_i es hg
      simp only [VR] at ha
      obtain ⟨hid, ha⟩ := ha
      obtain ⟨_, _, ents, clock, hc, hmr⟩ := H.br _ _ hg
      have hgo : (getObj (X.m id 0).1).run P X.w = .ok (.map ents clock) X.w := by simp [getObj, Sem.run, hc]
      obtain ⟨E, H'⟩ := H.growNew (.mapIter (some (X.m id 0).1) clock #[] clock) (.miter (some id) []) (fun hI hO => by
        simp only [BR, Cx.grow, if_pos, Nat.ne_of_lt hid, if_false]
        exact ⟨hI, hO, Nat.lt_succ_of_lt hid, ents, clock, #[], getElem?_push_lt hc, Array.getElem?_push_size, by simp, by simp, by simp⟩)
      refine OK.one ⟨E, rfl, H', _, ?_, hv _⟩
      simp [Instr.range, run_underlying' hu, ha, hgo, newObj, Sem.run, Cx.grow]
    · exact OK.none
  · exact OK.none

/-! ## next -/

/-- Is it the key that one sees through? -/
def kflL : List AV → Bool
  | [] => true
  | .i _ _ :: as => kflL as
  | .b _ :: as => kflL as
  | _ => false

def kfl : AV → Bool
  | .s _ => true
  | .agg as => kflL as
  | .i _ _ => true
  | .b _ => true
  | _ => false

def kEL : List AV → List AV → Bool
  | [], [] => true
  | .i k a :: as, .i l b :: bs => match decide (a = b), decide (k = l) with
    | true, true => kEL as bs
    | _, _ => false
  | .b a :: as, .b b :: bs => match a, b with
    | true, true => kEL as bs
    | false, false => kEL as bs
    | _, _ => false
  | _, _ => false

def kE : AV → AV → Bool
  | .s a, .s b => a == b
  | .agg as, .agg bs => kEL as bs
  | .i k a, .i l b => kEL [.i k a] [.i l b]
  | .b a, .b b => kEL [.b a] [.b b]
  | _, _ => false

theorem kEL_eq : ∀ {as bs : List AV}, kEL as bs = true → as = bs
  | [], [], _ => rfl
  | [], _ :: _, h => by simp [kEL] at h
  | a :: as, bs, h => by
    unfold kEL at h
    split at h
    · rename_i heq; cases heq
    · rename_i k n as' l m bs' heq
      cases heq
      split at h
      · rename_i h1 h2
        have h1 : n = m := by simpa using h1
        have h2 : k = l := by simpa using h2
        rw [h1, h2, kEL_eq h]
      · cases h
    · rename_i x as' y bs' heq
      cases heq
      split at h
      · rw [kEL_eq h]
      · rw [kEL_eq h]
      · cases h
    · cases h

theorem kEL_refl : ∀ {as : List AV}, kflL as = true → kEL as as = true
  | [], _ => rfl
  | a :: as, h => by
    unfold kflL at h
    split at h
    · rename_i heq; cases heq
    · rename_i heq; cases heq; simp [kEL, kEL_refl h]
    · rename_i x as' heq; cases heq; cases x <;> simp [kEL, kEL_refl h]
    · cases h

theorem kE_eq {a b : AV} (h : kE a b = true) : a = b := by
  unfold kE at h
  split at h
  · rw [bytes_beq h]
  · rw [kEL_eq h]
  · simpa using kEL_eq h
  · simpa using kEL_eq h
  · cases h

theorem kE_refl {a : AV} (h : kfl a = true) : kE a a = true := by
  unfold kfl at h
  split at h
  · exact bytes_refl _
  · exact kEL_refl h
  · exact kEL_refl rfl
  · exact kEL_refl rfl
  · cases h

theorem kflL_toV : ∀ {as bs : List AV} {vs : List Value}, kflL as = true → kflL bs = true → AV.toVs as = some vs → AV.toVs bs = some vs → as = bs
  | [], bs, vs, _, hb, h1, h2 => by
    simp only [AV.toVs, Option.some.injEq] at h1
    subst h1
    cases bs with
    | nil => rfl
    | cons b bs => simp only [AV.toVs] at h2; split at h2 <;> simp at h2
  | a :: as, bs, vs, ha, hb, h1, h2 => by
    simp only [AV.toVs] at h1
    split at h1
    · rename_i x xs hx hxs
      simp only [Option.some.injEq] at h1
      subst h1
      cases bs with
      | nil => simp [AV.toVs] at h2
      | cons b bs =>
        simp only [AV.toVs] at h2
        split at h2
        · rename_i y ys hy hys
          simp only [Option.some.injEq, List.cons.injEq] at h2
          obtain ⟨rfl, rfl⟩ := h2
          cases a <;> simp only [kflL, Bool.false_eq_true] at ha <;> cases b <;> simp only [kflL, Bool.false_eq_true] at hb <;> simp only [AV.toV, Option.some.injEq] at hx hy
          · subst hx; cases hy; rw [kflL_toV ha hb hxs hys]
          · subst hx; cases hy
          · subst hx; cases hy
          · subst hx; cases hy; rw [kflL_toV ha hb hxs hys]
        · cases h2
    · cases h1

theorem kfl_toVs : ∀ {as : List AV}, kflL as = true → ∃ vs, AV.toVs as = some vs
  | [], _ => ⟨[], rfl⟩
  | a :: as, h => by
    cases a <;> simp only [kflL, Bool.false_eq_true] at h
    all_goals
      obtain ⟨vs, hvs⟩ := kfl_toVs h
      simp [AV.toVs, AV.toV, hvs]

theorem kfl_some {a : AV} (h : kfl a = true) : ∃ v, a.toV = some v := by
  unfold kfl at h
  split at h
  · exact ⟨_, rfl⟩
  · obtain ⟨vs, hvs⟩ := kfl_toVs h
    exact ⟨.agg vs.toArray, by simp [AV.toV, hvs]⟩
  · exact ⟨_, rfl⟩
  · exact ⟨_, rfl⟩
  · cases h

theorem kfl_inj {a b : AV} {v : Value} (ha : kfl a = true) (hb : kfl b = true) (h1 : a.toV = some v) (h2 : b.toV = some v) : a = b := by
  cases a <;> simp only [kfl, Bool.false_eq_true] at ha <;> cases b <;> simp only [kfl, Bool.false_eq_true] at hb <;> simp only [AV.toV, Option.some.injEq] at h1 h2
  case agg.agg =>
    obtain ⟨vs, hvs⟩ := kfl_toVs ha
    obtain ⟨us, hus⟩ := kfl_toVs hb
    simp only [hvs, hus, Option.some.injEq] at h1 h2
    subst h1
    simp only [Value.agg.injEq] at h2
    have : us = vs := by simpa using congrArg Array.toList h2
    subst this
    rw [kflL_toV ha hb hvs hus]
  all_goals first
    | (subst h1; cases h2; rfl)
    | (subst h1; cases h2)
    | (obtain ⟨vs, hvs⟩ := kfl_toVs ha; simp only [hvs, Option.some.injEq] at h1; subst h1; cases h2)
    | (obtain ⟨vs, hvs⟩ := kfl_toVs hb; simp only [hvs, Option.some.injEq] at h2; subst h2; cases h1)

end Go.Ev

namespace Go.Ev

theorem EsR.mem {X : Cx} : ∀ {es : List (AV × AV)} {p : List MapEntry}, EsR X es p → ∀ c ∈ p, ∃ e ∈ es, VR X e.1 c.key ∧ VR X e.2 c.val
  | [], p, h, c, hc => by simp only [EsR] at h; subst h; cases hc
  | e :: es, p, h, c, hc => by
    simp only [EsR] at h
    obtain ⟨c0, p', rfl, h1, h2, h3⟩ := h
    rcases List.mem_cons.1 hc with rfl | hc
    · exact ⟨e, by simp, h1, h2⟩
    · obtain ⟨e', he, h4⟩ := EsR.mem h3 c hc
      exact ⟨e', by simp [he], h4⟩

theorem kfl_key {X : Cx} {a : AV} {v : Value} (h : kfl a = true) (hv : VR X a v) : a.toV = some v := by
  obtain ⟨u, hu⟩ := kfl_some h
  rw [VR.toV hu hv, hu]

open Classical in
theorem EsR.filterE {X : Cx} {a : AV} {v : Value} (ha : kfl a = true) (hv : a.toV = some v) : ∀ {es : List (AV × AV)} {p : List MapEntry}, EsR X es p → es.all (fun e => kfl e.1) = true →
    EsR X (es.filter fun e => kE a e.1) (p.filter fun c => decide (c.key = v))
  | [], p, h, _ => by simp only [EsR] at h; subst h; rfl
  | e :: es, p, h, hall => by
    simp only [EsR] at h
    obtain ⟨c0, p', rfl, h1, h2, h3⟩ := h
    simp only [List.all_cons, Bool.and_eq_true] at hall
    have ih := EsR.filterE ha hv h3 hall.2
    have hk := kfl_key hall.1 h1
    have hq : kE a e.1 = decide (c0.key = v) := by
      by_cases hc : c0.key = v
      · rw [hc] at hk
        have := kfl_inj ha hall.1 hv hk
        rw [← this, kE_refl ha]
        simp [hc]
      · have : kE a e.1 = false := by
          rw [Bool.eq_false_iff]
          intro hh
          have := kE_eq hh
          subst this
          rw [hv] at hk
          exact hc (Option.some.inj hk).symm
        rw [this]
        simp [hc]
    simp only [List.filter_cons, hq]
    by_cases hc : c0.key = v
    · simp only [hc, decide_true, if_true, EsR]
      exact ⟨c0, _, rfl, h1, h2, ih⟩
    · simp only [hc, decide_false, Bool.false_eq_true, if_false]
      exact ih

/-- Does the key come once? -/
def onceK (es : List (AV × AV)) (a : AV) : Bool :=
  match es.filter fun e => kE a e.1 with
  | [_] => true
  | _ => false

theorem onceK_ok {X : Cx} {es : List (AV × AV)} {ents : Array MapEntry} {clock : Nat} (hm : MapR X es ents clock) (hall : es.all (fun e => kfl e.1) = true) {a : AV} (ha : kfl a = true) (h : onceK es a = true)
    {c c' : MapEntry} (hc : c ∈ ents.toList) (hc' : c' ∈ ents.toList) (h1 : a.toV = some c.key) (h2 : a.toV = some c'.key) : c = c' := by
  classical
  obtain ⟨p, hp, hes, _⟩ := hm
  have hf := hes.filterE ha h1 hall
  unfold onceK at h
  split at h
  · rename_i e he
    rw [he] at hf
    simp only [EsR] at hf
    obtain ⟨c0, p', hp0, _, _, rfl⟩ := hf
    have m1 : c ∈ p.filter fun x => decide (x.key = c.key) := List.mem_filter.2 ⟨hp.mem_iff.2 hc, by simp⟩
    have m2 : c' ∈ p.filter fun x => decide (x.key = c.key) := List.mem_filter.2 ⟨hp.mem_iff.2 hc', by
      rw [h1] at h2
      simp [Option.some.inj h2]⟩
    have e1 : p.filter (fun x => decide (x.key = c.key)) = [c0] := by rw [← hp0]
    rw [e1] at m1 m2
    simp only [List.mem_singleton] at m1 m2
    rw [m1, m2]
  · cases h

def insK (k : AV) : List AV → List AV
  | [] => [k]
  | a :: as => match ltA k a with
    | true => k :: a :: as
    | false => a :: insK k as

theorem mem_insK {k x : AV} : ∀ {l : List AV}, x ∈ insK k l ↔ x = k ∨ x ∈ l
  | [] => by simp [insK]
  | a :: as => by
    unfold insK
    split
    · simp
    · simp only [List.mem_cons, mem_insK]
      constructor
      · rintro (h | h | h)
        · exact .inr (.inl h)
        · exact .inl h
        · exact .inr (.inr h)
      · rintro (h | h | h)
        · exact .inr (.inl h)
        · exact .inl h
        · exact .inr (.inr h)

def sortS : List AV → List AV
  | [] => []
  | h :: r => insK h r

theorem mem_sortS {x : AV} {l : List AV} : x ∈ sortS l ↔ x ∈ l := by
  cases l with
  | nil => rfl
  | cons h r => simp [sortS, mem_insK]

def leftA (seen : List AV) (es : List (AV × AV)) : List (AV × AV) := es.filter fun e => match seen.any fun k => kE k e.1 with
  | true => false
  | false => true

def evNext (x : AV) (str : Bool) (hp : Hp) (nx : Nat) : Outs :=
  match x with
  | .itr id => match hp.get id, str with
    | some (.siter s pos), true => match Nat.blt pos s.size with
      | true => ret1 (.val (.tup [.b true, .i .i64 pos, .i .i32 (Utf8.decode s pos).1])) (hp.set id (.siter s (pos + (Utf8.decode s pos).2))) nx
      | false => ret1 (.val (.tup [.b false])) hp nx
    | some (.miter none _), false => ret1 (.val (.tup [.b false])) hp nx
    | some (.miter (some mid) seen), false => match hp.get mid with
      | some (.map es) => match es.all (fun e => kfl e.1) && seen.all kfl && es.all (fun e => onceK es e.1) with
        | true => match leftA seen es with
          | [] => ret1 (.val (.tup [.b false])) hp nx
          | e :: l => some ((e :: l).map fun e => (.val (.tup [.b true, e.1, e.2]), hp.set id (.miter (some mid) (e.1 :: sortS seen)), nx))
        | false => none
      | _ => none
    | _, _ => none
  | _ => none

end Go.Ev

namespace Go.Ev

/-- A walk of ours goes on. -/
theorem HR.putIter {X : Cx} {hp : Hp} (H : HR X hp) {id : Nat} {blk blk' : Blk} {o o' : Obj} (hg : hp.get id = some blk) (hgen : blk.gen = 0) (hgen' : blk'.gen = 0) (hI : ¬ X.I (X.m id 0).1) (hO : ¬ X.O (X.m id 0).1)
    (hc : X.w.heap[(X.m id 0).1]? = some o) (hn1 : ∀ cc ty fz, o ≠ .cells cc ty fz) (hn2 : ∀ e c, o ≠ .map e c)
    (hn3 : ∀ L, o = .loop L → ∃ L' : Loop, o' = .loop L' ∧ L'.tmps = L.tmps ∧ L'.params = L.params ∧ L'.assign = L.assign ∧ L'.body = L.body)
    (hb : ∀ (_ : Ext X (X.put (X.m id 0).1 o')), BR (X.put (X.m id 0).1 o') id blk') :
    Ext X (X.put (X.m id 0).1 o') ∧ HR (X.put (X.m id 0).1 o') (hp.set id blk') := by
  have E : Ext X (X.put (X.m id 0).1 o') := Ext.put hI hO (fun cc ty fz h => by rw [hc] at h; exact absurd (Option.some.inj h) (hn1 _ _ _)) (fun e c h => by
    rw [hc] at h; exact absurd (Option.some.inj h) (hn2 _ _)) (fun L h => by
    rw [hc] at h; exact hn3 L (Option.some.inj h))
  refine ⟨E, ?_⟩
  have := H.put (blk := blk) (blk' := blk') (o := o') hg (by rw [hgen, hgen']) (by rw [hgen]; exact E) (by rw [hgen]; exact hb E) (fun id2 mid seen hne hg2 hpl => by
    exfalso
    obtain ⟨_, _, _, ents, clock, sc, h4, _⟩ := H.br _ _ hg2
    rw [hpl, hgen, hc] at h4
    exact hn2 _ _ (Option.some.inj h4))
  rw [hgen] at this
  exact this

theorem EsR.mem' {X : Cx} : ∀ {es : List (AV × AV)} {p : List MapEntry}, EsR X es p → ∀ e ∈ es, ∃ c ∈ p, VR X e.1 c.key ∧ VR X e.2 c.val
  | [], p, h, c, hc => by cases hc
  | e :: es, p, h, x, hx => by
    simp only [EsR] at h
    obtain ⟨c0, p', rfl, h1, h2, h3⟩ := h
    rcases List.mem_cons.1 hx with rfl | hx
    · exact ⟨c0, by simp, h1, h2⟩
    · obtain ⟨c', hc', h4⟩ := EsR.mem' h3 x hx
      exact ⟨c', by simp [hc'], h4⟩

theorem run_mapNext (P : Program) (w : World) {n : Nat} (hn : 1 ≤ n) : ∃ i w', i < n ∧ (choose (.mapNext n)).run P w = .ok i w' ∧ w'.heap = w.heap ∧ (w'.os = w.os ∧ w'.tape = w.tape ∧ w'.output = w.output) := by
  by_cases h1 : n ≤ 1
  · exact ⟨0, w, by omega, by simp [choose, Sem.run, Question.forced, h1], rfl, rfl, rfl, rfl⟩
  · refine ⟨w.tape w.drawn (.mapNext n) % n, { w with drawn := w.drawn + 1 }, Nat.mod_lt _ (by omega), ?_, rfl, rfl, rfl, rfl⟩
    simp [choose, Sem.run, Question.forced, h1, Question.cut]

theorem born_inj : ∀ {l : List MapEntry}, (l.map (·.born)).Nodup → ∀ {a b : MapEntry}, a ∈ l → b ∈ l → a.born = b.born → a = b
  | [], _, _, _, h, _, _ => by cases h
  | e :: l, hn, a, b, ha, hb, h => by
    simp only [List.map_cons, List.nodup_cons, List.mem_map, not_exists, not_and] at hn
    rcases List.mem_cons.1 ha with ha' | ha' <;> rcases List.mem_cons.1 hb with hb' | hb'
    · rw [ha', hb']
    · subst ha'; exact absurd h.symm (hn.1 b hb')
    · subst hb'; exact absurd h (hn.1 a ha')
    · exact born_inj hn.2 ha' hb' h

theorem evNext_ok {P : Program} {X : Cx} {hp : Hp} (H : HR X hp) {a : AV} {str : Bool} (ρ : Operand → Value) (x : Operand) (ha : VR X a (ρ x)) (o : Oper) (ho : o.op = .next x str) :
    OK X (evNext a str hp X.nx) ((execOp ρ o).run P X.w) := by
  have hrun : (execOp ρ o).run P X.w = ((Instr.next (ρ x) str o.type).run P X.w).andThen fun v w => .ok (.value v) w := by
    simp [execOp, ho]
  rw [hrun]
  unfold evNext
  split
  · rename_i id
    simp only [VR] at ha
    obtain ⟨hid, ha⟩ := ha
    have over : ∀ (Y : Cx), VR Y (.tup [.b false]) (.tuple #[.bool false]) := fun Y => ⟨_, rfl, .bool false, [], rfl, rfl, rfl⟩
    split
    · rename_i s pos hg
      obtain ⟨hI, hO, hc⟩ := H.br _ _ hg
      have hgo : (getObj (X.m id 0).1).run P X.w = .ok (.stringIter s pos) X.w := by simp [getObj, Sem.run, hc]
      have hlt := (Array.getElem?_eq_some_iff.1 hc).1
      split
      · rename_i hb
        have hb : pos + 1 ≤ s.size := Nat.le_of_ble_eq_true hb
        have hb' : pos < s.size := hb
        obtain ⟨E, H'⟩ := H.putIter (blk' := .siter s (pos + (Utf8.decode s pos).2)) (o' := .stringIter s (pos + (Utf8.decode s pos).2)) hg rfl rfl hI hO hc (by simp) (by simp) (by simp) (fun E => ⟨hI, hO, get_put_same hlt⟩)
        refine OK.one ⟨E, rfl, H', .tuple #[.bool true, .int .i64 pos, .int .i32 (Utf8.decode s pos).1], ?_, ?_⟩
        · simp [Instr.next, ha, hgo, hb', setObj, Sem.run, goInt, Cx.put]
          rw [hc]; rfl
        · exact ⟨_, rfl, .bool true, _, rfl, rfl, .int .i64 pos, _, rfl, rfl, .int .i32 _, [], rfl, rfl, rfl⟩
      · rename_i hb
        have hb' : ¬ pos < s.size := fun hlt => by
          have : Nat.blt pos s.size = true := by rw [Nat.blt, Nat.ble_eq]; exact hlt
          rw [this] at hb; cases hb
        refine OK.val H ?_ (over X)
        simp [Instr.next, ha, hgo, hb']
    · rename_i seen hg
      obtain ⟨hI, hO, _, hc⟩ := H.br _ _ hg
      have hgo : (getObj (X.m id 0).1).run P X.w = .ok (.mapIter none 0 #[] 0) X.w := by simp [getObj, Sem.run, hc]
      refine OK.val H ?_ (over X)
      simp [Instr.next, ha, hgo]
    · rename_i mid seen hg
      split
      · rename_i es hgm
        obtain ⟨hI, hO, hmid, ents, clock, sc, hcm, hc, hs1, hs2, hs3⟩ := H.br _ _ hg
        obtain ⟨_, _, ents', clock', hcm', hmr⟩ := H.br _ _ hgm
        have hsame : ents' = ents ∧ clock' = clock := by rw [hcm] at hcm'; cases hcm'; exact ⟨rfl, rfl⟩
        obtain ⟨rfl, rfl⟩ := hsame
        have hlt := (Array.getElem?_eq_some_iff.1 hc).1
        have hgo : (getObj (X.m id 0).1).run P X.w = .ok (.mapIter (some (X.m mid 0).1) clock' sc clock') X.w := by simp [getObj, Sem.run, hc]
        have hgo2 : (getObj (X.m mid 0).1).run P X.w = .ok (.map ents' clock') X.w := by simp [getObj, Sem.run, hcm]
        split
        · rename_i hcond
          simp only [Bool.and_eq_true] at hcond
          obtain ⟨⟨hall, hsk⟩, hon⟩ := hcond
          have hmr0 := hmr
          obtain ⟨p, hp1, hp2, hp3, hp4⟩ := hmr
          have hguard : (!sc.isEmpty && !ents'.isEmpty && ents'.all fun x => decide (x.born ≥ clock')) = false := by
            rw [Bool.eq_false_iff]
            intro h
            simp only [Bool.and_eq_true] at h
            obtain ⟨⟨_, h2⟩, h3⟩ := h
            have hne : ents'.toList ≠ [] := by
              intro e
              simp at h2
              exact h2 (by simpa using e)
            obtain ⟨c, l, hcl⟩ := List.exists_cons_of_ne_nil hne
            have hcm : c ∈ ents'.toList := by rw [hcl]; simp
            have := hp3 c hcm
            rw [← Array.all_toList, List.all_eq_true] at h3
            have := h3 c hcm
            simp at this
            omega
          have hseen : ∀ c ∈ ents'.toList, ∀ e ∈ es, e.1.toV = some c.key → (seen.any (fun k => kE k e.1) = true ↔ c.born ∈ sc.toList) := by
            intro c hcm e he hek
            rw [hs1 c hcm, List.any_eq_true]
            constructor
            · rintro ⟨k, hk1, hk2⟩
              have := kE_eq hk2
              subst this
              exact ⟨_, hk1, hek⟩
            · rintro ⟨k, hk1, hk2⟩
              have h1 := List.all_eq_true.1 hsk k hk1
              have h2 := List.all_eq_true.1 hall e he
              have := kfl_inj h1 h2 hk2 hek
              exact ⟨k, hk1, by rw [this]; exact kE_refl h2⟩
          generalize hleft : (ents'.filter fun e => !sc.contains e.born) = left
          have hold : left.filter (fun e => decide (e.born < clock')) = left := by
            rw [Array.filter_eq_self]
            intro c hcl
            rw [← hleft] at hcl
            have := (Array.mem_filter.1 hcl).1
            simpa using hp3 c (by simpa using this)
          have hnew : left.filter (fun e => decide (e.born ≥ clock')) = #[] := by
            rw [Array.filter_eq_empty_iff]
            intro c hcl
            rw [← hleft] at hcl
            have := (Array.mem_filter.1 hcl).1
            have := hp3 c (by simpa using this)
            simp; omega
          have hrel : ∀ c ∈ left.toList, c ∈ ents'.toList ∧ c.born ∉ sc.toList := by
            intro c hcl
            rw [← hleft] at hcl
            have := Array.mem_filter.1 (by simpa using hcl : c ∈ Array.filter (fun e => !sc.contains e.born) ents')
            refine ⟨by simpa using this.1, ?_⟩
            simpa using this.2
          split
          · rename_i hl0
            have hle : left = #[] := by
              rw [← hleft, Array.filter_eq_empty_iff]
              intro c hcm
              have hcm : c ∈ ents'.toList := by simpa using hcm
              obtain ⟨e, he, he1, _⟩ := hp2.mem c (hp1.mem_iff.2 hcm)
              have hek := kfl_key (List.all_eq_true.1 hall e he) he1
              have hx : ¬ (e ∈ leftA seen es) := by rw [hl0]; simp
              have hany : seen.any (fun k => kE k e.1) = true := by
                cases hb : seen.any (fun k => kE k e.1)
                · exact absurd (List.mem_filter.2 ⟨he, by simp [hb]⟩) hx
                · rfl
              have := (hseen c hcm e he hek).1 hany
              simpa using this
            refine OK.val H ?_ (over X)
            simp only [Instr.next, ha, Sem.run_bind, hgo, hgo2, Result.andThen_ok, hguard, hleft, hle]
            simp [choose, Sem.run, Question.forced]
          · rename_i e0 l0 hl0
            have hne : left.isEmpty = false := by
              have he0 : e0 ∈ leftA seen es := by rw [hl0]; simp
              obtain ⟨he1, he2⟩ := List.mem_filter.1 he0
              obtain ⟨c, hcp, hc1, _⟩ := hp2.mem' e0 he1
              have hcm : c ∈ ents'.toList := hp1.mem_iff.1 hcp
              have hek := kfl_key (List.all_eq_true.1 hall e0 he1) hc1
              have hns : c.born ∉ sc.toList := fun h => by
                rw [(hseen c hcm e0 he1 hek).2 h] at he2
                simp at he2
              have hcl : c ∈ left := by
                rw [← hleft]
                exact Array.mem_filter.2 ⟨by simpa using hcm, by simpa using hns⟩
              rw [Bool.eq_false_iff]
              intro h
              have : left = #[] := by simpa using h
              rw [this] at hcl
              simp at hcl
            have hpos : 1 ≤ left.size := by
              rcases Nat.eq_zero_or_pos left.size with h | h
              · have : left = #[] := Array.eq_empty_of_size_eq_zero h
                rw [this] at hne; simp at hne
              · exact h
            obtain ⟨i, w', hi, hch, hh, hos⟩ := run_mapNext P X.w hpos
            obtain ⟨c, hci⟩ : ∃ c, left[i]? = some c := ⟨left[i], by simp [hi]⟩
            obtain ⟨hcm, hcs⟩ := hrel c (by simpa using Array.mem_of_getElem? hci)
            obtain ⟨e, he, he1, he2⟩ := hp2.mem c (hp1.mem_iff.2 hcm)
            have hke := List.all_eq_true.1 hall e he
            have hek := kfl_key hke he1
            have E0 := Ext.at (X := X) (w := w') hh hos
            have H0 := H.at (w := w') hh E0
            have hc' : (X.at w').w.heap[((X.at w').m id 0).1]? = some (.mapIter (some (X.m mid 0).1) clock' sc clock') := by
              show w'.heap[(X.m id 0).1]? = _
              rw [hh]; exact hc
            have hne2 : (X.m mid 0).1 ≠ (X.m id 0).1 := by
              intro he'
              rw [he', hc] at hcm'
              cases hcm'
            obtain ⟨E1, H1⟩ := H0.putIter (blk' := .miter (some mid) (e.1 :: sortS seen)) (o' := .mapIter (some (X.m mid 0).1) clock' (sc.push c.born) clock') hg rfl rfl hI hO hc' (by simp) (by simp) (by simp) (fun E => by
              refine ⟨hI, hO, hmid, ents', clock', sc.push c.born, ?_, get_put_same (by show _ < w'.heap.size; rw [hh]; exact hlt), ?_, ?_, by simp⟩
              · exact (get_put_ne hne2).trans (by show w'.heap[_]? = _; rw [hh]; exact hcm')
              · intro c' hc'm
                simp only [Array.toList_push, List.mem_append, List.mem_cons, mem_sortS]
                constructor
                · rintro (h | h)
                  · obtain ⟨k, hk1, hk2⟩ := (hs1 c' hc'm).1 h
                    exact ⟨k, .inr hk1, hk2⟩
                  · have : c' = c := born_inj hp4 hc'm hcm (by simpa using h)
                    subst this
                    exact ⟨e.1, .inl rfl, hek⟩
                · rintro ⟨k, hk | hk, hk2⟩
                  · subst hk
                    have := onceK_ok hmr0 hall hke (List.all_eq_true.1 hon e he) hcm hc'm hek hk2
                    subst this
                    exact .inr (.inl rfl)
                  · exact .inl ((hs1 c' hc'm).2 ⟨k, hk, hk2⟩)
              · intro k rest hkr
                simp only [List.cons.injEq] at hkr
                obtain ⟨rfl, _⟩ := hkr
                exact ⟨c, hcm, by simp, hek⟩)
            have hmem : e ∈ leftA seen es := by
              refine List.mem_filter.2 ⟨he, ?_⟩
              have : ¬ seen.any (fun k => kE k e.1) = true := fun h => hcs ((hseen c hcm e he hek).1 h)
              cases hb : seen.any (fun k => kE k e.1)
              · rfl
              · exact absurd hb this
            intro l hl
            simp only [Option.some.injEq] at hl
            subst hl
            refine ⟨.val (.tup [.b true, e.1, e.2]), hp.set id (.miter (some mid) (e.1 :: sortS seen)), X.nx, _, ?_, E0.trans E1, rfl, H1, .tuple #[.bool true, c.key, c.val], ?_, ?_⟩
            · rw [← hl0]
              exact List.mem_map.2 ⟨e, hmem, rfl⟩
            · simp only [Instr.next, ha, Sem.run_bind, hgo, hgo2, Result.andThen_ok, hguard, hleft, hold, hnew, hne]
              have hci' : (left.map some)[i]? = some (some c) := by simp [hci]
              simp [hch, hci, setObj, Sem.run, hh, hc, Cx.put, Cx.at]
            · exact ⟨_, rfl, .bool true, _, rfl, rfl, c.key, _, rfl, (he1.ext E0).ext E1, c.val, [], rfl, (he2.ext E0).ext E1, rfl⟩
        · exact OK.none
      · exact OK.none
    · exact OK.none
  · exact OK.none

end Go.Ev

namespace Go.Ev

/-! ## entry -/

def evEntry (x : AV) (hp : Hp) (nx : Nat) : Outs :=
  match x with
  | .itr id => match hp.get id with
    | some (.miter (some mid) (k :: _)) => match hp.get mid with
      | some (.map es) => match es.all (fun e => kfl e.1) && kfl k, es.filter (fun e => kE k e.1) with
        | true, [e] => ret1 (.val (.tup [e.1, e.2])) hp nx
        | _, _ => none
      | _ => none
    | _ => none
  | _ => none

theorem evEntry_ok {P : Program} {X : Cx} {hp : Hp} (H : HR X hp) {a : AV} (ρ : Operand → Value) (x : Operand) (ha : VR X a (ρ x)) (o : Oper) (ho : o.op = .entry x) :
    OK X (evEntry a hp X.nx) ((execOp ρ o).run P X.w) := by
  classical
  have hrun : (execOp ρ o).run P X.w = ((Instr.entry (ρ x)).run P X.w).andThen fun v w => .ok (.value v) w := by
    simp [execOp, ho]
  rw [hrun]
  unfold evEntry
  split
  · rename_i id
    simp only [VR] at ha
    obtain ⟨hid, ha⟩ := ha
    split
    · rename_i mid k rest hg
      split
      · rename_i es hgm
        split
        · rename_i e hcond he
          simp only [Bool.and_eq_true] at hcond
          obtain ⟨hI, hO, hmid, ents, clock, sc, hcm, hc, hs1, hs2, hs3⟩ := H.br _ _ hg
          obtain ⟨_, _, ents', clock', hcm', hmr⟩ := H.br _ _ hgm
          have hsame : ents' = ents ∧ clock' = clock := by rw [hcm] at hcm'; cases hcm'; exact ⟨rfl, rfl⟩
          obtain ⟨rfl, rfl⟩ := hsame
          obtain ⟨c, hcmem, hback, hkc⟩ := hs2 k rest rfl
          have hgo : (getObj (X.m id 0).1).run P X.w = .ok (.mapIter (some (X.m mid 0).1) clock' sc clock') X.w := by simp [getObj, Sem.run, hc]
          have hgo2 : (getObj (X.m mid 0).1).run P X.w = .ok (.map ents' clock') X.w := by simp [getObj, Sem.run, hcm]
          obtain ⟨p, hp1, hp2, hp3, hp4⟩ := hmr
          have hf := hp2.filterE hcond.2 hkc hcond.1
          rw [he] at hf
          simp only [EsR] at hf
          obtain ⟨c0, p', hp0, h1, h2, rfl⟩ := hf
          have m1 : c ∈ p.filter fun y => decide (y.key = c.key) := List.mem_filter.2 ⟨hp1.mem_iff.2 hcmem, by simp⟩
          have e1 : p.filter (fun y => decide (y.key = c.key)) = [c0] := by rw [← hp0]
          rw [e1] at m1
          simp only [List.mem_singleton] at m1
          subst m1
          have hfind : ents'.find? (fun y => y.born == c.born) = some c := by
            have hl : ents'.toList.find? (fun y => y.born == c.born) = some c := by
              cases hx : ents'.toList.find? (fun y => y.born == c.born) with
              | none =>
                have := List.find?_eq_none.1 hx c hcmem
                simp at this
              | some d =>
                have hd1 := List.mem_of_find?_eq_some hx
                have hd2 := List.find?_some hx
                rw [born_inj hp4 hd1 hcmem (by simpa using hd2)]
            obtain ⟨l⟩ := ents'
            simpa using hl
          refine OK.val (v := .tuple #[c.key, c.val]) H ?_ ⟨_, rfl, c.key, _, rfl, h1, c.val, [], rfl, h2, rfl⟩
          simp [Instr.entry, ha, hgo, hgo2, hback, hfind]
        · exact OK.none
      · exact OK.none
    · exact OK.none
  · exact OK.none

end Go.Ev

namespace Go.Ev

/-! ## The rest of the operations -/

def evPick (c a b : AV) (hp : Hp) (nx : Nat) : Outs :=
  match c with
  | .b true => ret1 (.val a) hp nx
  | .b false => ret1 (.val b) hp nx
  | _ => none

def evNilCheck (x : AV) (hp : Hp) (nx : Nat) : Outs :=
  match x with
  | .ptr id g off => ret1 (.val (.ptr id g off)) hp nx
  | .cptr cs off => ret1 (.val (.cptr cs off)) hp nx
  | .fn (.func f) a b => ret1 (.val (.fn (.func f) a b)) hp nx
  | .fn (.yield f) a b => ret1 (.val (.fn (.yield f) a b)) hp nx
  | _ => none

def isIf : TypeDesc → Bool
  | .interface _ => true
  | _ => false

def evMakeInterface (T : TP) (t : TypeId) (x : AV) (hp : Hp) (nx : Nat) : Outs :=
  match T.und t with
  | some d => match isIf d with
    | true => none
    | false => ret1 (.val (.iface t x)) hp nx
  | none => none

def evTypeAssert (T : TP) (x : AV) (asserted : TypeId) (ok : Bool) (hp : Hp) (nx : Nat) : Outs :=
  match T.und asserted with
  | some d => match isIf d, x with
    | false, .iface t v => match Nat.beq t asserted, ok with
      | true, true => ret1 (.val (.tup [v, .b true])) hp nx
      | true, false => ret1 (.val v) hp nx
      | false, true => match zeroA T asserted with
        | some z => ret1 (.val (.tup [z, .b false])) hp nx
        | none => none
      | false, false => none
    | false, .nilif => match ok with
      | true => match zeroA T asserted with
        | some z => ret1 (.val (.tup [z, .b false])) hp nx
        | none => none
      | false => none
    | _, _ => none
  | none => none

section
variable {P : Program} {X : Cx} {hp : Hp} (H : HR X hp)
include H

theorem evPick_ok {c a b : AV} (ρ : Operand → Value) (x y z : Operand) (hc : VR X c (ρ x)) (ha : VR X a (ρ y)) (hb : VR X b (ρ z)) (o : Oper) (ho : o.op = .pick x y z) :
    OK X (evPick c a b hp X.nx) ((execOp ρ o).run P X.w) := by
  unfold evPick
  split
  · simp only [VR] at hc
    exact OK.val H (by simp [execOp, ho, hc, asBool]) ha
  · simp only [VR] at hc
    exact OK.val H (by simp [execOp, ho, hc, asBool]) hb
  · exact OK.none

theorem evNilCheck_ok {a : AV} (ρ : Operand → Value) (x : Operand) (ha : VR X a (ρ x)) (o : Oper) (ho : o.op = .nilCheck x) : OK X (evNilCheck a hp X.nx) ((execOp ρ o).run P X.w) := by
  have ha0 := ha
  unfold evNilCheck
  split
  · simp only [VR] at ha
    exact OK.val (v := ρ x) H (by simp [execOp, ho, ha.2.2]) ha0
  · simp only [VR] at ha
    obtain ⟨B, o', cc, ty, fz, _, _, h3, _⟩ := ha
    exact OK.val (v := ρ x) H (by simp [execOp, ho, h3]) ha0
  · simp only [VR] at ha
    obtain ⟨f', as', bs', h1, h2, _⟩ := ha
    simp only [FnR] at h2
    subst h2
    exact OK.val (v := ρ x) H (by simp [execOp, ho, h1]) ha0
  · simp only [VR] at ha
    obtain ⟨f', as', bs', h1, h2, _⟩ := ha
    simp only [FnR] at h2
    obtain ⟨_, rfl⟩ := h2
    exact OK.val (v := ρ x) H (by simp [execOp, ho, h1]) ha0
  · exact OK.none

theorem evMakeInterface_ok {t : TypeId} {a : AV} (ρ : Operand → Value) (x : Operand) (ha : VR X a (ρ x)) (o : Oper) (ho : o.op = .makeInterface t x) :
    OK X (evMakeInterface (TP.of P) t a hp X.nx) ((execOp ρ o).run P X.w) := by
  unfold evMakeInterface
  split
  · rename_i d hu
    have hu := tpU hu
    split
    · exact OK.none
    · rename_i hd
      refine OK.val (v := .iface t (ρ x)) H ?_ ⟨_, rfl, ha⟩
      cases d <;> first | (simp [isIf] at hd; done) | simp [execOp, ho, Instr.makeInterface, run_underlying' hu]
  · exact OK.none

theorem evTypeAssert_ok {xt t : TypeId} {ok : Bool} {a : AV} (ρ : Operand → Value) (x : Operand) (ha : VR X a (ρ x)) (o : Oper) (ho : o.op = .typeAssert x xt t ok) :
    OK X (evTypeAssert (TP.of P) a t ok hp X.nx) ((execOp ρ o).run P X.w) := by
  have hrun : (execOp ρ o).run P X.w = ((Instr.typeAssert (ρ x) xt t ok).run P X.w).andThen fun v w => .ok (.value v) w := by
    simp [execOp, ho]
  rw [hrun]
  unfold evTypeAssert
  split
  · rename_i d hu
    have hu := tpU hu
    have tup2 : ∀ {v : AV} {vv : Value} (b : Bool), VR X v vv → VR X (.tup [v, .b b]) (.tuple #[vv, .bool b]) := fun {v vv} b hvv => by
      exact ⟨_, rfl, vv, _, rfl, hvv, .bool b, [], rfl, rfl, rfl⟩
    split
    · rename_i u v hd
      simp only [VR] at ha
      obtain ⟨vv, h1, h2⟩ := ha
      split
      · rename_i hb
        have := Nat.eq_of_beq_eq_true hb
        subst this
        refine OK.val (v := .tuple #[vv, .bool true]) H ?_ (tup2 true h2)
        cases d <;> first | (simp [isIf] at hd; done) | simp [Instr.typeAssert, run_underlying' hu, h1]
      · rename_i hb
        have := Nat.eq_of_beq_eq_true hb
        subst this
        refine OK.val (v := vv) H ?_ h2
        cases d <;> first | (simp [isIf] at hd; done) | simp [Instr.typeAssert, run_underlying' hu, h1]
      · rename_i hb
        have hne := Nat.ne_of_beq_eq_false hb
        split
        · rename_i z hz
          obtain ⟨vz, hz1, hz2⟩ := zeroA_ok (X := X) hz
          refine OK.val (v := .tuple #[vz, .bool false]) H ?_ (tup2 false hz2)
          cases d <;> first | (simp [isIf] at hd; done) | simp [Instr.typeAssert, run_underlying' hu, h1, hne, hz1]
        · exact OK.none
      · exact OK.none
    · rename_i hd
      simp only [VR] at ha
      split
      · split
        · rename_i z hz
          obtain ⟨vz, hz1, hz2⟩ := zeroA_ok (X := X) hz
          refine OK.val (v := .tuple #[vz, .bool false]) H ?_ (tup2 false hz2)
          cases d <;> first | (simp [isIf] at hd; done) | simp [Instr.typeAssert, run_underlying' hu, ha, hz1]
        · exact OK.none
      · exact OK.none
    · exact OK.none
  · exact OK.none

end

end Go.Ev

namespace Go.Ev

/-! ## One operation -/

def Act0 (tm : Tm) : Operand → AV
  | .tmp t => tm.get t
  | .const v => ofV v
  | .global _ => .any
  | .func f => .fn (.func f) [] []

def mapR (ρ : Operand → AV) : List Operand → List AV
  | [] => []
  | x :: xs => ρ x :: mapR ρ xs

theorem mapR_ok {X : Cx} {ρ : Operand → AV} {ρc : Operand → Value} (hρ : ∀ x, VR X (ρ x) (ρc x)) : ∀ (l : List Operand), VRL X (mapR ρ l) (l.map ρc)
  | [] => rfl
  | x :: xs => by simp only [mapR, List.map_cons, VRL]; exact ⟨_, _, rfl, hρ x, mapR_ok hρ xs⟩

def appL : List AV → List AV → List AV
  | [], bs => bs
  | a :: as, bs => a :: appL as bs

theorem appL_eq : ∀ (as bs : List AV), appL as bs = as ++ bs
  | [], _ => rfl
  | a :: as, bs => by simp [appL, appL_eq as bs]

def evCallV (T : TP) (f : AV) (args : List AV) (hp : Hp) (nx : Nat) : Outs :=
  match f with
  | .fn (.func g) first cap => match T.fn g with
    | some _ => ret1 (.enter g (appL first (appL args cap))) hp nx
    | none => none
  | .fn (.yield l) [] [] => ret1 (.round l args) hp nx
  | _ => none

def evDefer (f : AV) (args : List AV) (hp : Hp) (nx : Nat) : Outs :=
  match f with
  | .fn (.func g) first cap => ret1 (.dfr (.call (.func g) cap (appL first args))) hp nx
  | _ => none

def evPanic (x : AV) (hp : Hp) (nx : Nat) : Outs :=
  match x with
  | .iface t v => ret1 (.pan (.iface t v)) hp nx
  | _ => none

def evBuiltin (T : TP) (ρ : Operand → AV) (b : Builtin) (args : List Operand) (ts : List TypeId) (o : Oper) (hp : Hp) (nx : Nat) : Outs :=
  match b with
  | .append => match args, ts with
    | [a, b], [s, t] => evAppend T s t (ρ a) (ρ b) hp nx
    | _, _ => none
  | .len => match args, ts with
    | [a], [t] => evLen T ρ t a o hp nx
    | _, _ => none
  | .copy => match args, ts with
    | [a, b], [s, t] => evCopy T s t (ρ a).wk (ρ b) hp nx
    | _, _ => none
  | .min => evFlat T ρ o hp nx
  | .max => evFlat T ρ o hp nx
  | _ => none

def evOp (T : TP) (ρ : Operand → AV) (o : Oper) (hp : Hp) (nx : Nat) : Outs :=
  match o.op with
  | .move x => ret1 (.val (ρ x)) hp nx
  | .assign x => ret1 (.val (ρ x)) hp nx
  | .pick c a b => evPick (ρ c) (ρ a) (ρ b) hp nx
  | .alloc t => evAlloc T t hp nx
  | .box _ x => evBox (ρ x) hp nx
  | .build t ps => evBuild T t (evParts ρ ps.toList) hp nx
  | .buildSlice t n ps => evBuildSlice T t n (evParts ρ ps.toList) hp nx
  | .load t a => evLoad T t (ρ a) hp nx
  | .store t a x => evStore T t (ρ a) (ρ x) hp nx
  | .nilCheck x => evNilCheck (ρ x) hp nx
  | .binOp op t x y _ => evBin T (fun x => (ρ x).wk) op t x y o hp nx
  | .unOp .. => evFlat T ρ o hp nx
  | .convert src dst x => evConv T ρ src dst x o hp nx
  | .makeInterface t x => evMakeInterface T t (ρ x) hp nx
  | .makeFunc (.func f) first cap => ret1 (.val (.fn (.func f) (mapR ρ first.toList) (mapR ρ cap.toList))) hp nx
  | .makeMap t r => evMakeMap T t (r.map ρ) hp nx
  | .makeSlice t l c => evMakeSlice T t (ρ l) (ρ c) hp nx
  | .slice t x lo hi mx => evSlice T (fun x => (ρ x).wk) t x lo hi mx o hp nx
  | .fieldAddr s x f => evFieldAddr T s (ρ x) f hp nx
  | .field t x f => evField T t (ρ x) f hp nx
  | .indexAddr t x i => evIndexAddr T t (ρ x).wk (ρ i) hp nx
  | .index t x i => evIndex T ρ t x i o hp nx
  | .lookup t m k ok => evLookup T t (ρ m) (ρ k) ok hp nx
  | .mapUpdate t m k v => evMapUpdate T t (ρ m) (ρ k) (ρ v) hp nx
  | .insert t m k v => evMapUpdate T t (ρ m) (ρ k) (ρ v) hp nx
  | .mapEntry t m k => evMapEntry T t (ρ m) (ρ k) hp nx
  | .entryStore t m s v => evEntryStore T t (ρ m) (ρ s) (ρ v) hp nx
  | .range t x => evRange T t (ρ x) hp nx
  | .next it s => evNext (ρ it) s hp nx
  | .entry it => evEntry (ρ it) hp nx
  | .typeAssert x _ t ok => evTypeAssert T (ρ x) t ok hp nx
  | .extract x i => evExtract (ρ x) i hp nx
  | .panic x => evPanic (ρ x) hp nx
  | .defer { callee := .value f, args, argTypes := _ } => evDefer (ρ f) (mapR ρ args.toList) hp nx
  | .call { callee := .value f, args, argTypes := _ } => evCallV T (ρ f) (mapR ρ args.toList) hp nx
  | .call { callee := .builtin b, args, argTypes } => evBuiltin T ρ b args.toList argTypes.toList o hp nx
  | _ => none

/-- A slice literal that is appended to, or appended, in the same region is not written. -/
def appTo (d : Tmp) : List Oper → Bool
  | [] => false
  | o :: os => match o.op with
    | .call { callee := .builtin .append, args, argTypes := _ } => match hasTmp d args.toList with
      | true => true
      | false => appTo d os
    | _ => appTo d os
where
  hasTmp (d : Tmp) : List Operand → Bool
    | [] => false
    | .tmp t :: xs => match Nat.beq t d with
      | true => true
      | false => hasTmp d xs
    | _ :: xs => hasTmp d xs

def evOpF (T : TP) (ops : List Oper) (ρ : Operand → AV) (o : Oper) (hp : Hp) (nx : Nat) : Outs :=
  match o.op, o.dst with
  | .buildSlice t n ps, some d => match appTo d ops with
    | true => evBuildSlice T t n (evParts ρ ps.toList) hp nx
    | false => evBuildSliceW T t n (evParts ρ ps.toList) hp nx
  | _, _ => evOp T ρ o hp nx

section
variable {P : Program} {X : Cx} {hp : Hp} (H : HR X hp)
include H

theorem run_callFunc' {f : FuncId} {fn : Func} (h : fnOf P f = some fn) (args : Array Value) (w : World) : (callFunc f args).run P w = .ok (.enter f args) w := by
  have _ := H
  obtain ⟨h1, h2, h3⟩ := fnOf_spec h
  have h3' : fn.body ≠ none := by intro e; simp [e] at h3
  have h2' : fn.name ≠ "runtime.NumGoroutine" := by simpa using h2
  simp [callFunc, h1, h2', h3']

theorem evCallV_ok {fv : AV} {ρ : Operand → AV} {ρc : Operand → Value} (hρ : ∀ x, VR X (ρ x) (ρc x)) (f : Operand) (args : Array Operand) (ts : Array TypeId) (hf : VR X fv (ρc f)) (o : Oper)
    (ho : o.op = .call { callee := .value f, args, argTypes := ts }) : OK X (evCallV (TP.of P) fv (mapR ρ args.toList) hp X.nx) ((execOp ρc o).run P X.w) := by
  have hargs := mapR_ok hρ args.toList
  unfold evCallV
  split
  · rename_i g first cap
    simp only [VR] at hf
    obtain ⟨f', as', bs', h1, h2, h3, h4⟩ := hf
    simp only [FnR] at h2
    subst h2
    split
    · rename_i fn hfn
      have hfn : fnOf P g = some fn := hfn
      refine OK.one ⟨Ext.refl X, rfl, H, as' ++ args.map ρc ++ bs', ?_, ?_⟩
      · simp [execOp, ho, resolve, h1, Deferred.ofValue, invoke, run_callFunc' H hfn]
      · rw [appL_eq, appL_eq]
        simp only [Array.toList_append, Array.toList_map]
        rw [List.append_assoc]
        exact h3.append (hargs.append h4)
    · exact OK.none
  · rename_i l
    simp only [VR] at hf
    obtain ⟨f', as', bs', h1, h2, h3, h4⟩ := hf
    simp only [FnR] at h2
    obtain ⟨h2, rfl⟩ := h2
    have ha0 : as' = #[] := by simp only [VRL] at h3; simpa using h3
    subst ha0
    refine OK.one ⟨Ext.refl X, rfl, H, P, args.map ρc, ?_, by simpa using hargs, h2⟩
    simp [execOp, ho, resolve, h1, Deferred.ofValue, invoke]
  · exact OK.none

theorem evDefer_ok {fv : AV} {ρ : Operand → AV} {ρc : Operand → Value} (hρ : ∀ x, VR X (ρ x) (ρc x)) (f : Operand) (args : Array Operand) (ts : Array TypeId) (hf : VR X fv (ρc f)) (o : Oper)
    (ho : o.op = .defer { callee := .value f, args, argTypes := ts }) : OK X (evDefer fv (mapR ρ args.toList) hp X.nx) ((execOp ρc o).run P X.w) := by
  have hargs := mapR_ok hρ args.toList
  unfold evDefer
  split
  · rename_i g first cap
    simp only [VR] at hf
    obtain ⟨f', as', bs', h1, h2, h3, h4⟩ := hf
    simp only [FnR] at h2
    subst h2
    refine OK.one ⟨Ext.refl X, rfl, H, { target := .fn (.func g) bs', args := as' ++ args.map ρc }, ?_, .func g, bs', rfl, rfl, h4, ?_⟩
    · simp [execOp, ho, resolve, h1, Deferred.ofValue]
    · rw [appL_eq]
      simpa using h3.append hargs
  · exact OK.none

theorem evPanic_ok {a : AV} (ρ : Operand → Value) (x : Operand) (ha : VR X a (ρ x)) (o : Oper) (ho : o.op = .panic x) : OK X (evPanic a hp X.nx) ((execOp ρ o).run P X.w) := by
  unfold evPanic
  split
  · rename_i t v
    have ha0 := ha
    simp only [VR] at ha
    obtain ⟨u, h1, h2⟩ := ha
    refine OK.one ⟨Ext.refl X, rfl, H, ρ x, ?_, ha0⟩
    simp [execOp, ho, h1, Instr.panic, goPanic]
  · exact OK.none

theorem evOp_ok {ρ : Operand → AV} {ρc : Operand → Value} (hρ : ∀ x, VR X (ρ x) (ρc x)) (o : Oper) : OK X (evOp (TP.of P) ρ o hp X.nx) ((execOp ρc o).run P X.w) := by
  have hwk : ∀ x, VR X ((fun x => (ρ x).wk) x) (ρc x) := fun x => (hρ x).wk
  unfold evOp
  split
  · rename_i x ho; exact OK.val (v := ρc x) H (by simp [execOp, ho]) (hρ x)
  · rename_i x ho; exact OK.val (v := ρc x) H (by simp [execOp, ho]) (hρ x)
  · rename_i c a b ho; exact evPick_ok H ρc c a b (hρ c) (hρ a) (hρ b) o ho
  · rename_i t ho; exact evAlloc_ok H ρc o ho
  · rename_i t x ho; exact evBox_ok H ρc x (hρ x) o ho
  · rename_i t ps ho; exact evBuild_ok H hρ ps o ho
  · rename_i t n ps ho; exact evBuildSlice_ok H hρ ps o ho
  · rename_i t a ho; exact evLoad_ok H (hρ a) ρc a rfl o ho
  · rename_i t a x ho; exact evStore_ok H ρc a x (hρ a) (hρ x) o ho
  · rename_i x ho; exact evNilCheck_ok H ρc x (hρ x) o ho
  · rename_i op t x y yt ho; exact evBin_ok H hwk o ho
  · exact evFlat_ok H hρ o
  · rename_i src dst x ho; exact evConv_ok H hρ o ho
  · rename_i t x ho; exact evMakeInterface_ok H ρc x (hρ x) o ho
  · rename_i f first cap ho
    refine OK.val (v := .func (.func f) (first.map ρc) (cap.map ρc)) H (by simp [execOp, ho, Instr.makeFunc]) ?_
    exact ⟨_, _, _, rfl, rfl, by simpa using mapR_ok hρ first.toList, by simpa using mapR_ok hρ cap.toList⟩
  · rename_i t r ho; exact evMakeMap_ok H hρ r o ho
  · rename_i t l c ho; exact evMakeSlice_ok H ρc l c (hρ l) (hρ c) o ho
  · rename_i t x lo hi mx ho; exact evSlice_ok H hwk o ho
  · rename_i s x f ho; exact evFieldAddr_ok H ρc x (hρ x) o ho
  · rename_i t x f ho; exact evField_ok H ρc x (hρ x) o ho
  · rename_i t x i ho; exact evIndexAddr_ok H ρc x i (hρ x).wk (hρ i) o ho
  · rename_i t x i ho; exact evIndex_ok H hρ o ho
  · rename_i t m k ok ho; exact evLookup_ok H ρc m k (hρ m) (hρ k) o ho
  · rename_i t m k v ho; exact evMapUpdate_ok H ρc m k v (hρ m) (hρ k) (hρ v) o (.inl ho)
  · rename_i t m k v ho; exact evMapUpdate_ok H ρc m k v (hρ m) (hρ k) (hρ v) o (.inr ho)
  · rename_i t m k ho; exact evMapEntry_ok H ρc m k (hρ m) (hρ k) o ho
  · rename_i t m s v ho; exact evEntryStore_ok H ρc m s v (hρ m) (hρ s) (hρ v) o ho
  · rename_i t x ho; exact evRange_ok H ρc x (hρ x) o ho
  · rename_i it s ho; exact evNext_ok H ρc it (hρ it) o ho
  · rename_i it ho; exact evEntry_ok H ρc it (hρ it) o ho
  · rename_i x xt t ok ho; exact evTypeAssert_ok H ρc x (hρ x) o ho
  · rename_i x i ho; exact evExtract_ok H ρc x (hρ x) o ho
  · rename_i x ho; exact evPanic_ok H ρc x (hρ x) o ho
  · rename_i f args ts ho; exact evDefer_ok H hρ f args ts (hρ f) o ho
  · rename_i f args ts ho; exact evCallV_ok H hρ f args ts (hρ f) o ho
  · rename_i b args ts ho
    unfold evBuiltin
    split
    · split
      · rename_i a b s t h1 h2
        exact evAppend_ok H ρc a b (hρ a) (hρ b) o (by rw [ho]; congr <;> (apply Array.toList_inj.1; simpa))
      · exact OK.none
    · split
      · rename_i a t h1 h2
        exact evLen_ok H hρ o (by rw [ho]; congr <;> (apply Array.toList_inj.1; simpa))
      · exact OK.none
    · split
      · rename_i a b s t h1 h2
        exact evCopy_ok H ρc a b (hρ a).wk (hρ b) o (by rw [ho]; congr <;> (apply Array.toList_inj.1; simpa))
      · exact OK.none
    · exact evFlat_ok H hρ o
    · exact evFlat_ok H hρ o
    · exact OK.none
  · exact OK.none

theorem evOpF_ok {ops : List Oper} {ρ : Operand → AV} {ρc : Operand → Value} (hρ : ∀ x, VR X (ρ x) (ρc x)) (o : Oper) : OK X (evOpF (TP.of P) ops ρ o hp X.nx) ((execOp ρc o).run P X.w) := by
  unfold evOpF
  split
  · rename_i t n ps d ho hd
    split
    · exact evBuildSlice_ok H hρ ps o ho
    · exact evBuildSliceW_ok H hρ ps o ho
  · exact evOp_ok H hρ o

end

end Go.Ev

namespace Go.Ev

/-! ## Equality that the kernel reckons -/

def bytesB (a b : ByteArray) : Bool := go a.data.toList b.data.toList
where
  go : List UInt8 → List UInt8 → Bool
    | [], [] => true
    | x :: xs, y :: ys => match Nat.beq x.toNat y.toNat with
      | true => go xs ys
      | false => false
    | _, _ => false

theorem bytesB.go_ok : ∀ {a b : List UInt8}, bytesB.go a b = true → a = b
  | [], [], _ => rfl
  | [], _ :: _, h => by simp [bytesB.go] at h
  | _ :: _, [], h => by simp [bytesB.go] at h
  | x :: xs, y :: ys, h => by
    simp only [bytesB.go] at h
    split at h
    · rename_i e
      have := UInt8.toNat_inj.1 (Nat.eq_of_beq_eq_true e)
      rw [this, bytesB.go_ok h]
    · cases h

theorem bytesB_ok {a b : ByteArray} (h : bytesB a b = true) : a = b := by
  have := bytesB.go_ok h
  cases a; cases b
  congr
  exact Array.toList_inj.1 this

def intB : Int → Int → Bool
  | .ofNat a, .ofNat b => Nat.beq a b
  | .negSucc a, .negSucc b => Nat.beq a b
  | _, _ => false

theorem intB_ok : ∀ {a b : Int}, intB a b = true → a = b
  | .ofNat a, .ofNat b, h => by rw [Nat.eq_of_beq_eq_true h]
  | .negSucc a, .negSucc b, h => by rw [Nat.eq_of_beq_eq_true h]
  | .ofNat _, .negSucc _, h => by cases h
  | .negSucc _, .ofNat _, h => by cases h

def kindB : IntKind → IntKind → Bool
  | .i8, .i8 | .i16, .i16 | .i32, .i32 | .i64, .i64 | .u8, .u8 | .u16, .u16 | .u32, .u32 | .u64, .u64 => true
  | _, _ => false

theorem kindB_ok {a b : IntKind} (h : kindB a b = true) : a = b := by cases a <;> cases b <;> first | rfl | cases h

def boolB : Bool → Bool → Bool
  | true, b => b
  | false, true => false
  | false, false => true

theorem boolB_ok {a b : Bool} (h : boolB a b = true) : a = b := by cases a <;> cases b <;> first | rfl | cases h

def fnB : Fn → Fn → Bool
  | .func f, .func g => Nat.beq f g
  | .yield f, .yield g => Nat.beq f g
  | _, _ => false

theorem fnB_ok {a b : Fn} (h : fnB a b = true) : a = b := by
  cases a <;> cases b <;> first | (cases h; done) | (simp only [fnB] at h; rw [Nat.eq_of_beq_eq_true h])

def and2 : Bool → Bool → Bool
  | true, b => b
  | false, _ => false

theorem and2_ok {a b : Bool} (h : and2 a b = true) : a = true ∧ b = true := by cases a <;> cases b <;> first | exact ⟨rfl, rfl⟩ | cases h

mutual
def avB : AV → AV → Bool
  | .any, .any => true
  | .und, .und => true
  | .b x, .b y => boolB x y
  | .i k n, .i l m => match intB n m with
    | true => kindB k l
    | false => false
  | .s x, .s y => bytesB x y
  | .nilp, .nilp => true
  | .ptr a b c, .ptr a' b' c' => match Nat.beq a a' with
    | true => and2 (Nat.beq b b') (Nat.beq c c')
    | false => false
  | .cptr cs o, .cptr cs' o' => match Nat.beq o o' with
    | true => avLB cs cs'
    | false => false
  | .snil, .snil => true
  | .sr a b c d e, .sr a' b' c' d' e' => match Nat.beq a a' with
    | true => and2 (and2 (Nat.beq b b') (Nat.beq c c')) (and2 (Nat.beq d d') (Nat.beq e e'))
    | false => false
  | .srf a b c d e, .srf a' b' c' d' e' => match Nat.beq a a' with
    | true => and2 (and2 (Nat.beq b b') (Nat.beq c c')) (and2 (Nat.beq d d') (Nat.beq e e'))
    | false => false
  | .sne f, .sne g => boolB f g
  | .itr a, .itr b => Nat.beq a b
  | .sv cs l f, .sv cs' l' f' => match Nat.beq l l' with
    | true => match boolB f f' with
      | true => avLB cs cs'
      | false => false
    | false => false
  | .nilmap, .nilmap => true
  | .map a, .map b => Nat.beq a b
  | .stmp a k, .stmp b l => match Nat.beq a b with
    | true => avB k l
    | false => false
  | .fn f as bs, .fn f' as' bs' => match fnB f f' with
    | true => match avLB as as' with
      | true => avLB bs bs'
      | false => false
    | false => false
  | .nilfn, .nilfn => true
  | .nilif, .nilif => true
  | .iface t v, .iface t' v' => match Nat.beq t t' with
    | true => avB v v'
    | false => false
  | .agg cs, .agg cs' => avLB cs cs'
  | .tup cs, .tup cs' => avLB cs cs'
  | _, _ => false
def avLB : List AV → List AV → Bool
  | [], [] => true
  | a :: as, b :: bs => match avB a b with
    | true => avLB as bs
    | false => false
  | _, _ => false
end

mutual
theorem avB_ok : ∀ {a b : AV}, avB a b = true → a = b := by
  intro a b h
  cases a <;> cases b <;> first | (simp only [avB] at h; first | (cases h; done) | skip) | skip
  all_goals try rfl
  case b.b => rw [boolB_ok h]
  case i.i =>
    split at h
    · rename_i e; rw [intB_ok e, kindB_ok h]
    · cases h
  case s.s => rw [bytesB_ok h]
  case ptr.ptr =>
    split at h
    · rename_i e
      obtain ⟨h1, h2⟩ := and2_ok h
      rw [Nat.eq_of_beq_eq_true e, Nat.eq_of_beq_eq_true h1, Nat.eq_of_beq_eq_true h2]
    · cases h
  case cptr.cptr =>
    split at h
    · rename_i e
      rw [Nat.eq_of_beq_eq_true e, avLB_ok h]
    · cases h
  case sr.sr =>
    split at h
    · rename_i e
      obtain ⟨h1, h2⟩ := and2_ok h
      obtain ⟨h3, h4⟩ := and2_ok h1
      obtain ⟨h5, h6⟩ := and2_ok h2
      rw [Nat.eq_of_beq_eq_true e, Nat.eq_of_beq_eq_true h3, Nat.eq_of_beq_eq_true h4, Nat.eq_of_beq_eq_true h5, Nat.eq_of_beq_eq_true h6]
    · cases h
  case srf.srf =>
    split at h
    · rename_i e
      obtain ⟨h1, h2⟩ := and2_ok h
      obtain ⟨h3, h4⟩ := and2_ok h1
      obtain ⟨h5, h6⟩ := and2_ok h2
      rw [Nat.eq_of_beq_eq_true e, Nat.eq_of_beq_eq_true h3, Nat.eq_of_beq_eq_true h4, Nat.eq_of_beq_eq_true h5, Nat.eq_of_beq_eq_true h6]
    · cases h
  case sne.sne => rw [boolB_ok h]
  case itr.itr => rw [Nat.eq_of_beq_eq_true h]
  case sv.sv =>
    split at h
    · rename_i e
      split at h
      · rename_i e2
        rw [Nat.eq_of_beq_eq_true e, boolB_ok e2, avLB_ok h]
      · cases h
    · cases h
  case map.map => rw [Nat.eq_of_beq_eq_true h]
  case stmp.stmp =>
    split at h
    · rename_i e
      rw [Nat.eq_of_beq_eq_true e, avB_ok h]
    · cases h
  case fn.fn =>
    split at h
    · rename_i e
      split at h
      · rename_i e2
        rw [fnB_ok e, avLB_ok e2, avLB_ok h]
      · cases h
    · cases h
  case iface.iface =>
    split at h
    · rename_i e
      rw [Nat.eq_of_beq_eq_true e, avB_ok h]
    · cases h
  case agg.agg => rw [avLB_ok h]
  case tup.tup => rw [avLB_ok h]
theorem avLB_ok : ∀ {a b : List AV}, avLB a b = true → a = b := by
  intro a b h
  cases a <;> cases b <;> simp only [avLB] at h
  · rfl
  · cases h
  · cases h
  · split at h
    · rename_i e
      rw [avB_ok e, avLB_ok h]
    · cases h
end

def tmB : Tm → Tm → Bool
  | .leaf, .leaf => true
  | .node l v r, .node l' v' r' => match avB v v' with
    | true => match tmB l l' with
      | true => tmB r r'
      | false => false
    | false => false
  | _, _ => false

theorem tmB_ok : ∀ {a b : Tm}, tmB a b = true → a = b
  | .leaf, .leaf, _ => rfl
  | .leaf, .node .., h => by cases h
  | .node .., .leaf, h => by cases h
  | .node l v r, .node l' v' r', h => by
    simp only [tmB] at h
    split at h
    · rename_i e
      split at h
      · rename_i e2
        rw [avB_ok e, tmB_ok e2, tmB_ok h]
      · cases h
    · cases h

def adB : AD → AD → Bool
  | .call f c a, .call f' c' a' => match fnB f f' with
    | true => and2 (avLB c c') (avLB a a')
    | false => false
  | .coll a, .coll b => Nat.beq a b
  | _, _ => false

theorem adB_ok {a b : AD} (h : adB a b = true) : a = b := by
  cases a <;> cases b <;> simp only [adB] at h
  · split at h
    · rename_i e
      obtain ⟨h1, h2⟩ := and2_ok h
      rw [fnB_ok e, avLB_ok h1, avLB_ok h2]
    · cases h
  · cases h
  · cases h
  · rw [Nat.eq_of_beq_eq_true h]

def adLB : List AD → List AD → Bool
  | [], [] => true
  | a :: as, b :: bs => match adB a b with
    | true => adLB as bs
    | false => false
  | _, _ => false

theorem adLB_ok : ∀ {a b : List AD}, adLB a b = true → a = b
  | [], [], _ => rfl
  | [], _ :: _, h => by cases h
  | _ :: _, [], h => by cases h
  | a :: as, b :: bs, h => by
    simp only [adLB] at h
    split at h
    · rename_i e
      rw [adB_ok e, adLB_ok h]
    · cases h

def esB : List (AV × AV) → List (AV × AV) → Bool
  | [], [] => true
  | (a, b) :: as, (c, d) :: bs => match avB a c with
    | true => match avB b d with
      | true => esB as bs
      | false => false
    | false => false
  | _, _ => false

theorem esB_ok : ∀ {a b : List (AV × AV)}, esB a b = true → a = b
  | [], [], _ => rfl
  | [], _ :: _, h => by cases h
  | _ :: _, [], h => by cases h
  | (a, b) :: as, (c, d) :: bs, h => by
    simp only [esB] at h
    split at h
    · rename_i e
      split at h
      · rename_i e2
        rw [avB_ok e, avB_ok e2, esB_ok h]
      · cases h
    · cases h

def lsB : LoopState → LoopState → Bool
  | .ready, .ready | .busy, .busy | .done, .done | .exhausted, .exhausted => true
  | _, _ => false

theorem lsB_ok {a b : LoopState} (h : lsB a b = true) : a = b := by cases a <;> cases b <;> first | rfl | cases h

def jmpB : Option Jmp → Option Jmp → Bool
  | none, none => true
  | some .ret, some .ret => true
  | some (.exit a), some (.exit b) => Nat.beq a b
  | some (.goto a), some (.goto b) => Nat.beq a b
  | _, _ => false

theorem jmpB_ok {a b : Option Jmp} (h : jmpB a b = true) : a = b := by
  cases a with
  | none => cases b with
    | none => rfl
    | some b => cases h
  | some a => cases b with
    | none => cases a <;> cases h
    | some b => cases a <;> cases b <;> first | rfl | (cases h; done) | (simp only [jmpB] at h; rw [Nat.eq_of_beq_eq_true h])

def onB : Option Nat → Option Nat → Bool
  | none, none => true
  | some a, some b => Nat.beq a b
  | _, _ => false

theorem onB_ok {a b : Option Nat} (h : onB a b = true) : a = b := by
  cases a <;> cases b <;> first | rfl | (cases h; done) | (simp only [onB] at h; rw [Nat.eq_of_beq_eq_true h])

def blkB : Blk → Blk → Bool
  | .cells g cs wr, .cells g' cs' wr' => match Nat.beq g g' with
    | true => and2 (boolB wr wr') (avLB cs cs')
    | false => false
  | .map es, .map es' => esB es es'
  | .miter m s, .miter m' s' => and2 (onB m m') (avLB s s')
  | .siter x p, .siter x' p' => and2 (Nat.beq p p') (bytesB x x')
  | .loop s p d, .loop s' p' d' => and2 (Nat.beq d d') (and2 (lsB s s') (jmpB p p'))
  | .dfr, .dfr => true
  | _, _ => false

theorem blkB_ok {a b : Blk} (h : blkB a b = true) : a = b := by
  cases a <;> cases b <;> simp only [blkB] at h <;> first | (cases h; done) | skip
  · split at h
    · rename_i e
      obtain ⟨h1, h2⟩ := and2_ok h
      rw [Nat.eq_of_beq_eq_true e, boolB_ok h1, avLB_ok h2]
    · cases h
  · rw [esB_ok h]
  · obtain ⟨h1, h2⟩ := and2_ok h; rw [onB_ok h1, avLB_ok h2]
  · obtain ⟨h1, h2⟩ := and2_ok h; rw [Nat.eq_of_beq_eq_true h1, bytesB_ok h2]
  · obtain ⟨h1, h2⟩ := and2_ok h
    obtain ⟨h2, h3⟩ := and2_ok h2
    rw [Nat.eq_of_beq_eq_true h1, lsB_ok h2, jmpB_ok h3]
  · rfl

def hpB : Hp → Hp → Bool
  | [], [] => true
  | (a, b) :: as, (c, d) :: bs => match Nat.beq a c with
    | true => match blkB b d with
      | true => hpB as bs
      | false => false
    | false => false
  | _, _ => false

theorem hpB_ok : ∀ {a b : Hp}, hpB a b = true → a = b
  | [], [], _ => rfl
  | [], _ :: _, h => by cases h
  | _ :: _, [], h => by cases h
  | (a, b) :: as, (c, d) :: bs, h => by
    simp only [hpB] at h
    split at h
    · rename_i e
      split at h
      · rename_i e2
        rw [Nat.eq_of_beq_eq_true e, blkB_ok e2, hpB_ok h]
      · cases h
    · cases h

def stB (a b : St) : Bool :=
  match Nat.beq a.nx b.nx with
  | true => match Nat.beq a.nt b.nt with
    | true => match tmB a.tm b.tm with
      | true => match adLB a.df b.df with
        | true => hpB a.hp b.hp
        | false => false
      | false => false
    | false => false
  | false => false

theorem stB_ok {a b : St} (h : stB a b = true) : a = b := by
  unfold stB at h
  split at h
  · rename_i h1
    split at h
    · rename_i h2
      split at h
      · rename_i h3
        split at h
        · rename_i h4
          cases a; cases b
          simp only [St.mk.injEq]
          exact ⟨tmB_ok h3, Nat.eq_of_beq_eq_true h2, adLB_ok h4, hpB_ok h, Nat.eq_of_beq_eq_true h1⟩
        · cases h
      · cases h
    · cases h
  · cases h

/-! ## Ways out -/

inductive Ex where
  | normal
  | ret
  | exit (n : Nat)
  | goto (n : Nat)
  | pan (v : AV)
  | val (v : AV)
  deriving Inhabited

def exB : Ex → Ex → Bool
  | .normal, .normal => true
  | .ret, .ret => true
  | .exit a, .exit b => Nat.beq a b
  | .goto a, .goto b => Nat.beq a b
  | .pan a, .pan b => avB a b
  | .val a, .val b => avB a b
  | _, _ => false

theorem exB_ok {a b : Ex} (h : exB a b = true) : a = b := by
  cases a <;> cases b <;> simp only [exB] at h <;> first | (cases h; done) | rfl | rw [Nat.eq_of_beq_eq_true h] | rw [avB_ok h]

def exR (X : Cx) : Ex → Exit → Prop
  | .normal, e => e = .normal
  | .ret, e => e = .ret
  | .exit n, e => e = .exit n
  | .goto n, e => e = .goto n
  | .pan a, e => ∃ v, e = .panic [{ v, recovered := false }] ∧ VR X a v
  | .val _, _ => False

def endR (X : Cx) : Ex → Ending → Prop
  | .val a, e => ∃ v, e = .returned v ∧ VR X a v
  | .pan a, e => ∃ v, e = .panicked [{ v, recovered := false }] ∧ VR X a v
  | _, _ => False

abbrev Outl := List (Ex × St)
abbrev Rs := Option Outl

/-- Is it among them? -/
def memB (e : Ex) (s : St) : Outl → Bool
  | [] => false
  | (e', s') :: l => match exB e e' with
    | true => match stB s s' with
      | true => true
      | false => memB e s l
    | false => memB e s l

theorem memB_ok {e : Ex} {s : St} : ∀ {l : Outl}, memB e s l = true → (e, s) ∈ l
  | [], h => by cases h
  | (e', s') :: l, h => by
    simp only [memB] at h
    split at h
    · rename_i h1
      split at h
      · rename_i h2
        rw [exB_ok h1, stB_ok h2]; simp
      · exact List.mem_cons_of_mem _ (memB_ok h)
    · exact List.mem_cons_of_mem _ (memB_ok h)

/-- Put in, if it is not there. -/
def addB (l : Outl) (e : Ex) (s : St) : Outl :=
  match memB e s l with
  | true => l
  | false => (e, s) :: l

theorem mem_addB {l : Outl} {e : Ex} {s : St} {x : Ex × St} : x = (e, s) ∨ x ∈ l → x ∈ addB l e s := by
  unfold addB
  split
  · rename_i h
    rintro (rfl | h')
    · exact memB_ok h
    · exact h'
  · rintro (rfl | h') <;> simp [*]

def addAll : Outl → Outl → Outl
  | [], acc => acc
  | (e, s) :: l, acc => addAll l (addB acc e s)

theorem mem_addAll : ∀ {l acc : Outl} {x : Ex × St}, x ∈ l ∨ x ∈ acc → x ∈ addAll l acc
  | [], acc, x, h => by simpa [addAll] using h
  | (e, s) :: l, acc, x, h => by
    simp only [addAll]
    refine mem_addAll ?_
    rcases h with h | h
    · rcases List.mem_cons.1 h with rfl | h
      · exact .inr (mem_addB (.inl rfl))
      · exact .inl h
    · exact .inr (mem_addB (.inr h))

end Go.Ev

namespace Go.Ev

/-! ## One step of a walk -/

/-- A loop over a function that is going on: what its record keeps. -/
structure LRec where
  tm : Tm
  nt : Nat
  params : List Tmp
  assign : Code
  body : Code
  deriving Inhabited

abbrev Lps := List (Nat × LRec)

def lget : Lps → Nat → Option LRec
  | [], _ => none
  | (j, r) :: l, n => match Nat.beq j n with
    | true => some r
    | false => lget l n

def LR (X : Cx) (lps : Lps) : Prop :=
  ∀ id r, lget lps id = some r → id < X.nx ∧ ∃ L : Loop, X.w.heap[(X.m id 0).1]? = some (.loop L) ∧ TR X r.nt r.tm L.tmps ∧ L.params.toList = r.params ∧ L.assign = r.assign ∧ L.body = r.body

theorem LR.ext {X Y : Cx} (E : Ext X Y) {lps : Lps} (h : LR X lps) : LR Y lps := by
  intro id r hr
  obtain ⟨h1, L, h2, h3, h4, h5, h6⟩ := h id r hr
  obtain ⟨L', g1, g2, g3, g4, g5⟩ := E.loops _ _ h2
  exact ⟨Nat.lt_of_lt_of_le h1 E.nx, L', by rw [E.m id 0 h1 (Nat.zero_le _)]; exact g1, by rw [g2]; exact h3.ext E, by rw [g3]; exact h4, by rw [g4]; exact h5, by rw [g5]; exact h6⟩

/-- In which round's frame. -/
def fenceR : Option Nat → Fence
  | none => Fence.wide
  | some l => Fence.wide.inRound l

theorem fenceR_fn (ro : Option Nat) (f : FuncId) : (fenceR ro).fn f := by cases ro <;> exact trivial
theorem fenceR_depth (ro : Option Nat) : (fenceR ro).depth = none := by cases ro <;> rfl
theorem fenceR_n (ro : Option Nat) (n : Nat) : (fenceR ro).depth.isSome = true → 1 ≤ n := by rw [fenceR_depth]; intro h; cases h
theorem fenceR_round (ro : Option Nat) : (fenceR ro).round = ro := by cases ro <;> rfl
theorem fenceR_inRound (ro : Option Nat) (l : Nat) : (fenceR ro).inRound l = fenceR (some l) := by cases ro <;> rfl

theorem callsIn_fenceR {ro ro' : Option Nat} {n : Nat} {P : Program} {f : FuncId} {args : Array Value} {w : World} {R : Ending → World → Prop} (h : CallsIn (fenceR ro) n P f args w R) :
    CallsIn (fenceR ro') n P f args w R := by
  cases ro <;> cases ro' <;> exact h

def RdR (X : Cx) : Option Nat → Option Nat → Prop
  | none, ro => ro = none
  | some l, ro => l < X.nx ∧ ro = some (X.m l 0).1

theorem RdR.ext {X Y : Cx} (E : Ext X Y) {rd ro : Option Nat} (h : RdR X rd ro) : RdR Y rd ro := by
  cases rd with
  | none => exact h
  | some l => exact ⟨Nat.lt_of_lt_of_le h.1 E.nx, by rw [E.m l 0 h.1 (Nat.zero_le _)]; exact h.2⟩

inductive Job where
  | code (rd : Option Nat) (lps : Lps) (c : Code) (st : St)
  | call (lps : Lps) (f : FuncId) (args : List AV) (hp : Hp) (nx : Nat)

def QR (Q : Exit → Act → World → Prop) (X : Cx) (outs : Outl) : Prop :=
  ∀ e st', (e, st') ∈ outs → ∀ X' a' e', Ext X X' → SR X' st' a' → exR X' e e' → Q e' a' X'.w

def RR (R : Ending → World → Prop) (X : Cx) (outs : Outl) : Prop :=
  ∀ e st', (e, st') ∈ outs → ∀ X' e', Ext X X' → X'.nx = st'.nx → HR X' st'.hp → endR X' e e' → R e' X'.w

def JobOK (P : Program) (j : Job) (outs : Outl) : Prop :=
  match j with
  | .code rd lps c st => ∀ X ro a, SR X st a → LR X lps → RdR X rd ro → ∀ Q, QR Q X outs → c.wpIn (fenceR ro) 0 P Q a X.w
  | .call lps f args hp nx => ∀ X vs, X.nx = nx → HR X hp → LR X lps → VRL X args vs → ∀ R, RR R X outs → CallsIn Fence.wide 0 P f vs.toArray X.w R

def Sound (P : Program) (rec : Job → Rs) : Prop := ∀ j outs, rec j = some outs → JobOK P j outs

/-- What a step leads to. -/
inductive SO where
  | go (v : AV) (df : List AD) (hp : Hp) (nx : Nat)
  | pan (v : AV) (hp : Hp) (nx : Nat)

/-- All of them, or none. -/
def flatO {α β : Type} (f : α → Option (List β)) : List α → Option (List β)
  | [] => some []
  | a :: as => match f a with
    | none => none
    | some l => match flatO f as with
      | none => none
      | some k => some (app l k)
where
  app : List β → List β → List β
    | [], k => k
    | b :: l, k => b :: app l k

theorem flatO.app_eq {β : Type} : ∀ (l k : List β), flatO.app l k = l ++ k
  | [], _ => rfl
  | b :: l, k => by simp [flatO.app, flatO.app_eq l k]

theorem flatO_ok {α β : Type} {f : α → Option (List β)} : ∀ {as : List α} {outs : List β}, flatO f as = some outs → ∀ a ∈ as, ∃ l, f a = some l ∧ ∀ b ∈ l, b ∈ outs
  | [], _, _, a, ha => by cases ha
  | x :: as, outs, h, a, ha => by
    simp only [flatO] at h
    split at h
    · cases h
    · rename_i l hl
      split at h
      · cases h
      · rename_i k hk
        simp only [Option.some.injEq, flatO.app_eq] at h
        subst h
        rcases List.mem_cons.1 ha with rfl | ha
        · exact ⟨l, hl, fun b hb => by simp [hb]⟩
        · obtain ⟨l', h1, h2⟩ := flatO_ok hk a ha
          exact ⟨l', h1, fun b hb => by simp [h2 b hb]⟩

def setParams (tm : Tm) (nt : Nat) : List Tmp → List AV → Option Tm
  | [], [] => some tm
  | p :: ps, a :: as => match Nat.blt p nt with
    | true => setParams (Tm.set 64 tm p a) nt ps as
    | false => none
  | _, _ => none

def loopSet (hp : Hp) (l : Nat) (f : LoopState → Option Jmp → Option (LoopState × Option Jmp)) : Option Hp :=
  match hp.get l with
  | some (.loop s p d) => match f s p with
    | some (s', p') => some (hp.set l (.loop s' p' d))
    | none => none
  | _ => none

/-- A round ends. -/
def endRd (l : Nat) (df : List AD) (x : Ex × St) : Option (List SO) :=
  match x.1 with
  | .normal => match loopSet x.2.hp l (fun _ _ => some (.ready, none)) with
    | some hp => some [.go (.b true) df hp x.2.nx]
    | none => none
  | .ret => match loopSet x.2.hp l (fun _ _ => some (.done, some .ret)) with
    | some hp => some [.go (.b false) df hp x.2.nx]
    | none => none
  | .exit n => match loopSet x.2.hp l (fun _ _ => some (.done, some (.exit n))) with
    | some hp => some [.go (.b false) df hp x.2.nx]
    | none => none
  | .goto n => match loopSet x.2.hp l (fun _ _ => some (.done, some (.goto n))) with
    | some hp => some [.go (.b false) df hp x.2.nx]
    | none => none
  | _ => none

/-- A round's body. -/
def bodyRd (rec : Job → Rs) (lps : Lps) (l : Nat) (r : LRec) (df : List AD) (x : Ex × St) : Option (List SO) :=
  match x.1 with
  | .normal => match loopSet x.2.hp l (fun s p => match s with | .ready => some (.busy, p) | _ => none) with
    | some hp => match rec (.code (some l) lps r.body { x.2 with hp := hp }) with
      | some outs => flatO (endRd l df) outs
      | none => none
    | none => none
  | _ => none

def roundF (rec : Job → Rs) (lps : Lps) (l : Nat) (args : List AV) (df : List AD) (hp : Hp) (nx : Nat) : Option (List SO) :=
  match lget lps l with
  | none => none
  | some r => match setParams r.tm r.nt r.params args with
    | none => none
    | some tm => match rec (.code (some l) lps r.assign { tm := tm, nt := r.nt, df := [], hp := hp, nx := nx }) with
      | some outs => flatO (bodyRd rec lps l r df) outs
      | none => none

def callSO (df : List AD) (x : Ex × St) : Option (List SO) :=
  match x.1 with
  | .val v => some [.go v df x.2.hp x.2.nx]
  | .pan v => some [.pan v x.2.hp x.2.nx]
  | _ => none

def stepR1 (rec : Job → Rs) (rd : Option Nat) (lps : Lps) (df : List AD) (x : OpR × Hp × Nat) : Option (List SO) :=
  match x.1 with
  | .val v => some [.go v df x.2.1 x.2.2]
  | .skip => some [.go .und df x.2.1 x.2.2]
  | .enter f args => match rec (.call lps f args x.2.1 x.2.2) with
    | some outs => flatO (callSO df) outs
    | none => none
  | .round l args => roundF rec lps l args df x.2.1 x.2.2
  | .dfr d => match rd with
    | none => some [.go .und (d :: df) x.2.1 x.2.2]
    | some _ => none
  | .pan v => some [.pan v x.2.1 x.2.2]
  | .recov => none

def stepR (T : TP) (rec : Job → Rs) (rd : Option Nat) (lps : Lps) (ops : List Oper) (ρ : Operand → AV) (o : Oper) (df : List AD) (hp : Hp) (nx : Nat) : Option (List SO) :=
  match evOpF T ops ρ o hp nx with
  | none => none
  | some l => flatO (stepR1 rec rd lps df) l

theorem setParams_ok {X : Cx} {nt : Nat} : ∀ {ps : List Tmp} {as : List AV} {vs : List Value} {tm tm' : Tm} {tmps : Array Value}, setParams tm nt ps as = some tm' → TR X nt tm tmps → VRL X as vs →
    vs.length = ps.length ∧ TR X nt tm' ((ps.zip vs).foldl (fun t (p, v) => t.setIfInBounds p v) tmps)
  | [], [], vs, tm, tm', tmps, h, ht, hv => by
    simp only [setParams, Option.some.injEq] at h
    subst h
    simp only [VRL] at hv
    subst hv
    exact ⟨rfl, ht⟩
  | p :: ps, a :: as, vs, tm, tm', tmps, h, ht, hv => by
    simp only [setParams] at h
    split at h
    · rename_i hp
      simp only [VRL] at hv
      obtain ⟨v, vs', rfl, h1, h2⟩ := hv
      have ht' : TR X nt (Tm.set 64 tm p a) (tmps.setIfInBounds p v) := by
        refine ⟨by simpa using ht.1, fun i => ?_⟩
        rcases Tm.get_set 64 tm p i a with e | e
        · rw [e]; trivial
        · rw [e]
          have hlt : p < tmps.size := by rw [ht.1]; simpa [Nat.blt_eq] using hp
          by_cases hi : i = p
          · subst hi; simp [hlt, h1]
          · have := ht.2 i
            rw [if_neg hi]
            simpa [Array.getElem?_setIfInBounds_ne (Ne.symm hi)] using this
      obtain ⟨h3, h4⟩ := setParams_ok h ht' h2
      exact ⟨by simp [h3], by simpa using h4⟩
    · cases h
  | [], _ :: _, _, _, _, _, h, _, _ => by simp [setParams] at h
  | _ :: _, [], _, _, _, _, h, _, _ => by simp [setParams] at h

section
variable {P : Program} {X : Cx} {hp : Hp}

/-- The record of a loop turns its state. -/
theorem loopSet_ok (H : HR X hp) {l : Nat} {f : LoopState → Option Jmp → Option (LoopState × Option Jmp)} {hp' : Hp} (h : loopSet hp l f = some hp') :
    ∃ (L L' : Loop) (p p' : Option Jmp), X.w.heap[(X.m l 0).1]? = some (.loop L) ∧ L.pending = p.map Jmp.code ∧ f L.state p = some (L'.state, p') ∧ L' = { L with state := L'.state, pending := p'.map Jmp.code } ∧
      Ext X (X.put (X.m l 0).1 (.loop L')) ∧ HR (X.put (X.m l 0).1 (.loop L')) hp' := by
  unfold loopSet at h
  split at h
  · rename_i s p d hg
    split at h
    · rename_i s' p' hf
      simp only [Option.some.injEq] at h
      subst h
      obtain ⟨hI, hO, hd, L, hL, h1, h2, h3⟩ := H.br _ _ hg
      refine ⟨L, { L with state := s', pending := p'.map Jmp.code }, p, p', hL, h2, by rw [h1]; exact hf, rfl, ?_⟩
      exact H.putIter (blk := .loop s p d) (blk' := .loop s' p' d) hg rfl rfl hI hO hL (by simp) (by simp) (fun L2 e => by cases e; exact ⟨_, rfl, rfl, rfl, rfl, rfl⟩)
        (fun E => ⟨hI, hO, hd, _, get_put_same (Array.getElem?_eq_some_iff.1 hL).1, rfl, rfl, h3⟩)
    · cases h
  · cases h

theorem run_getObj_loop {w : World} {l : Nat} {r : Loop} (h : w.heap[l]? = some (.loop r)) : (getObj l).run P w = .ok (.loop r) w := by simp [getObj, Sem.run, h]
theorem run_setObj_loop {w : World} {l : Nat} {r : Loop} (o : Obj) (h : w.heap[l]? = some (.loop r)) : (setObj l o).run P w = .ok () { w with heap := w.heap.setIfInBounds l o } := by simp [setObj, Sem.run, h]

theorem run_yield {l : Nat} {L : Loop} {w : World} {args : Array Value} (h : w.heap[l]? = some (.loop L)) (ha : args.size = L.params.size) :
    (Instr.yield l args).run P w = .ok (.round l L.fn ((L.params.zip args).foldl (fun tmps (t, a) => tmps.setIfInBounds t a) L.tmps) L.assign L.body) w := by
  simp [Instr.yield, Instr.getLoop, run_getObj_loop h, ha]

theorem run_endRound {l : Nat} {L : Loop} {w : World} (j : Option Code) (h : w.heap[l]? = some (.loop L)) :
    (Instr.endRound l j).run P w = .ok (.bool j.isNone) { w with heap := w.heap.setIfInBounds l (.loop { L with state := if j.isNone then .ready else .done, pending := j }) } := by
  simp [Instr.endRound, Instr.getLoop, run_getObj_loop h, run_setObj_loop _ h]

theorem run_beginRound' {l : Nat} {L : Loop} {w : World} (h : w.heap[l]? = some (.loop L)) (hs : L.state = .ready) :
    (Instr.beginRound l).run P w = .ok () { w with heap := w.heap.setIfInBounds l (.loop { L with state := .busy }) } := by
  simp [Instr.beginRound, Instr.getLoop, run_getObj_loop h, run_setObj_loop _ h, hs]

theorem SR.of {X : Cx} {st : St} {a : Act} (h1 : X.nx = st.nx) (h2 : TR X st.nt st.tm a.tmps) (h3 : DRL X st.df a.defers) (h4 : HR X st.hp) : SR X st a := ⟨h1, h2, h3, h4⟩

/-- What a round must come to. -/
theorem endRd_ok {l : Nat} {df : List AD} {e : Ex} {st : St} {outs : List SO} (h : endRd l df (e, st) = some outs) {X0 : Cx} {a : Act} (E0 : Ext X0 X) (hs : SR X st a) {e' : Exit} (he : exR X e e')
    (hl : l < X0.nx) {R : Ending → World → Prop}
    (hR : ∀ v hp' nx', .go v df hp' nx' ∈ outs → ∀ X' u, Ext X0 X' → X'.nx = nx' → HR X' hp' → VR X' v u → R (.returned u) X'.w) :
    roundPost P (X0.m l 0).1 R e' a X.w := by
  have hm : X.m l 0 = X0.m l 0 := E0.m l 0 hl (Nat.zero_le _)
  have key : ∀ (j : Option Jmp) (s : LoopState) (b : Bool), (s = if (j.map Jmp.code).isNone then .ready else .done) → (b = (j.map Jmp.code).isNone) →
      (match loopSet st.hp l (fun _ _ => some (s, j)) with
      | some hp => some [SO.go (.b b) df hp st.nx]
      | none => none) = some outs → ∃ v w', (Instr.endRound (X0.m l 0).1 (j.map Jmp.code)).run P X.w = .ok v w' ∧ R (.returned v) w' := by
    intro j s b hsb hb h
    split at h
    · rename_i hp' hls
      simp only [Option.some.injEq] at h
      subst h
      obtain ⟨L, L', p, p', h1, h2, h3, h4, E, H'⟩ := loopSet_ok hs.hp hls
      simp only [Option.some.injEq, Prod.mk.injEq] at h3
      rw [hm] at h1
      have := hR (.b b) hp' st.nx (by simp) _ (.bool b) (E0.trans E) hs.nx H' rfl
      rw [h4, ← h3.1, ← h3.2, hm, hsb, hb] at this
      exact ⟨_, _, run_endRound (P := P) (j.map Jmp.code) h1, this⟩
    · cases h
  unfold endRd at h
  cases e with
  | normal =>
    simp only [exR] at he; subst he
    exact key none .ready true rfl rfl h
  | ret =>
    simp only [exR] at he; subst he
    exact key (some .ret) .done false rfl rfl h
  | exit n =>
    simp only [exR] at he; subst he
    exact key (some (.exit n)) .done false rfl rfl h
  | goto n =>
    simp only [exR] at he; subst he
    exact key (some (.goto n)) .done false rfl rfl h
  | pan v => cases h
  | val v => cases h

theorem roundF_ok {rec : Job → Rs} (hrec : Sound P rec) {lps : Lps} {l : Nat} {args : List AV} {df : List AD} {nx : Nat} {outs : List SO} (h : roundF rec lps l args df hp nx = some outs)
    (hnx : X.nx = nx) (H : HR X hp) (hlps : LR X lps) {vs : Array Value} (hv : VRL X args vs.toList) {R : Ending → World → Prop}
    (hR : ∀ v hp' nx', .go v df hp' nx' ∈ outs → ∀ X' u, Ext X X' → X'.nx = nx' → HR X' hp' → VR X' v u → R (.returned u) X'.w) :
    ∃ L : Loop, X.w.heap[(X.m l 0).1]? = some (.loop L) ∧ vs.size = L.params.size ∧
      RoundIn Fence.wide 0 P (X.m l 0).1 L.fn ((L.params.zip vs).foldl (fun tmps (t, a) => tmps.setIfInBounds t a) L.tmps) L.assign L.body X.w R := by
  unfold roundF at h
  split at h
  · cases h
  · rename_i r hr
    obtain ⟨hl, L, hL, ht, hp1, hp2, hp3⟩ := hlps l r hr
    split at h
    · cases h
    · rename_i tm htm
      obtain ⟨hlen, ht'⟩ := setParams_ok htm ht hv
      have hsz : vs.size = L.params.size := by rw [← hp1] at hlen; simpa using hlen
      refine ⟨L, hL, hsz, ?_⟩
      have hfold : ((L.params.zip vs).foldl (fun tmps (t, a) => tmps.setIfInBounds t a) L.tmps) = ((r.params.zip vs.toList).foldl (fun t (p, v) => t.setIfInBounds p v) L.tmps) := by
        rw [← hp1, ← Array.foldl_toList, Array.toList_zip]
      rw [hfold]
      split at h
      · rename_i outs1 hrec1
        refine roundIn_of_wpIn trivial ?_
        rw [hp2, hp3]
        refine hrec _ _ hrec1 X (some (X.m l 0).1) { tmps := _, defers := [] } ⟨hnx, ht', rfl, H⟩ hlps ⟨hl, rfl⟩ _ ?_
        intro e st1 hmem X1 a1 e1 E1 S1 he1
        obtain ⟨k1, hk1, hk2⟩ := flatO_ok h _ hmem
        unfold bodyRd at hk1
        cases e <;> simp only at hk1 <;> try (cases hk1; done)
        simp only [exR] at he1
        subst he1
        simp only [Exit.then]
        split at hk1
        · rename_i hp1' hls
          split at hk1
          · rename_i outs2 hrec2
            obtain ⟨L1, L1', p, p', g1, g2, g3, g4, E2, H2⟩ := loopSet_ok S1.hp hls
            have hst : L1.state = .ready ∧ L1'.state = .busy ∧ p' = p := by
              cases hs : L1.state <;> rw [hs] at g3 <;> simp at g3
              exact ⟨rfl, g3.1.symm, g3.2.symm⟩
            have hm1 : X1.m l 0 = X.m l 0 := E1.m l 0 hl (Nat.zero_le _)
            rw [hm1] at g1
            have hL1' : L1' = { L1 with state := .busy } := by rw [g4, hst.2.1, hst.2.2, ← g2]
            refine ⟨_, run_beginRound' (P := P) g1 hst.1, ?_⟩
            have hw : ({ X1.w with heap := X1.w.heap.setIfInBounds (X.m l 0).1 (.loop { L1 with state := .busy }) } : World) = (X1.put (X1.m l 0).1 (.loop L1')).w := by
              rw [hL1', hm1]; rfl
            rw [hw]
            have E12 := E1.trans E2
            refine hrec _ _ hrec2 (X1.put (X1.m l 0).1 (.loop L1')) (some (X.m l 0).1) a1 ⟨S1.nx, S1.tm.ext E2, S1.df.ext E2, H2⟩ (hlps.ext E12) ?_ _ ?_
            · exact ⟨Nat.lt_of_lt_of_le hl E12.nx, by rw [E12.m l 0 hl (Nat.zero_le _)]⟩
            · intro e st2 hmem2 X2 a2 e2 E3 S2 he2
              obtain ⟨k2, hk3, hk4⟩ := flatO_ok hk1 _ hmem2
              refine endRd_ok hk3 (E12.trans E3) S2 he2 hl ?_
              exact fun v hp' nx' hgo X' u E' hn' H' hvu => hR v hp' nx' (hk2 _ (hk4 _ hgo)) X' u E' hn' H' hvu
          · cases hk1
        · cases hk1
      · cases h

theorem stepR_ok {rec : Job → Rs} (hrec : Sound P rec) {rd ro : Option Nat} {lps : Lps} {ops : List Oper} {ρ : Operand → AV} {a : Act} {o : Oper} {df : List AD} {nx : Nat} {outs : List SO}
    (h : stepR (TP.of P) rec rd lps ops ρ o df hp nx = some outs) (hnx : X.nx = nx) (H : HR X hp) (hdf : DRL X df a.defers) (hlps : LR X lps) (hrd : RdR X rd ro) (hρ : ∀ x, VR X (ρ x) (a.eval x))
    {K : Act → World → Prop} {Q : Exit → Act → World → Prop}
    (hK : ∀ v df' hp' nx', .go v df' hp' nx' ∈ outs → ∀ X' u ds', Ext X X' → X'.nx = nx' → HR X' hp' → DRL X' df' ds' → VR X' v u → K ({ a with defers := ds' }.put o.dst u) X'.w)
    (hQ : ∀ v hp' nx', .pan v hp' nx' ∈ outs → ∀ X' u, Ext X X' → X'.nx = nx' → HR X' hp' → VR X' v u → Q (.panic [{ v := u, recovered := false }]) a X'.w) :
    o.wpIn (fenceR ro) 0 P a X.w K Q := by
  subst hnx
  unfold stepR at h
  split at h
  · cases h
  · rename_i l hl
    have hok := evOpF_ok H (ops := ops) hρ o l hl
    obtain ⟨r, hp1, nx1, X1, hmem, E1, hn1, H1, hres⟩ := hok
    obtain ⟨k1, hk1, hk2⟩ := flatO_ok h _ hmem
    have hsem : o.semAt (fenceR ro).round a.eval = execOp a.eval o := by
      rw [fenceR_round]
      cases rd with
      | none => simp only [RdR] at hrd; subst hrd; rfl
      | some l0 =>
        refine Oper.semAt_eq _ _ _ fun c hc => ?_
        obtain ⟨_, rfl⟩ := hrd
        have : ∃ d, (r, hp1, nx1) = (OpR.dfr d, hp, X.nx) := by
          have hl' := hl
          unfold evOpF at hl'
          split at hl'
          · rename_i ho1 ho2; rw [hc] at ho1; cases ho1
          · unfold evOp at hl'
            rw [hc] at hl'
            split at hl' <;> rename_i heq <;> first | (cases heq; done) | skip
            · unfold evDefer at hl'
              split at hl'
              · simp only [ret1, Option.some.injEq] at hl'
                subst hl'
                simp only [List.mem_singleton] at hmem
                exact ⟨_, hmem⟩
              · cases hl'
            · cases hl'
        obtain ⟨d, hd⟩ := this
        cases hd
        cases hk1
    refine ⟨fun f _ => fenceR_fn ro f, ?_⟩
    rw [hsem]
    have hdf1 : DRL X1 df a.defers := hdf.ext E1
    have ha : ({ a with defers := a.defers } : Act) = a := by cases a; rfl
    unfold stepR1 at hk1
    cases r with
    | val v =>
      simp only [Option.some.injEq] at hk1
      subst hk1
      obtain ⟨u, hu1, hu2⟩ := hres
      rw [hu1]
      have := hK v df hp1 nx1 (hk2 _ (by simp)) X1 u a.defers E1 hn1 H1 hdf1 hu2
      rw [ha] at this
      exact this
    | skip =>
      simp only [Option.some.injEq] at hk1
      subst hk1
      rw [hres]
      have := hK .und df hp1 nx1 (hk2 _ (by simp)) X1 undef a.defers E1 hn1 H1 hdf1 rfl
      rw [ha] at this
      exact this
    | dfr d =>
      simp only at hk1
      split at hk1
      · simp only [Option.some.injEq] at hk1
        subst hk1
        obtain ⟨d', hd1, hd2⟩ := hres
        rw [hd1]
        exact hK .und (d :: df) hp1 nx1 (hk2 _ (by simp)) X1 undef (d' :: a.defers) E1 hn1 H1 ⟨d', a.defers, rfl, hd2, hdf1⟩ rfl
      · cases hk1
    | pan v =>
      simp only [Option.some.injEq] at hk1
      subst hk1
      obtain ⟨u, hu1, hu2⟩ := hres
      rw [hu1]
      exact hQ v hp1 nx1 (hk2 _ (by simp)) X1 u E1 hn1 H1 hu2
    | recov => cases hk1
    | enter f args =>
      simp only at hk1
      split at hk1
      · rename_i outs1 hrec1
        obtain ⟨vs, hv1, hv2⟩ := hres
        rw [hv1]
        refine ⟨fenceR_n ro _, ?_⟩
        refine callsIn_fenceR (ro := none) ?_
        have := hrec _ _ hrec1 X1 vs.toList hn1 H1 (hlps.ext E1) hv2 (fun
          | .returned v, w'' => K (a.put o.dst v) w''
          | .panicked chain, w'' => Q (.panic chain) a w''
          | .outgrown, _ => LetsOut Q) ?_
        · exact this
        · intro e st1 hm1 X2 e2 E2 hn2 H2 he2
          obtain ⟨k3, hk3, hk4⟩ := flatO_ok hk1 _ hm1
          unfold callSO at hk3
          cases e <;> simp only [endR] at he2 <;> simp only [Option.some.injEq] at hk3
          · obtain ⟨u, rfl, hu2⟩ := he2
            subst hk3
            exact hQ _ _ _ (hk2 _ (hk4 _ (by simp))) X2 u (E1.trans E2) hn2 H2 hu2
          · obtain ⟨u, rfl, hu2⟩ := he2
            subst hk3
            have := hK _ df _ _ (hk2 _ (hk4 _ (by simp))) X2 u a.defers (E1.trans E2) hn2 H2 (hdf1.ext E2) hu2
            rw [ha] at this
            exact this
      · cases hk1
    | round l1 args =>
      simp only at hk1
      obtain ⟨P0, vs, hv1, hv2, hv3⟩ := hres
      obtain ⟨L, hL, hsz, hround⟩ := roundF_ok hrec hk1 hn1 H1 (hlps.ext E1) hv2 (R := fun
          | .returned v, w'' => K (a.put o.dst v) w''
          | .panicked chain, w'' => Q (.panic chain) a w''
          | .outgrown, _ => LetsOut Q) (by
        intro v hp' nx' hgo X' u E' hn' H' hvu
        have := hK _ _ _ _ (hk2 _ hgo) X' u a.defers (E1.trans E') hn' H' (hdf1.ext E') hvu
        rw [ha] at this
        exact this)
      rw [hv1, run_yield hL hsz]
      refine ⟨fenceR_n ro _, ?_⟩
      cases ro <;> exact hround

end

end Go.Ev

namespace Go.Ev

/-! ## Operations one after the other -/

def putS (st : St) (dst : Option Tmp) (v : AV) : St :=
  match dst with
  | none => st
  | some d => match Nat.blt d st.nt with
    | true => { st with tm := Tm.set 64 st.tm d v }
    | false => st

theorem TR.put {X : Cx} {nt : Nat} {tm : Tm} {tmps : Array Value} (h : TR X nt tm tmps) {d : Nat} {v : AV} {u : Value} (hd : d < nt) (hv : VR X v u) : TR X nt (Tm.set 64 tm d v) (tmps.setIfInBounds d u) := by
  refine ⟨by simpa using h.1, fun i => ?_⟩
  rcases Tm.get_set 64 tm d i v with e | e
  · rw [e]; trivial
  · rw [e]
    have hlt : d < tmps.size := by rw [h.1]; exact hd
    by_cases hi : i = d
    · subst hi; simp [hlt, hv]
    · have := h.2 i
      rw [if_neg hi]
      simpa [Array.getElem?_setIfInBounds_ne (Ne.symm hi)] using this

theorem SR.put {X : Cx} {st : St} {a : Act} (h : SR X st a) {dst : Option Tmp} {v : AV} {u : Value} (hv : VR X v u) : SR X (putS st dst v) (a.put dst u) := by
  unfold putS
  cases dst with
  | none => exact h
  | some d =>
    simp only
    split
    · rename_i hd
      exact ⟨h.nx, h.tm.put (by simpa [Nat.blt_eq] using hd) hv, h.df, h.hp⟩
    · rename_i hd
      have hge : a.tmps.size ≤ d := by rw [h.tm.1]; refine Nat.le_of_not_lt fun h' => ?_; rw [show Nat.blt d st.nt = true by simpa [Nat.blt_eq] using h'] at hd; cases hd
      have : a.put (some d) u = a := by
        cases a
        simp only [Act.put, Act.mk.injEq, and_true]
        exact Array.setIfInBounds_eq_of_size_le hge
      rw [this]
      exact h

/-- Is the operation wanted? -/
def wantA (all : List Oper) (tm : Tm) (o : Oper) : Option Bool :=
  match o.guard with
  | none => some true
  | some (g, want) => match all[g]? with
    | none => some false
    | some og => match og.dst with
      | none => some false
      | some t => match tm.get t with
        | .b x => some (boolB x want)
        | .und => some false
        | _ => none

theorem boolB_eq (a b : Bool) : boolB a b = (a == b) := by cases a <;> cases b <;> rfl

theorem wantA_ok {X : Cx} {ops : Array Oper} {tm : Tm} {nt : Nat} {tmps : Array Value} {o : Oper} {b : Bool} (ht : TR X nt tm tmps) (h : wantA ops.toList tm o = some b) :
    Region.wanted o (yielded ops tmps) = b := by
  unfold wantA at h
  unfold Region.wanted
  cases hg : o.guard with
  | none => rw [hg] at h; simpa using h
  | some gw =>
    obtain ⟨g, want⟩ := gw
    rw [hg] at h
    simp only at h ⊢
    unfold yielded
    rw [Array.getElem?_toList] at h
    cases ho : ops[g]? with
    | none => rw [ho] at h; simp only [Option.some.injEq] at h; subst h; simp
    | some og =>
      rw [ho] at h
      simp only at h
      cases hd : og.dst with
      | none => rw [hd] at h; simp only [Option.some.injEq] at h; subst h; simp [hd]
      | some t =>
        rw [hd] at h
        simp only at h
        have hv := ht.2 t
        simp only [Option.bind_some, hd]
        split at h
        · rename_i x hx
          rw [hx] at hv
          simp only [VR] at hv
          simp only [Option.some.injEq] at h
          subst h
          have hlt : t < tmps.size := by
            rcases Nat.lt_or_ge t tmps.size with h' | h'
            · exact h'
            · simp [Array.getElem?_eq_none h', undef] at hv
          have : tmps[t]? = some (.bool x) := by
            rw [Array.getElem?_eq_getElem hlt]
            simpa [hlt] using hv
          rw [this, boolB_eq]
          rfl
        · rename_i hx
          rw [hx] at hv
          simp only [VR] at hv
          simp only [Option.some.injEq] at h
          subst h
          have : ∀ v, tmps[t]? = some v → v = undef := fun v hv' => by
            simpa [hv'] using hv
          cases hv' : tmps[t]? with
          | none => simp
          | some v => rw [this v hv']; simp [undef]
        · cases h

theorem act_rel {X : Cx} {st : St} {a : Act} (h : TR X st.nt st.tm a.tmps) : ∀ x, VR X (Act0 st.tm x) (a.eval x)
  | .tmp t => h.2 t
  | .const v => VR.ofV v
  | .global _ => trivial
  | .func _ => ⟨_, _, _, rfl, rfl, rfl, rfl⟩

def opsK (st : St) (dst : Option Tmp) (k : St → Rs) (so : SO) : Rs :=
  match so with
  | .go v df hp nx => k (putS { st with df := df, hp := hp, nx := nx } dst v)
  | .pan v hp nx => some [(.pan v, { st with hp := hp, nx := nx })]

def opsRun (T : TP) (rec : Job → Rs) (rd : Option Nat) (lps : Lps) (all : List Oper) : List Oper → St → Rs
  | [], st => some [(.normal, st)]
  | o :: rest, st => match wantA all st.tm o with
    | none => none
    | some false => opsRun T rec rd lps all rest (putS st o.dst .und)
    | some true => match stepR T rec rd lps all (Act0 st.tm) o st.df st.hp st.nx with
      | none => none
      | some l => flatO (opsK st o.dst (opsRun T rec rd lps all rest)) l

theorem QR.mono {Q : Exit → Act → World → Prop} {X X' : Cx} {outs outs' : Outl} (h : QR Q X outs) (E : Ext X X') (hs : ∀ x ∈ outs', x ∈ outs) : QR Q X' outs' :=
  fun e st hm X2 a2 e2 E2 S2 he => h e st (hs _ hm) X2 a2 e2 (E.trans E2) S2 he

section
variable {P : Program}

theorem opsRun_ok {rec : Job → Rs} (hrec : Sound P rec) {rd ro : Option Nat} {lps : Lps} {ops : Array Oper} {Q : Exit → Act → World → Prop} : ∀ (rest : List Oper) (k : Nat) (st : St) (outs : Outl) (X : Cx) (a : Act),
    ops.toList.drop k = rest → opsRun (TP.of P) rec rd lps ops.toList rest st = some outs → SR X st a → LR X lps → RdR X rd ro → QR Q X outs →
    wpOpsIn (fenceR ro) 0 P ops Q (List.range' k rest.length) a X.w := by
  intro rest
  induction rest with
  | nil =>
    intro k st outs X a _ h hs _ _ hQ
    simp only [opsRun, Option.some.injEq] at h
    subst h
    exact hQ .normal st (by simp) X a .normal (Ext.refl X) hs rfl
  | cons o rest ih =>
    intro k st outs X a hk h hs hl hr hQ
    have ho : ops[k]? = some o := by
      rw [← Array.getElem?_toList]
      have := congrArg (fun l => l[0]?) hk
      simpa using this
    have hk' : ops.toList.drop (k + 1) = rest := by
      have := congrArg List.tail hk
      simpa using this
    simp only [List.length_cons, List.range'_succ, wpOpsIn, ho]
    simp only [opsRun] at h
    split at h
    · cases h
    · rename_i hw
      rw [wantA_ok hs.tm hw]
      simp only [Bool.false_eq_true, if_false]
      exact ⟨fun f _ => fenceR_fn ro f, ih (k + 1) _ outs X _ hk' h (hs.put rfl) hl hr hQ⟩
    · rename_i hw
      rw [wantA_ok hs.tm hw]
      simp only [if_true]
      split at h
      · cases h
      · rename_i l hst
        refine stepR_ok hrec hst hs.nx hs.hp hs.df hl hr (act_rel hs.tm) ?_ ?_
        · intro v df' hp' nx' hgo X' u ds' E' hn' H' hdf' hvu
          obtain ⟨k1, hk1, hk2⟩ := flatO_ok h _ hgo
          refine ih (k + 1) _ k1 X' _ hk' hk1 ?_ (hl.ext E') (hr.ext E') (hQ.mono E' hk2)
          exact SR.put (st := { st with df := df', hp := hp', nx := nx' }) (a := { a with defers := ds' }) ⟨hn', hs.tm.ext E', hdf', H'⟩ hvu
        · intro v hp' nx' hgo X' u E' hn' H' hvu
          obtain ⟨k1, hk1, hk2⟩ := flatO_ok h _ hgo
          simp only [opsK, Option.some.injEq] at hk1
          subst hk1
          exact hQ (.pan v) { st with hp := hp', nx := nx' } (hk2 _ (by simp)) X' a (.panic [{ v := u, recovered := false }]) E' ⟨hn', hs.tm.ext E', hs.df.ext E', H'⟩ ⟨u, rfl, hvu⟩

theorem region_ok {rec : Job → Rs} (hrec : Sound P rec) {rd ro : Option Nat} {lps : Lps} {id : Nat} {ops : Array Oper} {Q : Exit → Act → World → Prop} {st : St} {outs : Outl} {X : Cx} {a : Act}
    (h : opsRun (TP.of P) rec rd lps ops.toList ops.toList st = some outs) (hs : SR X st a) (hl : LR X lps) (hr : RdR X rd ro) (hQ : QR Q X outs) : (Code.region id ops false).wpIn (fenceR ro) 0 P Q a X.w := by
  refine wpIn_region ?_
  have := opsRun_ok hrec ops.toList 0 st outs X a (by simp) h hs hl hr hQ
  rw [List.range_eq_range']
  simpa using this

end

end Go.Ev

namespace Go.Ev

/-! ## What an operation looks at -/

section
variable {T : TP} {ops : List Oper} {ρ ρ' : Operand → AV} {o : Oper} {hp : Hp} {nx : Nat}

theorem flatAll_congr : ∀ {l : List Operand}, (∀ x ∈ l, ρ x = ρ' x) → flatAll ρ l = flatAll ρ' l
  | [], _ => rfl
  | x :: l, h => by
    simp only [flatAll, h x (by simp)]
    rw [flatAll_congr fun y hy => h y (by simp [hy])]

theorem evFlat_congr (h : ∀ x ∈ o.op.operands, ρ x = ρ' x) : evFlat T ρ o hp nx = evFlat T ρ' o hp nx := by
  unfold evFlat
  rw [flatAll_congr (ρ := ρ) (ρ' := ρ') (fun x hx => h x (by simpa using hx))]
  cases hs : Op.noSel o.op with
  | false => rfl
  | true =>
    rw [execOp_congr o (fun cs b e => by simp [e, Op.noSel] at hs) (ρ := flatρ ρ) (ρ' := flatρ ρ') (fun x hx => by simp only [flatρ, h x hx])]

theorem mapR_congr : ∀ {l : List Operand}, (∀ x ∈ l, ρ x = ρ' x) → mapR ρ l = mapR ρ' l
  | [], _ => rfl
  | x :: l, h => by simp only [mapR, h x (by simp)]; rw [mapR_congr fun y hy => h y (by simp [hy])]

theorem evParts_congr {ps : List (Nat × Operand)} (h : ∀ x ∈ ps.map (·.2), ρ x = ρ' x) : evParts ρ ps = evParts ρ' ps := by
  unfold evParts
  refine List.map_congr_left fun p hp => ?_
  rw [h p.2 (List.mem_map.2 ⟨p, hp, rfl⟩)]

theorem optMap_congr {x : Option Operand} (h : ∀ y, x = some y → ρ y = ρ' y) : x.map ρ = x.map ρ' := by
  cases x with
  | none => rfl
  | some y => simp [h y rfl]

theorem evOp_congr (h : ∀ x ∈ o.op.operands, ρ x = ρ' x) : evOp T ρ o hp nx = evOp T ρ' o hp nx := by
  have hf := evFlat_congr (T := T) (hp := hp) (nx := nx) h
  have hf' : evFlat T (fun x => (ρ x).wk) o hp nx = evFlat T (fun x => (ρ' x).wk) o hp nx := evFlat_congr fun x hx => by rw [h x hx]
  obtain ⟨dst, op, type, pos, after, guard⟩ := o
  cases op <;> simp only [Op.operands] at h <;> simp only [evOp]
  case build t ps => rw [evParts_congr fun x hx => h x (by simpa using hx)]
  case buildSlice t n ps => rw [evParts_congr fun x hx => h x (by simpa using hx)]
  case makeFunc fn first cap =>
    cases fn <;> try rfl
    simp only
    rw [mapR_congr fun x hx => h x (by simp at hx ⊢; exact .inl hx), mapR_congr (l := cap.toList) fun x hx => h x (by simp at hx ⊢; exact .inr hx)]
  case makeMap t r => rw [optMap_congr fun y hy => h y (by simp [hy])]
  case slice t x lo hi mx =>
    unfold evSlice
    simp only [h x (by simp), hf']
    rw [optMap_congr (ρ := fun x => (ρ x).wk) (ρ' := fun x => (ρ' x).wk) (x := lo) (fun y hy => by rw [h y (by simp [hy])]),
      optMap_congr (ρ := fun x => (ρ x).wk) (ρ' := fun x => (ρ' x).wk) (x := hi) (fun y hy => by rw [h y (by simp [hy])]),
      optMap_congr (ρ := fun x => (ρ x).wk) (ρ' := fun x => (ρ' x).wk) (x := mx) (fun y hy => by rw [h y (by simp [hy])])]
  case binOp op t x y yt =>
    unfold evBin
    simp only [h x (by simp), h y (by simp), hf']
  case unOp op t x => exact hf
  case convert s d x =>
    unfold evConv
    simp only [h x (by simp), hf]
  case index t x i =>
    unfold evIndex
    simp only [h x (by simp), h i (by simp), hf]
  case call c =>
    obtain ⟨callee, args, ts⟩ := c
    simp only [Call.operands] at h
    cases callee with
    | value f =>
      simp only
      rw [h f (by simp), mapR_congr fun x hx => h x (by simp at hx ⊢; exact .inr hx)]
    | invoke r m => rfl
    | builtin b =>
      have hargs : ∀ x ∈ args.toList, ρ x = ρ' x := fun x hx => h x (by simpa using hx)
      simp only
      unfold evBuiltin
      cases b <;> try rfl
      case append =>
        simp only
        split
        · rename_i a b s t h1 h2
          rw [hargs a (by rw [h1]; simp), hargs b (by rw [h1]; simp)]
        · rfl
      case len =>
        simp only
        split
        · rename_i a t h1 h2
          unfold evLen
          simp only [hargs a (by rw [h1]; simp), hf]
        · rfl
      case copy =>
        simp only
        split
        · rename_i a b s t h1 h2
          rw [hargs a (by rw [h1]; simp), hargs b (by rw [h1]; simp)]
        · rfl
      case min => exact hf
      case max => exact hf
  case defer c =>
    obtain ⟨callee, args, ts⟩ := c
    simp only [Call.operands] at h
    cases callee with
    | value f =>
      simp only
      rw [h f (by simp), mapR_congr fun x hx => h x (by simp at hx ⊢; exact .inr hx)]
    | invoke r m => rfl
    | builtin b => rfl
  all_goals first | rfl | (simp_all; done)

theorem evOpF_congr (h : ∀ x ∈ o.op.operands, ρ x = ρ' x) : evOpF T ops ρ o hp nx = evOpF T ops ρ' o hp nx := by
  unfold evOpF
  split
  · rename_i t n ps d ho hd
    rw [evParts_congr fun x hx => h x (by rw [ho]; simpa [Op.operands] using hx)]
  · exact evOp_congr h

end

/-- Operations that may be taken ahead: they change nothing. -/
def early (o : Op) : Bool :=
  match o with
  | .move _ | .pick .. | .build .. | .load .. | .nilCheck _ | .binOp .. | .unOp .. | .convert .. | .makeInterface .. | .makeFunc .. | .slice .. | .fieldAddr .. | .field .. | .indexAddr .. | .index .. | .lookup ..
  | .typeAssert .. | .extract .. => true
  | .call { callee := .builtin .len, args := _, argTypes := _ } => true
  | .call { callee := .builtin .min, args := _, argTypes := _ } => true
  | .call { callee := .builtin .max, args := _, argTypes := _ } => true
  | _ => false

section
variable {T : TP} {ops : List Oper} {ρ : Operand → AV} {o : Oper} {hp hp' : Hp} {nx : Nat}

theorem ret1_keep {r r' : OpR} {hp1 : Hp} {nx1 : Nat} (h : ret1 r hp nx = some [(r', hp1, nx1)]) : hp1 = hp := by
  simp only [ret1, Option.some.injEq, List.cons.injEq, Prod.mk.injEq, and_true] at h
  exact h.2.1.symm

theorem evFlat_keep {r' : OpR} {hp1 : Hp} {nx1 : Nat} (h : evFlat T ρ o hp nx = some [(r', hp1, nx1)]) : hp1 = hp := by
  unfold evFlat at h
  repeat' split at h
  all_goals first | exact ret1_keep h | cases h

theorem evOpF_keep (he : early o.op = true) {r : OpR} (h : evOpF T ops ρ o hp nx = some [(r, hp', nx)]) : hp' = hp := by
  have hn : ∀ {r r' : OpR} {b : Blk} {hp1 : Hp}, ret1 r ((nx, b) :: hp) (nx + 1) = some [(r', hp1, nx)] → hp1 = hp := fun {r r' b hp1} h => by
    simp only [ret1, Option.some.injEq, List.cons.injEq, Prod.mk.injEq, and_true] at h
    omega
  unfold evOpF at h
  split at h
  · rename_i ho _; rw [ho] at he; cases he
  · unfold evOp at h
    split at h <;> first | (cases h; done) | (rename_i ho; rw [ho] at he; first | (cases he; done) | exact ret1_keep h | skip)
    all_goals first
      | (exact evFlat_keep h)
      | (unfold evPick at h; repeat' split at h)
      | (unfold evBuild at h; repeat' split at h)
      | (unfold evLoad at h; repeat' split at h)
      | (unfold evNilCheck at h; repeat' split at h)
      | (unfold evBin at h; repeat' split at h)
      | (unfold evConv at h; repeat' split at h)
      | (unfold evMakeInterface at h; repeat' split at h)
      | (unfold evSlice at h; repeat' split at h)
      | (unfold evFieldAddr at h; repeat' split at h)
      | (unfold evField at h; repeat' split at h)
      | (unfold evIndexAddr at h; repeat' split at h)
      | (unfold evIndex at h; repeat' split at h)
      | (unfold evLookup at h; repeat' split at h)
      | (unfold evTypeAssert at h; repeat' split at h)
      | (unfold evExtract at h; repeat' split at h)
      | (unfold evBuiltin at h; split at h)
      | skip
    all_goals first | (exact ret1_keep h) | (exact evFlat_keep h) | (exact hn h) | (cases h; done) | (cases he; done) | skip
    all_goals (split at h <;> first | (cases h; done) | (unfold evLen at h; repeat' split at h))
    all_goals first | (exact ret1_keep h) | (exact evFlat_keep h) | (cases h; done) | skip

end

end Go.Ev

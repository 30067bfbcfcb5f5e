/-
  A walk over the translated code that the kernel reckons, and the proof that it is right, part 0: values, heaps and their relation to the world; memory, appending and slices; no condition.
-/
import Derived.DefersIn
import Derived.Laws.Cells
import Derived.OrdersIn

namespace Go.Ev

/-! ## Abstract values -/

inductive AV where
  | any
  | und
  | b (x : Bool)
  | i (k : IntKind) (n : Int)
  | s (x : ByteArray)
  | nilp
  | ptr (id gen off : Nat)
  | cptr (cells : List AV) (off : Nat)
  | snil
  | sr (id gen off len sz : Nat)
  | srf (id gen off len sz : Nat)
  | sne (full : Bool)
  | itr (id : Nat)
  | sv (cells : List AV) (len : Nat) (full : Bool)
  | nilmap
  | map (id : Nat)
  | stmp (id : Nat) (key : AV)
  | fn (f : Fn) (first captured : List AV)
  | nilfn
  | nilif
  | iface (t : TypeId) (v : AV)
  | agg (cells : List AV)
  | tup (vs : List AV)
  deriving Inhabited

inductive Tm where
  | leaf
  | node (l : Tm) (v : AV) (r : Tm)
  deriving Inhabited

def Tm.get : Tm → Nat → AV
  | .leaf, _ => .any
  | .node l v r, n =>
    match n with
    | 0 => v
    | k + 1 => match Nat.beq (k % 2) 0 with
      | true => l.get (k / 2)
      | false => r.get (k / 2)

def Tm.set : Nat → Tm → Nat → AV → Tm
  | 0, _, _, _ => .leaf
  | f + 1, t, n, x =>
    match t with
    | .leaf => match n with
      | 0 => .node .leaf x .leaf
      | k + 1 => match Nat.beq (k % 2) 0 with
        | true => .node (Tm.set f .leaf (k / 2) x) .any .leaf
        | false => .node .leaf .any (Tm.set f .leaf (k / 2) x)
    | .node l v r => match n with
      | 0 => .node l x r
      | k + 1 => match Nat.beq (k % 2) 0 with
        | true => .node (Tm.set f l (k / 2) x) v r
        | false => .node l v (Tm.set f r (k / 2) x)

theorem Tm.get_set : ∀ (f : Nat) (t : Tm) (k i : Nat) (x : AV), (Tm.set f t k x).get i = .any ∨ (Tm.set f t k x).get i = (if i = k then x else t.get i) := by
  intro f
  induction f with
  | zero => intro t k i x; left; rfl
  | succ f ih =>
    intro t k i x
    cases t with
    | leaf =>
      cases k with
      | zero =>
        cases i with
        | zero => right; simp [Tm.set, Tm.get]
        | succ i =>
          left
          simp only [Tm.set, Tm.get]
          split <;> rfl
      | succ k =>
        simp only [Tm.set]
        cases i with
        | zero => left; split <;> simp [Tm.get]
        | succ i =>
          split
          · rename_i hk
            simp only [Tm.get]
            split
            · rename_i hi
              rcases ih .leaf (k / 2) (i / 2) x with h | h
              · left; exact h
              · rw [h]
                by_cases e : i = k
                · right; rw [if_pos (by omega), if_pos (by omega)]
                · have : ¬ i / 2 = k / 2 := by have := Nat.eq_of_beq_eq_true hk; have := Nat.eq_of_beq_eq_true hi; omega
                  left; rw [if_neg this]; rfl
            · left; rfl
          · rename_i hk
            simp only [Tm.get]
            split
            · left; rfl
            · rename_i hi
              rcases ih .leaf (k / 2) (i / 2) x with h | h
              · left; exact h
              · rw [h]
                by_cases e : i = k
                · right; rw [if_pos (by omega), if_pos (by omega)]
                · have h1 := Nat.ne_of_beq_eq_false hk
                  have h2 := Nat.ne_of_beq_eq_false hi
                  have : ¬ i / 2 = k / 2 := by omega
                  left; rw [if_neg this]; rfl
    | node l v r =>
      cases k with
      | zero =>
        cases i with
        | zero => right; simp [Tm.set, Tm.get]
        | succ i => right; simp [Tm.set, Tm.get]
      | succ k =>
        simp only [Tm.set]
        cases i with
        | zero => right; split <;> simp [Tm.get]
        | succ i =>
          have heq : (if i + 1 = k + 1 then x else (Tm.node l v r).get (i + 1)) = (if i = k then x else (Tm.node l v r).get (i + 1)) := by
            by_cases h : i = k <;> simp [h]
          rw [heq]
          split
          · rename_i hk
            have h1 := Nat.eq_of_beq_eq_true hk
            simp only [Tm.get]
            split
            · rename_i hi
              have h2 := Nat.eq_of_beq_eq_true hi
              rcases ih l (k / 2) (i / 2) x with h | h
              · left; exact h
              · right
                rw [h]
                by_cases e : i = k
                · rw [if_pos (by omega), if_pos e]
                · rw [if_neg (by omega), if_neg e]
            · rename_i hi
              have h2 := Nat.ne_of_beq_eq_false hi
              right
              rw [if_neg (by intro e; subst e; exact h2 h1)]
          · rename_i hk
            have h1 := Nat.ne_of_beq_eq_false hk
            simp only [Tm.get]
            split
            · rename_i hi
              have h2 := Nat.eq_of_beq_eq_true hi
              right
              rw [if_neg (by intro e; subst e; exact h1 h2)]
            · rename_i hi
              have h2 := Nat.ne_of_beq_eq_false hi
              rcases ih r (k / 2) (i / 2) x with h | h
              · left; exact h
              · right
                rw [h]
                by_cases e : i = k
                · rw [if_pos (by omega), if_pos e]
                · rw [if_neg (by omega), if_neg e]

/-! ## Abstract heaps -/

/-- A jump that a round has left. -/
inductive Jmp where
  | ret
  | exit (n : Nat)
  | goto (n : Nat)
  deriving Inhabited

def Jmp.code : Jmp → Code
  | .ret => .ret
  | .exit n => .exit n
  | .goto n => .goto n

inductive Blk where
  | cells (gen : Nat) (cs : List AV) (wr : Bool)
  | map (es : List (AV × AV))
  | miter (mp : Option Nat) (seen : List AV)
  | siter (x : ByteArray) (pos : Nat)
  | loop (st : LoopState) (pending : Option Jmp) (df : Nat)
  | dfr
  deriving Inhabited

abbrev Hp := List (Nat × Blk)

def Hp.get : Hp → Nat → Option Blk
  | [], _ => none
  | (j, x) :: h, n => match Nat.beq j n with
    | true => some x
    | false => Hp.get h n

def Hp.del : Hp → Nat → Hp
  | [], _ => []
  | (j, x) :: h, n => match Nat.beq j n with
    | true => Hp.del h n
    | false => (j, x) :: Hp.del h n

def Hp.set (h : Hp) (n : Nat) (x : Blk) : Hp :=
  match h with
  | [] => [(n, x)]
  | (j, y) :: h => match Nat.beq j n with
    | true => (n, x) :: Hp.del h n
    | false => (j, y) :: Hp.set h n x

theorem Hp.get_del : ∀ (h : Hp) (n j : Nat), (h.del n).get j = if j = n then none else h.get j
  | [], n, j => by simp [Hp.del, Hp.get]
  | (k, x) :: h, n, j => by
    unfold Hp.del
    split
    · rename_i e
      have := Nat.eq_of_beq_eq_true e
      subst this
      rw [Hp.get_del h k j]
      by_cases hj : j = k
      · simp [hj]
      · have : Nat.beq k j = false := by rw [Bool.eq_false_iff]; intro h; exact hj (Nat.eq_of_beq_eq_true h).symm
        simp [hj, Hp.get, this]
    · rename_i e
      have hne := Nat.ne_of_beq_eq_false e
      simp only [Hp.get]
      split
      · rename_i e2
        have := Nat.eq_of_beq_eq_true e2
        subst this
        rw [if_neg hne]
      · exact Hp.get_del h n j

theorem Hp.get_set : ∀ (h : Hp) (n j : Nat) (x : Blk), (h.set n x).get j = if j = n then some x else h.get j
  | [], n, j, x => by
    by_cases hj : j = n
    · subst hj; simp [Hp.set, Hp.get]
    · have : Nat.beq n j = false := by rw [Bool.eq_false_iff]; intro h; exact hj (Nat.eq_of_beq_eq_true h).symm
      simp [Hp.set, Hp.get, hj, this]
  | (k, y) :: h, n, j, x => by
    unfold Hp.set
    split
    · rename_i e
      have := Nat.eq_of_beq_eq_true e
      subst this
      by_cases hj : j = k
      · subst hj; simp [Hp.get]
      · have : Nat.beq k j = false := by rw [Bool.eq_false_iff]; intro h; exact hj (Nat.eq_of_beq_eq_true h).symm
        simp [Hp.get, hj, this, Hp.get_del]
    · rename_i e
      have hne := Nat.ne_of_beq_eq_false e
      simp only [Hp.get]
      split
      · rename_i e2
        have := Nat.eq_of_beq_eq_true e2
        subst this
        rw [if_neg hne]
      · exact Hp.get_set h n j x

mutual
def AV.toV : AV → Option Value
  | .und => some undef
  | .b x => some (.bool x)
  | .i k n => some (.int k n)
  | .s x => some (.string x)
  | .nilp => some (.pointer none)
  | .snil => some (.slice none 0 0)
  | .nilmap => some (.map none)
  | .nilfn => some .nilFunc
  | .nilif => some .nilIface
  | .iface t a => match a.toV with
    | some v => some (.iface t v)
    | none => none
  | .agg cs => match AV.toVs cs with
    | some vs => some (.agg vs.toArray)
    | none => none
  | .tup cs => match AV.toVs cs with
    | some vs => some (.tuple vs.toArray)
    | none => none
  | _ => none
def AV.toVs : List AV → Option (List Value)
  | [] => some []
  | a :: as => match a.toV, AV.toVs as with
    | some v, some vs => some (v :: vs)
    | _, _ => none
end

/-! ## The relation to the world -/

structure Cx where
  m : Nat → Nat → Nat × Nat
  G : Nat → Nat
  nx : Nat
  I : Nat → Prop
  O : Nat → Prop
  w : World

def FnR (X : Cx) : Fn → Fn → Prop
  | .yield l, g => l < X.nx ∧ g = .yield (X.m l 0).1
  | f, g => g = f

mutual
def VR (X : Cx) : AV → Value → Prop
  | .any, _ => True
  | .und, v => v = undef
  | .b x, v => v = .bool x
  | .i k n, v => v = .int k n
  | .s x, v => v = .string x
  | .nilp, v => v = .pointer none
  | .ptr id g off, v => id < X.nx ∧ g ≤ X.G id ∧ v = .pointer (some ⟨(X.m id g).1, (X.m id g).2 + off, none⟩)
  | .cptr cs off, v => ∃ B o cc ty fz, X.I B ∧ X.w.heap[B]? = some (.cells cc ty fz) ∧ v = .pointer (some ⟨B, o + off, none⟩) ∧
      VRL X cs ((cc.toList.drop o).take cs.length)
  | .snil, v => v = .slice none 0 0
  | .sr id g off len sz, v => id < X.nx ∧ g ≤ X.G id ∧ ∃ cap cc ty fz, v = .slice (some ⟨(X.m id g).1, (X.m id g).2 + off, none⟩) len cap ∧ len ≤ cap ∧
      X.w.heap[(X.m id g).1]? = some (.cells cc ty fz) ∧ (X.m id g).2 + off + cap * sz ≤ cc.size
  | .srf id g off len sz, v => id < X.nx ∧ g ≤ X.G id ∧ ∃ cc ty fz, v = .slice (some ⟨(X.m id g).1, (X.m id g).2 + off, none⟩) len len ∧
      X.w.heap[(X.m id g).1]? = some (.cells cc ty fz) ∧ (X.m id g).2 + off + len * sz ≤ cc.size
  | .itr id, v => id < X.nx ∧ v = .pointer (some ⟨(X.m id 0).1, 0, none⟩)
  | .sne full, v => ∃ a cap, v = .slice (some a) 0 cap ∧ (full = true → cap = 0)
  | .sv cs len full, v => ∃ base cap, v = .slice base len cap ∧ len ≤ cap ∧ (full = true → cap = len) ∧ (len = 0 → cs = []) ∧
      (len ≠ 0 → ∃ B o cc ty fz, base = some ⟨B, o, none⟩ ∧ X.I B ∧ X.w.heap[B]? = some (.cells cc ty fz) ∧
        VRL X cs ((cc.toList.drop o).take cs.length))
  | .nilmap, v => v = .map none
  | .map id, v => id < X.nx ∧ v = .map (some (X.m id 0).1)
  | .stmp id k, v => id < X.nx ∧ ∃ (ents : Array MapEntry) (clock : Nat) (c : MapEntry), X.w.heap[(X.m id 0).1]? = some (Obj.map ents clock) ∧ c ∈ ents.toList ∧ k.toV = some c.key ∧ v = .int .i64 c.born
  | .fn f as bs, v => ∃ f' as' bs', v = .func f' as' bs' ∧ FnR X f f' ∧ VRL X as as'.toList ∧ VRL X bs bs'.toList
  | .nilfn, v => v = .nilFunc
  | .nilif, v => v = .nilIface
  | .iface t a, v => ∃ u, v = .iface t u ∧ VR X a u
  | .agg cs, v => ∃ vs, v = .agg vs ∧ VRL X cs vs.toList
  | .tup cs, v => ∃ vs, v = .tuple vs ∧ VRL X cs vs.toList
def VRL (X : Cx) : List AV → List Value → Prop
  | [], vs => vs = []
  | a :: as, vs => ∃ v vs', vs = v :: vs' ∧ VR X a v ∧ VRL X as vs'
end

theorem VRL.length {X : Cx} : ∀ {as : List AV} {vs : List Value}, VRL X as vs → vs.length = as.length
  | [], vs, h => by simp only [VRL] at h; simp [h]
  | a :: as, vs, h => by
    simp only [VRL] at h
    obtain ⟨v, vs', rfl, _, h2⟩ := h
    simp [VRL.length h2]

/-- X' goes on from X. -/
structure Ext (X X' : Cx) : Prop where
  nx : X.nx ≤ X'.nx
  G : ∀ id, id < X.nx → X.G id ≤ X'.G id
  m : ∀ id g, id < X.nx → g ≤ X.G id → X'.m id g = X.m id g
  I : ∀ B, X.I B → X'.I B
  same : ∀ B, X.I B → X'.w.heap[B]? = X.w.heap[B]?
  shape : ∀ (B : Nat) (cc : Array Value) (ty : TypeId) (fz : Nat × Nat), X.w.heap[B]? = some (Obj.cells cc ty fz) → ∃ (cc' : Array Value) (fz' : Nat × Nat), X'.w.heap[B]? = some (Obj.cells cc' ty fz') ∧ cc'.size = cc.size
  maps : ∀ (B : Nat) (ents : Array MapEntry) (clock : Nat), X.w.heap[B]? = some (Obj.map ents clock) → ∃ (ents' : Array MapEntry) (clock' : Nat), X'.w.heap[B]? = some (Obj.map ents' clock') ∧
    ∀ c ∈ ents.toList, ∃ c' ∈ ents'.toList, c'.key = c.key ∧ c'.born = c.born
  loops : ∀ (B : Nat) (L : Loop), X.w.heap[B]? = some (Obj.loop L) → ∃ L' : Loop, X'.w.heap[B]? = some (Obj.loop L') ∧ L'.tmps = L.tmps ∧ L'.params = L.params ∧ L'.assign = L.assign ∧ L'.body = L.body
  Inew : ∀ B, X'.I B → X.I B ∨ X.w.heap.size ≤ B
  O : ∀ B, X.O B → X'.O B
  keep : ∀ B, X.O B → X'.w.heap[B]? = X.w.heap[B]?
  size : X.w.heap.size ≤ X'.w.heap.size
  side : X'.w.os = X.w.os ∧ X'.w.tape = X.w.tape ∧ X'.w.output = X.w.output

theorem Ext.refl (X : Cx) : Ext X X :=
  ⟨Nat.le_refl _, fun _ _ => Nat.le_refl _, fun _ _ _ _ => rfl, fun _ h => h, fun _ _ => rfl, fun _ cc _ fz h => ⟨cc, fz, h, rfl⟩, fun _ ents clock h => ⟨ents, clock, h, fun c hc => ⟨c, hc, rfl, rfl⟩⟩,
    fun _ L h => ⟨L, h, rfl, rfl, rfl, rfl⟩, fun _ h => .inl h, fun _ h => h, fun _ _ => rfl, Nat.le_refl _, rfl, rfl, rfl⟩

theorem Ext.trans {X Y Z : Cx} (h : Ext X Y) (k : Ext Y Z) : Ext X Z where
  nx := Nat.le_trans h.nx k.nx
  G id hid := Nat.le_trans (h.G id hid) (k.G id (Nat.lt_of_lt_of_le hid h.nx))
  m id g hid hg := (k.m id g (Nat.lt_of_lt_of_le hid h.nx) (Nat.le_trans hg (h.G id hid))).trans (h.m id g hid hg)
  I B hB := k.I B (h.I B hB)
  same B hB := (k.same B (h.I B hB)).trans (h.same B hB)
  shape B cc ty fz hB := by
    obtain ⟨c1, f1, h1, s1⟩ := h.shape B cc ty fz hB
    obtain ⟨c2, f2, h2, s2⟩ := k.shape B c1 ty f1 h1
    exact ⟨c2, f2, h2, s2.trans s1⟩
  maps B ents clock hB := by
    obtain ⟨e1, c1, h1, s1⟩ := h.maps B ents clock hB
    obtain ⟨e2, c2, h2, s2⟩ := k.maps B e1 c1 h1
    refine ⟨e2, c2, h2, fun c hc => ?_⟩
    obtain ⟨x, hx, x1, x2⟩ := s1 c hc
    obtain ⟨y, hy, y1, y2⟩ := s2 x hx
    exact ⟨y, hy, y1.trans x1, y2.trans x2⟩
  loops B L hB := by
    obtain ⟨L1, h1, a1, a2, a3, a4⟩ := h.loops B L hB
    obtain ⟨L2, h2, b1, b2, b3, b4⟩ := k.loops B L1 h1
    exact ⟨L2, h2, b1.trans a1, b2.trans a2, b3.trans a3, b4.trans a4⟩
  Inew B hB := by
    rcases k.Inew B hB with h1 | h1
    · exact h.Inew B h1
    · exact .inr (Nat.le_trans h.size h1)
  O B hB := k.O B (h.O B hB)
  keep B hB := (k.keep B (h.O B hB)).trans (h.keep B hB)
  size := Nat.le_trans h.size k.size
  side := ⟨k.side.1.trans h.side.1, k.side.2.1.trans h.side.2.1, k.side.2.2.trans h.side.2.2⟩

theorem FnR.ext {X Y : Cx} (h : Ext X Y) {f g : Fn} (hf : FnR X f g) : FnR Y f g := by
  cases f <;> simp only [FnR] at hf ⊢ <;> try exact hf
  obtain ⟨h1, rfl⟩ := hf
  exact ⟨Nat.lt_of_lt_of_le h1 h.nx, by rw [h.m _ 0 h1 (Nat.zero_le _)]⟩

mutual
theorem VR.ext {X Y : Cx} (h : Ext X Y) : ∀ {a : AV} {v : Value}, VR X a v → VR Y a v
  | .any, _, _ => trivial
  | .und, _, hv => hv
  | .b _, _, hv => hv
  | .i _ _, _, hv => hv
  | .s _, _, hv => hv
  | .nilp, _, hv => hv
  | .ptr id g off, v, hv => by
    simp only [VR] at hv ⊢
    obtain ⟨h1, h2, h3⟩ := hv
    exact ⟨Nat.lt_of_lt_of_le h1 h.nx, Nat.le_trans h2 (h.G _ h1), by rw [h.m _ _ h1 h2]; exact h3⟩
  | .cptr cs off, v, hv => by
    simp only [VR] at hv ⊢
    obtain ⟨B, o, cc, ty, fz, h1, h2, h3, h4⟩ := hv
    exact ⟨B, o, cc, ty, fz, h.I _ h1, (h.same _ h1).trans h2, h3, VRL.ext h h4⟩
  | .snil, _, hv => hv
  | .sr id g off len sz, v, hv => by
    simp only [VR] at hv ⊢
    obtain ⟨h1, h2, cap, cc, ty, fz, h3, h4, h5, h6⟩ := hv
    obtain ⟨cc', fz', h7, h8⟩ := h.shape _ _ _ _ h5
    exact ⟨Nat.lt_of_lt_of_le h1 h.nx, Nat.le_trans h2 (h.G _ h1), cap, cc', ty, fz', by rw [h.m _ _ h1 h2]; exact h3, h4, by rw [h.m _ _ h1 h2]; exact h7,
      by rw [h.m _ _ h1 h2, h8]; exact h6⟩
  | .srf id g off len sz, v, hv => by
    simp only [VR] at hv ⊢
    obtain ⟨h1, h2, cc, ty, fz, h3, h5, h6⟩ := hv
    obtain ⟨cc', fz', h7, h8⟩ := h.shape _ _ _ _ h5
    exact ⟨Nat.lt_of_lt_of_le h1 h.nx, Nat.le_trans h2 (h.G _ h1), cc', ty, fz', by rw [h.m _ _ h1 h2]; exact h3, by rw [h.m _ _ h1 h2]; exact h7,
      by rw [h.m _ _ h1 h2, h8]; exact h6⟩
  | .itr id, v, hv => by
    simp only [VR] at hv ⊢
    obtain ⟨h1, h2⟩ := hv
    exact ⟨Nat.lt_of_lt_of_le h1 h.nx, by rw [h.m _ 0 h1 (Nat.zero_le _)]; exact h2⟩
  | .sne _, _, hv => hv
  | .sv cs len full, v, hv => by
    simp only [VR] at hv ⊢
    obtain ⟨base, cap, h1, h2, h3, h4, h5⟩ := hv
    refine ⟨base, cap, h1, h2, h3, h4, fun hl => ?_⟩
    obtain ⟨B, o, cc, ty, fz, h6, h7, h8, h9⟩ := h5 hl
    exact ⟨B, o, cc, ty, fz, h6, h.I _ h7, (h.same _ h7).trans h8, VRL.ext h h9⟩
  | .nilmap, _, hv => hv
  | .map id, v, hv => by
    simp only [VR] at hv ⊢
    obtain ⟨h1, h2⟩ := hv
    exact ⟨Nat.lt_of_lt_of_le h1 h.nx, by rw [h.m _ 0 h1 (Nat.zero_le _)]; exact h2⟩
  | .stmp id k, v, hv => by
    simp only [VR] at hv ⊢
    obtain ⟨h1, ents, clock, c, h2, h3, h4, h5⟩ := hv
    obtain ⟨ents', clock', g1, g2⟩ := h.maps _ _ _ h2
    obtain ⟨c', g3, g4, g5⟩ := g2 c h3
    exact ⟨Nat.lt_of_lt_of_le h1 h.nx, ents', clock', c', by rw [h.m _ 0 h1 (Nat.zero_le _)]; exact g1, g3, by rw [h4, g4], by rw [h5, g5]⟩
  | .fn f as bs, v, hv => by
    simp only [VR] at hv ⊢
    obtain ⟨f', as', bs', h1, h2, h3, h4⟩ := hv
    exact ⟨f', as', bs', h1, h2.ext h, VRL.ext h h3, VRL.ext h h4⟩
  | .nilfn, _, hv => hv
  | .nilif, _, hv => hv
  | .iface t a, v, hv => by
    simp only [VR] at hv ⊢
    obtain ⟨u, h1, h2⟩ := hv
    exact ⟨u, h1, VR.ext h h2⟩
  | .agg cs, v, hv => by
    simp only [VR] at hv ⊢
    obtain ⟨u, h1, h2⟩ := hv
    exact ⟨u, h1, VRL.ext h h2⟩
  | .tup cs, v, hv => by
    simp only [VR] at hv ⊢
    obtain ⟨u, h1, h2⟩ := hv
    exact ⟨u, h1, VRL.ext h h2⟩
theorem VRL.ext {X Y : Cx} (h : Ext X Y) : ∀ {as : List AV} {vs : List Value}, VRL X as vs → VRL Y as vs
  | [], _, hv => hv
  | a :: as, vs, hv => by
    simp only [VRL] at hv ⊢
    obtain ⟨v, vs', h1, h2, h3⟩ := hv
    exact ⟨v, vs', h1, VR.ext h h2, VRL.ext h h3⟩
end


/-! ## Values without addresses -/

mutual
theorem VR.toV {X : Cx} : ∀ {a : AV} {u v : Value}, a.toV = some u → VR X a v → v = u
  | .any, _, _, h, _ => by simp [AV.toV] at h
  | .und, _, _, h, hv => by simp only [AV.toV, Option.some.injEq] at h; subst h; exact hv
  | .b _, _, _, h, hv => by simp only [AV.toV, Option.some.injEq] at h; subst h; exact hv
  | .i _ _, _, _, h, hv => by simp only [AV.toV, Option.some.injEq] at h; subst h; exact hv
  | .s _, _, _, h, hv => by simp only [AV.toV, Option.some.injEq] at h; subst h; exact hv
  | .nilp, _, _, h, hv => by simp only [AV.toV, Option.some.injEq] at h; subst h; exact hv
  | .ptr .., _, _, h, _ => by simp [AV.toV] at h
  | .cptr .., _, _, h, _ => by simp [AV.toV] at h
  | .snil, _, _, h, hv => by simp only [AV.toV, Option.some.injEq] at h; subst h; exact hv
  | .sr .., _, _, h, _ => by simp [AV.toV] at h
  | .srf .., _, _, h, _ => by simp [AV.toV] at h
  | .sne _, _, _, h, _ => by simp [AV.toV] at h
  | .itr _, _, _, h, _ => by simp [AV.toV] at h
  | .sv .., _, _, h, _ => by simp [AV.toV] at h
  | .nilmap, _, _, h, hv => by simp only [AV.toV, Option.some.injEq] at h; subst h; exact hv
  | .map _, _, _, h, _ => by simp [AV.toV] at h
  | .stmp _ _, _, _, h, _ => by simp [AV.toV] at h
  | .fn .., _, _, h, _ => by simp [AV.toV] at h
  | .nilfn, _, _, h, hv => by simp only [AV.toV, Option.some.injEq] at h; subst h; exact hv
  | .nilif, _, _, h, hv => by simp only [AV.toV, Option.some.injEq] at h; subst h; exact hv
  | .iface t a, u, v, h, hv => by
    simp only [AV.toV] at h
    split at h
    · rename_i x hx
      simp only [Option.some.injEq] at h
      simp only [VR] at hv
      obtain ⟨y, rfl, hy⟩ := hv
      rw [← h, VR.toV hx hy]
    · cases h
  | .agg cs, u, v, h, hv => by
    simp only [AV.toV] at h
    split at h
    · rename_i x hx
      simp only [Option.some.injEq] at h
      simp only [VR] at hv
      obtain ⟨y, rfl, hy⟩ := hv
      rw [← h, ← VRL.toVs hx hy]
    · cases h
  | .tup cs, u, v, h, hv => by
    simp only [AV.toV] at h
    split at h
    · rename_i x hx
      simp only [Option.some.injEq] at h
      simp only [VR] at hv
      obtain ⟨y, rfl, hy⟩ := hv
      rw [← h, ← VRL.toVs hx hy]
    · cases h
theorem VRL.toVs {X : Cx} : ∀ {as : List AV} {us vs : List Value}, AV.toVs as = some us → VRL X as vs → vs = us
  | [], us, vs, h, hv => by
    simp only [AV.toVs, Option.some.injEq] at h
    simp only [VRL] at hv
    rw [hv, ← h]
  | a :: as, us, vs, h, hv => by
    simp only [AV.toVs] at h
    split at h
    · rename_i x xs hx hxs
      simp only [Option.some.injEq] at h
      simp only [VRL] at hv
      obtain ⟨v, vs', rfl, h1, h2⟩ := hv
      rw [← h, VR.toV hx h1, VRL.toVs hxs h2]
    · cases h
end

mutual
def ofV : Value → AV
  | .bool x => .b x
  | .int k n => .i k n
  | .string x => .s x
  | .pointer none => .nilp
  | .slice none 0 0 => .snil
  | .map none => .nilmap
  | .func (.func f) ⟨[]⟩ ⟨[]⟩ => .fn (.func f) [] []
  | .nilFunc => .nilfn
  | .nilIface => .nilif
  | .iface t v => .iface t (ofV v)
  | .agg ⟨cs⟩ => .agg (ofVs cs)
  | .tuple ⟨cs⟩ => .tup (ofVs cs)
  | _ => .any
def ofVs : List Value → List AV
  | [] => []
  | v :: vs => ofV v :: ofVs vs
end

mutual
theorem VR.ofV {X : Cx} : ∀ (v : Value), VR X (ofV v) v := by
  intro v
  cases v with
  | bool x => rfl
  | int k n => rfl
  | string x => rfl
  | pointer a => cases a <;> simp [Go.Ev.ofV, VR]
  | slice a l c =>
    cases a with
    | some a => simp [Go.Ev.ofV, VR]
    | none => cases l <;> cases c <;> simp [Go.Ev.ofV, VR]
  | map r => cases r <;> simp [Go.Ev.ofV, VR]
  | func f a b =>
    obtain ⟨a⟩ := a
    obtain ⟨b⟩ := b
    cases f <;> cases a <;> cases b <;> first | exact ⟨_, _, _, rfl, rfl, rfl, rfl⟩ | simp [Go.Ev.ofV, VR]
  | nilFunc => rfl
  | nilIface => rfl
  | iface t v => simp only [Go.Ev.ofV, VR]; exact ⟨v, rfl, VR.ofV v⟩
  | agg cs => obtain ⟨cs⟩ := cs; simp only [Go.Ev.ofV, VR]; exact ⟨_, rfl, VRL.ofVs cs⟩
  | tuple cs => obtain ⟨cs⟩ := cs; simp only [Go.Ev.ofV, VR]; exact ⟨_, rfl, VRL.ofVs cs⟩
  | float k b => simp [Go.Ev.ofV, VR]
  | complex k a b => simp [Go.Ev.ofV, VR]
  | chan r => simp [Go.Ev.ofV, VR]
theorem VRL.ofVs {X : Cx} : ∀ (vs : List Value), VRL X (ofVs vs) vs := by
  intro vs
  cases vs with
  | nil => rfl
  | cons v vs => simp only [Go.Ev.ofVs, VRL]; exact ⟨v, vs, rfl, VR.ofV v, VRL.ofVs vs⟩
end

/-! ## Heaps and frames -/

def Blk.gen : Blk → Nat
  | .cells g _ _ => g
  | _ => 0

/-- An abstract deferred call. -/
inductive AD where
  | call (f : Fn) (captured args : List AV)
  | coll (id : Nat)
  deriving Inhabited

def DR (X : Cx) : AD → Deferred → Prop
  | .call f cs as, d => ∃ f' cs', d.target = .fn f' cs' ∧ FnR X f f' ∧ VRL X cs cs'.toList ∧ VRL X as d.args.toList
  | .coll id, d => id < X.nx ∧ d.target = .collected (X.m id 0).1 ∧ d.args = #[]

def DRL (X : Cx) : List AD → List Deferred → Prop
  | [], ds => ds = []
  | a :: as, ds => ∃ d ds', ds = d :: ds' ∧ DR X a d ∧ DRL X as ds'

theorem DR.ext {X Y : Cx} (h : Ext X Y) {a : AD} {d : Deferred} (hd : DR X a d) : DR Y a d := by
  cases a with
  | call f cs as =>
    obtain ⟨f', cs', h1, h2, h3, h4⟩ := hd
    exact ⟨f', cs', h1, h2.ext h, h3.ext h, h4.ext h⟩
  | coll id =>
    obtain ⟨h1, h2, h3⟩ := hd
    exact ⟨Nat.lt_of_lt_of_le h1 h.nx, by rw [h.m _ 0 h1 (Nat.zero_le _)]; exact h2, h3⟩

theorem DRL.ext {X Y : Cx} (h : Ext X Y) : ∀ {as : List AD} {ds : List Deferred}, DRL X as ds → DRL Y as ds
  | [], _, hd => hd
  | _ :: _, _, hd => by
    obtain ⟨d, ds', h1, h2, h3⟩ := hd
    exact ⟨d, ds', h1, h2.ext h, DRL.ext h h3⟩

/-- Entries of a map, one by one. -/
def EsR (X : Cx) : List (AV × AV) → List MapEntry → Prop
  | [], p => p = []
  | e :: es, p => ∃ c p', p = c :: p' ∧ VR X e.1 c.key ∧ VR X e.2 c.val ∧ EsR X es p'

theorem EsR.ext {X Y : Cx} (h : Ext X Y) : ∀ {es : List (AV × AV)} {p : List MapEntry}, EsR X es p → EsR Y es p
  | [], _, hp => hp
  | _ :: _, _, hp => by
    obtain ⟨c, p', h1, h2, h3, h4⟩ := hp
    exact ⟨c, p', h1, h2.ext h, h3.ext h, EsR.ext h h4⟩

theorem EsR.length {X : Cx} : ∀ {es : List (AV × AV)} {p : List MapEntry}, EsR X es p → p.length = es.length
  | [], _, hp => by simp only [EsR] at hp; simp [hp]
  | _ :: _, _, hp => by
    obtain ⟨c, p', rfl, _, _, h4⟩ := hp
    simp [EsR.length h4]

/-- What the entries of a map are: in some order, each born once. -/
def MapR (X : Cx) (es : List (AV × AV)) (ents : Array MapEntry) (clock : Nat) : Prop :=
  ∃ p : List MapEntry, p.Perm ents.toList ∧ EsR X es p ∧ (∀ c ∈ ents.toList, c.born < clock) ∧ (ents.toList.map (·.born)).Nodup

def TR (X : Cx) (nt : Nat) (tm : Tm) (tmps : Array Value) : Prop :=
  tmps.size = nt ∧ ∀ i, VR X (tm.get i) (tmps.getD i undef)

theorem TR.ext {X Y : Cx} (h : Ext X Y) {nt : Nat} {tm : Tm} {tmps : Array Value} (ht : TR X nt tm tmps) : TR Y nt tm tmps :=
  ⟨ht.1, fun i => (ht.2 i).ext h⟩

def BR (X : Cx) (id : Nat) : Blk → Prop
  | .cells g cs wr => g = X.G id ∧ ∃ cc ty fz, X.w.heap[(X.m id g).1]? = some (.cells cc ty fz) ∧ (X.m id g).2 + cs.length ≤ cc.size ∧
      VRL X cs ((cc.toList.drop (X.m id g).2).take cs.length) ∧ (∀ i, i < cc.size → ¬ (fz.1 ≤ i ∧ i < fz.2)) ∧ (wr = false → X.I (X.m id g).1 ∧ ¬ X.O (X.m id g).1) ∧ (wr = true → ¬ X.I (X.m id g).1 ∧ ¬ X.O (X.m id g).1)
  | .map es => ¬ X.I (X.m id 0).1 ∧ ¬ X.O (X.m id 0).1 ∧ ∃ ents clock, X.w.heap[(X.m id 0).1]? = some (.map ents clock) ∧ MapR X es ents clock
  | .miter none seen => ¬ X.I (X.m id 0).1 ∧ ¬ X.O (X.m id 0).1 ∧ seen = [] ∧ X.w.heap[(X.m id 0).1]? = some (.mapIter none 0 #[] 0)
  | .miter (some mid) seen => ¬ X.I (X.m id 0).1 ∧ ¬ X.O (X.m id 0).1 ∧ mid < X.nx ∧ ∃ ents clock sc, X.w.heap[(X.m mid 0).1]? = some (.map ents clock) ∧
      X.w.heap[(X.m id 0).1]? = some (.mapIter (some (X.m mid 0).1) clock sc clock) ∧ (∀ c ∈ ents.toList, c.born ∈ sc.toList ↔ ∃ k ∈ seen, k.toV = some c.key) ∧
      (∀ k rest, seen = k :: rest → ∃ c ∈ ents.toList, sc.back? = some c.born ∧ k.toV = some c.key) ∧ (seen = [] → sc = #[])
  | .siter x pos => ¬ X.I (X.m id 0).1 ∧ ¬ X.O (X.m id 0).1 ∧ X.w.heap[(X.m id 0).1]? = some (.stringIter x pos)
  | .loop st pending df => ¬ X.I (X.m id 0).1 ∧ ¬ X.O (X.m id 0).1 ∧ df < X.nx ∧
      ∃ L : Loop, X.w.heap[(X.m id 0).1]? = some (.loop L) ∧ L.state = st ∧ L.pending = pending.map Jmp.code ∧ L.defers = (X.m df 0).1
  | .dfr => ¬ X.I (X.m id 0).1 ∧ ¬ X.O (X.m id 0).1 ∧ X.w.heap[(X.m id 0).1]? = some (.deferred (some []))

structure HR (X : Cx) (hp : Hp) : Prop where
  lt : ∀ id blk, hp.get id = some blk → id < X.nx
  br : ∀ id blk, hp.get id = some blk → BR X id blk
  inj : ∀ id id' blk blk', hp.get id = some blk → hp.get id' = some blk' → (X.m id blk.gen).1 = (X.m id' blk'.gen).1 → id = id'
  I : ∀ B, X.I B → B < X.w.heap.size
  O : ∀ B, X.O B → B < X.w.heap.size

structure St where
  tm : Tm
  nt : Nat
  df : List AD
  hp : Hp
  nx : Nat
  deriving Inhabited

structure SR (X : Cx) (st : St) (a : Act) : Prop where
  nx : X.nx = st.nx
  tm : TR X st.nt st.tm a.tmps
  df : DRL X st.df a.defers
  hp : HR X st.hp

end Go.Ev

namespace Go.Ev

/-! ## Worlds that change -/

/-- Only what is not memory has turned. -/
def Cx.at (X : Cx) (w : World) : Cx := { X with w := w }

theorem Ext.at {X : Cx} {w : World} (hh : w.heap = X.w.heap) (hs : w.os = X.w.os ∧ w.tape = X.w.tape ∧ w.output = X.w.output) : Ext X (X.at w) where
  nx := Nat.le_refl _
  G _ _ := Nat.le_refl _
  m _ _ _ _ := rfl
  I _ h := h
  same _ _ := by simp [Cx.at, hh]
  shape B cc ty fz h := ⟨cc, fz, by simpa [Cx.at, hh] using h, rfl⟩
  maps B ents clock h := ⟨ents, clock, by simpa [Cx.at, hh] using h, fun c hc => ⟨c, hc, rfl, rfl⟩⟩
  loops _ L h := ⟨L, by simpa [Cx.at, hh] using h, rfl, rfl, rfl, rfl⟩
  Inew _ h := .inl h
  O _ h := h
  keep _ _ := by simp [Cx.at, hh]
  size := by simp [Cx.at, hh]
  side := hs

theorem BR.at {X : Cx} {w : World} (hh : w.heap = X.w.heap) (E : Ext X (X.at w)) {id : Nat} {blk : Blk} (h : BR X id blk) : BR (X.at w) id blk := by
  cases blk with
  | cells g cs wr =>
    obtain ⟨h1, cc, ty, fz, h2, h3, h4, h5⟩ := h
    exact ⟨h1, cc, ty, fz, by simpa [Cx.at, hh] using h2, h3, h4.ext E, h5⟩
  | map es =>
    obtain ⟨h1, h2, ents, clock, h3, p, h4, h5, h7⟩ := h
    exact ⟨h1, h2, ents, clock, by simpa [Cx.at, hh] using h3, p, h4, h5.ext E, h7⟩
  | miter mp seen =>
    cases mp with
    | none => obtain ⟨h1, h2, h3, h4⟩ := h; exact ⟨h1, h2, h3, by simpa [Cx.at, hh] using h4⟩
    | some mid =>
      obtain ⟨h1, h2, h3, ents, clock, sc, h4, h5, h6⟩ := h
      exact ⟨h1, h2, h3, ents, clock, sc, by simpa [Cx.at, hh] using h4, by simpa [Cx.at, hh] using h5, h6⟩
  | siter x pos => obtain ⟨h1, h2, h3⟩ := h; exact ⟨h1, h2, by simpa [Cx.at, hh] using h3⟩
  | loop st pending df =>
    obtain ⟨h1, h2, h3, L, h4, h5⟩ := h
    exact ⟨h1, h2, h3, L, by simpa [Cx.at, hh] using h4, h5⟩
  | dfr => obtain ⟨h1, h2, h3⟩ := h; exact ⟨h1, h2, by simpa [Cx.at, hh] using h3⟩

theorem HR.at {X : Cx} {w : World} (hh : w.heap = X.w.heap) (E : Ext X (X.at w)) {hp : Hp} (h : HR X hp) : HR (X.at w) hp :=
  ⟨h.lt, fun id blk hg => (h.br id blk hg).at hh E, h.inj, fun B hB => by simpa [Cx.at, hh] using h.I B hB, fun B hB => by simpa [Cx.at, hh] using h.O B hB⟩

/-- The place of a live block lies in the heap. -/
theorem BR.lt {X : Cx} {id : Nat} {blk : Blk} (h : BR X id blk) : (X.m id blk.gen).1 < X.w.heap.size := by
  cases blk with
  | cells g cs wr => obtain ⟨_, cc, ty, fz, h2, _⟩ := h; exact (Array.getElem?_eq_some_iff.1 h2).1
  | map es => obtain ⟨_, _, ents, clock, h3, _⟩ := h; exact (Array.getElem?_eq_some_iff.1 h3).1
  | miter mp seen =>
    cases mp with
    | none => obtain ⟨h1, h2, h3, h4⟩ := h; exact (Array.getElem?_eq_some_iff.1 h4).1
    | some mid => obtain ⟨h1, h2, h3, ents, clock, sc, h4, h5, h6⟩ := h; exact (Array.getElem?_eq_some_iff.1 h5).1
  | siter x pos => obtain ⟨h1, h2, h3⟩ := h; exact (Array.getElem?_eq_some_iff.1 h3).1
  | loop st pending df => obtain ⟨h1, h2, h3, L, h4, h5⟩ := h; exact (Array.getElem?_eq_some_iff.1 h4).1
  | dfr => obtain ⟨h1, h2, h3⟩ := h; exact (Array.getElem?_eq_some_iff.1 h3).1

/-- A new block of the world, to which the next identity is given. -/
def Cx.grow (X : Cx) (o : Obj) : Cx :=
  { m := fun id g => if id = X.nx then (X.w.heap.size, 0) else X.m id g, G := fun id => if id = X.nx then 0 else X.G id, nx := X.nx + 1, I := X.I, O := X.O,
    w := { X.w with heap := X.w.heap.push o } }

theorem getElem?_push_lt {o : Obj} {h : Array Obj} {B : Nat} {x : Obj} (hx : h[B]? = some x) : (h.push o)[B]? = some x := by
  have := (Array.getElem?_eq_some_iff.1 hx).1
  rw [Array.getElem?_push, if_neg (by omega)]; exact hx

theorem getElem?_push_ne {o : Obj} {h : Array Obj} {B : Nat} (hB : B < h.size) : (h.push o)[B]? = h[B]? := by
  rw [Array.getElem?_push, if_neg (by omega)]

theorem Ext.grow (X : Cx) (o : Obj) (hI : ∀ B, X.I B → B < X.w.heap.size) (hO : ∀ B, X.O B → B < X.w.heap.size) : Ext X (X.grow o) where
  nx := Nat.le_succ _
  G id h := by simp [Cx.grow, Nat.ne_of_lt h]
  m id g h _ := by simp [Cx.grow, Nat.ne_of_lt h]
  I _ h := h
  same B h := getElem?_push_ne (hI B h)
  shape B cc ty fz h := ⟨cc, fz, getElem?_push_lt h, rfl⟩
  maps _ ents clock h := ⟨ents, clock, getElem?_push_lt h, fun c hc => ⟨c, hc, rfl, rfl⟩⟩
  loops _ L h := ⟨L, getElem?_push_lt h, rfl, rfl, rfl, rfl⟩
  Inew _ h := .inl h
  O _ h := h
  keep B h := getElem?_push_ne (hO B h)
  size := by simp [Cx.grow]
  side := ⟨rfl, rfl, rfl⟩

theorem BR.grow {X : Cx} {o : Obj} (E : Ext X (X.grow o)) {id : Nat} {blk : Blk} (hid : id < X.nx) (h : BR X id blk) : BR (X.grow o) id blk := by
  have hm : ∀ g, (X.grow o).m id g = X.m id g := fun g => by simp [Cx.grow, Nat.ne_of_lt hid]
  have hG : (X.grow o).G id = X.G id := by simp [Cx.grow, Nat.ne_of_lt hid]
  cases blk with
  | cells g cs wr =>
    obtain ⟨h1, cc, ty, fz, h2, h3, h4, h5⟩ := h
    simp only [BR, hm, hG]
    exact ⟨h1, cc, ty, fz, getElem?_push_lt h2, h3, h4.ext E, h5⟩
  | map es =>
    obtain ⟨h1, h2, ents, clock, h3, p, h4, h5, h7⟩ := h
    simp only [BR, hm]
    exact ⟨h1, h2, ents, clock, getElem?_push_lt h3, p, h4, h5.ext E, h7⟩
  | miter mp seen =>
    cases mp with
    | none => obtain ⟨h1, h2, h3, h4⟩ := h; simp only [BR, hm]; exact ⟨h1, h2, h3, getElem?_push_lt h4⟩
    | some mid =>
      obtain ⟨h1, h2, h3, ents, clock, sc, h4, h5, h6⟩ := h
      have hm' : ∀ g, (X.grow o).m mid g = X.m mid g := fun g => by simp [Cx.grow, Nat.ne_of_lt h3]
      simp only [BR, hm, hm']
      exact ⟨h1, h2, Nat.lt_succ_of_lt h3, ents, clock, sc, getElem?_push_lt h4, getElem?_push_lt h5, h6⟩
  | siter x pos => obtain ⟨h1, h2, h3⟩ := h; simp only [BR, hm]; exact ⟨h1, h2, getElem?_push_lt h3⟩
  | loop st pending df =>
    obtain ⟨h1, h2, h3, L, h4, h5⟩ := h
    have hm' : ∀ g, (X.grow o).m df g = X.m df g := fun g => by simp [Cx.grow, Nat.ne_of_lt h3]
    simp only [BR, hm, hm']
    exact ⟨h1, h2, Nat.lt_succ_of_lt h3, L, getElem?_push_lt h4, h5⟩
  | dfr => obtain ⟨h1, h2, h3⟩ := h; simp only [BR, hm]; exact ⟨h1, h2, getElem?_push_lt h3⟩

/-- The new block is live. -/
theorem HR.grow {X : Cx} {hp : Hp} (h : HR X hp) (o : Obj) (blk : Blk) (hb : BR (X.grow o) X.nx blk) : HR (X.grow o) ((X.nx, blk) :: hp) := by
  have E := Ext.grow X o h.I h.O
  have hget : ∀ id b, Hp.get ((X.nx, blk) :: hp) id = some b → (id = X.nx ∧ b = blk) ∨ (id < X.nx ∧ hp.get id = some b) := by
    intro id b hg
    simp only [Hp.get] at hg
    split at hg
    · rename_i e
      simp only [Option.some.injEq] at hg
      exact .inl ⟨(Nat.eq_of_beq_eq_true e).symm, hg.symm⟩
    · exact .inr ⟨h.lt _ _ hg, hg⟩
  have hnew : ∀ g, ((X.grow o).m X.nx g).1 = X.w.heap.size := fun g => by simp [Cx.grow]
  have hold : ∀ id b, id < X.nx → hp.get id = some b → ((X.grow o).m id b.gen).1 < X.w.heap.size := by
    intro id b hid hg
    have := (h.br id b hg).lt
    simpa [Cx.grow, Nat.ne_of_lt hid] using this
  refine ⟨fun id b hg => ?_, fun id b hg => ?_, fun id id' b b' hg hg' he => ?_, fun B hB => ?_, fun B hB => ?_⟩
  · rcases hget id b hg with ⟨rfl, _⟩ | ⟨hlt, _⟩
    · exact Nat.lt_succ_self _
    · exact Nat.lt_succ_of_lt hlt
  · rcases hget id b hg with ⟨rfl, rfl⟩ | ⟨hlt, hg⟩
    · exact hb
    · exact (h.br id b hg).grow E hlt
  · rcases hget id b hg with ⟨rfl, rfl⟩ | ⟨hlt, hg1⟩ <;> rcases hget id' b' hg' with ⟨rfl, rfl⟩ | ⟨hlt', hg1'⟩
    · rfl
    · rw [hnew] at he; have := hold _ _ hlt' hg1'; omega
    · rw [hnew] at he; have := hold _ _ hlt hg1; omega
    · refine h.inj id id' b b' hg1 hg1' ?_
      simpa [Cx.grow, Nat.ne_of_lt hlt, Nat.ne_of_lt hlt'] using he
  · have := h.I B hB; simp [Cx.grow]; omega
  · have := h.O B hB; simp [Cx.grow]; omega

/-- A new block of the world that nobody will write. -/
def Cx.frz (X : Cx) (o : Obj) : Cx :=
  { X with I := fun B => X.I B ∨ B = X.w.heap.size, w := { X.w with heap := X.w.heap.push o } }

theorem Ext.frz (X : Cx) (o : Obj) (hI : ∀ B, X.I B → B < X.w.heap.size) (hO : ∀ B, X.O B → B < X.w.heap.size) : Ext X (X.frz o) where
  nx := Nat.le_refl _
  G _ _ := Nat.le_refl _
  m _ _ _ _ := rfl
  I _ h := .inl h
  same B h := getElem?_push_ne (hI B h)
  shape B cc ty fz h := ⟨cc, fz, getElem?_push_lt h, rfl⟩
  maps _ ents clock h := ⟨ents, clock, getElem?_push_lt h, fun c hc => ⟨c, hc, rfl, rfl⟩⟩
  loops _ L h := ⟨L, getElem?_push_lt h, rfl, rfl, rfl, rfl⟩
  Inew _ h := h.imp id fun e => Nat.le_of_eq e.symm
  O _ h := h
  keep B h := getElem?_push_ne (hO B h)
  size := by simp [Cx.frz]
  side := ⟨rfl, rfl, rfl⟩

theorem HR.frz {X : Cx} {hp : Hp} (h : HR X hp) (o : Obj) : HR (X.frz o) hp := by
  have E := Ext.frz X o h.I h.O
  have hni : ∀ {B}, B < X.w.heap.size → ¬ X.I B → ¬ (X.frz o).I B := fun {B} hlt hn hi => by
    rcases hi with hi | hi
    · exact hn hi
    · omega
  refine ⟨h.lt, fun id blk hg => ?_, h.inj, fun B hB => ?_, fun B hB => ?_⟩
  · have hb := h.br id blk hg
    have hlt := hb.lt
    cases blk with
    | cells g cs wr =>
      obtain ⟨h1, cc, ty, fz, h2, h3, h4, h5, h6, h7⟩ := hb
      exact ⟨h1, cc, ty, fz, getElem?_push_lt h2, h3, h4.ext E, h5, fun e => ⟨.inl (h6 e).1, (h6 e).2⟩, fun e => ⟨hni hlt (h7 e).1, (h7 e).2⟩⟩
    | map es =>
      obtain ⟨h1, h2, ents, clock, h3, p, h4, h5, h7⟩ := hb
      exact ⟨hni hlt h1, h2, ents, clock, getElem?_push_lt h3, p, h4, h5.ext E, h7⟩
    | miter mp seen =>
      cases mp with
      | none => obtain ⟨h1, h2, h3, h4⟩ := hb; exact ⟨hni hlt h1, h2, h3, getElem?_push_lt h4⟩
      | some mid =>
        obtain ⟨h1, h2, h3, ents, clock, sc, h4, h5, h6⟩ := hb
        exact ⟨hni hlt h1, h2, h3, ents, clock, sc, getElem?_push_lt h4, getElem?_push_lt h5, h6⟩
    | siter x pos => obtain ⟨h1, h2, h3⟩ := hb; exact ⟨hni hlt h1, h2, getElem?_push_lt h3⟩
    | loop st pending df =>
      obtain ⟨h1, h2, h3, L, h4, h5⟩ := hb
      exact ⟨hni hlt h1, h2, h3, L, getElem?_push_lt h4, h5⟩
    | dfr => obtain ⟨h1, h2, h3⟩ := hb; exact ⟨hni hlt h1, h2, getElem?_push_lt h3⟩
  · rcases hB with hB | hB
    · have := h.I B hB; simp [Cx.frz]; omega
    · simp [Cx.frz]; omega
  · have := h.O B hB; simp [Cx.frz]; omega

/-! ## Writing a block that is ours -/

def Cx.put (X : Cx) (B : Nat) (o : Obj) : Cx := { X with w := { X.w with heap := X.w.heap.setIfInBounds B o } }

theorem get_put_ne {h : Array Obj} {B C : Nat} {o : Obj} (hne : C ≠ B) : (h.setIfInBounds B o)[C]? = h[C]? := by
  rw [Array.getElem?_setIfInBounds_ne (Ne.symm hne)]

theorem get_put_same {h : Array Obj} {B : Nat} {o : Obj} (hlt : B < h.size) : (h.setIfInBounds B o)[B]? = some o := by
  simp [hlt]

theorem Ext.put {X : Cx} {B : Nat} {o : Obj} (hI : ¬ X.I B) (hO : ¬ X.O B)
    (hs : ∀ cc ty fz, X.w.heap[B]? = some (.cells cc ty fz) → ∃ cc' fz', o = .cells cc' ty fz' ∧ cc'.size = cc.size)
    (hm : ∀ (ents : Array MapEntry) (clock : Nat), X.w.heap[B]? = some (Obj.map ents clock) → ∃ (ents' : Array MapEntry) (clock' : Nat), o = Obj.map ents' clock' ∧
      ∀ c ∈ ents.toList, ∃ c' ∈ ents'.toList, c'.key = c.key ∧ c'.born = c.born)
    (hl : ∀ L : Loop, X.w.heap[B]? = some (Obj.loop L) → ∃ L' : Loop, o = Obj.loop L' ∧ L'.tmps = L.tmps ∧ L'.params = L.params ∧ L'.assign = L.assign ∧ L'.body = L.body) : Ext X (X.put B o) where
  nx := Nat.le_refl _
  G _ _ := Nat.le_refl _
  m _ _ _ _ := rfl
  I _ h := h
  same C h := get_put_ne fun e => hI (e ▸ h)
  shape C cc ty fz h := by
    by_cases e : C = B
    · subst e
      obtain ⟨cc', fz', rfl, h2⟩ := hs cc ty fz h
      exact ⟨cc', fz', get_put_same (Array.getElem?_eq_some_iff.1 h).1, h2⟩
    · exact ⟨cc, fz, (get_put_ne e).trans h, rfl⟩
  maps C ents clock h := by
    by_cases e : C = B
    · subst e
      obtain ⟨ents', clock', rfl, h2⟩ := hm ents clock h
      exact ⟨ents', clock', get_put_same (Array.getElem?_eq_some_iff.1 h).1, h2⟩
    · exact ⟨ents, clock, (get_put_ne e).trans h, fun c hc => ⟨c, hc, rfl, rfl⟩⟩
  loops C L h := by
    by_cases e : C = B
    · subst e
      obtain ⟨L', rfl, h2⟩ := hl L h
      exact ⟨L', get_put_same (Array.getElem?_eq_some_iff.1 h).1, h2⟩
    · exact ⟨L, (get_put_ne e).trans h, rfl, rfl, rfl, rfl⟩
  Inew _ h := .inl h
  O _ h := h
  keep C h := get_put_ne fun e => hO (e ▸ h)
  size := by simp [Cx.put]
  side := ⟨rfl, rfl, rfl⟩

/-- A live block elsewhere is as it was. -/
theorem BR.put {X : Cx} {B : Nat} {o : Obj} (E : Ext X (X.put B o)) {id : Nat} {blk : Blk} (h : BR X id blk) (hne : (X.m id blk.gen).1 ≠ B)
    (hm : ∀ mid seen, blk = .miter (some mid) seen → (X.m mid 0).1 ≠ B) : BR (X.put B o) id blk := by
  cases blk with
  | cells g cs wr =>
    obtain ⟨h1, cc, ty, fz, h2, h3, h4, h5⟩ := h
    exact ⟨h1, cc, ty, fz, (get_put_ne hne).trans h2, h3, h4.ext E, h5⟩
  | map es =>
    obtain ⟨h1, h2, ents, clock, h3, p, h4, h5, h7⟩ := h
    exact ⟨h1, h2, ents, clock, (get_put_ne hne).trans h3, p, h4, h5.ext E, h7⟩
  | miter mp seen =>
    cases mp with
    | none => obtain ⟨h1, h2, h3, h4⟩ := h; exact ⟨h1, h2, h3, (get_put_ne hne).trans h4⟩
    | some mid =>
      obtain ⟨h1, h2, h3, ents, clock, sc, h4, h5, h6⟩ := h
      exact ⟨h1, h2, h3, ents, clock, sc, (get_put_ne (hm mid seen rfl)).trans h4, (get_put_ne hne).trans h5, h6⟩
  | siter x pos => obtain ⟨h1, h2, h3⟩ := h; exact ⟨h1, h2, (get_put_ne hne).trans h3⟩
  | loop st pending df =>
    obtain ⟨h1, h2, h3, L, h4, h5⟩ := h
    exact ⟨h1, h2, h3, L, (get_put_ne hne).trans h4, h5⟩
  | dfr => obtain ⟨h1, h2, h3⟩ := h; exact ⟨h1, h2, (get_put_ne hne).trans h3⟩

/-- One live block is written; of the walks over a map that lies there the word is handed in. -/
theorem HR.put {X : Cx} {hp : Hp} (h : HR X hp) {id : Nat} {blk blk' : Blk} {o : Obj} (hg : hp.get id = some blk) (hgen : blk'.gen = blk.gen)
    (E : Ext X (X.put (X.m id blk.gen).1 o)) (hb : BR (X.put (X.m id blk.gen).1 o) id blk')
    (hm : ∀ id2 mid seen, id2 ≠ id → hp.get id2 = some (.miter (some mid) seen) → (X.m mid 0).1 = (X.m id blk.gen).1 →
      BR (X.put (X.m id blk.gen).1 o) id2 (.miter (some mid) seen)) : HR (X.put (X.m id blk.gen).1 o) (hp.set id blk') := by
  have hcase : ∀ j b, (hp.set id blk').get j = some b → (j = id ∧ b = blk') ∨ (j ≠ id ∧ hp.get j = some b) := by
    intro j b hj
    rw [Hp.get_set] at hj
    split at hj
    · rename_i e
      exact .inl ⟨e, (Option.some.inj hj).symm⟩
    · rename_i e
      exact .inr ⟨e, hj⟩
  refine ⟨fun j b hj => ?_, fun j b hj => ?_, fun j j' b b' hj hj' he => ?_, fun B hB => ?_, fun B hB => ?_⟩
  · rcases hcase j b hj with ⟨rfl, _⟩ | ⟨_, hj⟩
    · exact h.lt _ _ hg
    · exact h.lt _ _ hj
  · rcases hcase j b hj with ⟨rfl, rfl⟩ | ⟨hne, hj⟩
    · exact hb
    · by_cases hmm : ∃ mid seen, b = .miter (some mid) seen ∧ (X.m mid 0).1 = (X.m id blk.gen).1
      · obtain ⟨mid, seen, rfl, hp'⟩ := hmm
        exact hm j mid seen hne hj hp'
      · exact (h.br j b hj).put E (fun e => hne (h.inj j id b blk hj hg e)) (fun mid seen e e2 => hmm ⟨mid, seen, e, e2⟩)
  · rcases hcase j b hj with ⟨rfl, rfl⟩ | ⟨hne, hj1⟩ <;> rcases hcase j' b' hj' with ⟨rfl, rfl⟩ | ⟨hne', hj1'⟩
    · rfl
    · exact h.inj _ _ _ _ hg hj1' (by rw [← hgen]; exact he)
    · exact h.inj _ _ _ _ hj1 hg (by rw [← hgen]; exact he)
    · exact h.inj _ _ _ _ hj1 hj1' he
  · have := h.I B hB; simpa [Cx.put] using this
  · have := h.O B hB; simpa [Cx.put] using this

/-- Cells of a live block are written. -/
theorem HR.putCells {X : Cx} {hp : Hp} (h : HR X hp) {id g : Nat} {cs cs' : List AV} (hg : hp.get id = some (.cells g cs true)) {cc cc' : Array Value} {ty : TypeId} {fz : Nat × Nat}
    (hc : X.w.heap[(X.m id g).1]? = some (.cells cc ty fz)) (hs : cc'.size = cc.size) (hf : (X.m id g).2 + cs'.length ≤ cc.size)
    (hv : VRL X cs' ((cc'.toList.drop (X.m id g).2).take cs'.length)) :
    Ext X (X.put (X.m id g).1 (.cells cc' ty fz)) ∧ HR (X.put (X.m id g).1 (.cells cc' ty fz)) (hp.set id (.cells g cs' true)) := by
  have hb := h.br _ _ hg
  obtain ⟨h1, cc0, ty0, fz0, h2, h3, h4, h5, h6, h7⟩ := hb
  have hlt := (Array.getElem?_eq_some_iff.1 hc).1
  have heq := h2.symm.trans hc
  simp only [Option.some.injEq, Obj.cells.injEq] at heq
  obtain ⟨rfl, rfl, rfl⟩ := heq
  have E : Ext X (X.put (X.m id g).1 (.cells cc' ty0 fz0)) := Ext.put (h7 rfl).1 (h7 rfl).2 (fun cc ty fz hx => by
    have heq := hx.symm.trans hc
    simp only [Option.some.injEq, Obj.cells.injEq] at heq
    obtain ⟨rfl, rfl, rfl⟩ := heq
    exact ⟨cc', fz, rfl, hs⟩) (fun ents clock hx => by rw [hc] at hx; cases hx) (fun L hx => by rw [hc] at hx; cases hx)
  refine ⟨E, h.put (blk := .cells g cs true) (blk' := .cells g cs' true) hg rfl E ?_ ?_⟩
  · exact ⟨h1, cc', ty0, fz0, get_put_same hlt, by rw [hs]; exact hf, hv.ext E, fun i hi => h5 i (by rw [← hs]; exact hi), fun e => (by cases e), fun _ => h7 rfl⟩
  · intro id2 mid seen _ hg2 he
    obtain ⟨_, _, _, ents, clock, sc, hmap, _⟩ := h.br _ _ hg2
    rw [he] at hmap
    simp only [Blk.gen] at hmap
    rw [hc] at hmap
    cases hmap

/-- A new block of the world, of which nothing is said. -/
def Cx.psh (X : Cx) (o : Obj) : Cx := { X with w := { X.w with heap := X.w.heap.push o } }

theorem Ext.psh (X : Cx) (o : Obj) (hI : ∀ B, X.I B → B < X.w.heap.size) (hO : ∀ B, X.O B → B < X.w.heap.size) : Ext X (X.psh o) where
  nx := Nat.le_refl _
  G _ _ := Nat.le_refl _
  m _ _ _ _ := rfl
  I _ h := h
  same B h := getElem?_push_ne (hI B h)
  shape B cc ty fz h := ⟨cc, fz, getElem?_push_lt h, rfl⟩
  maps _ ents clock h := ⟨ents, clock, getElem?_push_lt h, fun c hc => ⟨c, hc, rfl, rfl⟩⟩
  loops _ L h := ⟨L, getElem?_push_lt h, rfl, rfl, rfl, rfl⟩
  Inew _ h := .inl h
  O _ h := h
  keep B h := getElem?_push_ne (hO B h)
  size := by simp [Cx.psh]
  side := ⟨rfl, rfl, rfl⟩

/-- The cells of identity id lie elsewhere from now on. -/
def Cx.regen (X : Cx) (id B o : Nat) : Cx :=
  { X with m := fun i g => if i = id ∧ g = X.G id + 1 then (B, o) else X.m i g, G := fun i => if i = id then X.G id + 1 else X.G i }

theorem Ext.regen (X : Cx) (id B o : Nat) : Ext X (X.regen id B o) where
  nx := Nat.le_refl _
  G i _ := by by_cases e : i = id <;> simp [Cx.regen, e]
  m i g _ hg := by
    have : ¬ (i = id ∧ g = X.G id + 1) := fun ⟨e, e2⟩ => by subst e; omega
    simp [Cx.regen, this]
  I _ h := h
  same _ _ := rfl
  shape _ cc _ fz h := ⟨cc, fz, h, rfl⟩
  maps _ ents clock h := ⟨ents, clock, h, fun c hc => ⟨c, hc, rfl, rfl⟩⟩
  loops _ L h := ⟨L, h, rfl, rfl, rfl, rfl⟩
  Inew _ h := .inl h
  O _ h := h
  keep _ _ := rfl
  size := Nat.le_refl _
  side := ⟨rfl, rfl, rfl⟩

/-- What is live stays so under an extension that leaves the world's blocks and the places of the other identities. -/
theorem BR.same {X Y : Cx} (E : Ext X Y) {id : Nat} {blk : Blk} (h : BR X id blk) (hid : id < X.nx) (hG : Y.G id = X.G id) (hI : Y.I = X.I) (hO : Y.O = X.O)
    (hw : ∀ B, B < X.w.heap.size → Y.w.heap[B]? = X.w.heap[B]?) : BR Y id blk := by
  have hm0 : Y.m id 0 = X.m id 0 := E.m id 0 hid (Nat.zero_le _)
  have hw' : ∀ {B x}, X.w.heap[B]? = some x → Y.w.heap[B]? = some x := fun {B x} hx => (hw B (Array.getElem?_eq_some_iff.1 hx).1).trans hx
  cases blk with
  | cells g cs wr =>
    obtain ⟨h1, cc, ty, fz, h2, h3, h4, h5⟩ := h
    have hm : Y.m id g = X.m id g := E.m id g hid (by omega)
    simp only [BR, hm, hG, hI, hO]
    exact ⟨h1, cc, ty, fz, hw' h2, h3, h4.ext E, h5⟩
  | map es =>
    obtain ⟨h1, h2, ents, clock, h3, p, h4, h5, h7⟩ := h
    simp only [BR, hm0, hI, hO]
    exact ⟨h1, h2, ents, clock, hw' h3, p, h4, h5.ext E, h7⟩
  | miter mp seen =>
    cases mp with
    | none => obtain ⟨h1, h2, h3, h4⟩ := h; simp only [BR, hm0, hI, hO]; exact ⟨h1, h2, h3, hw' h4⟩
    | some mid =>
      obtain ⟨h1, h2, h3, ents, clock, sc, h4, h5, h6⟩ := h
      have hm' : Y.m mid 0 = X.m mid 0 := E.m mid 0 h3 (Nat.zero_le _)
      simp only [BR, hm0, hm', hI, hO]
      exact ⟨h1, h2, Nat.lt_of_lt_of_le h3 E.nx, ents, clock, sc, hw' h4, hw' h5, h6⟩
  | siter x pos => obtain ⟨h1, h2, h3⟩ := h; simp only [BR, hm0, hI, hO]; exact ⟨h1, h2, hw' h3⟩
  | loop st pending df =>
    obtain ⟨h1, h2, h3, L, h4, h5⟩ := h
    have hm' : Y.m df 0 = X.m df 0 := E.m df 0 h3 (Nat.zero_le _)
    simp only [BR, hm0, hm', hI, hO]
    exact ⟨h1, h2, Nat.lt_of_lt_of_le h3 E.nx, L, hw' h4, h5⟩
  | dfr => obtain ⟨h1, h2, h3⟩ := h; simp only [BR, hm0, hI, hO]; exact ⟨h1, h2, hw' h3⟩

theorem HR.psh {X : Cx} {hp : Hp} (h : HR X hp) (o : Obj) : HR (X.psh o) hp := by
  have E := Ext.psh X o h.I h.O
  refine ⟨h.lt, fun id blk hg => (h.br id blk hg).same E (h.lt _ _ hg) rfl rfl rfl (fun B hB => getElem?_push_ne hB), h.inj, fun B hB => ?_, fun B hB => ?_⟩
  · have := h.I B hB; simp [Cx.psh]; omega
  · have := h.O B hB; simp [Cx.psh]; omega

theorem HR.regen {X : Cx} {hp : Hp} (h : HR X hp) {id g : Nat} {cs cs' : List AV} (hg : hp.get id = some (.cells g cs true)) {B o : Nat}
    (hne : ∀ id' blk', id' ≠ id → hp.get id' = some blk' → (X.m id' blk'.gen).1 ≠ B) (hb : BR (X.regen id B o) id (.cells (g + 1) cs' true)) :
    HR (X.regen id B o) (hp.set id (.cells (g + 1) cs' true)) := by
  have E := Ext.regen X id B o
  have hgG : g = X.G id := (h.br _ _ hg).1
  have hmid : (X.regen id B o).m id (g + 1) = (B, o) := by simp [Cx.regen, hgG]
  have hmo : ∀ j gg, j ≠ id → (X.regen id B o).m j gg = X.m j gg := fun j gg hj => by simp [Cx.regen, hj]
  have hcase : ∀ j b, (hp.set id (.cells (g + 1) cs' true)).get j = some b → (j = id ∧ b = .cells (g + 1) cs' true) ∨ (j ≠ id ∧ hp.get j = some b) := by
    intro j b hj
    rw [Hp.get_set] at hj
    split at hj
    · rename_i e
      exact .inl ⟨e, (Option.some.inj hj).symm⟩
    · rename_i e
      exact .inr ⟨e, hj⟩
  refine ⟨fun j b hj => ?_, fun j b hj => ?_, fun j j' b b' hj hj' he => ?_, h.I, h.O⟩
  · rcases hcase j b hj with ⟨rfl, _⟩ | ⟨_, hj⟩
    · exact h.lt _ _ hg
    · exact h.lt _ _ hj
  · rcases hcase j b hj with ⟨rfl, rfl⟩ | ⟨hn, hj⟩
    · exact hb
    · exact (h.br j b hj).same E (h.lt _ _ hj) (by simp [Cx.regen, hn]) rfl rfl (fun _ _ => rfl)
  · rcases hcase j b hj with ⟨rfl, rfl⟩ | ⟨hn, hj1⟩ <;> rcases hcase j' b' hj' with ⟨rfl, rfl⟩ | ⟨hn', hj1'⟩
    · rfl
    · simp only [Blk.gen] at he
      rw [hmid, hmo _ _ hn'] at he
      exact absurd he.symm (hne _ _ hn' hj1')
    · rw [show (Blk.cells (g + 1) cs' true).gen = g + 1 from rfl, hmid, hmo _ _ hn] at he
      exact absurd he (hne _ _ hn hj1)
    · rw [hmo _ _ hn, hmo _ _ hn'] at he
      exact h.inj _ _ _ _ hj1 hj1' he

/-- Identities that are forgotten. -/
theorem HR.del {X : Cx} {hp hp' : Hp} (h : HR X hp) (hs : ∀ id blk, hp'.get id = some blk → hp.get id = some blk) : HR X hp' :=
  ⟨fun _ _ hg => h.lt _ _ (hs _ _ hg), fun _ _ hg => h.br _ _ (hs _ _ hg), fun _ _ _ _ hg hg' => h.inj _ _ _ _ (hs _ _ hg) (hs _ _ hg'), h.I, h.O⟩

end Go.Ev

namespace Go.Ev

/-! ## Sem without memory -/

def pureR {α : Type} (P : Program) : Sem α → Option α
  | .pure a => some a
  | .program k => pureR P (k P)
  | _ => none

theorem pureR_run {α : Type} {P : Program} : ∀ {s : Sem α} {a : α}, pureR P s = some a → ∀ w, s.run P w = .ok a w
  | .pure _, _, h, w => by simp only [pureR, Option.some.injEq] at h; subst h; rfl
  | .program k, a, h, w => by
    simp only [pureR] at h
    simp only [Sem.run]
    exact pureR_run h w
  | .load .., _, h, _ => by simp [pureR] at h
  | .store .., _, h, _ => by simp [pureR] at h
  | .new .., _, h, _ => by simp [pureR] at h
  | .shape .., _, h, _ => by simp [pureR] at h
  | .freeze .., _, h, _ => by simp [pureR] at h
  | .frozen .., _, h, _ => by simp [pureR] at h
  | .getObj .., _, h, _ => by simp [pureR] at h
  | .setObj .., _, h, _ => by simp [pureR] at h
  | .choose .., _, h, _ => by simp [pureR] at h
  | .sys .., _, h, _ => by simp [pureR] at h
  | .mark .., _, h, _ => by simp [pureR] at h
  | .halt .., _, h, _ => by simp [pureR] at h

theorem pureR_bind {α β : Type} {P : Program} : ∀ (s : Sem α) (f : α → Sem β), pureR P (s >>= f) = (pureR P s).bind fun a => pureR P (f a)
  | .pure _, _ => rfl
  | .program k, f => by
    show pureR P (.program fun p => (k p).bind f) = _
    simp only [pureR]
    exact pureR_bind (k P) f
  | .load .., _ => rfl
  | .store .., _ => rfl
  | .new .., _ => rfl
  | .shape .., _ => rfl
  | .freeze .., _ => rfl
  | .frozen .., _ => rfl
  | .getObj .., _ => rfl
  | .setObj .., _ => rfl
  | .choose .., _ => rfl
  | .sys .., _ => rfl
  | .mark .., _ => rfl
  | .halt .., _ => rfl

/-- The program, and its types in a form that is quickly read. -/
structure TP where
  P : Program
  und : TypeId → Option TypeDesc
  info : TypeId → Option TypeInfo
  fn : FuncId → Option Func
  zero : TypeId → Option AV

/-- A function that can be entered. -/
def fnOf (P : Program) (f : FuncId) : Option Func :=
  match P.funcs[f]? with
  | none => none
  | some fn => if fn.name == "runtime.NumGoroutine" then none else if fn.body.isNone then none else some fn

abbrev TP.of (P : Program) : TP := { P, und := P.underlying, info := P.info?, fn := fnOf P, zero := fun t => (pureR P (zeroValue t)).map ofV }

theorem fnOf_spec {P : Program} {f : FuncId} {fn : Func} (h : fnOf P f = some fn) : P.funcs[f]? = some fn ∧ (fn.name == "runtime.NumGoroutine") = false ∧ fn.body.isNone = false := by
  unfold fnOf at h
  split at h
  · cases h
  · rename_i fn' hf
    split at h
    · cases h
    · rename_i h1
      split at h
      · cases h
      · rename_i h2
        simp only [Option.some.injEq] at h
        subst h
        exact ⟨hf, by simpa using h1, by revert h2; cases fn'.body.isNone <;> simp⟩

theorem tpI {P : Program} {t : TypeId} {i : TypeInfo} (h : (TP.of P).info t = some i) : P.info? t = some i := h
theorem tpU {P : Program} {t : TypeId} {d : TypeDesc} (h : (TP.of P).und t = some d) : P.underlying t = some d := h

/-! ## What an operation comes to -/

inductive OpR where
  | val (v : AV)
  | skip
  | enter (f : FuncId) (args : List AV)
  | round (l : Nat) (args : List AV)
  | dfr (d : AD)
  | pan (v : AV)
  | recov
  deriving Inhabited

abbrev Outs := Option (List (OpR × Hp × Nat))

def ret1 (r : OpR) (hp : Hp) (nx : Nat) : Outs := some [(r, hp, nx)]

/-- One outcome, met by the model's own result. -/
def Met (X X' : Cx) (r : OpR) (hp : Hp) (nx : Nat) (res : Result Next) : Prop :=
  Ext X X' ∧ X'.nx = nx ∧ HR X' hp ∧
  match r with
  | .val a => ∃ v, res = .ok (.value v) X'.w ∧ VR X' a v
  | .skip => res = .ok .skip X'.w
  | .enter f as => ∃ args, res = .ok (.enter f args) X'.w ∧ VRL X' as args.toList
  | .round l as => ∃ (P : Program) (args : Array Value), res = (Instr.yield (X'.m l 0).1 args).run P X'.w ∧ VRL X' as args.toList ∧ l < X'.nx
  | .dfr d => ∃ d', res = .ok (.defer d') X'.w ∧ DR X' d d'
  | .pan a => ∃ v, res = .halt (.panic v) X'.w ∧ VR X' a v
  | .recov => res = .ok .recover X'.w

def OK (X : Cx) (outs : Outs) (res : Result Next) : Prop :=
  ∀ l, outs = some l → ∃ r hp nx X', (r, hp, nx) ∈ l ∧ Met X X' r hp nx res

theorem OK.one {X X' : Cx} {r : OpR} {hp : Hp} {nx : Nat} {res : Result Next} (h : Met X X' r hp nx res) : OK X (ret1 r hp nx) res := by
  intro l hl
  simp only [ret1, Option.some.injEq] at hl
  subst hl
  exact ⟨r, hp, nx, X', by simp, h⟩

theorem OK.none {X : Cx} {res : Result Next} : OK X none res := fun _ h => by cases h

/-- Nothing but a value. -/
theorem OK.val {X : Cx} {hp : Hp} {a : AV} {v : Value} {res : Result Next} (hp0 : HR X hp) (hr : res = .ok (.value v) X.w) (hv : VR X a v) : OK X (ret1 (.val a) hp X.nx) res :=
  OK.one ⟨Ext.refl X, rfl, hp0, v, hr, hv⟩

/-! ## Types -/

def aggD : TypeDesc → Bool
  | .struct _ | .array _ _ => true
  | _ => false

def szOf (T : TP) (t : TypeId) : Option Nat :=
  match T.info t with
  | some i => some i.size
  | none => none

theorem run_sizeOf' {P : Program} {t : TypeId} {n : Nat} (h : szOf (TP.of P) t = some n) (w : World) : (sizeOf t).run P w = .ok n w := by
  unfold szOf at h
  split at h
  · rename_i i hi
    have hi := tpI hi
    simp only [Option.some.injEq] at h
    subst h
    simp [sizeOf, typeInfo, hi]
  · cases h

theorem run_underlying' {P : Program} {t : TypeId} {d : TypeDesc} (h : P.underlying t = some d) (w : World) : (underlying t).run P w = .ok d w := by
  simp [underlying, h]

theorem run_isAgg' {P : Program} {t : TypeId} {d : TypeDesc} (h : P.underlying t = some d) (w : World) : (isAgg t).run P w = .ok (aggD d) w := by
  simp only [isAgg, Sem.run_bind, run_underlying' h, Result.andThen_ok]
  cases d <;> rfl

/-! ## Lists -/

theorem VRL.get {X : Cx} : ∀ {as : List AV} {vs : List Value} {i : Nat} {a : AV}, VRL X as vs → as[i]? = some a → ∃ v, vs[i]? = some v ∧ VR X a v
  | [], _, _, _, _, h => by simp at h
  | b :: as, vs, i, a, hv, h => by
    simp only [VRL] at hv
    obtain ⟨v, vs', rfl, h1, h2⟩ := hv
    cases i with
    | zero => simp only [List.getElem?_cons_zero, Option.some.injEq] at h; subst h; exact ⟨v, rfl, h1⟩
    | succ i => simp only [List.getElem?_cons_succ] at h ⊢; exact VRL.get h2 h

theorem VRL.drop {X : Cx} : ∀ {as : List AV} {vs : List Value} (n : Nat), VRL X as vs → VRL X (as.drop n) (vs.drop n)
  | _, _, 0, h => by simpa using h
  | [], _, n + 1, h => by simp only [VRL] at h; subst h; simp [VRL]
  | _ :: as, _, n + 1, h => by
    simp only [VRL] at h
    obtain ⟨v, vs', rfl, _, h2⟩ := h
    simpa using VRL.drop n h2

theorem VRL.take {X : Cx} : ∀ {as : List AV} {vs : List Value} (n : Nat), VRL X as vs → VRL X (as.take n) (vs.take n)
  | _, _, 0, _ => by simp [VRL]
  | [], _, n + 1, h => by simp only [VRL] at h; subst h; simp [VRL]
  | _ :: as, _, n + 1, h => by
    simp only [VRL] at h
    obtain ⟨v, vs', rfl, h1, h2⟩ := h
    simp only [List.take_succ_cons, VRL]
    exact ⟨v, _, rfl, h1, VRL.take n h2⟩

theorem VRL.append {X : Cx} : ∀ {as bs : List AV} {us vs : List Value}, VRL X as us → VRL X bs vs → VRL X (as ++ bs) (us ++ vs)
  | [], _, _, _, h, k => by simp only [VRL] at h; subst h; simpa using k
  | _ :: as, bs, us, vs, h, k => by
    simp only [VRL] at h
    obtain ⟨v, vs', rfl, h1, h2⟩ := h
    simp only [List.cons_append, VRL]
    exact ⟨v, _, rfl, h1, VRL.append h2 k⟩

theorem VRL.map {X : Cx} {α : Type} {f : α → AV} {g : α → Value} (h : ∀ x, VR X (f x) (g x)) : ∀ (l : List α), VRL X (l.map f) (l.map g)
  | [] => rfl
  | x :: l => by simp only [List.map_cons, VRL]; exact ⟨_, _, rfl, h x, VRL.map h l⟩

theorem VRL.snoc {X : Cx} {as : List AV} {vs : List Value} {a : AV} {v : Value} (h : VRL X as vs) (k : VR X a v) : VRL X (as ++ [a]) (vs ++ [v]) :=
  h.append ⟨v, [], rfl, k, rfl⟩

/-- Is it the value of one cell? -/
def AV.cell : AV → Bool
  | .any | .agg _ | .tup _ | .und => false
  | _ => true

theorem VR.oneCell {X : Cx} {a : AV} {v : Value} (hc : a.cell = true) (h : VR X a v) : v.oneCell' = true := by
  cases a <;> simp only [AV.cell, Bool.false_eq_true] at hc <;> simp only [VR] at h
  case b => subst h; rfl
  case i => subst h; rfl
  case s => subst h; rfl
  case nilp => subst h; rfl
  case ptr => obtain ⟨_, _, rfl⟩ := h; rfl
  case cptr => obtain ⟨_, _, _, _, _, _, _, rfl, _⟩ := h; rfl
  case snil => subst h; rfl
  case sr => obtain ⟨_, _, _, _, _, _, rfl, _⟩ := h; rfl
  case srf => obtain ⟨_, _, _, _, _, rfl, _⟩ := h; rfl
  case sne => obtain ⟨_, _, rfl, _⟩ := h; rfl
  case itr => obtain ⟨_, rfl⟩ := h; rfl
  case sv => obtain ⟨_, _, rfl, _⟩ := h; rfl
  case nilmap => subst h; rfl
  case map => obtain ⟨_, rfl⟩ := h; rfl
  case stmp => obtain ⟨_, _, _, _, _, _, _, rfl⟩ := h; rfl
  case fn => obtain ⟨_, _, _, rfl, _⟩ := h; rfl
  case nilfn => subst h; rfl
  case nilif => subst h; rfl
  case iface => obtain ⟨_, rfl, _⟩ := h; rfl

/-- The cells of a value. -/
def AV.cs : AV → Option (List AV)
  | .agg cs => some cs
  | a => match a.cell with
    | true => some [a]
    | false => none

theorem VR.cs {X : Cx} {a : AV} {v : Value} {cs : List AV} (hc : a.cs = some cs) (h : VR X a v) : VRL X cs v.cells.toList := by
  have key : ∀ (hc : a.cell = true), VRL X [a] v.cells.toList := fun hc => by
    have h1 := h.oneCell hc
    have : v.cells = #[v] := by cases v <;> first | rfl | simp [Value.oneCell'] at h1
    rw [this]
    exact ⟨v, [], rfl, h, rfl⟩
  cases a
  case agg l =>
    simp only [AV.cs, Option.some.injEq] at hc
    subst hc
    simp only [VR] at h
    obtain ⟨vs, rfl, h⟩ := h
    exact h
  all_goals
    simp only [AV.cs] at hc
    split at hc
    · rename_i hx
      simp only [Option.some.injEq] at hc
      subst hc
      exact key hx
    · cases hc

/-- Cells laid over others from a place on. -/
def splice : List AV → Nat → List AV → List AV
  | as, 0, bs => over as bs
  | [], _ + 1, _ => []
  | a :: as, n + 1, bs => a :: splice as n bs
where
  over : List AV → List AV → List AV
    | as, [] => as
    | [], _ :: _ => []
    | _ :: as, b :: bs => b :: over as bs

theorem splice_eq : ∀ (as : List AV) (n : Nat) (bs : List AV), n + bs.length ≤ as.length → splice as n bs = as.take n ++ bs ++ as.drop (n + bs.length)
  | as, 0, bs, h => by
    simp only [splice, List.take_zero, List.nil_append, Nat.zero_add]
    induction bs generalizing as with
    | nil => cases as <;> simp [splice.over]
    | cons b bs ih =>
      cases as with
      | nil => simp at h
      | cons a as => simp only [splice.over, List.length_cons, List.drop_succ_cons, List.cons_append]; rw [ih as (by simp at h ⊢; omega)]
  | [], n + 1, bs, h => by simp at h
  | a :: as, n + 1, bs, h => by
    have ih := splice_eq as n bs (by simp at h; omega)
    simp only [splice, ih, List.take_succ_cons, List.cons_append]
    rw [show n + 1 + bs.length = (n + bs.length) + 1 by omega, List.drop_succ_cons]

/-! ## Loads -/

theorem cell?_of {w : World} {B q : Nat} {cc : Array Value} {ty : TypeId} {fz : Nat × Nat} (h : w.heap[B]? = some (.cells cc ty fz)) : w.cell? ⟨B, q, none⟩ = cc[q]? := by
  simp [World.cell?, h]

theorem add_none (B o n : Nat) : (⟨B, o, none⟩ : Addr).add n = ⟨B, o + n, none⟩ := by
  unfold Addr.add; split <;> simp_all

theorem run_loadCells' {P : Program} {w : World} {B o n : Nat} {cc : Array Value} {ty : TypeId} {fz : Nat × Nat} (h : w.heap[B]? = some (.cells cc ty fz)) (hn : o + n ≤ cc.size) :
    (loadCells ⟨B, o, none⟩ n).run P w = .ok ((cc.toList.drop o).take n).toArray w := by
  have hl : ((cc.toList.drop o).take n).length = n := by simp; omega
  have := run_loadCells_list (P := P) w ⟨B, o, none⟩ ((cc.toList.drop o).take n) (fun j v hj => by
    rw [add_none, cell?_of h]
    have hjn : j < n := by have := (List.getElem?_eq_some_iff.1 hj).1; omega
    rw [List.getElem?_take_of_lt hjn, List.getElem?_drop] at hj
    simpa using hj)
  rw [hl] at this
  exact this

/-- What is loaded from cells. -/
def loadA (T : TP) (t : TypeId) (cs : List AV) (off : Nat) : Option AV :=
  match T.und t with
  | none => none
  | some d => match aggD d with
    | true => match szOf T t with
      | none => none
      | some n => match Nat.ble (off + n) cs.length with
        | true => some (.agg ((cs.drop off).take n))
        | false => none
    | false => cs[off]?

theorem run_loadVar' {P : Program} {X : Cx} {t : TypeId} {cs : List AV} {off B o : Nat} {a : AV} {cc : Array Value} {ty : TypeId} {fz : Nat × Nat} (ha : loadA (TP.of P) t cs off = some a)
    (hB : X.w.heap[B]? = some (.cells cc ty fz)) (hv : VRL X cs ((cc.toList.drop o).take cs.length)) :
    ∃ v, (loadVar t ⟨B, o + off, none⟩).run P X.w = .ok v X.w ∧ VR X a v := by
  have hlen : o + cs.length ≤ cc.size ∨ cs.length = 0 := by
    have := hv.length
    simp at this
    omega
  unfold loadA at ha
  split at ha
  · cases ha
  · rename_i d hd
    split at ha
    · rename_i hagg
      split at ha
      · cases ha
      · rename_i n hn
        split at ha
        · rename_i hle
          have hle' := Nat.le_of_ble_eq_true hle
          simp only [Option.some.injEq] at ha
          subst ha
          refine ⟨.agg ((cc.toList.drop (o + off)).take n).toArray, ?_, ?_⟩
          · rcases Nat.eq_zero_or_pos cs.length with h0 | h0
            · have hn0 : n = 0 := by omega
              have hl0 : ∀ x : Addr, (loadCells x 0).run P X.w = .ok #[] X.w := fun x => by simpa using run_loadCells_list (P := P) X.w x [] (by simp)
              simp [loadVar, run_isAgg' hd, hagg, run_sizeOf' hn, hn0, hl0]
            · have := run_loadCells' (P := P) (n := n) (o := o + off) hB (by omega)
              simp [loadVar, run_isAgg' hd, hagg, run_sizeOf' hn, this]
          · simp only [VR]
            refine ⟨_, rfl, ?_⟩
            have := (hv.drop off).take n
            rw [List.drop_take, List.take_take, List.drop_drop] at this
            rw [show min n (cs.length - off) = n by omega] at this
            simpa using this
        · cases ha
    · rename_i hagg
      obtain ⟨v, hv1, hv2⟩ := hv.get ha
      refine ⟨v, ?_, hv2⟩
      have hlt : off < cs.length := (List.getElem?_eq_some_iff.1 ha).1
      rw [List.getElem?_take_of_lt hlt, List.getElem?_drop] at hv1
      have hc : X.w.cell? ⟨B, o + off, none⟩ = some v := by rw [cell?_of hB]; simpa using hv1
      simp [loadVar, run_isAgg' hd, hagg, hc]

def evLoad (T : TP) (t : TypeId) (a : AV) (hp : Hp) (nx : Nat) : Outs :=
  match a with
  | .ptr id g off => match hp.get id with
    | some (.cells g' cs _) => match Nat.beq g g' with
      | true => match loadA T t cs off with
        | some v => ret1 (.val v) hp nx
        | none => none
      | false => none
    | _ => none
  | .cptr cs off => match loadA T t cs off with
    | some v => ret1 (.val v) hp nx
    | none => none
  | _ => none

theorem evLoad_ok {P : Program} {X : Cx} {hp : Hp} (h : HR X hp) {t : TypeId} {a : AV} {va : Value} (hva : VR X a va) (ρ : Operand → Value) (x : Operand) (hx : ρ x = va) (o : Oper)
    (ho : o.op = .load t x) : OK X (evLoad (TP.of P) t a hp X.nx) ((execOp ρ o).run P X.w) := by
  have hrun : (execOp ρ o).run P X.w = ((Instr.loadAt t va).run P X.w).andThen fun v w => .ok (.value v) w := by
    simp [execOp, ho, hx]
  rw [hrun]
  unfold evLoad
  split
  · rename_i id g off
    split
    · rename_i g' cs wr hg
      split
      · rename_i hgg
        have := Nat.eq_of_beq_eq_true hgg
        subst this
        split
        · rename_i v hv
          simp only [VR] at hva
          obtain ⟨_, _, rfl⟩ := hva
          obtain ⟨_, cc, ty, fz, h2, _, h4, _⟩ := h.br _ _ hg
          obtain ⟨u, hu1, hu2⟩ := run_loadVar' hv h2 h4
          refine OK.val h ?_ hu2
          simp [Instr.loadAt, Instr.sureAddr, hu1]
        · exact OK.none
      · exact OK.none
    · exact OK.none
  · rename_i cs off
    split
    · rename_i v hv
      simp only [VR] at hva
      obtain ⟨B, q, cc, ty, fz, _, h2, rfl, h4⟩ := hva
      obtain ⟨u, hu1, hu2⟩ := run_loadVar' hv h2 h4
      refine OK.val h ?_ hu2
      simp [Instr.loadAt, Instr.sureAddr, hu1]
    · exact OK.none
  · exact OK.none

end Go.Ev

namespace Go.Ev

/-! ## Stores -/

theorem putL_window {α : Type} (l vs : List α) (o off n : Nat) (h : o + n ≤ l.length) (h2 : off + vs.length ≤ n) :
    ((l.take (o+off) ++ vs ++ l.drop (o+off+vs.length)).drop o).take n = ((l.drop o).take n).take off ++ vs ++ ((l.drop o).take n).drop (off+vs.length) := by
  apply List.ext_getElem?
  intro i
  simp only [List.getElem?_take, List.getElem?_drop, List.getElem?_append, List.length_take, List.length_append, List.length_drop]
  grind

theorem setCell_eq {w : World} {B q : Nat} {cc : Array Value} {ty : TypeId} {fz : Nat × Nat} (h : w.heap[B]? = some (.cells cc ty fz)) (v : Value) :
    w.setCell ⟨B, q, none⟩ v = { w with heap := w.heap.setIfInBounds B (.cells (cc.setIfInBounds q v) ty fz) } := by
  have hlt := (Array.getElem?_eq_some_iff.1 h).1
  have hB := (Array.getElem?_eq_some_iff.1 h).2
  simp only [World.setCell, Option.isSome_none, Bool.false_eq_true, if_false]
  congr 1
  apply Array.ext_getElem?
  intro i
  rw [Array.getElem?_modify, Array.getElem?_setIfInBounds]
  by_cases hi : B = i
  · subst hi
    simp [hlt, hB]
  · simp [hi]

theorem set_set_eq {h : Array Obj} {B : Nat} (a b : Obj) : (h.setIfInBounds B a).setIfInBounds B b = h.setIfInBounds B b := by
  apply Array.ext_getElem?
  intro i
  simp only [Array.getElem?_setIfInBounds, Array.size_setIfInBounds]
  split <;> rfl

theorem set_same_eq {h : Array Obj} {B : Nat} {a : Obj} (hB : h[B]? = some a) : h.setIfInBounds B a = h := by
  apply Array.ext_getElem?
  intro i
  rw [Array.getElem?_setIfInBounds]
  split
  · rename_i e
    subst e
    split
    · exact hB.symm
    · rename_i hn
      rw [Array.getElem?_eq_none (by omega)]
  · rfl

theorem run_storeCells' {P : Program} (B o : Nat) (ty : TypeId) (fz : Nat × Nat) : ∀ (vs : List Value) (i : Nat) (cc : Array Value) (w : World), w.heap[B]? = some (.cells cc ty fz) →
    o + i + vs.length ≤ cc.size → (∀ j, j < cc.size → ¬ (fz.1 ≤ j ∧ j < fz.2)) → (∀ v ∈ vs, v.oneCell' = true) →
    (storeCells ⟨B, o, none⟩ vs i).run P w = .ok () { w with heap := w.heap.setIfInBounds B (.cells (cc.toList.take (o + i) ++ vs ++ cc.toList.drop (o + i + vs.length)).toArray ty fz) }
  | [], i, cc, w, h, _, _, _ => by
    simp only [storeCells, List.append_nil, List.length_nil, Nat.add_zero, List.take_append_drop]
    rw [set_same_eq h]
    rfl
  | v :: vs, i, cc, w, h, hs, hf, h1 => by
    have hlen : o + i < cc.size := by simp at hs; omega
    have hc : w.cell? ⟨B, o + i, none⟩ = some cc[o + i] := by rw [cell?_of h]; simp [hlen]
    have hz : w.frozen? ⟨B, o + i, none⟩ = false := by
      obtain ⟨lo, hi⟩ := fz
      simp only [World.frozen?, h]
      have := hf (o + i) hlen
      simp only [Bool.and_eq_false_iff, decide_eq_false_iff_not]
      simp at this
      omega
    have hst : (store ((⟨B, o, none⟩ : Addr).add i) v).run P w = .ok () (w.setCell ⟨B, o + i, none⟩ v) := by
      rw [add_none, run_store P w _ v _ (h1 v (by simp))]
      simp [hc, hz]
    rw [setCell_eq h] at hst
    have hlt := (Array.getElem?_eq_some_iff.1 h).1
    have ih := run_storeCells' (P := P) B o ty fz vs (i + 1) (cc.setIfInBounds (o + i) v) { w with heap := w.heap.setIfInBounds B (.cells (cc.setIfInBounds (o + i) v) ty fz) }
      (get_put_same hlt) (by simp at hs ⊢; omega) (by simpa using hf) (fun x hx => h1 x (by simp [hx]))
    simp only [storeCells, Sem.run_bind, hst, Result.andThen_ok, ih]
    congr 2
    rw [set_set_eq]
    congr 2
    simp only [Array.toList_setIfInBounds, List.append_assoc, List.cons_append, List.length_cons]
    congr 1
    apply List.ext_getElem?
    intro j
    have hcl : cc.toList.length = cc.size := by simp
    simp only [List.getElem?_append, List.getElem?_take, List.getElem?_drop, List.getElem?_set, List.length_take, List.length_set, List.getElem?_cons]
    grind

/-- A store into a block that is ours. -/
def storeA (T : TP) (t : TypeId) (id g off : Nat) (v : AV) (hp : Hp) : Option Hp :=
  match hp.get id with
  | some (.cells g' cs true) => match Nat.beq g g', v.cs, szOf T t with
    | true, some bs, some n => match Nat.beq bs.length n && Nat.ble (off + bs.length) cs.length && bs.all AV.cell with
      | true => some (hp.set id (.cells g (splice cs off bs) true))
      | false => none
    | _, _, _ => none
  | _ => none

theorem VRL.ones {X : Cx} : ∀ {as : List AV} {vs : List Value}, as.all AV.cell = true → VRL X as vs → ∀ v ∈ vs, v.oneCell' = true
  | [], _, _, h => by simp only [VRL] at h; subst h; simp
  | a :: as, vs, hc, h => by
    simp only [VRL] at h
    obtain ⟨v, vs', rfl, h1, h2⟩ := h
    simp only [List.all_cons, Bool.and_eq_true] at hc
    intro x hx
    rcases List.mem_cons.1 hx with rfl | hx
    · exact h1.oneCell hc.1
    · exact VRL.ones hc.2 h2 x hx

theorem VRL.splice {X : Cx} {cs bs : List AV} {l vs : List Value} {o off : Nat} (hcs : VRL X cs ((l.drop o).take cs.length)) (hbs : VRL X bs vs) (ho : o + cs.length ≤ l.length)
    (hoff : off + bs.length ≤ cs.length) : VRL X (splice cs off bs) (((l.take (o + off) ++ vs ++ l.drop (o + off + vs.length)).drop o).take (splice cs off bs).length) := by
  have hvl := hbs.length
  rw [splice_eq cs off bs hoff]
  have hl : (cs.take off ++ bs ++ cs.drop (off + bs.length)).length = cs.length := by simp; omega
  rw [hl, putL_window l vs o off cs.length ho (by omega)]
  refine ((hcs.take off).append hbs).append ?_
  rw [hvl]
  exact hcs.drop _

theorem storeA_ok {P : Program} {X : Cx} {hp hp' : Hp} (h : HR X hp) {t : TypeId} {id g off : Nat} {v : AV} {u : Value} (hs : storeA (TP.of P) t id g off v hp = some hp') (hv : VR X v u) :
    ∃ X', Ext X X' ∧ X'.nx = X.nx ∧ HR X' hp' ∧ (storeVar t ⟨(X.m id g).1, (X.m id g).2 + off, none⟩ u).run P X.w = .ok () X'.w := by
  unfold storeA at hs
  split at hs
  · rename_i g' cs hg
    split at hs
    · rename_i bs n hgg hbs hn
      have := Nat.eq_of_beq_eq_true hgg
      subst this
      split at hs
      · rename_i hcond
        simp only [Bool.and_eq_true] at hcond
        obtain ⟨⟨hc1, hc2⟩, hc3⟩ := hcond
        have hc1 := Nat.eq_of_beq_eq_true hc1
        have hc2 := Nat.le_of_ble_eq_true hc2
        simp only [Option.some.injEq] at hs
        subst hs
        obtain ⟨_, cc, ty, fz, h2, h3, h4, h5, _⟩ := h.br _ _ hg
        have hvc := hv.cs hbs
        have hul := hvc.length
        have hones := hvc.ones hc3
        have hl : (splice cs off bs).length = cs.length := by rw [splice_eq cs off bs hc2]; simp; omega
        have hrun := run_storeCells' (P := P) (X.m id g).1 ((X.m id g).2 + off) ty fz u.cells.toList 0 cc X.w h2 (by rw [hul]; omega) h5 hones
        have hsp := h4.splice hvc (by simpa using h3) hc2
        obtain ⟨E, hr⟩ := h.putCells (cc' := (cc.toList.take ((X.m id g).2 + off) ++ u.cells.toList ++ cc.toList.drop ((X.m id g).2 + off + u.cells.toList.length)).toArray) hg h2
          (by simp at hul ⊢; omega) (by rw [hl]; exact h3) (by simpa using hsp)
        refine ⟨_, E, rfl, hr, ?_⟩
        have hne : ¬ u.cells.size ≠ n := by have : u.cells.size = u.cells.toList.length := by simp
                                            omega
        simp only [storeVar, Sem.run_bind, run_sizeOf' hn, Result.andThen_ok, Sem.run_ite, hne, if_false]
        simp only [Nat.add_zero] at hrun
        simp [hrun, Cx.put]
      · cases hs
    · cases hs
  · cases hs

def evStore (T : TP) (t : TypeId) (a v : AV) (hp : Hp) (nx : Nat) : Outs :=
  match a with
  | .ptr id g off => match storeA T t id g off v hp with
    | some hp' => ret1 .skip hp' nx
    | none => none
  | _ => none

theorem evStore_ok {P : Program} {X : Cx} {hp : Hp} (h : HR X hp) {t : TypeId} {a v : AV} (ρ : Operand → Value) (x y : Operand) (hva : VR X a (ρ x)) (hv : VR X v (ρ y)) (o : Oper)
    (ho : o.op = .store t x y) : OK X (evStore (TP.of P) t a v hp X.nx) ((execOp ρ o).run P X.w) := by
  have hrun : (execOp ρ o).run P X.w = ((Instr.storeAt t (ρ x) (ρ y)).run P X.w).andThen fun _ w => .ok .skip w := by
    simp [execOp, ho]
  rw [hrun]
  unfold evStore
  split
  · rename_i id g off
    split
    · rename_i hp' hs
      simp only [VR] at hva
      obtain ⟨_, _, hva⟩ := hva
      obtain ⟨X', E, hn, hr, hst⟩ := storeA_ok h hs hv
      refine OK.one ⟨E, hn, hr, ?_⟩
      simp [hva, Instr.storeAt, Instr.sureAddr, hst]
    · exact OK.none
  · exact OK.none

/-! ## New blocks -/

theorem run_newRow (P : Program) (w : World) (t : TypeId) (cs : Array Value) : (newRow t cs).run P w = .ok ⟨w.heap.size, 0, none⟩ { w with heap := w.heap.push (.cells cs t) } := by
  simp [newRow]

/-- A new variable of ours. -/
theorem new_ok {X : Cx} {hp : Hp} (h : HR X hp) {t : TypeId} {cs : List AV} {vs : Array Value} (hv : VRL X cs vs.toList) :
    Ext X (X.grow (.cells vs t)) ∧ HR (X.grow (.cells vs t)) ((X.nx, .cells 0 cs true) :: hp) ∧ VR (X.grow (.cells vs t)) (.ptr X.nx 0 0) (.pointer (some ⟨X.w.heap.size, 0, none⟩)) := by
  have E := Ext.grow X (.cells vs t) h.I h.O
  have hl := hv.length
  refine ⟨E, h.grow _ _ ?_, ?_⟩
  · simp only [BR, Cx.grow, if_pos, true_and]
    refine ⟨vs, t, (0, 0), by simp, by simp at hl; omega, ?_, by simp, ?_⟩
    · have := hv.ext E
      rw [List.drop_zero, ← hl, List.take_length]
      exact this
    · refine ⟨fun e => (by cases e), fun _ => ⟨fun hI => ?_, fun hO => ?_⟩⟩
      · have := h.I _ hI; omega
      · have := h.O _ hO; omega
  · simp [VR, Cx.grow]

def evAlloc (T : TP) (t : TypeId) (hp : Hp) (nx : Nat) : Outs :=
  match T.info t with
  | some i => match i.zero with
    | some z => ret1 (.val (.ptr nx 0 0)) ((nx, .cells 0 (ofVs z.cells.toList) true) :: hp) (nx + 1)
    | none => none
  | none => none

theorem evAlloc_ok {P : Program} {X : Cx} {hp : Hp} (h : HR X hp) {t : TypeId} (ρ : Operand → Value) (o : Oper) (ho : o.op = .alloc t) : OK X (evAlloc (TP.of P) t hp X.nx) ((execOp ρ o).run P X.w) := by
  unfold evAlloc
  split
  · rename_i i hi
    have hi := tpI hi
    split
    · rename_i z hz
      obtain ⟨E, hr, hv⟩ := new_ok h (t := t) (VRL.ofVs (X := X) z.cells.toList)
      refine OK.one ⟨E, rfl, hr, _, ?_, hv⟩
      simp [execOp, ho, Instr.alloc, zeroValue, typeInfo, hi, hz, newVar, run_newRow, Cx.grow]
    · exact OK.none
  · exact OK.none

def evBox (v : AV) (hp : Hp) (nx : Nat) : Outs :=
  match v.cs with
  | some cs => ret1 (.val (.ptr nx 0 0)) ((nx, .cells 0 cs true) :: hp) (nx + 1)
  | none => none

theorem evBox_ok {P : Program} {X : Cx} {hp : Hp} (h : HR X hp) {t : TypeId} {v : AV} (ρ : Operand → Value) (x : Operand) (hv : VR X v (ρ x)) (o : Oper) (ho : o.op = .box t x) :
    OK X (evBox v hp X.nx) ((execOp ρ o).run P X.w) := by
  unfold evBox
  split
  · rename_i cs hcs
    obtain ⟨E, hr, hv'⟩ := new_ok h (t := t) (hv.cs hcs)
    refine OK.one ⟨E, rfl, hr, _, ?_, hv'⟩
    simp [execOp, ho, Instr.box, newVar, run_newRow, Cx.grow]
  · exact OK.none

end Go.Ev

namespace Go.Ev

/-! ## Building -/

def afill (place : Nat → Option (Nat × Nat)) : List AV → List (Nat × AV) → Option (List AV)
  | cells, [] => some cells
  | cells, (i, v) :: rest =>
    match place i, v.cs with
    | some (off, size), some bs => match Nat.beq bs.length size && Nat.ble (off + bs.length) cells.length with
      | true => afill place (splice cells off bs) rest
      | false => none
    | _, _ => none

theorem foldl_put (off : Nat) : ∀ (l : List Value) (k : Nat) (cells : Array Value), off + k + l.length ≤ cells.size →
    (l.zipIdx k).foldl (fun (cs : Array Value) (p : Value × Nat) => cs.setIfInBounds (off + p.2) p.1) cells = (cells.toList.take (off + k) ++ l ++ cells.toList.drop (off + k + l.length)).toArray
  | [], k, cells, _ => by simp
  | v :: l, k, cells, h => by
    simp only [List.zipIdx_cons, List.foldl_cons]
    rw [foldl_put off l (k + 1) _ (by simp at h ⊢; omega)]
    congr 1
    simp only [Array.toList_setIfInBounds, List.append_assoc, List.cons_append, List.length_cons]
    apply List.ext_getElem?
    intro j
    have hcl : cells.toList.length = cells.size := by simp
    simp only [List.length_cons] at h
    simp only [List.getElem?_append, List.getElem?_take, List.getElem?_drop, List.getElem?_set, List.length_take, List.length_set, List.getElem?_cons]
    grind

theorem foldl_put' (off : Nat) (vs cells : Array Value) (h : off + vs.size ≤ cells.size) :
    vs.zipIdx.foldl (fun cs (p : Value × Nat) => cs.setIfInBounds (off + p.2) p.1) cells = (cells.toList.take off ++ vs.toList ++ cells.toList.drop (off + vs.size)).toArray := by
  have := foldl_put off vs.toList 0 cells (by simpa using h)
  rw [← Array.foldl_toList]
  simpa using this

theorem VRL.splice0 {X : Cx} {cs bs : List AV} {l vs : List Value} {off : Nat} (hcs : VRL X cs l) (hbs : VRL X bs vs) (hoff : off + bs.length ≤ cs.length) :
    VRL X (Ev.splice cs off bs) (l.take off ++ vs ++ l.drop (off + vs.length)) := by
  rw [splice_eq cs off bs hoff, hbs.length]
  exact ((hcs.take off).append hbs).append (hcs.drop _)

theorem fill_ok {X : Cx} {place : Nat → Option (Nat × Nat)} : ∀ (ps : List (Nat × AV)) (qs : List (Nat × Value)) (cs cs' : List AV) (arr : Array Value), afill place cs ps = some cs' → VRL X cs arr.toList →
    qs.length = ps.length → (∀ (j : Nat) (p : Nat × AV) (q : Nat × Value), ps[j]? = some p → qs[j]? = some q → p.1 = q.1 ∧ VR X p.2 q.2) → ∃ arr', Instr.fill place arr qs = some arr' ∧ VRL X cs' arr'.toList
  | [], qs, cs, cs', arr, h, hv, hl, _ => by
    have : qs = [] := by simpa using hl
    subst this
    simp only [afill, Option.some.injEq] at h
    subst h
    exact ⟨arr, rfl, hv⟩
  | (i, v) :: ps, [], _, _, _, _, _, hl, _ => by simp at hl
  | (i, v) :: ps, (i', u) :: qs, cs, cs', arr, h, hv, hl, hp => by
    obtain ⟨rfl, hu⟩ := hp 0 (i, v) (i', u) rfl rfl
    simp only at hu
    unfold afill at h
    split at h
    · rename_i off size bs hpl hbs
      split at h
      · rename_i hc
        simp only [Bool.and_eq_true] at hc
        have hc1 := Nat.eq_of_beq_eq_true hc.1
        have hc2 := Nat.le_of_ble_eq_true hc.2
        have hcells := hu.cs hbs
        have hul : u.cells.size = bs.length := by have := hcells.length; simpa using this
        have hal : arr.size = cs.length := by have := hv.length; simpa using this
        have hnv := hv.splice0 hcells hc2
        rw [show u.cells.toList.length = u.cells.size by simp] at hnv
        have ih := fill_ok ps qs (splice cs off bs) cs' (arr.toList.take off ++ u.cells.toList ++ arr.toList.drop (off + u.cells.size)).toArray h (by simpa using hnv) (by simpa using hl)
          (fun j p q h1 h2 => hp (j + 1) p q (by simpa using h1) (by simpa using h2))
        obtain ⟨arr', h1, h2⟩ := ih
        refine ⟨arr', ?_, h2⟩
        unfold Instr.fill
        rw [hpl]
        have hcond : (u.cells.size ≠ size || off + u.cells.size > arr.size) = false := by
          simp only [Bool.or_eq_false_iff, decide_eq_false_iff_not]
          omega
        simp only [hcond, Bool.false_eq_true, if_false]
        rw [← h1]
        congr 1
        exact foldl_put' off u.cells arr (by omega)
      · cases h
    · cases h

def placesOf (T : TP) : List Field → Option (List (Nat × Nat))
  | [] => some []
  | f :: fs => match szOf T f.type, placesOf T fs with
    | some n, some l => some ((f.offset, n) :: l)
    | _, _ => none

theorem run_places {P : Program} (w : World) : ∀ (fs : List Field) (l : List (Nat × Nat)), placesOf (TP.of P) fs = some l →
    (fs.mapM (m := Sem) fun f => do pure (f.offset, ← sizeOf f.type)).run P w = .ok l w
  | [], l, h => by
    simp only [placesOf, Option.some.injEq] at h
    subst h
    rfl
  | f :: fs, l, h => by
    unfold placesOf at h
    split at h
    · rename_i n l' hn hl
      simp only [Option.some.injEq] at h
      subst h
      have ih := run_places w fs l' hl
      simp only [List.mapM_cons, Sem.run_bind, run_sizeOf' hn, Result.andThen_ok, Sem.run_pure, ih]
    · cases h

theorem run_places' {P : Program} (w : World) (fs : Array Field) (l : List (Nat × Nat)) (h : placesOf (TP.of P) fs.toList = some l) :
    (fs.mapM (m := Sem) fun f => do pure (f.offset, ← sizeOf f.type)).run P w = .ok l.toArray w := by
  obtain ⟨fs⟩ := fs
  rw [List.mapM_toArray]
  simp only [Sem.run_map, run_places w fs l h, Result.andThen_ok]

def buildA (T : TP) (t : TypeId) (parts : List (Nat × AV)) : Option AV :=
  match T.info t with
  | some i => match i.zero, T.und t with
    | some z, some (.struct fs) => match placesOf T fs.toList with
      | some l => match afill (fun j => l[j]?) (ofVs z.cells.toList) parts with
        | some cs => some (.agg cs)
        | none => none
      | none => none
    | some z, some (.array _ e) => match szOf T e with
      | some n => match afill (fun j => some (j * n, n)) (ofVs z.cells.toList) parts with
        | some cs => some (.agg cs)
        | none => none
      | none => none
    | _, _ => none
  | none => none

def evParts (ρ : Operand → AV) (ps : List (Nat × Operand)) : List (Nat × AV) := ps.map fun p => (p.1, ρ p.2)

theorem parts_rel {X : Cx} {ρ : Operand → AV} {ρc : Operand → Value} (hρ : ∀ x, VR X (ρ x) (ρc x)) (ps : Array (Nat × Operand)) :
    (ps.map fun (i, x) => (i, ρc x)).toList.length = (evParts ρ ps.toList).length ∧
    ∀ (j : Nat) (p : Nat × AV) (q : Nat × Value), (evParts ρ ps.toList)[j]? = some p → (ps.map fun (i, x) => (i, ρc x)).toList[j]? = some q → p.1 = q.1 ∧ VR X p.2 q.2 := by
  refine ⟨by simp [evParts], fun j p q h1 h2 => ?_⟩
  simp only [evParts, Array.toList_map, List.getElem?_map, Option.map_eq_some_iff] at h1 h2
  obtain ⟨a, ha, rfl⟩ := h1
  obtain ⟨b, hb, rfl⟩ := h2
  rw [ha] at hb
  cases hb
  exact ⟨rfl, hρ _⟩

def evBuild (T : TP) (t : TypeId) (parts : List (Nat × AV)) (hp : Hp) (nx : Nat) : Outs :=
  match buildA T t parts with
  | some a => ret1 (.val a) hp nx
  | none => none

theorem evBuild_ok {P : Program} {X : Cx} {hp : Hp} (h : HR X hp) {t : TypeId} {ρ : Operand → AV} {ρc : Operand → Value} (hρ : ∀ x, VR X (ρ x) (ρc x)) (ps : Array (Nat × Operand)) (o : Oper)
    (ho : o.op = .build t ps) : OK X (evBuild (TP.of P) t (evParts ρ ps.toList) hp X.nx) ((execOp ρc o).run P X.w) := by
  obtain ⟨hl, hp'⟩ := parts_rel hρ ps
  unfold evBuild
  split
  · rename_i a ha
    unfold buildA at ha
    split at ha
    · rename_i i hi
      have hi := tpI hi
      split at ha
      · rename_i z fs hz hu
        split at ha
        · rename_i l hpl
          split at ha
          · rename_i cs hcs
            simp only [Option.some.injEq] at ha
            subst ha
            obtain ⟨arr', h1, h2⟩ := fill_ok _ _ _ _ z.cells hcs (VRL.ofVs _) hl hp'
            have h1' : Instr.fill (fun x => l.toArray[x]?) z.cells (ps.map fun (i, x) => (i, ρc x)).toList = some arr' := by
              rw [← h1]; congr 1; funext j; simp
            refine OK.val h ?_ (by simp only [VR]; exact ⟨arr', rfl, h2⟩)
            have hrp := run_places' (P := P) X.w fs l hpl
            simp only [execOp, ho, Instr.build, zeroValue, typeInfo, Sem.run_bind, run_program, Result.andThen_ok, hi, hz, run_underlying' hu, hrp, Sem.run_pure]
            rw [h1']
            rfl
          · cases ha
        · cases ha
      · rename_i z n e hz hu
        split at ha
        · rename_i n' hn
          split at ha
          · rename_i cs hcs
            simp only [Option.some.injEq] at ha
            subst ha
            obtain ⟨arr', h1, h2⟩ := fill_ok _ _ _ _ z.cells hcs (VRL.ofVs _) hl hp'
            refine OK.val h ?_ (by simp only [VR]; exact ⟨arr', rfl, h2⟩)
            simp only [execOp, ho, Instr.build, zeroValue, typeInfo, Sem.run_bind, run_program, Result.andThen_ok, hi, hz, run_underlying' hu, run_sizeOf' hn, Sem.run_pure]
            rw [h1]
            rfl
          · cases ha
        · cases ha
      · cases ha
    · cases ha
  · exact OK.none

/-- The zero cells of n cells. -/
def zrep (n : Nat) (z : List AV) : List AV := (List.range n).map fun j => match z[j % z.length]? with
  | some a => a
  | none => .any

theorem zrep_ok {X : Cx} (n : Nat) (z : Array Value) : VRL X (zrep n (ofVs z.toList)) ((Array.range n).map (z[· % z.size]!)).toList := by
  have hl : (ofVs z.toList).length = z.size := by
    have := (VRL.ofVs (X := X) z.toList).length
    simp at this
    omega
  simp only [zrep, Array.toList_map, Array.toList_range, hl]
  refine VRL.map (fun j => ?_) _
  split
  · rename_i a ha
    obtain ⟨v, hv, hr⟩ := (VRL.ofVs (X := X) z.toList).get ha
    have hv' : z[j % z.size]? = some v := by simpa using hv
    rw [getElem!_def, hv']
    exact hr
  · trivial

def evBuildSlice (T : TP) (t : TypeId) (len : Nat) (parts : List (Nat × AV)) (hp : Hp) (nx : Nat) : Outs :=
  match T.und t with
  | some (.slice e) => match T.info e with
    | some i => match i.zero, Nat.ble (len * i.size) 16777216 && Nat.blt 0 (len * i.size) with
      | some z, true => match afill (fun j => some (j * i.size, i.size)) (zrep (len * i.size) (ofVs z.cells.toList)) parts with
        | some cs => ret1 (.val (.sv cs len true)) hp nx
        | none => none
      | _, _ => match len, parts, Nat.blt 0 i.size with
        | 0, [], true => ret1 (.val (.sne true)) hp nx
        | _, _, _ => none
    | none => none
  | _ => none

theorem afill_length {place : Nat → Option (Nat × Nat)} : ∀ (ps : List (Nat × AV)) (cs cs' : List AV), afill place cs ps = some cs' → cs'.length = cs.length
  | [], cs, cs', h => by simp only [afill, Option.some.injEq] at h; rw [h]
  | (i, v) :: ps, cs, cs', h => by
    unfold afill at h
    split at h
    · split at h
      · rename_i off size bs _ _ hc
        simp only [Bool.and_eq_true] at hc
        have hc2 := Nat.le_of_ble_eq_true hc.2
        rw [afill_length ps _ _ h, splice_eq _ _ _ hc2]
        simp; omega
      · cases h
    · cases h

theorem evBuildSlice_ok {P : Program} {X : Cx} {hp : Hp} (h : HR X hp) {t : TypeId} {len : Nat} {ρ : Operand → AV} {ρc : Operand → Value} (hρ : ∀ x, VR X (ρ x) (ρc x)) (ps : Array (Nat × Operand)) (o : Oper)
    (ho : o.op = .buildSlice t len ps) : OK X (evBuildSlice (TP.of P) t len (evParts ρ ps.toList) hp X.nx) ((execOp ρc o).run P X.w) := by
  obtain ⟨hl, hp'⟩ := parts_rel hρ ps
  unfold evBuildSlice
  split
  · rename_i e hu
    split
    · rename_i i hi
      have hi := tpI hi
      have hsz : szOf (TP.of P) e = some i.size := by simp [szOf, hi]
      split
      · rename_i z hz hc
        simp only [Bool.and_eq_true] at hc
        have hc1 := Nat.le_of_ble_eq_true hc.1
        have hc2 : 0 < len * i.size := Nat.le_of_ble_eq_true hc.2
        split
        · rename_i cs hcs
          obtain ⟨arr', h1, h2⟩ := fill_ok _ _ _ _ ((Array.range (len * i.size)).map (z.cells[· % z.cells.size]!)) hcs (zrep_ok _ _) hl hp'
          have hlen := afill_length _ _ _ hcs
          have hcl : cs.length = len * i.size := by rw [hlen]; simp [zrep]
          have hal := h2.length
          have E := Ext.frz X (.cells arr' e) h.I h.O
          have hlp : len ≠ 0 := by intro e0; subst e0; simp at hc2
          refine OK.one ⟨E, rfl, h.frz _, .slice (some ⟨X.w.heap.size, 0, none⟩) len len, ?_, ?_⟩
          · have hn1 : ¬ len * i.size > 2 ^ 24 := by omega
            have hn2 : ¬ len * i.size = 0 := by omega
            simp only [execOp, ho, Instr.buildSlice, Sem.run_bind, run_underlying' hu, Result.andThen_ok, run_sizeOf' hsz, hn1, if_false, hn2, zeroValue, typeInfo, run_program, hi, hz, Sem.run_pure]
            rw [h1]
            simp only [Sem.run_bind, run_newRow, Result.andThen_ok, Sem.run_pure]
            rfl
          · simp only [VR]
            refine ⟨_, _, rfl, Nat.le_refl _, fun _ => rfl, fun e0 => absurd e0 hlp, fun _ => ⟨X.w.heap.size, 0, arr', e, (0, 0), rfl, .inr rfl, Array.getElem?_push_size, ?_⟩⟩
            rw [List.drop_zero, ← hal, List.take_length]
            exact h2.ext E
        · exact OK.none
      · split
        · rename_i hparts _ _
          have hps : ps = #[] := by
            have : ps.toList.length = 0 := by
              have := congrArg List.length hparts
              simpa [evParts] using this
            apply Array.ext'
            simpa using this
          subst hps
          have E := Ext.frz X (.cells #[] e) h.I h.O
          refine OK.one ⟨E, rfl, h.frz _, .slice (some ⟨X.w.heap.size, 0, none⟩) 0 0, ?_, ?_⟩
          · simp only [execOp, ho, Instr.buildSlice, Sem.run_bind, run_underlying' hu, Result.andThen_ok, run_sizeOf' hsz]
            have hr0 : Array.range 0 = (#[] : Array Nat) := by apply Array.ext'; simp
            simp [Instr.fill, run_newRow, Cx.frz, hr0]
          · simp only [VR]
            exact ⟨_, _, rfl, fun _ => rfl⟩
        · exact OK.none
    · exact OK.none
  · exact OK.none

end Go.Ev

namespace Go.Ev

/-! ## Operations without memory, on values without addresses -/

def Op.noSel : Op → Bool
  | .select .. => false
  | _ => true

def flatAll (ρ : Operand → AV) : List Operand → Bool
  | [] => true
  | x :: xs => match (ρ x).toV with
    | some _ => flatAll ρ xs
    | none => false

def flatρ (ρ : Operand → AV) (x : Operand) : Value := match (ρ x).toV with
  | some v => v
  | none => undef

theorem flatAll_eq {X : Cx} {ρ : Operand → AV} {ρc : Operand → Value} (hρ : ∀ x, VR X (ρ x) (ρc x)) : ∀ {l : List Operand}, flatAll ρ l = true → ∀ x ∈ l, ρc x = flatρ ρ x
  | [], _, x, hx => by cases hx
  | y :: l, h, x, hx => by
    unfold flatAll at h
    split at h
    · rename_i v hv
      rcases List.mem_cons.1 hx with rfl | hx
      · simp only [flatρ, hv]; exact (hρ x).toV hv
      · exact flatAll_eq hρ h x hx
    · cases h

def evFlat (T : TP) (ρ : Operand → AV) (o : Oper) (hp : Hp) (nx : Nat) : Outs :=
  match Op.noSel o.op, flatAll ρ o.op.operands.toList with
  | true, true => match pureR T.P (execOp (flatρ ρ) o) with
    | some (.value v) => ret1 (.val (ofV v)) hp nx
    | _ => none
  | _, _ => none

theorem evFlat_ok {P : Program} {X : Cx} {hp : Hp} (h : HR X hp) {ρ : Operand → AV} {ρc : Operand → Value} (hρ : ∀ x, VR X (ρ x) (ρc x)) (o : Oper) :
    OK X (evFlat (TP.of P) ρ o hp X.nx) ((execOp ρc o).run P X.w) := by
  unfold evFlat
  split
  · rename_i h1 h2
    split
    · rename_i v hv
      have he : execOp ρc o = execOp (flatρ ρ) o := execOp_congr o (fun cs b e => by simp [e, Op.noSel] at h1) (fun x hx => flatAll_eq hρ h2 x (by simpa using hx))
      rw [he]
      exact OK.val h (pureR_run hv X.w) (VR.ofV v)
    · exact OK.none
  · exact OK.none

/-! ## Whole numbers -/

def ibin (op : BinOp) (k k' : IntKind) (a b : Int) : Option AV :=
  match op with
  | .shl => match decide (b < 0) with
    | true => none
    | false => some (.i k (k.wrap (a * 2 ^ (min b.toNat k.bits))))
  | .shr => match decide (b < 0) with
    | true => none
    | false => some (.i k (a.fdiv (2 ^ (min b.toNat k.bits))))
  | op => match decide (k = k') with
    | false => none
    | true => match op with
      | .add => some (.i k (k.wrap (a + b)))
      | .sub => some (.i k (k.wrap (a - b)))
      | .mul => some (.i k (k.wrap (a * b)))
      | .quo => match decide (b = 0) with
        | true => none
        | false => some (.i k (k.wrap (a.tdiv b)))
      | .rem => match decide (b = 0) with
        | true => none
        | false => some (.i k (a.tmod b))
      | .eql => some (.b (a == b))
      | .neq => some (.b (a != b))
      | .lss => some (.b (decide (a < b)))
      | .leq => some (.b (decide (a ≤ b)))
      | .gtr => some (.b (decide (a > b)))
      | .geq => some (.b (decide (a ≥ b)))
      | _ => none

theorem ibin_ok {P : Program} {op : BinOp} {k k' : IntKind} {a b : Int} {v : AV} (h : ibin op k k' a b = some v) (t : TypeId) (w : World) :
    ∃ u, (binOp op t (.int k a) (.int k' b)).run P w = .ok u w ∧ ∀ X, VR X v u := by
  unfold ibin at h
  split at h
  · split at h
    · cases h
    · rename_i hb
      have hb' : ¬ b < 0 := by simpa using hb
      simp only [Option.some.injEq] at h
      subst h
      exact ⟨_, by simp only [binOp, Op.shift, hb', if_false]; rfl, fun _ => rfl⟩
  · split at h
    · cases h
    · rename_i hb
      have hb' : ¬ b < 0 := by simpa using hb
      simp only [Option.some.injEq] at h
      subst h
      exact ⟨_, by simp only [binOp, Op.shift, hb', if_false]; rfl, fun _ => rfl⟩
  · rename_i hns hnr
    split at h
    · cases h
    · rename_i hk
      have hk' : k = k' := by simpa using hk
      subst hk'
      cases op <;> simp only [reduceCtorEq, Option.some.injEq, imp_false] at h hns hnr
      case add => subst h; exact ⟨_, by simp [binOp, Op.intArith], fun _ => rfl⟩
      case sub => subst h; exact ⟨_, by simp [binOp, Op.intArith], fun _ => rfl⟩
      case mul => subst h; exact ⟨_, by simp [binOp, Op.intArith], fun _ => rfl⟩
      case quo =>
        split at h
        · cases h
        · rename_i hb
          have hb' : ¬ b = 0 := by simpa using hb
          simp only [Option.some.injEq] at h
          subst h
          exact ⟨_, by simp [binOp, Op.intDiv, hb'], fun _ => rfl⟩
      case rem =>
        split at h
        · cases h
        · rename_i hb
          have hb' : ¬ b = 0 := by simpa using hb
          simp only [Option.some.injEq] at h
          subst h
          exact ⟨_, by simp [binOp, Op.intDiv, hb'], fun _ => rfl⟩
      case eql => subst h; exact ⟨.bool (a == b), by simp [binOp, Op.intCmp], fun _ => rfl⟩
      case neq => subst h; exact ⟨.bool (a != b), by simp [binOp, Op.intCmp], fun _ => rfl⟩
      case lss => subst h; exact ⟨.bool (decide (a < b)), by simp [binOp, Op.intCmp], fun _ => rfl⟩
      case leq => subst h; exact ⟨.bool (decide (a ≤ b)), by simp [binOp, Op.intCmp], fun _ => rfl⟩
      case gtr => subst h; exact ⟨.bool (decide (a > b)), by simp [binOp, Op.intCmp], fun _ => rfl⟩
      case geq => subst h; exact ⟨.bool (decide (a ≥ b)), by simp [binOp, Op.intCmp], fun _ => rfl⟩

/-! ## Against nil -/

/-- Is a equal to n, which is nil? -/
def nilQ (d : TypeDesc) (a n : AV) : Option Bool :=
  match n with
  | .snil => match d, a with
    | .slice _, .snil => some true
    | .slice _, .sr .. => some false
    | .slice _, .srf .. => some false
    | .slice _, .sne _ => some false
    | .slice _, .sv _ (_ + 1) _ => some false
    | _, _ => none
  | .nilmap => match d, a with
    | .map _ _, .nilmap => some true
    | .map _ _, .map _ => some false
    | _, _ => none
  | .nilp => match d, a with
    | .pointer _, .nilp => some true
    | .pointer _, .ptr .. => some false
    | .pointer _, .cptr .. => some false
    | _, _ => none
  | .nilfn => match d, a with
    | .func _ _ _, .nilfn => some true
    | .func _ _ _, .fn .. => some false
    | _, _ => none
  | .nilif => match d, a with
    | .interface _, .nilif => some true
    | .interface _, .iface .. => some false
    | _, _ => none
  | _ => none

section
variable {P : Program} {t : TypeId} (w : World) (k : Nat)
theorem eq_slice_nil {e : TypeId} (h : P.underlying t = some (.slice e)) (b : Option Addr) (l c : Nat) :
    (Op.equalIn (k + 1) t (.slice b l c) (.slice none 0 0)).run P w = .ok b.isNone w := by
  cases b <;> simp [Op.equalIn, run_underlying' h]
theorem eq_map_nil {e f : TypeId} (h : P.underlying t = some (.map e f)) (b : Option Nat) : (Op.equalIn (k + 1) t (.map b) (.map none)).run P w = .ok b.isNone w := by
  cases b <;> simp [Op.equalIn, run_underlying' h]
theorem eq_ptr_nil {e : TypeId} (h : P.underlying t = some (.pointer e)) (b : Option Addr) : (Op.equalIn (k + 1) t (.pointer b) (.pointer none)).run P w = .ok b.isNone w := by
  cases b <;> simp [Op.equalIn, run_underlying' h]
theorem eq_nilfn {x y : Array TypeId} {z : Bool} (h : P.underlying t = some (.func x y z)) : (Op.equalIn (k + 1) t .nilFunc .nilFunc).run P w = .ok true w := by
  simp [Op.equalIn, run_underlying' h]
theorem eq_fn_nil {x y : Array TypeId} {z : Bool} (h : P.underlying t = some (.func x y z)) (f : Fn) (a b : Array Value) : (Op.equalIn (k + 1) t (.func f a b) .nilFunc).run P w = .ok false w := by
  simp [Op.equalIn, run_underlying' h]
theorem eq_nilif {x : Array (String × TypeId)} (h : P.underlying t = some (.interface x)) : (Op.equalIn (k + 1) t .nilIface .nilIface).run P w = .ok true w := by
  simp [Op.equalIn, run_underlying' h]
theorem eq_if_nil {x : Array (String × TypeId)} (h : P.underlying t = some (.interface x)) (s : TypeId) (v : Value) : (Op.equalIn (k + 1) t (.iface s v) .nilIface).run P w = .ok false w := by
  simp [Op.equalIn, run_underlying' h]
end

theorem nilQ_ok {P : Program} {X : Cx} {d : TypeDesc} {a n : AV} {q : Bool} (hq : nilQ d a n = some q) {t : TypeId} (ht : P.underlying t = some d) {u v : Value}
    (ha : VR X a u) (hv : VR X n v) (w : World) (k : Nat) : (Op.equalIn (k + 1) t u v).run P w = .ok q w := by
  unfold nilQ at hq
  split at hq
  · split at hq <;> simp only [reduceCtorEq, Option.some.injEq] at hq <;> subst hq <;> simp only [VR] at ha hv <;> subst hv
    · subst ha; exact eq_slice_nil w k ht none 0 0
    · obtain ⟨_, _, _, _, _, _, rfl, _⟩ := ha; exact eq_slice_nil w k ht _ _ _
    · obtain ⟨_, _, _, _, _, rfl, _⟩ := ha; exact eq_slice_nil w k ht _ _ _
    · obtain ⟨_, _, rfl, _⟩ := ha; exact eq_slice_nil w k ht _ _ _
    · obtain ⟨base, cap, rfl, _, _, _, h5⟩ := ha
      obtain ⟨B, o, cc, ty, fz, rfl, _⟩ := h5 (by omega)
      exact eq_slice_nil w k ht _ _ _
  · split at hq <;> simp only [reduceCtorEq, Option.some.injEq] at hq <;> subst hq <;> simp only [VR] at ha hv <;> subst hv
    · subst ha; exact eq_map_nil w k ht none
    · obtain ⟨_, rfl⟩ := ha; exact eq_map_nil w k ht _
  · split at hq <;> simp only [reduceCtorEq, Option.some.injEq] at hq <;> subst hq <;> simp only [VR] at ha hv <;> subst hv
    · subst ha; exact eq_ptr_nil w k ht none
    · obtain ⟨_, _, rfl⟩ := ha; exact eq_ptr_nil w k ht _
    · obtain ⟨_, _, _, _, _, _, _, rfl, _⟩ := ha; exact eq_ptr_nil w k ht _
  · split at hq <;> simp only [reduceCtorEq, Option.some.injEq] at hq <;> subst hq <;> simp only [VR] at ha hv <;> subst hv
    · subst ha; exact eq_nilfn w k ht
    · obtain ⟨_, _, _, rfl, _⟩ := ha; exact eq_fn_nil w k ht _ _ _
  · split at hq <;> simp only [reduceCtorEq, Option.some.injEq] at hq <;> subst hq <;> simp only [VR] at ha hv <;> subst hv
    · subst ha; exact eq_nilif w k ht
    · obtain ⟨_, rfl, _⟩ := ha; exact eq_if_nil w k ht _ _
  · cases hq

end Go.Ev

namespace Go.Ev

def isC : Operand → Bool
  | .const _ => true
  | _ => false

def eqOp : BinOp → Option Bool
  | .eql => some true
  | .neq => some false
  | _ => none

def isNif : AV → Bool
  | .nilif => true
  | _ => false

def evBin (T : TP) (ρ : Operand → AV) (op : BinOp) (t : TypeId) (x y : Operand) (o : Oper) (hp : Hp) (nx : Nat) : Outs :=
  match ρ x, ρ y with
  | .i k a, .i k' b => match ibin op k k' a b with
    | some v => ret1 (.val v) hp nx
    | none => evFlat T ρ o hp nx
  | a, n => match eqOp op, T.und t, isC y || !isNif n with
    | some e, some d, true => match nilQ d a n with
      | some q => ret1 (.val (.b (q == e))) hp nx
      | none => evFlat T ρ o hp nx
    | _, _, _ => evFlat T ρ o hp nx

theorem eqGuard_int {P : Program} (op : BinOp) (t : TypeId) (x y : Operand) (k k' : IntKind) (a b : Int) (w : World) : (eqGuard op t x y (.int k a) (.int k' b)).run P w = .ok () w := by
  cases op <;> rfl

theorem eqGuard_nil {P : Program} {X : Cx} {a n : AV} {u v : Value} {d : TypeDesc} {q : Bool} (hq : nilQ d a n = some q) (ha : VR X a u) (hn : VR X n v) (op : BinOp) (t : TypeId) (x y : Operand)
    (hy : (isC y || !isNif n) = true) (w : World) : (eqGuard op t x y u v).run P w = .ok () w := by
  have hv : (v = .nilIface ∧ isC y = true) ∨ (v ≠ .nilIface ∧ ∀ cs, v ≠ .agg cs) := by
    cases n <;> simp only [nilQ, reduceCtorEq] at hq <;> simp only [VR] at hn <;> subst hn <;> simp_all [isNif]
  unfold eqGuard
  rcases hv with ⟨rfl, hc⟩ | ⟨h1, h2⟩
  · cases y <;> simp [isC] at hc
    cases op <;> cases u <;> simp
  · cases op <;> first | rfl | (cases u <;> cases v <;> first | rfl | (exfalso; first | exact h1 rfl | exact h2 _ rfl))

theorem evBin_ok {P : Program} {X : Cx} {hp : Hp} (h : HR X hp) {ρ : Operand → AV} {ρc : Operand → Value} (hρ : ∀ x, VR X (ρ x) (ρc x)) (o : Oper) {op : BinOp} {t yt : TypeId} {x y : Operand}
    (ho : o.op = .binOp op t x y yt) : OK X (evBin (TP.of P) ρ op t x y o hp X.nx) ((execOp ρc o).run P X.w) := by
  have hx := hρ x
  have hy := hρ y
  have hrun : (execOp ρc o).run P X.w = ((eqGuard op t x y (ρc x) (ρc y)).run P X.w).andThen fun _ w => ((binOp op t (ρc x) (ρc y)).run P w).andThen fun v w => .ok (.value v) w := by
    simp only [execOp, ho, Sem.run_bind]
    cases (eqGuard op t x y (ρc x) (ρc y)).run P X.w with
    | ok a w' =>
      simp only [Result.andThen_ok]
      cases (binOp op t (ρc x) (ρc y)).run P w' <;> rfl
    | halt => rfl
  unfold evBin
  split
  · rename_i k a k' b hxa hyb
    split
    · rename_i v hv
      rw [hxa] at hx
      rw [hyb] at hy
      simp only [VR] at hx hy
      obtain ⟨u, hu, hvr⟩ := ibin_ok (P := P) hv t X.w
      refine OK.val h ?_ (hvr X)
      rw [hrun, hx, hy, eqGuard_int, Result.andThen_ok, hu]
      rfl
    · exact evFlat_ok h hρ o
  · split
    · rename_i e d heq hd hc
      split
      · rename_i q hq
        refine OK.val (v := .bool (q == e)) h ?_ rfl
        rw [hrun, eqGuard_nil hq hx hy op t x y hc, Result.andThen_ok]
        have hqo := nilQ_ok hq hd hx hy X.w 9999
        have hni : ∀ (k : IntKind) (a : Int), ρc y ≠ .int k a ∧ (∀ s, ρc y ≠ .string s) ∧ (∀ k b, ρc y ≠ .float k b) ∧ (∀ k b c, ρc y ≠ .complex k b c) := by
          intro k a
          generalize ρ y = n at *
          cases n <;> simp only [nilQ, reduceCtorEq] at hq <;> simp only [VR] at hy <;> rw [hy] <;> simp
        cases op <;> simp only [eqOp, Option.some.injEq, reduceCtorEq] at heq
        · subst heq
          have : (binOp .eql t (ρc x) (ρc y)).run P X.w = .ok (.bool q) X.w := by
            unfold binOp
            split <;> first
              | (exfalso; simp_all; done)
              | (simp only [Op.equal, Op.maxDepth, Sem.run_bind, hqo, Result.andThen_ok, Sem.run_pure])
          rw [this]
          simp
        · subst heq
          have : (binOp .neq t (ρc x) (ρc y)).run P X.w = .ok (.bool !q) X.w := by
            unfold binOp
            split <;> first
              | (exfalso; simp_all; done)
              | (simp only [Op.equal, Op.maxDepth, Sem.run_bind, hqo, Result.andThen_ok, Sem.run_pure])
          rw [this]
          simp
      · exact evFlat_ok h hρ o
    · exact evFlat_ok h hρ o

end Go.Ev

namespace Go.Ev

/-! ## Bytes -/

def bytesA : List AV → Option (List UInt8)
  | [] => some []
  | .i .u8 n :: as => match bytesA as with
    | some l => some (UInt8.ofNat n.toNat :: l)
    | none => none
  | _ :: _ => none

theorem bytesA_ok {X : Cx} : ∀ {as : List AV} {l : List UInt8} {vs : List Value}, bytesA as = some l → VRL X as vs → ∃ ns : List Int, vs = ns.map (Value.int .u8) ∧ l = ns.map (fun n => UInt8.ofNat n.toNat)
  | [], l, vs, h, hv => by
    simp only [bytesA, Option.some.injEq] at h
    simp only [VRL] at hv
    subst h; subst hv
    exact ⟨[], rfl, rfl⟩
  | a :: as, l, vs, h, hv => by
    unfold bytesA at h
    split at h
    · rename_i heq; cases heq
    · rename_i n as' heq
      cases heq
      split at h
      · rename_i l' hl'
        simp only [Option.some.injEq] at h
        simp only [VRL] at hv
        obtain ⟨v, vs', rfl, h1, h2⟩ := hv
        simp only [VR] at h1
        obtain ⟨ns, h3, h4⟩ := bytesA_ok hl' h2
        exact ⟨n :: ns, by simp [h1, h3], by simp [← h, h4]⟩
      · cases h
    · cases h

theorem run_bts {P : Program} {w : World} {a : Addr} {len : Nat} {ns : List Int} (hl : (loadCells a len).run P w = .ok (ns.map (Value.int .u8)).toArray w) (cap : Nat) :
    (Conv.bytesToString (.slice (some a) len cap)).run P w = .ok (.string ⟨(ns.map (fun n => UInt8.ofNat n.toNat)).toArray⟩) w := by
  have key : ∀ (f : Value → ByteArray → Sem (ForInStep ByteArray)), (∀ n s, f (.int .u8 n) s = pure (ForInStep.yield (s.push (UInt8.ofNat n.toNat)))) → ∀ (ns : List Int) (s : ByteArray),
      (forIn (m := Sem) (ns.map (Value.int .u8)).toArray s f).run P w = .ok ⟨s.data ++ (ns.map (fun n => UInt8.ofNat n.toNat)).toArray⟩ w := by
    intro f hf ns
    induction ns with
    | nil => intro s; simp
    | cons n ns ih =>
      intro s
      have := ih (s.push (UInt8.ofNat n.toNat))
      simp only [List.map_cons, List.forIn_toArray, List.forIn_cons, hf, Sem.run_bind, Sem.run_pure, Result.andThen_ok] at this ⊢
      rw [this]
      congr 2
      simp [ByteArray.push]
  unfold Conv.bytesToString
  simp only [Sem.run_bind, hl, Result.andThen_ok]
  rw [key _ (fun _ _ => rfl)]
  simp [ByteArray.empty, ByteArray.emptyWithCapacity]
  rfl

theorem run_stb {P : Program} (w : World) (e : TypeId) (s : ByteArray) : ∃ n, s.size ≤ n ∧
    (Conv.stringToBytes e s).run P w = .ok (.slice (some ⟨w.heap.size, 0, none⟩) s.size n)
      { w with drawn := w.drawn + 1, heap := w.heap.push (.cells (s.data.map (fun b => Value.int .u8 b.toNat) ++ Array.replicate (n - s.size) (.int .u8 0)) e (n, n + 1)) } := by
  refine ⟨Question.cut (.appendCap s.size 0 e) (w.tape w.drawn (.appendCap s.size 0 e)), by simp [Question.cut], ?_⟩
  generalize hn : Question.cut (.appendCap s.size 0 e) (w.tape w.drawn (.appendCap s.size 0 e)) = n
  have hle : s.size ≤ n := by rw [← hn]; simp [Question.cut]
  have hsz : s.data.size = s.size := rfl
  simp only [Conv.stringToBytes, Sem.run_bind, run_choose, Question.forced, Bool.false_eq_true, if_false, Result.andThen_ok, hn, run_newRow, markStringish, run_shape, World.shape?, Sem.run_pure]
  simp only [Array.getElem?_push_size]
  simp only [run_freeze, Result.andThen_ok, World.freeze]
  simp
  apply Array.ext_getElem?
  intro i
  rw [Array.getElem?_modify]
  by_cases hi : w.heap.size = i
  · subst hi
    simp
    omega
  · have hi' : ¬ i = w.heap.size := fun e => hi e.symm
    simp [hi, hi', Array.getElem?_push]

/-- The cells of a slice that is read. -/
def sliceCells (hp : Hp) (sz : Nat) : AV → Option (List AV)
  | .snil => some []
  | .sne _ => some []
  | .sr id g off len _ => match hp.get id with
    | some (.cells g' cs _) => match Nat.beq g g' && Nat.ble (off + len * sz) cs.length with
      | true => some ((cs.drop off).take (len * sz))
      | false => none
    | _ => none
  | .srf id g off len _ => match hp.get id with
    | some (.cells g' cs _) => match Nat.beq g g' && Nat.ble (off + len * sz) cs.length with
      | true => some ((cs.drop off).take (len * sz))
      | false => none
    | _ => none
  | .sv cs len _ => match Nat.beq cs.length (len * sz) with
    | true => some cs
    | false => none
  | _ => none

def sliceLen : AV → Option Nat
  | .snil => some 0
  | .sr _ _ _ len _ => some len
  | .srf _ _ _ len _ => some len
  | .sne _ => some 0
  | .sv _ len _ => some len
  | _ => none

theorem sliceCells_ok {P : Program} {X : Cx} {hp : Hp} (h : HR X hp) {sz : Nat} {a : AV} {cs : List AV} {v : Value} (hc : sliceCells hp sz a = some cs) (hv : VR X a v) :
    ∃ (base : Option Addr) (len cap : Nat) (vs : List Value), sliceLen a = some len ∧ v = .slice base len cap ∧ VRL X cs vs ∧ cs.length = len * sz ∧
      (Builtin.firstCells sz len v).run P X.w = .ok vs.toArray X.w ∧ (∀ p, base = some p → (loadCells p (len * sz)).run P X.w = .ok vs.toArray X.w) ∧ (base = none → len = 0) := by
  unfold sliceCells at hc
  split at hc
  · simp only [Option.some.injEq] at hc
    subst hc
    simp only [VR] at hv
    subst hv
    exact ⟨none, 0, 0, [], rfl, rfl, rfl, by simp, rfl, fun _ e => (by cases e), fun _ => rfl⟩
  · simp only [Option.some.injEq] at hc
    subst hc
    simp only [VR] at hv
    obtain ⟨a, cap, rfl, _⟩ := hv
    have hl0 : ∀ x : Addr, (loadCells x 0).run P X.w = .ok #[] X.w := fun x => by simpa using run_loadCells_list (P := P) X.w x [] (by simp)
    exact ⟨some a, 0, cap, [], rfl, rfl, rfl, by simp, by simp [Builtin.firstCells, hl0], fun p _ => (by simp [hl0]), fun _ => rfl⟩
  · rename_i id g off len s
    split at hc
    · rename_i g' cs0 wr hg
      split at hc
      · rename_i hcond
        simp only [Bool.and_eq_true] at hcond
        have := Nat.eq_of_beq_eq_true hcond.1
        subst this
        have hle := Nat.le_of_ble_eq_true hcond.2
        simp only [Option.some.injEq] at hc
        subst hc
        simp only [VR] at hv
        obtain ⟨_, _, cap, cc, ty, fz, rfl, _, _, _⟩ := hv
        obtain ⟨_, cc, ty, fz, h2, h3, h4, _⟩ := h.br _ _ hg
        have hr := run_loadCells' (P := P) (o := (X.m id g).2 + off) (n := len * sz) h2 (by omega)
        refine ⟨_, len, cap, (cc.toList.drop ((X.m id g).2 + off)).take (len * sz), rfl, rfl, ?_, by simp; omega, ?_, ?_, fun e => (by cases e)⟩
        · have := (h4.drop off).take (len * sz)
          rw [List.drop_take, List.take_take, List.drop_drop] at this
          rwa [show min (len * sz) (cs0.length - off) = len * sz by omega] at this
        · simp only [Builtin.firstCells, hr]
        · intro p e; cases e; exact hr
      · cases hc
    · cases hc
  · rename_i id g off len s
    split at hc
    · rename_i g' cs0 wr hg
      split at hc
      · rename_i hcond
        simp only [Bool.and_eq_true] at hcond
        have := Nat.eq_of_beq_eq_true hcond.1
        subst this
        have hle := Nat.le_of_ble_eq_true hcond.2
        simp only [Option.some.injEq] at hc
        subst hc
        simp only [VR] at hv
        obtain ⟨_, _, cc, ty, fz, rfl, _, _⟩ := hv
        obtain ⟨_, cc, ty, fz, h2, h3, h4, _⟩ := h.br _ _ hg
        have hr := run_loadCells' (P := P) (o := (X.m id g).2 + off) (n := len * sz) h2 (by omega)
        refine ⟨_, len, len, (cc.toList.drop ((X.m id g).2 + off)).take (len * sz), rfl, rfl, ?_, by simp; omega, ?_, ?_, fun e => (by cases e)⟩
        · have := (h4.drop off).take (len * sz)
          rw [List.drop_take, List.take_take, List.drop_drop] at this
          rwa [show min (len * sz) (cs0.length - off) = len * sz by omega] at this
        · simp only [Builtin.firstCells, hr]
        · intro p e; cases e; exact hr
      · cases hc
    · cases hc
  · rename_i cs0 len full
    split at hc
    · rename_i hcond
      have hl := Nat.eq_of_beq_eq_true hcond
      simp only [Option.some.injEq] at hc
      subst hc
      simp only [VR] at hv
      obtain ⟨base, cap, rfl, h1, _, h3, h4⟩ := hv
      by_cases h0 : len = 0
      · subst h0
        have := h3 rfl
        subst this
        have hl0 : ∀ x : Addr, (loadCells x 0).run P X.w = .ok #[] X.w := fun x => by simpa using run_loadCells_list (P := P) X.w x [] (by simp)
        refine ⟨base, 0, cap, [], rfl, rfl, rfl, by simp, ?_, fun p _ => (by simp [hl0]), fun _ => rfl⟩
        cases base <;> simp [Builtin.firstCells, hl0]
      · obtain ⟨B, o, cc, ty, fz, rfl, _, h5, h6⟩ := h4 h0
        have hln := h6.length
        have hlen : o + cs0.length ≤ cc.size ∨ cs0.length = 0 := by
          simp at hln; omega
        rcases hlen with hlen | hlen
        · have hr := run_loadCells' (P := P) (o := o) (n := len * sz) h5 (by omega)
          rw [← hl] at hr
          exact ⟨_, len, cap, _, rfl, rfl, h6, hl, by simp only [Builtin.firstCells]; rw [← hl]; exact hr, fun p e => (by cases e; rw [← hl]; exact hr), fun e => (by cases e)⟩
        · have hl0 : ∀ x : Addr, (loadCells x 0).run P X.w = .ok #[] X.w := fun x => by simpa using run_loadCells_list (P := P) X.w x [] (by simp)
          have hc0 : cs0 = [] := List.length_eq_zero_iff.1 hlen
          subst hc0
          refine ⟨_, len, cap, [], rfl, rfl, rfl, hl, ?_, fun p _ => ?_, fun e => (by cases e)⟩
          · simp only [Builtin.firstCells]; rw [← hl]; exact hl0 _
          · rw [← hl]; exact hl0 _
    · cases hc
  · cases hc

def evConv (T : TP) (ρ : Operand → AV) (src dst : TypeId) (x : Operand) (o : Oper) (hp : Hp) (nx : Nat) : Outs :=
  match T.und src, T.und dst with
  | some (.slice e), some .string => match T.und e, sliceCells hp 1 (ρ x) with
    | some (.int .u8), some cs => match bytesA cs with
      | some l => ret1 (.val (.s ⟨l.toArray⟩)) hp nx
      | none => none
    | _, _ => none
  | some .string, some (.slice e) => match T.und e, ρ x, szOf T e with
    | some (.int .u8), .s s, some 1 => match s.data.toList with
      | [] => ret1 (.val (.sv [] 0 false)) hp nx
      | l => ret1 (.val (.sr nx 0 0 l.length 1)) ((nx, .cells 0 (l.map fun b => .i .u8 b.toNat) true) :: hp) (nx + 1)
    | _, _, _ => none
  | _, _ => evFlat T ρ o hp nx

theorem evConv_ok {P : Program} {X : Cx} {hp : Hp} (h : HR X hp) {ρ : Operand → AV} {ρc : Operand → Value} (hρ : ∀ x, VR X (ρ x) (ρc x)) (o : Oper) {src dst : TypeId} {x : Operand}
    (ho : o.op = .convert src dst x) : OK X (evConv (TP.of P) ρ src dst x o hp X.nx) ((execOp ρc o).run P X.w) := by
  have hx := hρ x
  have hrun : (execOp ρc o).run P X.w = ((convert src dst (ρc x)).run P X.w).andThen fun v w => .ok (.value v) w := by
    simp [execOp, ho]
  unfold evConv
  split
  · rename_i e hs hd
    split
    · rename_i cs he hcs
      split
      · rename_i l hl
        obtain ⟨base, len, cap, vs, h1, h2, h3, h4, h5, h6, h7⟩ := sliceCells_ok (P := P) h hcs hx
        obtain ⟨ns, h8, h9⟩ := bytesA_ok hl h3
        refine OK.val (v := .string ⟨l.toArray⟩) h ?_ rfl
        rw [hrun, h2]
        have hcv : (convert src dst (.slice base len cap)).run P X.w = (Conv.bytesToString (.slice base len cap)).run P X.w := by
          simp [convert, run_underlying' hs, run_underlying' hd, run_underlying' he]
        rw [hcv]
        cases base with
        | none =>
          have := h7 rfl
          subst this
          have hvs : vs = [] := by
            have := h3.length
            rw [h4] at this
            simpa using this
          have hns : ns = [] := by rw [hvs] at h8; simpa using h8.symm
          subst hns
          simp only [List.map_nil] at h9
          subst h9
          rfl
        | some p =>
          have := h6 p rfl
          rw [Nat.mul_one, h8] at this
          rw [run_bts this cap, h9]
          rfl
      · exact OK.none
    · exact OK.none
  · rename_i e hs hd
    split
    · rename_i s he hxs hsz
      rw [hxs] at hx
      simp only [VR] at hx
      obtain ⟨n, hn, hst⟩ := run_stb (P := P) X.w e s
      have hcv : (convert src dst (.string s)).run P X.w = (Conv.stringToBytes e s).run P X.w := by
        simp [convert, run_underlying' hs, run_underlying' hd, run_underlying' he]
      have hss : s.size = s.data.toList.length := by simp
      generalize harr : (s.data.map (fun b => Value.int .u8 b.toNat) ++ Array.replicate (n - s.size) (.int .u8 0)) = arr at hst
      have hasz : arr.size = n := by rw [← harr]; have : s.data.size = s.size := rfl; simp; omega
      split
      · rename_i hnil
        have h0 : s.size = 0 := by rw [hss, hnil]; rfl
        have E0 := Ext.psh X (.cells arr e (n, n + 1)) h.I h.O
        have hp0 := h.psh (.cells arr e (n, n + 1))
        have E1 := Ext.at (X := X.psh (.cells arr e (n, n + 1))) (w := { X.w with drawn := X.w.drawn + 1, heap := X.w.heap.push (.cells arr e (n, n + 1)) }) rfl ⟨rfl, rfl, rfl⟩
        have hA := HR.at (w := { X.w with drawn := X.w.drawn + 1, heap := X.w.heap.push (.cells arr e (n, n + 1)) }) (X := X.psh (.cells arr e (n, n + 1))) rfl E1 hp0
        refine OK.one ⟨E0.trans E1, rfl, hA, .slice (some ⟨X.w.heap.size, 0, none⟩) s.size n, ?_, ?_⟩
        · rw [hrun, hx, hcv, hst]
          rfl
        · simp only [VR]
          exact ⟨_, n, by rw [h0], by omega, by simp, by simp, by simp⟩
      · rename_i l hl
        have E := Ext.grow X (.cells arr e (n, n + 1)) h.I h.O
        have hvl : VRL X (s.data.toList.map fun b => AV.i .u8 b.toNat) (s.data.toList.map fun b => Value.int .u8 b.toNat) := VRL.map (f := fun b : UInt8 => AV.i .u8 b.toNat) (g := fun b : UInt8 => Value.int .u8 b.toNat) (fun _ => rfl) _
        have hal : arr.toList = (s.data.toList.map fun b => Value.int .u8 b.toNat) ++ List.replicate (n - s.size) (.int .u8 0) := by rw [← harr]; simp
        have hp1 : HR (X.grow (.cells arr e (n, n + 1))) ((X.nx, .cells 0 (s.data.toList.map fun b => AV.i .u8 b.toNat) true) :: hp) := by
          refine h.grow _ _ ?_
          simp only [BR, Cx.grow, if_pos, true_and]
          refine ⟨arr, e, (n, n + 1), Array.getElem?_push_size, by simp; omega, ?_, by simp; omega, fun e => (by cases e), fun _ => ⟨fun hI => ?_, fun hO => ?_⟩⟩
          · have := hvl.ext E
            rw [List.drop_zero, hal, List.take_append_of_le_length (by simp), List.take_of_length_le (by simp)]
            exact this
          · have := h.I _ hI; omega
          · have := h.O _ hO; omega
        have E1 := Ext.at (X := X.grow (.cells arr e (n, n + 1))) (w := { X.w with drawn := X.w.drawn + 1, heap := X.w.heap.push (.cells arr e (n, n + 1)) }) rfl ⟨rfl, rfl, rfl⟩
        have hA := HR.at (w := { X.w with drawn := X.w.drawn + 1, heap := X.w.heap.push (.cells arr e (n, n + 1)) }) (X := X.grow (.cells arr e (n, n + 1))) rfl E1 hp1
        refine OK.one ⟨E.trans E1, rfl, hA, .slice (some ⟨X.w.heap.size, 0, none⟩) s.size n, ?_, ?_⟩
        · rw [hrun, hx, hcv, hst]
          rfl
        · simp only [VR, Cx.at, Cx.grow, if_pos]
          refine ⟨Nat.lt_succ_self _, Nat.le_refl _, n, arr, e, (n, n + 1), by rw [hss], by rw [← hss]; exact hn, Array.getElem?_push_size, by omega⟩
    · exact OK.none
  · exact evFlat_ok h hρ o

end Go.Ev

namespace Go.Ev

/-! ## Addresses -/

def fieldOf (T : TP) (s : TypeId) (f : Nat) : Option Field :=
  match T.und s with
  | some (.struct fs) => fs.toList[f]?
  | _ => none

def evFieldAddr (T : TP) (s : TypeId) (a : AV) (f : Nat) (hp : Hp) (nx : Nat) : Outs :=
  match fieldOf T s f with
  | some fd => match szOf T fd.type, a with
    | some (_ + 1), .ptr id g off => ret1 (.val (.ptr id g (off + fd.offset))) hp nx
    | some (_ + 1), .cptr cs off => ret1 (.val (.cptr cs (off + fd.offset))) hp nx
    | _, _ => none
  | none => none

theorem evFieldAddr_ok {P : Program} {X : Cx} {hp : Hp} (h : HR X hp) {s : TypeId} {a : AV} {f : Nat} (ρ : Operand → Value) (x : Operand) (ha : VR X a (ρ x)) (o : Oper) (ho : o.op = .fieldAddr s x f) :
    OK X (evFieldAddr (TP.of P) s a f hp X.nx) ((execOp ρ o).run P X.w) := by
  unfold evFieldAddr
  split
  · rename_i fd hfd
    unfold fieldOf at hfd
    split at hfd
    · rename_i fs hu
      have hfd' : fs[f]? = some fd := by simpa using hfd
      have key : ∀ (B o n : Nat), szOf (TP.of P) fd.type = some (n + 1) → (Instr.fieldAt s (.pointer (some ⟨B, o, none⟩)) f).run P X.w = .ok (.pointer (some ⟨B, o + fd.offset, none⟩)) X.w := by
        intro B o n hsz
        simp only [Instr.fieldAt, Sem.run_bind, run_underlying' hu, Result.andThen_ok, hfd', Instr.sureAddr, Sem.run_pure, fieldPlace, run_sizeOf' hsz]
        simp [add_none]
      split
      · rename_i id g off hsz
        simp only [VR] at ha
        obtain ⟨h1, h2, h3⟩ := ha
        refine OK.val (v := .pointer (some ⟨(X.m id g).1, (X.m id g).2 + (off + fd.offset), none⟩)) h ?_ ?_
        · simp only [execOp, ho, Sem.run_bind, h3, key _ _ _ hsz, Result.andThen_ok, Sem.run_pure, Nat.add_assoc]
        · exact ⟨h1, h2, rfl⟩
      · rename_i cs off hsz
        simp only [VR] at ha
        obtain ⟨B, q, cc, ty, fz, h1, h2, h3, h4⟩ := ha
        refine OK.val (v := .pointer (some ⟨B, q + (off + fd.offset), none⟩)) h ?_ ?_
        · simp only [execOp, ho, Sem.run_bind, h3, key _ _ _ hsz, Result.andThen_ok, Sem.run_pure, Nat.add_assoc]
        · simp only [VR]; exact ⟨B, q, cc, ty, fz, h1, h2, rfl, h4⟩
      · exact OK.none
    · cases hfd
  · exact OK.none

/-- A whole number from 0 on, below a bound. -/
def inB (i : Int) (n : Nat) : Option Nat :=
  match i with
  | .ofNat k => match Nat.blt k n with
    | true => some k
    | false => none
  | .negSucc _ => none

theorem inB_ok {i : Int} {n k : Nat} (h : inB i n = some k) : 0 ≤ i ∧ i < n ∧ i.toNat = k ∧ k < n := by
  unfold inB at h
  split at h
  · split at h
    · rename_i hb
      have hb := Nat.le_of_ble_eq_true hb
      simp only [Option.some.injEq] at h
      subst h
      refine ⟨Int.natCast_nonneg _, ?_, rfl, hb⟩
      exact Int.ofNat_lt.2 hb
    · cases h
  · cases h

def evIndexAddr (T : TP) (t : TypeId) (a ix : AV) (hp : Hp) (nx : Nat) : Outs :=
  match T.und t, ix with
  | some (.slice e), .i _ n => match szOf T e, a with
    | some sz, .sr id g off len _ => match inB n len with
      | some k => ret1 (.val (.ptr id g (off + k * sz))) hp nx
      | none => none
    | some sz, .sv cs len _ => match inB n len with
      | some k => ret1 (.val (.cptr cs (k * sz))) hp nx
      | none => none
    | _, _ => none
  | some (.array len e), .i _ n => match szOf T e, a with
    | some sz, .ptr id g off => match inB n len with
      | some k => ret1 (.val (.ptr id g (off + k * sz))) hp nx
      | none => none
    | some sz, .cptr cs off => match inB n len with
      | some k => ret1 (.val (.cptr cs (off + k * sz))) hp nx
      | none => none
    | _, _ => none
  | _, _ => none

theorem evIndexAddr_ok {P : Program} {X : Cx} {hp : Hp} (h : HR X hp) {t : TypeId} {a ix : AV} (ρ : Operand → Value) (x y : Operand) (ha : VR X a (ρ x)) (hix : VR X ix (ρ y)) (o : Oper)
    (ho : o.op = .indexAddr t x y) : OK X (evIndexAddr (TP.of P) t a ix hp X.nx) ((execOp ρ o).run P X.w) := by
  have hrun : (execOp ρ o).run P X.w = ((Instr.indexAt t (ρ x) (ρ y)).run P X.w).andThen fun v w => .ok (.value v) w := by
    simp [execOp, ho]
  have keyS : ∀ (e : TypeId) (k : IntKind) (n : Int) (j sz len cap : Nat) (B q : Nat), P.underlying t = some (.slice e) → szOf (TP.of P) e = some sz → inB n len = some j →
      (Instr.indexAt t (.slice (some ⟨B, q, none⟩) len cap) (.int k n)).run P X.w = .ok (.pointer (some ⟨B, q + j * sz, none⟩)) X.w := by
    intro e k n j sz len cap B q hu hsz hb
    obtain ⟨h1, h2, h3, h4⟩ := inB_ok hb
    simp only [Instr.indexAt, asIntOf, Sem.run_bind, Sem.run_pure, Result.andThen_ok, run_underlying' hu]
    have hc : (0 ≤ n ∧ n < (len : Int)) := ⟨h1, h2⟩
    simp [hc, run_sizeOf' hsz, add_none, h3]
  have keyA : ∀ (e : TypeId) (k : IntKind) (n : Int) (j sz len : Nat) (B q : Nat), P.underlying t = some (.array len e) → szOf (TP.of P) e = some sz → inB n len = some j →
      (Instr.indexAt t (.pointer (some ⟨B, q, none⟩)) (.int k n)).run P X.w = .ok (.pointer (some ⟨B, q + j * sz, none⟩)) X.w := by
    intro e k n j sz len B q hu hsz hb
    obtain ⟨h1, h2, h3, h4⟩ := inB_ok hb
    simp only [Instr.indexAt, asIntOf, Sem.run_bind, Sem.run_pure, Result.andThen_ok, run_underlying' hu, Instr.sureAddr]
    have hc : (0 ≤ n ∧ n < (len : Int)) := ⟨h1, h2⟩
    simp [hc, run_sizeOf' hsz, add_none, h3]
  rw [hrun]
  unfold evIndexAddr
  split
  · rename_i e k n hu
    simp only [VR] at hix
    rw [hix]
    split
    · rename_i sz id g off len s hsz
      split
      · rename_i j hj
        simp only [VR] at ha
        obtain ⟨h1, h2, cap, cc, ty, fz, h3, h4⟩ := ha
        refine OK.val (v := .pointer (some ⟨(X.m id g).1, (X.m id g).2 + (off + j * sz), none⟩)) h ?_ ?_
        · rw [h3, keyS e k n j sz len cap _ _ hu hsz hj, Nat.add_assoc]; rfl
        · exact ⟨h1, h2, rfl⟩
      · exact OK.none
    · rename_i sz cs len full hsz
      split
      · rename_i j hj
        obtain ⟨_, _, _, hlt⟩ := inB_ok hj
        simp only [VR] at ha
        obtain ⟨base, cap, h1, h2, _, _, h5⟩ := ha
        obtain ⟨B, q, cc, ty, fz, rfl, h6, h7, h8⟩ := h5 (by omega)
        refine OK.val (v := .pointer (some ⟨B, q + j * sz, none⟩)) h ?_ ?_
        · rw [h1, keyS e k n j sz len cap _ _ hu hsz hj]; rfl
        · simp only [VR]; exact ⟨B, q, cc, ty, fz, h6, h7, rfl, h8⟩
      · exact OK.none
    · exact OK.none
  · rename_i len e k n hu
    simp only [VR] at hix
    rw [hix]
    split
    · rename_i sz id g off hsz
      split
      · rename_i j hj
        simp only [VR] at ha
        obtain ⟨h1, h2, h3⟩ := ha
        refine OK.val (v := .pointer (some ⟨(X.m id g).1, (X.m id g).2 + (off + j * sz), none⟩)) h ?_ ?_
        · rw [h3, keyA e k n j sz len _ _ hu hsz hj, Nat.add_assoc]; rfl
        · exact ⟨h1, h2, rfl⟩
      · exact OK.none
    · rename_i sz cs off hsz
      split
      · rename_i j hj
        simp only [VR] at ha
        obtain ⟨B, q, cc, ty, fz, h1, h2, h3, h4⟩ := ha
        refine OK.val (v := .pointer (some ⟨B, q + (off + j * sz), none⟩)) h ?_ ?_
        · rw [h3, keyA e k n j sz len _ _ hu hsz hj, Nat.add_assoc]; rfl
        · simp only [VR]; exact ⟨B, q, cc, ty, fz, h1, h2, rfl, h4⟩
      · exact OK.none
    · exact OK.none
  · exact OK.none

/-! ## Parts of values -/

def partA (T : TP) (t : TypeId) (cs : List AV) (off : Nat) : Option AV :=
  match T.und t with
  | none => none
  | some d => match aggD d with
    | true => match szOf T t with
      | none => none
      | some n => some (.agg ((cs.drop off).take n))
    | false => cs[off]?

theorem partA_ok {P : Program} {X : Cx} {t : TypeId} {cs : List AV} {off : Nat} {a : AV} {vs : Array Value} (ha : partA (TP.of P) t cs off = some a) (hv : VRL X cs vs.toList) :
    ∃ v, (part t vs off).run P X.w = .ok v X.w ∧ VR X a v := by
  unfold partA at ha
  split at ha
  · cases ha
  · rename_i d hd
    split at ha
    · rename_i hagg
      split at ha
      · cases ha
      · rename_i n hn
        simp only [Option.some.injEq] at ha
        subst ha
        refine ⟨.agg (vs.extract off (off + n)), by simp [part, run_isAgg' hd, hagg, run_sizeOf' hn], ?_⟩
        simp only [VR]
        refine ⟨_, rfl, ?_⟩
        have := (hv.drop off).take n
        simpa [Array.toList_extract, List.extract_eq_take_drop] using this
    · rename_i hagg
      obtain ⟨v, hv1, hv2⟩ := hv.get ha
      have hv1' : vs[off]? = some v := by simpa using hv1
      exact ⟨v, by simp [part, run_isAgg' hd, hagg, hv1'], hv2⟩

def evField (T : TP) (t : TypeId) (a : AV) (f : Nat) (hp : Hp) (nx : Nat) : Outs :=
  match fieldOf T t f, a with
  | some fd, .agg cs => match partA T fd.type cs fd.offset with
    | some v => ret1 (.val v) hp nx
    | none => none
  | _, _ => none

theorem evField_ok {P : Program} {X : Cx} {hp : Hp} (h : HR X hp) {t : TypeId} {a : AV} {f : Nat} (ρ : Operand → Value) (x : Operand) (ha : VR X a (ρ x)) (o : Oper) (ho : o.op = .field t x f) :
    OK X (evField (TP.of P) t a f hp X.nx) ((execOp ρ o).run P X.w) := by
  unfold evField
  split
  · rename_i fd cs hfd
    unfold fieldOf at hfd
    split at hfd
    · rename_i fs hu
      have hfd' : fs[f]? = some fd := by simpa using hfd
      split
      · rename_i v hv
        simp only [VR] at ha
        obtain ⟨vs, h1, h2⟩ := ha
        obtain ⟨u, h3, h4⟩ := partA_ok (P := P) hv h2
        refine OK.val h ?_ h4
        simp [execOp, ho, Instr.field, run_underlying' hu, hfd', h1, asAgg, h3]
      · exact OK.none
    · cases hfd
  · exact OK.none

def evIndex (T : TP) (ρ : Operand → AV) (t : TypeId) (x y : Operand) (o : Oper) (hp : Hp) (nx : Nat) : Outs :=
  match T.und t, ρ x, ρ y with
  | some .string, .s s, .i _ n => match inB n s.size with
    | some k => match s.data.toList[k]? with
      | some b => ret1 (.val (.i .u8 b.toNat)) hp nx
      | none => none
    | none => none
  | some (.array len e), .agg cs, .i _ n => match szOf T e, inB n len with
    | some sz, some k => match partA T e cs (k * sz) with
      | some v => ret1 (.val v) hp nx
      | none => none
    | _, _ => none
  | _, _, _ => evFlat T ρ o hp nx

theorem evIndex_ok {P : Program} {X : Cx} {hp : Hp} (h : HR X hp) {ρ : Operand → AV} {ρc : Operand → Value} (hρ : ∀ x, VR X (ρ x) (ρc x)) (o : Oper) {t : TypeId} {x y : Operand} (ho : o.op = .index t x y) :
    OK X (evIndex (TP.of P) ρ t x y o hp X.nx) ((execOp ρc o).run P X.w) := by
  have hx := hρ x
  have hy := hρ y
  have hrun : (execOp ρc o).run P X.w = ((Instr.index t (ρc x) (ρc y)).run P X.w).andThen fun v w => .ok (.value v) w := by
    simp [execOp, ho]
  unfold evIndex
  split
  · rename_i s k n hu hxs hyn
    rw [hxs] at hx
    rw [hyn] at hy
    simp only [VR] at hx hy
    split
    · rename_i j hj
      obtain ⟨h1, h2, h3, h4⟩ := inB_ok hj
      split
      · rename_i b hb
        refine OK.val (v := .int .u8 b.toNat) h ?_ rfl
        rw [hrun, hx, hy]
        have hg : s[n.toNat]? = some b := by
          rw [h3]
          have h5 : j < s.size := h4
          rw [getElem?_pos s j h5]
          have := (List.getElem?_eq_some_iff.1 hb).2
          simp only [Option.some.injEq]
          rw [← this]
          rfl
        simp [Instr.index, asIntOf, run_underlying' hu, h1, hg]
      · exact OK.none
    · exact OK.none
  · rename_i len e cs k n hu hxs hyn
    rw [hxs] at hx
    rw [hyn] at hy
    simp only [VR] at hx hy
    obtain ⟨vs, hx1, hx2⟩ := hx
    split
    · rename_i sz j hsz hj
      obtain ⟨h1, h2, h3, h4⟩ := inB_ok hj
      split
      · rename_i v hv
        obtain ⟨u, h5, h6⟩ := partA_ok (P := P) hv hx2
        refine OK.val h ?_ h6
        rw [hrun, hx1, hy]
        have hc : (0 ≤ n ∧ n < (len : Int)) := ⟨h1, h2⟩
        simp [Instr.index, asIntOf, run_underlying' hu, hc, run_sizeOf' hsz, h3, h5]
      · exact OK.none
    · exact OK.none
  · exact evFlat_ok h hρ o

def evExtract (a : AV) (i : Nat) (hp : Hp) (nx : Nat) : Outs :=
  match a with
  | .tup vs => match vs[i]? with
    | some v => ret1 (.val v) hp nx
    | none => none
  | _ => none

theorem evExtract_ok {P : Program} {X : Cx} {hp : Hp} (h : HR X hp) {a : AV} {i : Nat} (ρ : Operand → Value) (x : Operand) (ha : VR X a (ρ x)) (o : Oper) (ho : o.op = .extract x i) :
    OK X (evExtract a i hp X.nx) ((execOp ρ o).run P X.w) := by
  unfold evExtract
  split
  · rename_i vs
    split
    · rename_i v hv
      simp only [VR] at ha
      obtain ⟨us, h1, h2⟩ := ha
      obtain ⟨u, h3, h4⟩ := h2.get hv
      have h3' : us[i]? = some u := by simpa using h3
      refine OK.val h ?_ h4
      simp [execOp, ho, Instr.extract, h1, h3']
    · exact OK.none
  · exact OK.none

end Go.Ev

namespace Go.Ev

/-! ## Slicing -/

def bndA (v : Option AV) (d y : Nat) : Option Nat :=
  match v with
  | none => some d
  | some (.i _ n) => inB n (y + 1)
  | _ => none

def bnds (len : Nat) (lo hi mx : Option AV) : Option (Nat × Nat × Option Nat) :=
  match mx with
  | none => match bndA hi len len with
    | some h => match bndA lo 0 h with
      | some l => some (l, h, none)
      | none => none
    | none => none
  | some m => match bndA (some m) 0 len, hi with
    | some m, some hi => match bndA (some hi) 0 m with
      | some h => match bndA lo 0 h with
        | some l => some (l, h, some m)
        | none => none
      | none => none
    | _, _ => none

def OVR (X : Cx) : Option AV → Option Value → Prop
  | none, v => v = none
  | some a, v => ∃ u, v = some u ∧ VR X a u

theorem run_bound {P : Program} {X : Cx} {a : AV} {v : Value} {d y k z : Nat} (h : bndA (some a) d y = some k) (hv : VR X a v) (hz : y ≤ z) (code : BoundsCode) :
    (Instr.sliceBound v z code).run P X.w = .ok k X.w ∧ k ≤ y := by
  unfold bndA at h
  split at h
  · rename_i heq; cases heq
  · rename_i kk n heq
    cases heq
    obtain ⟨h1, h2, h3, h4⟩ := inB_ok h
    simp only [VR] at hv
    subst hv
    have hc : (0 ≤ n ∧ n ≤ (z : Int)) := ⟨h1, by omega⟩
    refine ⟨by simp [Instr.sliceBound, asIntOf, hc, h3], by omega⟩
  · cases h

theorem run_bnds {P : Program} {X : Cx} {len cap : Nat} {lo hi mx : Option AV} {lo' hi' mx' : Option Value} {l h : Nat} {m : Option Nat} (hb : bnds len lo hi mx = some (l, h, m)) (hlo : OVR X lo lo')
    (hhi : OVR X hi hi') (hmx : OVR X mx mx') (hlc : len ≤ cap) (isS : Bool) :
    (Instr.sliceBounds isS len cap lo' hi' mx').run P X.w = .ok (l, h, m.getD cap) X.w ∧ l ≤ h ∧ h ≤ len ∧ h ≤ m.getD cap ∧ m.getD cap ≤ cap := by
  have hlow : ∀ (h l : Nat) (c : BoundsCode), bndA lo 0 h = some l → l ≤ h ∧ ((lo' = none ∧ l = 0) ∨ ∃ u, lo' = some u ∧ (Instr.sliceBound u h c).run P X.w = .ok l X.w) := by
    intro h l c hl
    cases lo with
    | none =>
      simp only [OVR] at hlo
      simp only [bndA, Option.some.injEq] at hl
      exact ⟨by omega, .inl ⟨hlo, hl.symm⟩⟩
    | some a =>
      simp only [OVR] at hlo
      obtain ⟨u, h0, hu⟩ := hlo
      obtain ⟨h1, h2⟩ := run_bound (P := P) hl hu (Nat.le_refl h) c
      exact ⟨h2, .inr ⟨u, h0, h1⟩⟩
  unfold bnds at hb
  split at hb
  · simp only [OVR] at hmx
    subst hmx
    split at hb
    · rename_i h' hh
      split at hb
      · rename_i l' hl
        simp only [Option.some.injEq, Prod.mk.injEq] at hb
        obtain ⟨rfl, rfl, rfl⟩ := hb
        cases hi with
        | none =>
          simp only [OVR] at hhi
          subst hhi
          simp only [bndA, Option.some.injEq] at hh
          subst hh
          obtain ⟨h1, h2⟩ := hlow len l' .sliceB hl
          refine ⟨?_, h1, Nat.le_refl _, hlc, Nat.le_refl _⟩
          simp only [Instr.sliceBounds, Sem.run_bind, Sem.run_pure, Result.andThen_ok, Option.isSome_none, Bool.false_eq_true, if_false, Option.getD_none]
          rcases h2 with ⟨rfl, rfl⟩ | ⟨u0, rfl, h2⟩ <;> simp [*]
        | some a =>
          simp only [OVR] at hhi
          obtain ⟨u, rfl, hu⟩ := hhi
          obtain ⟨h3, h4⟩ := run_bound (P := P) hh hu hlc (if isS then .sliceAcap else .sliceAlen)
          obtain ⟨h1, h2⟩ := hlow h' l' .sliceB hl
          refine ⟨?_, h1, h4, Nat.le_trans h4 hlc, Nat.le_refl _⟩
          simp only [Instr.sliceBounds, Sem.run_bind, Sem.run_pure, Result.andThen_ok, Option.isSome_none, Bool.false_eq_true, if_false, Option.getD_none, h3]
          rcases h2 with ⟨rfl, rfl⟩ | ⟨u0, rfl, h2⟩ <;> simp [*]
      · cases hb
    · cases hb
  · rename_i a
    simp only [OVR] at hmx
    obtain ⟨u, rfl, hu⟩ := hmx
    split at hb
    · rename_i m' b hm
      simp only [OVR] at hhi
      obtain ⟨u2, rfl, hu2⟩ := hhi
      split at hb
      · rename_i h' hh
        split at hb
        · rename_i l' hl
          simp only [Option.some.injEq, Prod.mk.injEq] at hb
          obtain ⟨rfl, rfl, rfl⟩ := hb
          obtain ⟨h3, h4⟩ := run_bound (P := P) hm hu hlc (if isS then .slice3Acap else .slice3Alen)
          obtain ⟨h5, h6⟩ := run_bound (P := P) hh hu2 (Nat.le_refl m') .slice3B
          obtain ⟨h1, h2⟩ := hlow h' l' .slice3C hl
          refine ⟨?_, h1, by omega, h6, by simp only [Option.getD_some]; omega⟩
          simp only [Instr.sliceBounds, Sem.run_bind, Result.andThen_ok, Option.isSome_some, if_true, Option.getD_some, h3, h5]
          rcases h2 with ⟨rfl, rfl⟩ | ⟨u0, rfl, h2⟩ <;> simp [*]
        · cases hb
      · cases hb
    · cases hb

def fullQ (full : Bool) (len h : Nat) : Option Nat → Bool
  | none => full && Nat.beq h len
  | some m => Nat.beq m h

def isS : TypeDesc → Bool
  | .string => true
  | _ => false

def evSlice (T : TP) (ρ : Operand → AV) (t : TypeId) (x : Operand) (lo hi mx : Option Operand) (o : Oper) (hp : Hp) (nx : Nat) : Outs :=
  match T.und t, ρ x with
  | some (.slice e), .sv cs len full => match szOf T e, bnds len (lo.map ρ) (hi.map ρ) (mx.map ρ) with
    | some sz, some (l, h, m) => match Nat.beq h l && Nat.blt 0 len with
      | true => ret1 (.val (.sne (fullQ full len h m))) hp nx
      | false => ret1 (.val (.sv ((cs.drop (l * sz)).take ((h - l) * sz)) (h - l) (fullQ full len h m))) hp nx
    | _, _ => none
  | some (.slice e), .sr id g off len s => match szOf T e, bnds len (lo.map ρ) (hi.map ρ) (mx.map ρ) with
    | some sz, some (l, h, m) => match Nat.beq s sz, Nat.blt l h with
      | true, true => match fullQ false len h m with
        | true => ret1 (.val (.srf id g (off + l * sz) (h - l) sz)) hp nx
        | false => ret1 (.val (.sr id g (off + l * sz) (h - l) sz)) hp nx
      | true, false => match Nat.beq l 0, fullQ false len h m with
        | true, true => ret1 (.val (.srf id g off 0 sz)) hp nx
        | true, false => ret1 (.val (.sr id g off 0 sz)) hp nx
        | false, q => ret1 (.val (.sne q)) hp nx
      | _, _ => none
    | _, _ => none
  | some (.slice e), .snil => match szOf T e, bnds 0 (lo.map ρ) (hi.map ρ) (mx.map ρ) with
    | some _, some _ => ret1 (.val .snil) hp nx
    | _, _ => none
  | some (.slice e), .sne full => match szOf T e, bnds 0 (lo.map ρ) (hi.map ρ) (mx.map ρ) with
    | some _, some (_, h, m) => ret1 (.val (.sne (fullQ full 0 h m))) hp nx
    | _, _ => none
  | some (.array n e), .ptr id g off => match szOf T e, bnds n (lo.map ρ) (hi.map ρ) (mx.map ρ), hp.get id with
    | some sz, some (l, h, m), some (.cells g' cs _) => match Nat.beq g g' && Nat.ble (off + n * sz) cs.length, Nat.blt l h with
      | true, true => ret1 (.val (.sr id g (off + l * sz) (h - l) sz)) hp nx
      | true, false => ret1 (.val (.sne (fullQ true n h m))) hp nx
      | _, _ => none
    | _, _, _ => none
  | some (.array n e), .cptr cs off => match szOf T e, bnds n (lo.map ρ) (hi.map ρ) (mx.map ρ) with
    | some sz, some (l, h, m) => match Nat.ble (off + n * sz) cs.length with
      | true => ret1 (.val (.sv ((cs.drop (off + l * sz)).take ((h - l) * sz)) (h - l) (fullQ true n h m))) hp nx
      | false => none
    | _, _ => none
  | some .string, _ => evFlat T ρ o hp nx
  | _, _ => none

theorem OVR.map {X : Cx} {ρ : Operand → AV} {ρc : Operand → Value} (hρ : ∀ x, VR X (ρ x) (ρc x)) (x : Option Operand) : OVR X (x.map ρ) (x.map ρc) := by
  cases x with
  | none => rfl
  | some x => exact ⟨_, rfl, hρ x⟩

theorem drop_take_take {α : Type} (L : List α) (n a b : Nat) : ((L.take n).drop a).take b = (L.drop a).take (min b (n - a)) := by
  rw [List.drop_take, List.take_take]

theorem mulsub {l h len sz : Nat} (h1 : l ≤ h) (h2 : h ≤ len) : l * sz + (h - l) * sz = h * sz ∧ h * sz ≤ len * sz := by
  refine ⟨?_, Nat.mul_le_mul_right _ h2⟩
  rw [← Nat.add_mul]
  congr 1
  omega

theorem evSlice_ok {P : Program} {X : Cx} {hp : Hp} (H : HR X hp) {ρ : Operand → AV} {ρc : Operand → Value} (hρ : ∀ x, VR X (ρ x) (ρc x)) (o : Oper) {t : TypeId} {x : Operand} {lo hi mx : Option Operand}
    (ho : o.op = .slice t x lo hi mx) : OK X (evSlice (TP.of P) ρ t x lo hi mx o hp X.nx) ((execOp ρc o).run P X.w) := by
  have hx := hρ x
  have hlo := OVR.map hρ lo
  have hhi := OVR.map hρ hi
  have hmx := OVR.map hρ mx
  have hrun : (execOp ρc o).run P X.w = ((Instr.sliceAt t (ρc x) (lo.map ρc) (hi.map ρc) (mx.map ρc)).run P X.w).andThen fun v w => .ok (.value v) w := by
    simp [execOp, ho]
  have full_len : ∀ {full : Bool} {len cap l h : Nat} {m : Option Nat}, l ≤ h → (full = true → cap = len) → fullQ full len h m = true → m.getD cap - l = h - l := by
    intro full len cap l h m _ hf hq
    cases m with
    | none =>
      simp only [fullQ, Bool.and_eq_true] at hq
      have := hf hq.1
      have := Nat.eq_of_beq_eq_true hq.2
      simp only [Option.getD_none]; omega
    | some m =>
      have := Nat.eq_of_beq_eq_true hq
      simp only [Option.getD_some]; omega
  have keyS : ∀ (e : TypeId) (sz len cap l h : Nat) (m : Option Nat) (base : Option Addr), P.underlying t = some (.slice e) → szOf (TP.of P) e = some sz →
      bnds len (lo.map ρ) (hi.map ρ) (mx.map ρ) = some (l, h, m) → len ≤ cap →
      (Instr.sliceAt t (.slice base len cap) (lo.map ρc) (hi.map ρc) (mx.map ρc)).run P X.w =
        .ok (.slice (if m.getD cap = l then base else base.map (·.add (l * sz))) (h - l) (m.getD cap - l)) X.w := by
    intro e sz len cap l h m base hu hsz hb hlc
    obtain ⟨h1, _⟩ := run_bnds (P := P) hb hlo hhi hmx hlc true
    simp only [Instr.sliceAt, Sem.run_bind, run_underlying' hu, Result.andThen_ok, Instr.slice, h1, run_sizeOf' hsz, Sem.run_pure]
  have keyA : ∀ (e : TypeId) (sz n l h : Nat) (m : Option Nat) (B q : Nat), P.underlying t = some (.array n e) → szOf (TP.of P) e = some sz →
      bnds n (lo.map ρ) (hi.map ρ) (mx.map ρ) = some (l, h, m) →
      (Instr.sliceAt t (.pointer (some ⟨B, q, none⟩)) (lo.map ρc) (hi.map ρc) (mx.map ρc)).run P X.w =
        .ok (.slice (some (if m.getD n = l then ⟨B, q, none⟩ else ⟨B, q + l * sz, none⟩)) (h - l) (m.getD n - l)) X.w := by
    intro e sz n l h m B q hu hsz hb
    obtain ⟨h1, _⟩ := run_bnds (P := P) hb hlo hhi hmx (Nat.le_refl n) false
    simp only [Instr.sliceAt, Sem.run_bind, run_underlying' hu, Result.andThen_ok, Instr.sureAddr, Sem.run_pure, h1, run_sizeOf' hsz, add_none]
  unfold evSlice
  split
  · rename_i e cs len full hu hxs
    rw [hxs] at hx
    simp only [VR] at hx
    obtain ⟨base, cap, hx1, hlc, hfl, hnl, hbl⟩ := hx
    split
    · rename_i sz l h m hsz hb
      obtain ⟨_, h2, h3, h4, h5⟩ := run_bnds (P := P) hb hlo hhi hmx hlc true
      split
      · rename_i hcond
        simp only [Bool.and_eq_true] at hcond
        have hhl := Nat.eq_of_beq_eq_true hcond.1
        have hlp : 0 + 1 ≤ len := Nat.le_of_ble_eq_true hcond.2
        obtain ⟨B, q, cc, ty, fz, rfl, h6, h7, h8⟩ := hbl (by omega)
        refine OK.val (v := .slice (if m.getD cap = l then some ⟨B, q, none⟩ else (some (⟨B, q, none⟩ : Addr)).map (·.add (l * sz))) (h - l) (m.getD cap - l)) H ?_ ?_
        · rw [hrun, hx1, keyS e sz len cap l h m _ hu hsz hb hlc]; rfl
        · simp only [VR]
          refine ⟨if m.getD cap = l then ⟨B, q, none⟩ else Addr.add ⟨B, q, none⟩ (l * sz), _, by rw [show h - l = 0 by omega]; split <;> rfl, fun hq => ?_⟩
          have := full_len h2 hfl hq
          omega
      · refine OK.val (v := .slice (if m.getD cap = l then base else base.map (·.add (l * sz))) (h - l) (m.getD cap - l)) H ?_ ?_
        · rw [hrun, hx1, keyS e sz len cap l h m base hu hsz hb hlc]; rfl
        · simp only [VR]
          refine ⟨_, _, rfl, by omega, full_len h2 hfl, fun h0 => (by rw [h0]; simp), fun hne => ?_⟩
          obtain ⟨B, q, cc, ty, fz, rfl, h6, h7, h8⟩ := hbl (by omega)
          refine ⟨B, q + l * sz, cc, ty, fz, ?_, h6, h7, ?_⟩
          · rw [if_neg (by omega)]; simp [add_none]
          · have := (h8.drop (l * sz)).take ((h - l) * sz)
            rw [drop_take_take, List.drop_drop] at this
            rw [List.length_take, List.length_drop]
            exact this
    · exact OK.none
  · rename_i e id g off len s hu hxs
    rw [hxs] at hx
    simp only [VR] at hx
    obtain ⟨hx1, hx2, cap, cc, ty, fz, hx3, hlc, hx4, hx5⟩ := hx
    split
    · rename_i sz l h m hsz hb
      obtain ⟨_, h2, h3, h4, h5⟩ := run_bnds (P := P) hb hlo hhi hmx hlc true
      have hr := keyS e sz len cap l h m (some ⟨(X.m id g).1, (X.m id g).2 + off, none⟩) hu hsz hb hlc
      split
      · rename_i hs hlt
        have := Nat.eq_of_beq_eq_true hs
        subst this
        have hlt : l + 1 ≤ h := Nat.le_of_ble_eq_true hlt
        have hms := mulsub (sz := s) (show l ≤ m.getD cap by omega) h5
        split
        · rename_i hq
          have hcap := full_len (full := false) (cap := cap) h2 (fun e => by cases e) hq
          refine OK.val (v := .slice (some ⟨(X.m id g).1, (X.m id g).2 + (off + l * s), none⟩) (h - l) (m.getD cap - l)) H ?_ ?_
          · rw [hrun, hx3, hr, if_neg (by omega)]
            simp [add_none, Nat.add_assoc]
          · simp only [VR]
            rw [hcap] at hms
            exact ⟨hx1, hx2, cc, ty, fz, by rw [hcap], hx4, by omega⟩
        · refine OK.val (v := .slice (some ⟨(X.m id g).1, (X.m id g).2 + (off + l * s), none⟩) (h - l) (m.getD cap - l)) H ?_ ?_
          · rw [hrun, hx3, hr, if_neg (by omega)]
            simp [add_none, Nat.add_assoc]
          · simp only [VR]
            refine ⟨hx1, hx2, _, cc, ty, fz, rfl, by omega, hx4, ?_⟩
            omega
      · rename_i hs hlt
        have hge : ¬ l < h := by
          intro hlt'
          have : Nat.blt l h = true := by
            rw [Nat.blt, Nat.ble_eq]; exact hlt'
          simp [this] at hlt
        have hlh : l = h := by omega
        have := Nat.eq_of_beq_eq_true hs
        subst this
        have hms := mulsub (sz := s) (show l ≤ m.getD cap by omega) h5
        split
        · rename_i hl0 hq
          have := Nat.eq_of_beq_eq_true hl0
          subst this
          have hcap := full_len (full := false) (cap := cap) h2 (fun e => by cases e) hq
          have h00 : h = 0 := hlh.symm
          subst h00
          refine OK.val (v := .slice (some ⟨(X.m id g).1, (X.m id g).2 + off, none⟩) 0 0) H ?_ ?_
          · have h0 : m.getD cap = 0 := by simpa using hcap
            rw [hrun, hx3, hr, h0]; simp
          · simp only [VR]
            exact ⟨hx1, hx2, cc, ty, fz, trivial, hx4, by omega⟩
        · rename_i hl0 hq
          have := Nat.eq_of_beq_eq_true hl0
          subst this
          have h00 : h = 0 := hlh.symm
          subst h00
          refine OK.val (v := .slice (some ⟨(X.m id g).1, (X.m id g).2 + off, none⟩) 0 (m.getD cap)) H ?_ ?_
          · rw [hrun, hx3, hr]
            split <;> simp [add_none]
          · simp only [VR]
            exact ⟨hx1, hx2, _, cc, ty, fz, rfl, by omega, hx4, by omega⟩
        · rename_i q hl0 hq
          refine OK.val (v := .slice (if m.getD cap = l then some ⟨(X.m id g).1, (X.m id g).2 + off, none⟩ else (some (⟨(X.m id g).1, (X.m id g).2 + off, none⟩ : Addr)).map (·.add (l * s))) (h - l) (m.getD cap - l)) H ?_ ?_
          · rw [hrun, hx3, hr]; rfl
          · simp only [VR]
            refine ⟨if m.getD cap = l then ⟨(X.m id g).1, (X.m id g).2 + off, none⟩ else Addr.add ⟨(X.m id g).1, (X.m id g).2 + off, none⟩ (l * s), _, by rw [show h - l = 0 by omega]; split <;> rfl, fun hq' => ?_⟩
            have := full_len (full := false) (cap := cap) h2 (fun e => by cases e) hq'
            omega
      · exact OK.none
    · exact OK.none
  · rename_i e hu hxs
    rw [hxs] at hx
    simp only [VR] at hx
    split
    · rename_i sz b hsz hb
      obtain ⟨l, h, m⟩ := b
      obtain ⟨_, h2, h3, h4, h5⟩ := run_bnds (P := P) hb hlo hhi hmx (Nat.le_refl 0) true
      refine OK.val (v := .slice none 0 0) H ?_ rfl
      rw [hrun, hx, keyS e sz 0 0 l h m none hu hsz hb (Nat.le_refl 0)]
      have : m.getD 0 = l := by omega
      simp [this]
      omega
    · exact OK.none
  · rename_i e full hu hxs
    rw [hxs] at hx
    simp only [VR] at hx
    obtain ⟨a, cap, hx1, hx2⟩ := hx
    split
    · rename_i sz l h m hsz hb
      obtain ⟨_, h2, h3, h4, h5⟩ := run_bnds (P := P) hb hlo hhi hmx (Nat.zero_le cap) true
      refine OK.val (v := .slice (if m.getD cap = l then some a else (some a).map (·.add (l * sz))) (h - l) (m.getD cap - l)) H ?_ ?_
      · rw [hrun, hx1, keyS e sz 0 cap l h m (some a) hu hsz hb (Nat.zero_le cap)]; rfl
      · simp only [VR]
        refine ⟨if m.getD cap = l then a else a.add (l * sz), _, by rw [show h - l = 0 by omega]; split <;> rfl, fun hq => ?_⟩
        have := full_len h2 hx2 hq
        omega
    · exact OK.none
  · rename_i n e id g off hu hxs
    rw [hxs] at hx
    simp only [VR] at hx
    obtain ⟨hx1, hx2, hx3⟩ := hx
    split
    · rename_i sz l h m g' cs wr hsz hb hg
      obtain ⟨_, h2, h3, h4, h5⟩ := run_bnds (P := P) hb hlo hhi hmx (Nat.le_refl n) false
      have hr := keyA e sz n l h m (X.m id g).1 ((X.m id g).2 + off) hu hsz hb
      split
      · rename_i hs hlt
        simp only [Bool.and_eq_true] at hs
        have := Nat.eq_of_beq_eq_true hs.1
        subst this
        have hle := Nat.le_of_ble_eq_true hs.2
        have hlt : l + 1 ≤ h := Nat.le_of_ble_eq_true hlt
        obtain ⟨_, cc, ty, fz, h6, h7, _⟩ := H.br _ _ hg
        refine OK.val (v := .slice (some ⟨(X.m id g).1, (X.m id g).2 + (off + l * sz), none⟩) (h - l) (m.getD n - l)) H ?_ ?_
        · rw [hrun, hx3, hr, if_neg (by omega)]
          simp [Nat.add_assoc]
        · simp only [VR]
          refine ⟨hx1, hx2, _, cc, ty, fz, rfl, by omega, h6, ?_⟩
          have := mulsub (sz := sz) (show l ≤ m.getD n by omega) h5
          omega
      · rename_i hs hlt
        have hge : ¬ l < h := by
          intro hlt'
          have : Nat.blt l h = true := by
            rw [Nat.blt, Nat.ble_eq]; exact hlt'
          simp [this] at hlt
        refine OK.val (v := .slice (some (if m.getD n = l then ⟨(X.m id g).1, (X.m id g).2 + off, none⟩ else ⟨(X.m id g).1, (X.m id g).2 + off + l * sz, none⟩)) (h - l) (m.getD n - l)) H ?_ ?_
        · rw [hrun, hx3, hr]; rfl
        · simp only [VR]
          refine ⟨_, _, by rw [show h - l = 0 by omega], fun hq => ?_⟩
          have := full_len (full := true) (cap := n) h2 (fun _ => rfl) hq
          omega
      · exact OK.none
    · exact OK.none
  · rename_i n e cs off hu hxs
    rw [hxs] at hx
    simp only [VR] at hx
    obtain ⟨B, q, cc, ty, fz, hx1, hx2, hx3, hx4⟩ := hx
    split
    · rename_i sz l h m hsz hb
      obtain ⟨_, h2, h3, h4, h5⟩ := run_bnds (P := P) hb hlo hhi hmx (Nat.le_refl n) false
      have hr := keyA e sz n l h m B (q + off) hu hsz hb
      split
      · rename_i hle
        have hle := Nat.le_of_ble_eq_true hle
        refine OK.val (v := .slice (some (if m.getD n = l then ⟨B, q + off, none⟩ else ⟨B, q + off + l * sz, none⟩)) (h - l) (m.getD n - l)) H ?_ ?_
        · rw [hrun, hx3, hr]; rfl
        · simp only [VR]
          refine ⟨_, _, rfl, by omega, full_len (full := true) (cap := n) h2 (fun _ => rfl), fun h0 => (by rw [h0]; simp), fun hne => ?_⟩
          refine ⟨B, q + (off + l * sz), cc, ty, fz, ?_, hx1, hx2, ?_⟩
          · rw [if_neg (by omega), Nat.add_assoc]
          · have := (hx4.drop (off + l * sz)).take ((h - l) * sz)
            rw [drop_take_take, List.drop_drop] at this
            rw [List.length_take, List.length_drop]
            exact this
      · exact OK.none
    · exact OK.none
  · exact evFlat_ok H hρ o
  · exact OK.none

end Go.Ev

namespace Go.Ev

theorem wrap_nat {n : Nat} (h : n ≤ 281474976710656) : IntKind.i64.wrap (n : Int) = n := by
  have h1 : ((n : Int) % (2 ^ IntKind.i64.bits : Int)) = n := by
    show ((n : Int) % 2 ^ 64) = n
    omega
  have h2 : ¬ (n : Int) ≥ (2 ^ (IntKind.i64.bits - 1) : Int) := by
    show ¬ (n : Int) ≥ 2 ^ 63
    omega
  unfold IntKind.wrap
  simp only [h1]
  simp [h2]

/-! ## make -/

def evMakeSlice (T : TP) (t : TypeId) (l c : AV) (hp : Hp) (nx : Nat) : Outs :=
  match T.und t, l, c with
  | some (.slice e), .i _ (.ofNat a), .i _ (.ofNat b) => match T.info e with
    | some i => match i.zero, Nat.ble a b && Nat.ble (i.bytes * b) 281474976710656 && Nat.ble b 281474976710656 with
      | some z, true => ret1 (.val (.sr nx 0 0 a i.size)) ((nx, .cells 0 (zrep (a * i.size) (ofVs z.cells.toList)) true) :: hp) (nx + 1)
      | _, _ => none
    | none => none
  | _, _, _ => none

theorem zrep_take (n k : Nat) (z : List AV) (h : k ≤ n) : (zrep n z).take k = zrep k z := by
  simp only [zrep, ← List.map_take, List.take_range, Nat.min_eq_left h]

theorem evMakeSlice_ok {P : Program} {X : Cx} {hp : Hp} (H : HR X hp) {t : TypeId} {l c : AV} (ρ : Operand → Value) (x y : Operand) (hl : VR X l (ρ x)) (hc : VR X c (ρ y)) (o : Oper)
    (ho : o.op = .makeSlice t x y) : OK X (evMakeSlice (TP.of P) t l c hp X.nx) ((execOp ρ o).run P X.w) := by
  unfold evMakeSlice
  split
  · rename_i e k a k' b hu
    simp only [VR] at hl hc
    split
    · rename_i i hi
      have hi := tpI hi
      have hsz : szOf (TP.of P) e = some i.size := by simp [szOf, hi]
      split
      · rename_i z hz hcond
        simp only [Bool.and_eq_true] at hcond
        have h1 := Nat.le_of_ble_eq_true hcond.1.1
        have h2 := Nat.le_of_ble_eq_true hcond.1.2
        have h3 := Nat.le_of_ble_eq_true hcond.2
        generalize harr : (Array.range (b * i.size)).map (fun j => z.cells[j % z.cells.size]!) = arr
        have hv : VRL X (zrep (b * i.size) (ofVs z.cells.toList)) arr.toList := by rw [← harr]; exact zrep_ok _ _
        have hasz : arr.size = b * i.size := by rw [← harr]; simp
        have hle : a * i.size ≤ b * i.size := Nat.mul_le_mul_right _ h1
        have E := Ext.grow X (.cells arr e) H.I H.O
        have hp1 : HR (X.grow (.cells arr e)) ((X.nx, .cells 0 (zrep (a * i.size) (ofVs z.cells.toList)) true) :: hp) := by
          refine H.grow _ _ ?_
          simp only [BR, Cx.grow, if_pos, true_and]
          have hzl : (zrep (a * i.size) (ofVs z.cells.toList)).length = a * i.size := by simp [zrep]
          refine ⟨arr, e, (0, 0), Array.getElem?_push_size, by rw [hzl]; omega, ?_, by simp, fun e => (by cases e), fun _ => ⟨fun hI => ?_, fun hO => ?_⟩⟩
          · have := (hv.take (a * i.size)).ext E
            rw [zrep_take _ _ _ hle] at this
            rw [List.drop_zero, hzl]
            exact this
          · have := H.I _ hI; omega
          · have := H.O _ hO; omega
        refine OK.one ⟨E, rfl, hp1, .slice (some ⟨X.w.heap.size, 0, none⟩) a b, ?_, ?_⟩
        · have hn1 : ¬ ((i.bytes : Int) * (b : Int) > 2 ^ 48) := by
            have : ((i.bytes * b : Nat) : Int) ≤ 281474976710656 := by omega
            rw [Int.natCast_mul] at this
            omega
          have hcond : (decide ((b : Int) < 0) || decide ((i.bytes : Int) * (b : Int) > 2 ^ 48) || decide ((a : Int) < 0) || decide ((a : Int) > (b : Int))) = false := by
            simp only [Bool.or_eq_false_iff, decide_eq_false_iff_not]
            omega
          simp only [execOp, ho, hl, hc, Instr.makeSlice, asInt, asIntOf, Sem.run_bind, run_underlying' hu, Result.andThen_ok, Sem.run_pure, typeInfo, run_program, hi]
          have hwb : IntKind.i64.wrap (Int.ofNat b) = b := wrap_nat h3
          have hwa : IntKind.i64.wrap (Int.ofNat a) = a := wrap_nat (by omega)
          simp only [hwa, hwb]
          rw [if_neg (by simpa using hcond)]
          simp only [Sem.run_bind, run_askRoom, Result.andThen_ok, run_sizeOf' hsz]
          by_cases h0 : b * i.size = 0
          · have ha0 : arr = #[] := Array.eq_empty_of_size_eq_zero (by omega)
            have hr0 : Array.range 0 = (#[] : Array Nat) := by apply Array.ext'; simp
            simp [h0, run_newRow, hr0, ha0, Cx.grow]
          · simp [h0, zeroValue, typeInfo, hi, hz, run_newRow, harr, Cx.grow]
        · simp only [VR, Cx.grow, if_pos]
          exact ⟨Nat.lt_succ_self _, Nat.le_refl _, b, arr, e, (0, 0), rfl, h1, Array.getElem?_push_size, by omega⟩
      · exact OK.none
    · exact OK.none
  · exact OK.none

/-! ## A slice literal that may be written -/

def evBuildSliceW (T : TP) (t : TypeId) (len : Nat) (parts : List (Nat × AV)) (hp : Hp) (nx : Nat) : Outs :=
  match T.und t with
  | some (.slice e) => match T.info e with
    | some i => match i.zero, Nat.ble (len * i.size) 16777216 && Nat.blt 0 (len * i.size) with
      | some z, true => match afill (fun j => some (j * i.size, i.size)) (zrep (len * i.size) (ofVs z.cells.toList)) parts with
        | some cs => ret1 (.val (.srf nx 0 0 len i.size)) ((nx, .cells 0 cs true) :: hp) (nx + 1)
        | none => none
      | _, _ => none
    | none => none
  | _ => none

theorem evBuildSliceW_ok {P : Program} {X : Cx} {hp : Hp} (h : HR X hp) {t : TypeId} {len : Nat} {ρ : Operand → AV} {ρc : Operand → Value} (hρ : ∀ x, VR X (ρ x) (ρc x)) (ps : Array (Nat × Operand)) (o : Oper)
    (ho : o.op = .buildSlice t len ps) : OK X (evBuildSliceW (TP.of P) t len (evParts ρ ps.toList) hp X.nx) ((execOp ρc o).run P X.w) := by
  obtain ⟨hl, hp'⟩ := parts_rel hρ ps
  unfold evBuildSliceW
  split
  · rename_i e hu
    split
    · rename_i i hi
      have hi := tpI hi
      have hsz : szOf (TP.of P) e = some i.size := by simp [szOf, hi]
      split
      · rename_i z hz hc
        simp only [Bool.and_eq_true] at hc
        have hc1 := Nat.le_of_ble_eq_true hc.1
        have hc2 : 0 < len * i.size := Nat.le_of_ble_eq_true hc.2
        split
        · rename_i cs hcs
          obtain ⟨arr', h1, h2⟩ := fill_ok _ _ _ _ ((Array.range (len * i.size)).map (z.cells[· % z.cells.size]!)) hcs (zrep_ok _ _) hl hp'
          have hlen := afill_length _ _ _ hcs
          have hcl : cs.length = len * i.size := by rw [hlen]; simp [zrep]
          have hal := h2.length
          obtain ⟨E, hr, _⟩ := new_ok h (t := e) h2
          refine OK.one ⟨E, rfl, hr, .slice (some ⟨X.w.heap.size, 0, none⟩) len len, ?_, ?_⟩
          · have hn1 : ¬ len * i.size > 2 ^ 24 := by omega
            have hn2 : ¬ len * i.size = 0 := by omega
            simp only [execOp, ho, Instr.buildSlice, Sem.run_bind, run_underlying' hu, Result.andThen_ok, run_sizeOf' hsz, hn1, if_false, hn2, zeroValue, typeInfo, run_program, hi, hz, Sem.run_pure]
            rw [h1]
            simp only [Sem.run_bind, run_newRow, Result.andThen_ok, Sem.run_pure]
            rfl
          · simp only [VR, Cx.grow, if_pos]
            refine ⟨Nat.lt_succ_self _, Nat.le_refl _, arr', e, (0, 0), trivial, Array.getElem?_push_size, ?_⟩
            simp at hal
            omega
        · exact OK.none
      · exact OK.none
    · exact OK.none
  · exact OK.none

/-! ## A slice without its end -/

def AV.wk : AV → AV
  | .srf id g off len sz => .sr id g off len sz
  | a => a

theorem VR.wk {X : Cx} {a : AV} {v : Value} (h : VR X a v) : VR X a.wk v := by
  cases a <;> try exact h
  simp only [VR] at h
  obtain ⟨h1, h2, cc, ty, fz, h3, h4, h5⟩ := h
  simp only [AV.wk, VR]
  exact ⟨h1, h2, _, cc, ty, fz, h3, Nat.le_refl _, h4, h5⟩

end Go.Ev

namespace Go.Ev

/-! ## append -/

theorem growBy_le (n : Nat) : ∀ (r c : Nat), Builtin.growBy n r c ≤ max c (2 * n + 192)
  | 0, c => by simp only [Builtin.growBy]; omega
  | r + 1, c => by
    simp only [Builtin.growBy]
    split
    · omega
    · have := growBy_le n r (c + (c + 768) / 4)
      omega

theorem nextcap_le {need cap : Nat} (h : cap < need) : Builtin.nextslicecap need cap ≤ 2 * need + 192 := by
  unfold Builtin.nextslicecap
  split
  · omega
  · split
    · omega
    · have := growBy_le need 4 cap
      omega

section
variable {P : Program} {w : World} {sT xT e ty : TypeId} {i : TypeInfo} {base : Option Addr} {sLen sCap n : Nat} {x : Value} {new : Array Value}

theorem run_append_in {w' : World} (hs : P.underlying sT = some (.slice e)) (hx : (∃ e', P.underlying xT = some (.slice e')) ∨ P.underlying xT = some .string) (hi : P.info? e = some i)
    (hn : (Builtin.lenOf x).run P w = .ok n w) (hf : (Builtin.firstCells i.size n x).run P w = .ok new w) (hle : sLen + n ≤ sCap)
    (hst : match base with
      | some a => (storeCells (a.add (sLen * i.size)) new.toList).run P w = .ok () w'
      | none => w' = w) :
    (Builtin.append_ #[sT, xT] ty #[.slice base sLen sCap, x]).run P w = .ok (.slice base (sLen + n) sCap) w' := by
  have hsz : szOf (TP.of P) e = some i.size := by simp [szOf, hi]
  rcases hx with ⟨e', hx⟩ | hx <;> cases base <;> simp only at hst
  all_goals
    simp only [Builtin.append_, Sem.run_bind, run_underlying' hs, Result.andThen_ok, run_sizeOf' hsz, run_underlying' hx, Sem.run_pure, hn, List.getElem?_toArray, List.getElem?_cons_zero,
        List.getElem?_cons_succ, Bool.false_eq_true, if_false, hle, if_true, Bool.not_false, hf]
  · subst hst; rfl
  · simp only [hst, Result.andThen_ok]
  · subst hst; rfl
  · simp only [hst, Result.andThen_ok]

theorem run_append_new {z : Value} {old : Array Value} (hs : P.underlying sT = some (.slice e)) (hx : (∃ e', P.underlying xT = some (.slice e')) ∨ P.underlying xT = some .string) (hi : P.info? e = some i)
    (hzv : i.zero = some z) (hn : (Builtin.lenOf x).run P w = .ok n w) (hlt : sCap < sLen + n) (hb1 : (sLen + n) * i.bytes ≤ 35184372088832) (hb2 : i.bytes ≤ 1073741824) (hb3 : sLen + n ≤ 35184372088832)
    (hfo : (Builtin.firstCells i.size sLen (.slice base sLen sCap)).run P w.drew = .ok old w.drew) (hf : (Builtin.firstCells i.size n x).run P w.drew = .ok new w.drew) :
    ∃ newCap rest, sLen + n ≤ newCap ∧ rest.size = (newCap - (sLen + n)) * z.cells.size ∧
      (Builtin.append_ #[sT, xT] ty #[.slice base sLen sCap, x]).run P w = .ok (.slice (some ⟨w.heap.size, 0, none⟩) (sLen + n) newCap) (w.drew.alloc (.cells (old ++ (new ++ rest)) e)) := by
  have hsz : szOf (TP.of P) e = some i.size := by simp [szOf, hi]
  generalize hnc : Question.cut (.appendCap (sLen + n) sCap e) (w.tape w.drawn (.appendCap (sLen + n) sCap e)) = newCap
  have hle : sLen + n ≤ newCap := by rw [← hnc]; simp [Question.cut]
  refine ⟨newCap, Builtin.zeroCells z.cells (newCap - (sLen + n)), hle, by simp [Builtin.zeroCells], ?_⟩
  have h1 : ¬ sLen + n ≤ sCap := by omega
  have h2 : ¬ (IntKind.i64.max < (sLen : Int) + (n : Int) ∧ i.bytes = 0) := by
    have : IntKind.i64.max = 9223372036854775807 := by decide
    rw [this]
    omega
  have h3 : ¬ (2 ^ 48 < Builtin.nextslicecap (sLen + n) sCap * i.bytes) := by
    have := nextcap_le hlt
    have h4 : Builtin.nextslicecap (sLen + n) sCap * i.bytes ≤ (2 * (sLen + n) + 192) * i.bytes := Nat.mul_le_mul_right _ this
    have h5 : (2 * (sLen + n) + 192) * i.bytes = 2 * ((sLen + n) * i.bytes) + 192 * i.bytes := by
      rw [Nat.add_mul, Nat.mul_assoc]
    omega
  rcases hx with ⟨e', hx⟩ | hx
  all_goals
    simp only [Builtin.append_, Sem.run_bind, run_underlying' hs, Result.andThen_ok, run_sizeOf' hsz, run_underlying' hx, Sem.run_pure, hn, List.getElem?_toArray, List.getElem?_cons_zero,
        List.getElem?_cons_succ, Bool.false_eq_true, if_false, h1, typeInfo, run_program, hi, false_or]
    rw [if_neg (by simpa using h2)]
    simp only [Sem.run_bind, run_program, Result.andThen_ok, hi, Sem.run_pure]
    rw [if_neg (by simpa using h3)]
    simp [typeInfo, hi, Question.forced, hnc, hfo, hf, zeroValue, hzv, run_newRow]

end

/-- What is appended: how many elements, and their cells. -/
def appX (hp : Hp) (sz : Nat) (d : TypeDesc) (x : AV) : Option (Nat × List AV) :=
  match d, x with
  | .string, .s b => match Nat.beq sz 1 with
    | true => some (b.data.toList.length, b.data.toList.map fun c => .i .u8 c.toNat)
    | false => none
  | .slice _, x => match sliceLen x, sliceCells hp sz x with
    | some n, some cs => some (n, cs)
    | _, _ => none
  | _, _ => none

theorem appX_ok {P : Program} {X : Cx} {hp : Hp} (H : HR X hp) {sz n : Nat} {d : TypeDesc} {x : AV} {v : Value} {cs : List AV} (h : appX hp sz d x = some (n, cs)) (hv : VR X x v) :
    ((∃ e, d = .slice e) ∨ d = .string) ∧ ∃ vs : List Value, VRL X cs vs ∧ cs.length = n * sz ∧ (Builtin.lenOf v).run P X.w = .ok n X.w ∧ (Builtin.firstCells sz n v).run P X.w = .ok vs.toArray X.w := by
  unfold appX at h
  split at h
  · rename_i b
    split at h
    · rename_i hsz
      have := Nat.eq_of_beq_eq_true hsz
      subst this
      simp only [Option.some.injEq, Prod.mk.injEq] at h
      obtain ⟨rfl, rfl⟩ := h
      simp only [VR] at hv
      subst hv
      refine ⟨.inr rfl, b.data.toList.map fun c => Value.int .u8 c.toNat, VRL.map (f := fun c : UInt8 => AV.i .u8 c.toNat) (g := fun c : UInt8 => Value.int .u8 c.toNat) (fun _ => rfl) _, by simp, ?_, ?_⟩
      · simp only [Builtin.lenOf, Sem.run_pure]
        congr 1
      · have hex : b.extract 0 b.data.toList.length = b := by
          have : b.data.toList.length = b.size := rfl
          rw [this]
          exact ByteArray.extract_zero_size
        simp only [Builtin.firstCells, hex, Sem.run_pure]
        congr 1
        apply Array.ext'
        simp
    · cases h
  · rename_i e x' _
    split at h
    · rename_i n' cs' hl hc
      simp only [Option.some.injEq, Prod.mk.injEq] at h
      obtain ⟨rfl, rfl⟩ := h
      obtain ⟨base, len, cap, vs, h1, h2, h3, h4, h5, _⟩ := sliceCells_ok (P := P) H hc hv
      rw [hl] at h1
      cases h1
      subst h2
      exact ⟨.inl ⟨_, rfl⟩, vs, h3, h4, rfl, h5⟩
    · cases h
  · cases h

def appendB (i : TypeInfo) (need : Nat) : Bool := Nat.ble (need * i.bytes) 35184372088832 && Nat.ble i.bytes 1073741824 && Nat.ble need 35184372088832

def evAppend (T : TP) (sT xT : TypeId) (s x : AV) (hp : Hp) (nx : Nat) : Outs :=
  match T.und sT, T.und xT with
  | some (.slice e), some xd => match T.info e with
    | some i => match appX hp i.size xd x with
      | some (0, _) => match sliceLen s with
        | some _ => ret1 (.val s) hp nx
        | none => none
      | some (n + 1, xs) => match i.zero with
        | some z => match Nat.beq z.cells.size i.size && xs.all AV.cell with
          | true => match s with
            | .snil => match appendB i (n + 1) with
              | true => ret1 (.val (.sr nx 0 0 (n + 1) i.size)) ((nx, .cells 0 xs true) :: hp) (nx + 1)
              | false => none
            | .sne true => match appendB i (n + 1) with
              | true => ret1 (.val (.sr nx 0 0 (n + 1) i.size)) ((nx, .cells 0 xs true) :: hp) (nx + 1)
              | false => none
            | .sv cs len true => match appendB i (len + (n + 1)) && Nat.beq cs.length (len * i.size) with
              | true => ret1 (.val (.sr nx 0 0 (len + (n + 1)) i.size)) ((nx, .cells 0 (cs ++ xs) true) :: hp) (nx + 1)
              | false => none
            | .srf id g off len s0 => match appendB i (len + (n + 1)), sliceCells hp i.size (.srf id g off len s0) with
              | true, some cs => ret1 (.val (.sr nx 0 0 (len + (n + 1)) i.size)) ((nx, .cells 0 (cs ++ xs) true) :: hp) (nx + 1)
              | _, _ => none
            | .sr id g off len s0 => match hp.get id with
              | some (.cells g' cs true) => match appendB i (len + (n + 1)) && Nat.beq g g' && Nat.beq s0 i.size && Nat.beq (off + len * i.size) cs.length with
                | true => ret1 (.val (.sr id (g + 1) 0 (len + (n + 1)) i.size)) (hp.set id (.cells (g + 1) (cs.drop off ++ xs) true)) nx
                | false => none
              | _ => none
            | _ => none
          | false => none
        | none => none
      | none => none
    | none => none
  | _, _ => none

theorem Hp.del_del : ∀ (h : Hp) (n : Nat), (h.del n).del n = h.del n
  | [], _ => rfl
  | (j, x) :: h, n => by
    simp only [Hp.del]
    split
    · exact Hp.del_del h n
    · rename_i e
      simp only [Hp.del, e]
      rw [Hp.del_del h n]

theorem Hp.set_set : ∀ (h : Hp) (n : Nat) (a b : Blk), (h.set n a).set n b = h.set n b
  | [], n, a, b => by simp [Hp.set, Hp.del]
  | (j, x) :: h, n, a, b => by
    simp only [Hp.set]
    split
    · simp [Hp.set, Hp.del_del]
    · rename_i e
      simp only [Hp.set, e]
      rw [Hp.set_set h n a b]

/-- A new row of ours that the world has drawn for. -/
theorem newDrawn_ok {X : Cx} {hp : Hp} (H : HR X hp) {e : TypeId} {cs : List AV} {l r : List Value} {len sz cap : Nat} (hv : VRL X cs l) (hcl : cs.length = len * sz) (hle : len ≤ cap)
    (hr : r.length = (cap - len) * sz) :
    ∃ X', Ext X X' ∧ X'.nx = X.nx + 1 ∧ HR X' ((X.nx, .cells 0 cs true) :: hp) ∧ X'.w = X.w.drew.alloc (.cells (l ++ r).toArray e) ∧
      VR X' (.sr X.nx 0 0 len sz) (.slice (some ⟨X.w.heap.size, 0, none⟩) len cap) := by
  have E0 := Ext.at (X := X) (w := X.w.drew) rfl ⟨rfl, rfl, rfl⟩
  have H0 := H.at (w := X.w.drew) rfl E0
  have E1 := Ext.grow (X.at X.w.drew) (.cells (l ++ r).toArray e) H0.I H0.O
  have hl := hv.length
  have hmul : len * sz + (cap - len) * sz = cap * sz := by rw [← Nat.add_mul]; congr 1; omega
  have H1 : HR ((X.at X.w.drew).grow (.cells (l ++ r).toArray e)) ((X.nx, .cells 0 cs true) :: hp) := by
    refine H0.grow _ _ ?_
    simp only [BR, Cx.grow, Cx.at, if_pos, true_and]
    refine ⟨(l ++ r).toArray, e, (0, 0), Array.getElem?_push_size, by simp; omega, ?_, by simp, fun e => (by cases e), fun _ => ⟨fun hI => ?_, fun hO => ?_⟩⟩
    · have := (hv.ext E0).ext E1
      rw [List.drop_zero, ← hl]
      simp only [List.take_left]
      exact this
    · exact absurd (H.I _ hI) (Nat.lt_irrefl _)
    · exact absurd (H.O _ hO) (Nat.lt_irrefl _)
  refine ⟨_, E0.trans E1, rfl, H1, rfl, ?_⟩
  simp only [VR, Cx.grow, Cx.at, if_pos]
  exact ⟨Nat.lt_succ_self _, Nat.le_refl _, cap, (l ++ r).toArray, e, (0, 0), rfl, hle, Array.getElem?_push_size, by simp; omega⟩

theorem evAppend_ok {P : Program} {X : Cx} {hp : Hp} (H : HR X hp) {sT xT : TypeId} {s x : AV} (ρ : Operand → Value) (a b : Operand) (hs : VR X s (ρ a)) (hx : VR X x (ρ b)) (o : Oper)
    (ho : o.op = .call { callee := .builtin .append, args := #[a, b], argTypes := #[sT, xT] }) : OK X (evAppend (TP.of P) sT xT s x hp X.nx) ((execOp ρ o).run P X.w) := by
  have hrun : (execOp ρ o).run P X.w = ((Builtin.append_ #[sT, xT] o.type #[ρ a, ρ b]).run P X.w).andThen fun v w => .ok (.value v) w := by
    simp [execOp, ho, resolve, invoke, builtin]
  rw [hrun]
  unfold evAppend
  split
  · rename_i e xd hsu hxu
    split
    · rename_i i hi
      have hi := tpI hi
      split
      · rename_i xs hap
        split
        · rename_i len hsl
          obtain ⟨hxd, vs, h1, h2, h3, h4⟩ := appX_ok (P := P) H hap hx
          have hvs : vs = [] := by have := h1.length; rw [h2] at this; simpa using this
          subst hvs
          have hxT : (∃ e', P.underlying xT = some (.slice e')) ∨ P.underlying xT = some .string := by
            rcases hxd with ⟨e', rfl⟩ | rfl
            · exact .inl ⟨e', hxu⟩
            · exact .inr hxu
          obtain ⟨base, cap, hsv, hlc⟩ : ∃ base cap, ρ a = .slice base len cap ∧ len ≤ cap := by
            cases s <;> simp only [sliceLen, Option.some.injEq, reduceCtorEq] at hsl <;> simp only [VR] at hs
            · subst hsl; exact ⟨none, 0, hs, Nat.le_refl _⟩
            · subst hsl; obtain ⟨_, _, cap, _, _, _, h5, h6, _⟩ := hs; exact ⟨_, cap, h5, h6⟩
            · subst hsl; obtain ⟨_, _, _, _, _, h5, _⟩ := hs; exact ⟨_, _, h5, Nat.le_refl _⟩
            · subst hsl; obtain ⟨a, cap, h5, _⟩ := hs; exact ⟨_, cap, h5, Nat.zero_le _⟩
            · subst hsl; obtain ⟨base, cap, h5, h6, _⟩ := hs; exact ⟨base, cap, h5, h6⟩
          refine OK.val H ?_ hs
          rw [hsv, run_append_in (w' := X.w) hsu hxT hi h3 h4 hlc (by cases base <;> rfl)]
          rfl
        · exact OK.none
      · rename_i n xs hap
        obtain ⟨hxd, vs, h1, h2, h3, h4⟩ := appX_ok (P := P) H hap hx
        have hxT : (∃ e', P.underlying xT = some (.slice e')) ∨ P.underlying xT = some .string := by
            rcases hxd with ⟨e', rfl⟩ | rfl
            · exact .inl ⟨e', hxu⟩
            · exact .inr hxu
        have E0 := Ext.at (X := X) (w := X.w.drew) rfl ⟨rfl, rfl, rfl⟩
        have H0 := H.at (w := X.w.drew) rfl E0
        obtain ⟨_, vs0, g1, _, _, g4⟩ := appX_ok (P := P) H0 hap (hx.ext E0)
        have g4' : (Builtin.firstCells i.size (n + 1) (ρ b)).run P X.w.drew = .ok vs0.toArray X.w.drew := g4
        have g1' : VRL X xs vs0 := by
          have E9 := Ext.at (X := X.at X.w.drew) (w := X.w) rfl ⟨rfl, rfl, rfl⟩
          exact g1.ext E9
        split
        · rename_i z hz
          split
          · rename_i hcond
            simp only [Bool.and_eq_true] at hcond
            have hzs := Nat.eq_of_beq_eq_true hcond.1
            have bnd : ∀ need, appendB i need = true → need * i.bytes ≤ 35184372088832 ∧ i.bytes ≤ 1073741824 ∧ need ≤ 35184372088832 := by
              intro need hb
              simp only [appendB, Bool.and_eq_true] at hb
              exact ⟨Nat.le_of_ble_eq_true hb.1.1, Nat.le_of_ble_eq_true hb.1.2, Nat.le_of_ble_eq_true hb.2⟩
            split
            · split
              · rename_i hb
                obtain ⟨b1, b2, b3⟩ := bnd _ hb
                simp only [VR] at hs
                obtain ⟨nc, rest, r1, r2, r3⟩ := run_append_new (P := P) (w := X.w) (ty := o.type) (base := none) (sLen := 0) (sCap := 0) (old := #[]) hsu hxT hi hz h3 (by omega) (by rw [Nat.zero_add]; exact b1) b2 (by omega) rfl g4'
                rw [Nat.zero_add] at r1 r2 r3
                obtain ⟨X', e1, e2, e3, e4, e5⟩ := newDrawn_ok (l := vs0) (r := rest.toList) (e := e) (cap := nc) H g1' h2 r1 (by simp [r2, hzs])
                refine OK.one ⟨e1, e2, e3, _, ?_, e5⟩
                have harr : (vs0 ++ rest.toList).toArray = #[] ++ (vs0.toArray ++ rest) := by apply Array.ext'; simp
                rw [hs, r3, e4, harr]
                rfl
              · exact OK.none
            · split
              · rename_i hb
                obtain ⟨b1, b2, b3⟩ := bnd _ hb
                simp only [VR] at hs
                obtain ⟨a0, cap0, hs, hc0⟩ := hs
                have hc0 := hc0 trivial
                subst hc0
                have hl0 : (loadCells a0 0).run P X.w.drew = .ok #[] X.w.drew := by simpa using run_loadCells_list (P := P) X.w.drew a0 [] (by simp)
                obtain ⟨nc, rest, r1, r2, r3⟩ := run_append_new (P := P) (w := X.w) (ty := o.type) (base := some a0) (sLen := 0) (sCap := 0) (old := #[]) hsu hxT hi hz h3 (by omega) (by rw [Nat.zero_add]; exact b1) b2 (by omega) (by simpa [Builtin.firstCells] using hl0) g4'
                rw [Nat.zero_add] at r1 r2 r3
                obtain ⟨X', e1, e2, e3, e4, e5⟩ := newDrawn_ok (l := vs0) (r := rest.toList) (e := e) (cap := nc) H g1' h2 r1 (by simp [r2, hzs])
                refine OK.one ⟨e1, e2, e3, _, ?_, e5⟩
                have harr : (vs0 ++ rest.toList).toArray = #[] ++ (vs0.toArray ++ rest) := by apply Array.ext'; simp
                rw [hs, r3, e4, harr]
                rfl
              · exact OK.none
            · rename_i cs len
              split
              · rename_i hb
                simp only [Bool.and_eq_true] at hb
                obtain ⟨b1, b2, b3⟩ := bnd _ hb.1
                have hcl := Nat.eq_of_beq_eq_true hb.2
                have hsc : sliceCells hp i.size (.sv cs len true) = some cs := by simp [sliceCells, hcl]
                obtain ⟨base, len', cap, us, k1, k2, k3, k4, k5, _⟩ := sliceCells_ok (P := P) H0 hsc (hs.ext E0)
                simp only [sliceLen, Option.some.injEq] at k1
                subst k1
                have hcap : cap = len := by
                  simp only [VR] at hs
                  obtain ⟨base', cap', h5, _, h6, _⟩ := hs
                  rw [k2] at h5
                  cases h5
                  exact h6 trivial
                subst hcap
                have k5' : (Builtin.firstCells i.size cap (.slice base cap cap)).run P X.w.drew = .ok us.toArray X.w.drew := by rw [← k2]; exact k5
                have k3' : VRL X cs us := k3.ext (Ext.at (X := X.at X.w.drew) (w := X.w) rfl ⟨rfl, rfl, rfl⟩)
                obtain ⟨nc, rest, r1, r2, r3⟩ := run_append_new (P := P) (w := X.w) (ty := o.type) hsu hxT hi hz h3 (by omega) b1 b2 b3 k5' g4'
                obtain ⟨X', e1, e2, e3, e4, e5⟩ := newDrawn_ok (l := us ++ vs0) (r := rest.toList) (e := e) (cap := nc) (len := cap + (n + 1)) (sz := i.size) H (k3'.append g1')
                  (by rw [List.length_append, h2, hcl, ← Nat.add_mul]) r1 (by simp [r2, hzs])
                refine OK.one ⟨e1, e2, e3, _, ?_, e5⟩
                have harr : (us ++ vs0 ++ rest.toList).toArray = us.toArray ++ (vs0.toArray ++ rest) := by apply Array.ext'; simp
                rw [k2, r3, e4, harr]
                rfl
              · exact OK.none
            · rename_i id g off len s0
              split
              · rename_i cs hb hsc
                obtain ⟨b1, b2, b3⟩ := bnd _ hb
                obtain ⟨base, len', cap, us, k1, k2, k3, kcl, k5, _⟩ := sliceCells_ok (P := P) H0 hsc (hs.ext E0)
                simp only [sliceLen, Option.some.injEq] at k1
                subst k1
                have hcap : cap = len := by
                  simp only [VR] at hs
                  obtain ⟨_, _, _, _, _, h5, _⟩ := hs
                  rw [k2] at h5
                  cases h5
                  rfl
                subst hcap
                have k5' : (Builtin.firstCells i.size cap (.slice base cap cap)).run P X.w.drew = .ok us.toArray X.w.drew := by rw [← k2]; exact k5
                have k3' : VRL X cs us := k3.ext (Ext.at (X := X.at X.w.drew) (w := X.w) rfl ⟨rfl, rfl, rfl⟩)
                obtain ⟨nc, rest, r1, r2, r3⟩ := run_append_new (P := P) (w := X.w) (ty := o.type) hsu hxT hi hz h3 (by omega) b1 b2 b3 k5' g4'
                obtain ⟨X', e1, e2, e3, e4, e5⟩ := newDrawn_ok (l := us ++ vs0) (r := rest.toList) (e := e) (cap := nc) (len := cap + (n + 1)) (sz := i.size) H (k3'.append g1')
                  (by rw [List.length_append, h2, kcl, ← Nat.add_mul]) r1 (by simp [r2, hzs])
                refine OK.one ⟨e1, e2, e3, _, ?_, e5⟩
                have harr : (us ++ vs0 ++ rest.toList).toArray = us.toArray ++ (vs0.toArray ++ rest) := by apply Array.ext'; simp
                rw [k2, r3, e4, harr]
                rfl
              · exact OK.none
            · rename_i id g off len s0
              split
              · rename_i g' cs hg
                split
                · rename_i hb
                  simp only [Bool.and_eq_true] at hb
                  obtain ⟨⟨⟨hb1, hb2⟩, hb3⟩, hb4⟩ := hb
                  obtain ⟨b1, b2, b3⟩ := bnd _ hb1
                  have := Nat.eq_of_beq_eq_true hb2
                  subst this
                  have := Nat.eq_of_beq_eq_true hb3
                  subst this
                  have hcl := Nat.eq_of_beq_eq_true hb4
                  have hgG : g = X.G id := (H.br _ _ hg).1
                  have hb := H.br _ _ hg
                  obtain ⟨_, cc, ty, fz, h5, h6, h7, h8, _, h9⟩ := hb
                  have hs0 := hs
                  simp only [VR] at hs
                  obtain ⟨hid, hgle, cap, cc', ty', fz', h10, h11, h12, h13⟩ := hs
                  rw [h5] at h12
                  cases h12
                  have hxl : xs.length = (n + 1) * i.size := h2
                  have hmul : len * i.size + (n + 1) * i.size = (len + (n + 1)) * i.size := by rw [← Nat.add_mul]
                  rcases Nat.lt_or_ge cap (len + (n + 1)) with hlt | hge
                  · -- a new row
                    have hsc : sliceCells hp i.size (.sr id g off len i.size) = some (cs.drop off) := by
                      have hbl : Nat.ble cs.length cs.length = true := Nat.ble_self_eq_true _
                      have htk : (cs.drop off).take (len * i.size) = cs.drop off := List.take_of_length_le (by rw [List.length_drop]; omega)
                      simp [sliceCells, hg, hcl, hbl, htk]
                    obtain ⟨base, len', cap', us, k1, k2, k3, k4, k5, _⟩ := sliceCells_ok (P := P) H0 hsc (hs0.ext E0)
                    simp only [sliceLen, Option.some.injEq] at k1
                    subst k1
                    rw [k2] at h10
                    cases h10
                    have k5' : (Builtin.firstCells i.size len (.slice (some ⟨(X.m id g).1, (X.m id g).2 + off, none⟩) len cap)).run P X.w.drew = .ok us.toArray X.w.drew := by rw [← k2]; exact k5
                    have k3' : VRL X (cs.drop off) us := k3.ext (Ext.at (X := X.at X.w.drew) (w := X.w) rfl ⟨rfl, rfl, rfl⟩)
                    obtain ⟨nc, rest, r1, r2, r3⟩ := run_append_new (P := P) (w := X.w) (ty := o.type) hsu hxT hi hz h3 hlt b1 b2 b3 k5' g4'
                    have Ep := Ext.psh (X.at X.w.drew) (.cells (us ++ vs0 ++ rest.toList).toArray e) H0.I H0.O
                    have Hp' := H0.psh (.cells (us ++ vs0 ++ rest.toList).toArray e)
                    have Er := Ext.regen ((X.at X.w.drew).psh (.cells (us ++ vs0 ++ rest.toList).toArray e)) id X.w.heap.size 0
                    have hul : us.length = cs.length - off := by have := k3'.length; rwa [List.length_drop] at this
                    have hvl : vs0.length = xs.length := g1'.length
                    have hrl : rest.toList.length = (nc - (len + (n + 1))) * i.size := by simp [r2, hzs]
                    have hmul2 : (len + (n + 1)) * i.size + (nc - (len + (n + 1))) * i.size = nc * i.size := by rw [← Nat.add_mul]; congr 1; omega
                    have hrs : rest.size = (nc - (len + (n + 1))) * i.size := by rw [r2, hzs]
                    have htot : us.length + (vs0.length + rest.size) = nc * i.size := by omega
                    have Hr := Hp'.regen (cs' := cs.drop off ++ xs) hg (B := X.w.heap.size) (o := 0) (fun id' blk' _ hg' => by
                        have := (H.br _ _ hg').lt
                        exact Nat.ne_of_lt this) (by
                      simp only [BR, Cx.regen, Cx.psh, Cx.at, hgG, if_pos, true_and, and_self]
                      refine ⟨(us ++ vs0 ++ rest.toList).toArray, e, (0, 0), Array.getElem?_push_size, by simp; omega, ?_, by simp, fun e => (by cases e), fun _ => ⟨fun hI => ?_, fun hO => ?_⟩⟩
                      · have := (((k3'.append g1').ext E0).ext Ep).ext Er
                        rw [List.drop_zero, show (cs.drop off ++ xs).length = (us ++ vs0).length by simp; omega]
                        simp only [List.take_left]
                        exact this
                      · exact absurd (H.I _ hI) (Nat.lt_irrefl _)
                      · exact absurd (H.O _ hO) (Nat.lt_irrefl _))
                    refine OK.one ⟨((E0.trans Ep).trans Er), rfl, Hr, .slice (some ⟨X.w.heap.size, 0, none⟩) (len + (n + 1)) nc, ?_, ?_⟩
                    · have harr : (us ++ vs0 ++ rest.toList).toArray = us.toArray ++ (vs0.toArray ++ rest) := by apply Array.ext'; simp
                      rw [k2, r3, harr]
                      rfl
                    · simp only [VR, Cx.regen, Cx.psh, Cx.at, hgG, if_pos, and_self]
                      exact ⟨hid, Nat.le_refl _, nc, (us ++ vs0 ++ rest.toList).toArray, e, (0, 0), rfl, r1, Array.getElem?_push_size, by simp; omega⟩
                  · -- in place
                    have hle2 : (len + (n + 1)) * i.size ≤ cap * i.size := Nat.mul_le_mul_right _ hge
                    have hones := h1.ones hcond.2
                    have hvl := h1.length
                    have hst := run_storeCells' (P := P) (X.m id g).1 ((X.m id g).2 + off + len * i.size) ty fz vs 0 cc X.w h5 (by omega) h8 hones
                    have hap2 := run_append_in (P := P) (w := X.w) (ty := o.type) (base := some ⟨(X.m id g).1, (X.m id g).2 + off, none⟩) (sLen := len) (sCap := cap) hsu hxT hi h3 h4 hge (by
                      show (storeCells (Addr.add ⟨(X.m id g).1, (X.m id g).2 + off, none⟩ (len * i.size)) vs.toArray.toList).run P X.w = _
                      rw [add_none]
                      exact hst)
                    generalize hcc' : (cc.toList.take ((X.m id g).2 + off + len * i.size + 0) ++ vs ++ cc.toList.drop ((X.m id g).2 + off + len * i.size + 0 + vs.length)).toArray = cc' at hap2
                    have hccl : cc'.size = cc.size := by rw [← hcc']; simp; omega
                    have Ep : Ext X (X.put (X.m id g).1 (.cells cc' ty fz)) := Ext.put (h9 rfl).1 (h9 rfl).2 (fun cc2 ty2 fz2 hx2 => by
                      rw [h5] at hx2
                      cases hx2
                      exact ⟨cc', fz, rfl, hccl⟩) (fun ents clock hx2 => by rw [h5] at hx2; cases hx2) (fun L hx2 => by rw [h5] at hx2; cases hx2)
                    have hlt5 := (Array.getElem?_eq_some_iff.1 h5).1
                    have hwin : (cc'.toList.drop (X.m id g).2).take (cs.length + xs.length) = ((cc.toList.drop (X.m id g).2).take cs.length) ++ vs := by
                      rw [← hcc']
                      have hcl2 : cc.toList.length = cc.size := by simp
                      apply List.ext_getElem?
                      intro j
                      simp only [List.getElem?_take, List.getElem?_drop, List.getElem?_append, List.length_take, List.length_append, List.length_drop]
                      grind
                    have Hput : HR (X.put (X.m id g).1 (.cells cc' ty fz)) (hp.set id (.cells g cs true)) := by
                      refine (H.putCells (cs' := cs) hg h5 hccl h6 ?_).2
                      have := congrArg (List.take cs.length) hwin
                      rw [List.take_take, show min cs.length (cs.length + xs.length) = cs.length by omega] at this
                      rw [this, List.take_append_of_le_length (by simp; omega), List.take_take, Nat.min_self]
                      exact h7
                    have Er := Ext.regen (X.put (X.m id g).1 (.cells cc' ty fz)) id (X.m id g).1 ((X.m id g).2 + off)
                    have hg2 : (hp.set id (.cells g cs true)).get id = some (.cells g cs true) := by rw [Hp.get_set, if_pos rfl]
                    have Hr := Hput.regen (cs' := cs.drop off ++ xs) hg2 (B := (X.m id g).1) (o := (X.m id g).2 + off) (fun id' blk' hne hg' => by
                        rw [Hp.get_set, if_neg hne] at hg'
                        intro heq
                        exact hne (H.inj _ _ _ _ hg' hg heq)) (by
                      simp only [BR, Cx.regen, Cx.put, hgG, if_pos, true_and, and_self]
                      refine ⟨cc', ty, fz, get_put_same (by rw [← hgG]; exact hlt5), by rw [← hgG, hccl, List.length_append, List.length_drop]; omega, ?_, by rw [hccl]; exact h8, fun e => (by cases e), fun _ => (by rw [← hgG]; exact h9 rfl)⟩
                      · have := (((h7.append h1).drop off).ext Ep).ext Er
                        rw [List.drop_append_of_le_length (by omega), ← hwin, List.drop_take, List.drop_drop] at this
                        rw [← hgG, show (cs.drop off ++ xs).length = cs.length + xs.length - off by simp; omega]
                        simp only [Cx.regen, Cx.put, hgG] at this
                        rw [← hgG] at this
                        exact this)
                    rw [Hp.set_set] at Hr
                    refine OK.one ⟨Ep.trans Er, rfl, Hr, .slice (some ⟨(X.m id g).1, (X.m id g).2 + off, none⟩) (len + (n + 1)) cap, ?_, ?_⟩
                    · rw [h10, hap2]
                      simp [Cx.regen, Cx.put]
                    · simp only [VR, Cx.regen, Cx.put, hgG, if_pos, and_self]
                      refine ⟨hid, Nat.le_refl _, cap, cc', ty, fz, by rw [← hgG]; rfl, hge, get_put_same (by rw [← hgG]; exact hlt5), by rw [← hgG, hccl]; omega⟩
                · exact OK.none
              · exact OK.none
            · exact OK.none
          · exact OK.none
        · exact OK.none
      · exact OK.none
    · exact OK.none
  · exact OK.none

end Go.Ev

namespace Go.Ev

/-! ## copy, len -/

theorem part_loads {P : Program} {X : Cx} {hp : Hp} (H : HR X hp) {sz : Nat} {a : AV} {cs : List AV} {v : Value} (hc : sliceCells hp sz a = some cs) (hv : VR X a v) :
    ∃ (len : Nat), sliceLen a = some len ∧ (Builtin.lenOf v).run P X.w = .ok len X.w ∧ cs.length = len * sz ∧ ∀ k, k ≤ len → ∃ vs : List Value, VRL X (cs.take (k * sz)) vs ∧ (Builtin.firstCells sz k v).run P X.w = .ok vs.toArray X.w := by
  have hl0 : ∀ x : Addr, (loadCells x 0).run P X.w = .ok #[] X.w := fun x => by simpa using run_loadCells_list (P := P) X.w x [] (by simp)
  unfold sliceCells at hc
  split at hc
  · simp only [Option.some.injEq] at hc
    subst hc
    simp only [VR] at hv
    subst hv
    exact ⟨0, rfl, rfl, by simp, fun k _ => ⟨[], by simp [VRL], rfl⟩⟩
  · simp only [Option.some.injEq] at hc
    subst hc
    simp only [VR] at hv
    obtain ⟨a, cap, rfl, _⟩ := hv
    refine ⟨0, rfl, rfl, by simp, fun k hk => ⟨[], by simp [VRL], ?_⟩⟩
    have hk0 : k = 0 := by omega
    subst hk0
    simp [Builtin.firstCells, hl0]
  · rename_i id g off len s
    split at hc
    · rename_i g' cs0 wr hg
      split at hc
      · rename_i hcond
        simp only [Bool.and_eq_true] at hcond
        have := Nat.eq_of_beq_eq_true hcond.1
        subst this
        have hle := Nat.le_of_ble_eq_true hcond.2
        simp only [Option.some.injEq] at hc
        subst hc
        simp only [VR] at hv
        obtain ⟨_, _, cap, cc, ty, fz, rfl, _, _, _⟩ := hv
        obtain ⟨_, cc, ty, fz, h2, h3, h4, _⟩ := H.br _ _ hg
        refine ⟨len, rfl, rfl, by simp; omega, fun k hk => ?_⟩
        have hks : k * sz ≤ len * sz := Nat.mul_le_mul_right _ hk
        have hr := run_loadCells' (P := P) (o := (X.m id g).2 + off) (n := k * sz) h2 (by omega)
        refine ⟨(cc.toList.drop ((X.m id g).2 + off)).take (k * sz), ?_, by simp only [Builtin.firstCells, hr]⟩
        have := (h4.drop off).take (k * sz)
        rw [drop_take_take, List.drop_drop, show min (k * sz) (cs0.length - off) = k * sz by omega] at this
        rw [List.take_take, Nat.min_eq_left hks]
        exact this
      · cases hc
    · cases hc
  · rename_i id g off len s
    split at hc
    · rename_i g' cs0 wr hg
      split at hc
      · rename_i hcond
        simp only [Bool.and_eq_true] at hcond
        have := Nat.eq_of_beq_eq_true hcond.1
        subst this
        have hle := Nat.le_of_ble_eq_true hcond.2
        simp only [Option.some.injEq] at hc
        subst hc
        simp only [VR] at hv
        obtain ⟨_, _, cc, ty, fz, rfl, _, _⟩ := hv
        obtain ⟨_, cc, ty, fz, h2, h3, h4, _⟩ := H.br _ _ hg
        refine ⟨len, rfl, rfl, by simp; omega, fun k hk => ?_⟩
        have hks : k * sz ≤ len * sz := Nat.mul_le_mul_right _ hk
        have hr := run_loadCells' (P := P) (o := (X.m id g).2 + off) (n := k * sz) h2 (by omega)
        refine ⟨(cc.toList.drop ((X.m id g).2 + off)).take (k * sz), ?_, by simp only [Builtin.firstCells, hr]⟩
        have := (h4.drop off).take (k * sz)
        rw [drop_take_take, List.drop_drop, show min (k * sz) (cs0.length - off) = k * sz by omega] at this
        rw [List.take_take, Nat.min_eq_left hks]
        exact this
      · cases hc
    · cases hc
  · rename_i cs0 len full
    split at hc
    · rename_i hcond
      have hl := Nat.eq_of_beq_eq_true hcond
      simp only [Option.some.injEq] at hc
      subst hc
      simp only [VR] at hv
      obtain ⟨base, cap, rfl, h1, _, h3, h4⟩ := hv
      refine ⟨len, rfl, rfl, hl, fun k hk => ?_⟩
      have hks : k * sz ≤ len * sz := Nat.mul_le_mul_right _ hk
      by_cases hk0 : k * sz = 0
      · refine ⟨[], by simp [hk0, VRL], ?_⟩
        cases base <;> simp [Builtin.firstCells, hk0, hl0]
      · have hlen0 : len ≠ 0 := by intro e; subst e; simp at hks; exact hk0 (by simp [hks])
        obtain ⟨B, o, cc, ty, fz, rfl, _, h5, h6⟩ := h4 hlen0
        have hln := h6.length
        simp at hln
        have hr := run_loadCells' (P := P) (o := o) (n := k * sz) h5 (by omega)
        refine ⟨(cc.toList.drop o).take (k * sz), ?_, by simp only [Builtin.firstCells, hr]⟩
        have := h6.take (k * sz)
        rw [List.take_take, Nat.min_eq_left (by omega)] at this
        exact this
    · cases hc
  · cases hc

theorem appX_part {P : Program} {X : Cx} {hp : Hp} (H : HR X hp) {sz n : Nat} {d : TypeDesc} {x : AV} {v : Value} {cs : List AV} (h : appX hp sz d x = some (n, cs)) (hv : VR X x v) :
    cs.length = n * sz ∧ (Builtin.lenOf v).run P X.w = .ok n X.w ∧ ∀ k, k ≤ n → ∃ vs : List Value, VRL X (cs.take (k * sz)) vs ∧ (Builtin.firstCells sz k v).run P X.w = .ok vs.toArray X.w := by
  unfold appX at h
  split at h
  · rename_i b
    split at h
    · rename_i hsz
      have := Nat.eq_of_beq_eq_true hsz
      subst this
      simp only [Option.some.injEq, Prod.mk.injEq] at h
      obtain ⟨rfl, rfl⟩ := h
      simp only [VR] at hv
      subst hv
      refine ⟨by simp, ?_, fun k hk => ⟨(b.data.toList.take k).map fun c => Value.int .u8 c.toNat, ?_, ?_⟩⟩
      · simp only [Builtin.lenOf, Sem.run_pure]
        congr 1
      · rw [Nat.mul_one, ← List.map_take]
        exact VRL.map (f := fun c : UInt8 => AV.i .u8 c.toNat) (g := fun c : UInt8 => Value.int .u8 c.toNat) (fun _ => rfl) _
      · simp only [Builtin.firstCells, Sem.run_pure]
        congr 1
        apply Array.ext'
        simp only [ByteArray.data_extract, Array.toList_map, Array.toList_extract, List.extract_eq_take_drop, List.drop_zero, Nat.sub_zero]
    · cases h
  · rename_i e x' _
    split at h
    · rename_i n' cs' hl hc
      simp only [Option.some.injEq, Prod.mk.injEq] at h
      obtain ⟨rfl, rfl⟩ := h
      obtain ⟨len, h1, h2, h3, h4⟩ := part_loads (P := P) H hc hv
      rw [hl] at h1
      cases h1
      exact ⟨h3, h2, h4⟩
    · cases h
  · cases h

def evCopy (T : TP) (dT sT : TypeId) (d s : AV) (hp : Hp) (nx : Nat) : Outs :=
  match T.und dT, T.und sT with
  | some (.slice e), some xd => match szOf T e, sliceLen d with
    | some sz, some dl => match appX hp sz xd s with
      | some (sl, xs) => match Nat.min sl dl with
        | 0 => ret1 (.val (.i .i64 0)) hp nx
        | n + 1 => match d with
          | .sr id g off _ _ => match hp.get id with
            | some (.cells g' cs true) => match Nat.beq g g' && Nat.ble (off + (n + 1) * sz) cs.length && (xs.take ((n + 1) * sz)).all AV.cell with
              | true => ret1 (.val (.i .i64 (n + 1 : Nat))) (hp.set id (.cells g (splice cs off (xs.take ((n + 1) * sz))) true)) nx
              | false => none
            | _ => none
          | _ => none
      | none => none
    | _, _ => none
  | _, _ => none

theorem evCopy_ok {P : Program} {X : Cx} {hp : Hp} (H : HR X hp) {dT sT : TypeId} {d s : AV} (ρ : Operand → Value) (a b : Operand) (hd : VR X d (ρ a)) (hs : VR X s (ρ b)) (o : Oper)
    (ho : o.op = .call { callee := .builtin .copy, args := #[a, b], argTypes := #[dT, sT] }) : OK X (evCopy (TP.of P) dT sT d s hp X.nx) ((execOp ρ o).run P X.w) := by
  have hrun : (execOp ρ o).run P X.w = ((Builtin.copy_ #[dT, sT] o.type #[ρ a, ρ b]).run P X.w).andThen fun v w => .ok (.value v) w := by
    simp [execOp, ho, resolve, invoke, builtin]
  rw [hrun]
  unfold evCopy
  split
  · rename_i e xd hdu hsu
    split
    · rename_i sz dl hsz hdl
      split
      · rename_i sl xs hap
        obtain ⟨h1, h2, h3⟩ := appX_part (P := P) H hap hs
        obtain ⟨base, cap, hdv⟩ : ∃ base cap, ρ a = .slice base dl cap := by
          cases d <;> simp only [sliceLen, Option.some.injEq, reduceCtorEq] at hdl <;> simp only [VR] at hd
          · subst hdl; exact ⟨none, 0, hd⟩
          · subst hdl; obtain ⟨_, _, cap, _, _, _, h5, _⟩ := hd; exact ⟨_, cap, h5⟩
          · subst hdl; obtain ⟨_, _, _, _, _, h5, _⟩ := hd; exact ⟨_, _, h5⟩
          · subst hdl; obtain ⟨a, cap, h5, _⟩ := hd; exact ⟨_, cap, h5⟩
          · subst hdl; obtain ⟨base, cap, h5, _⟩ := hd; exact ⟨base, cap, h5⟩
        split
        · rename_i hmin
          obtain ⟨vs, h4, h5⟩ := h3 0 (Nat.zero_le _)
          have hvs : vs = [] := by simpa [VRL] using h4
          subst hvs
          refine OK.val (v := .int .i64 0) H ?_ rfl
          rw [hdv]
          cases base <;> simp [Builtin.copy_, run_underlying' hdu, h2, hmin, run_sizeOf' hsz, h5, storeCells, goInt]
        · rename_i n hmin
          have hns : n + 1 ≤ sl := by rw [← Nat.succ_eq_add_one, ← hmin]; exact Nat.min_le_left _ _
          obtain ⟨vs, h4, h5⟩ := h3 (n + 1) hns
          split
          · rename_i id g off dl' s0
            split
            · rename_i g' cs hg
              split
              · rename_i hb
                simp only [Bool.and_eq_true] at hb
                obtain ⟨⟨hb1, hb2⟩, hb3⟩ := hb
                have := Nat.eq_of_beq_eq_true hb1
                subst this
                have hb2 := Nat.le_of_ble_eq_true hb2
                obtain ⟨_, cc, ty, fz, g2, g3, g4, g5, _⟩ := H.br _ _ hg
                simp only [VR] at hd
                obtain ⟨_, _, cap', _, _, _, hd1, _⟩ := hd
                have hvl := h4.length
                have hks : (n + 1) * sz ≤ sl * sz := Nat.mul_le_mul_right _ hns
                have hxl : (xs.take ((n + 1) * sz)).length = (n + 1) * sz := by simp; omega
                have hones := h4.ones hb3
                have hvl2 : vs.length = (n + 1) * sz := by rw [hvl, hxl]
                have hst := run_storeCells' (P := P) (X.m id g).1 ((X.m id g).2 + off) ty fz vs 0 cc X.w g2 (by omega) g5 hones
                have hsp := g4.splice h4 (by simpa using g3) (by rw [hxl]; exact hb2)
                have hl : (splice cs off (xs.take ((n + 1) * sz))).length = cs.length := by
                  rw [splice_eq _ _ _ (by rw [hxl]; exact hb2)]
                  simp only [List.length_append, List.length_take, List.length_drop]
                  omega
                obtain ⟨E, hr⟩ := H.putCells (cc' := (cc.toList.take ((X.m id g).2 + off) ++ vs ++ cc.toList.drop ((X.m id g).2 + off + vs.length)).toArray) hg g2
                  (by simp; omega) (by rw [hl]; exact g3) (by simpa using hsp)
                refine OK.one ⟨E, rfl, hr, .int .i64 ((n + 1 : Nat) : Int), ?_, rfl⟩
                rw [hd1]
                simp only [Nat.add_zero] at hst
                have hmin' : Nat.min sl dl' = n + 1 := by
                  simp only [sliceLen, Option.some.injEq] at hdl
                  rw [hdl]; exact hmin
                simp [Builtin.copy_, run_underlying' hdu, h2, hmin', run_sizeOf' hsz, h5, hst, goInt, Cx.put]
              · exact OK.none
            · exact OK.none
          · exact OK.none
      · exact OK.none
    · exact OK.none
  · exact OK.none

def evLen (T : TP) (ρ : Operand → AV) (t : TypeId) (a : Operand) (o : Oper) (hp : Hp) (nx : Nat) : Outs :=
  match T.und t with
  | some (.slice _) => match sliceLen (ρ a) with
    | some n => ret1 (.val (.i .i64 n)) hp nx
    | none => none
  | some (.array n _) => ret1 (.val (.i .i64 n)) hp nx
  | some (.pointer e) => match T.und e with
    | some (.array n _) => ret1 (.val (.i .i64 n)) hp nx
    | _ => none
  | some (.map _ _) => match ρ a with
    | .nilmap => ret1 (.val (.i .i64 0)) hp nx
    | .map id => match hp.get id with
      | some (.map es) => ret1 (.val (.i .i64 es.length)) hp nx
      | _ => none
    | _ => none
  | _ => evFlat T ρ o hp nx

theorem evLen_ok {P : Program} {X : Cx} {hp : Hp} (H : HR X hp) {ρ : Operand → AV} {ρc : Operand → Value} (hρ : ∀ x, VR X (ρ x) (ρc x)) (o : Oper) {t : TypeId} {a : Operand}
    (ho : o.op = .call { callee := .builtin .len, args := #[a], argTypes := #[t] }) : OK X (evLen (TP.of P) ρ t a o hp X.nx) ((execOp ρc o).run P X.w) := by
  have ha := hρ a
  have hrun : (execOp ρc o).run P X.w = ((Builtin.len_ #[t] o.type #[ρc a]).run P X.w).andThen fun v w => .ok (.value v) w := by
    simp [execOp, ho, resolve, invoke, builtin]
  unfold evLen
  split
  · rename_i e hu
    split
    · rename_i n hn
      refine OK.val (v := .int .i64 n) H ?_ rfl
      obtain ⟨base, cap, hv⟩ : ∃ base cap, ρc a = .slice base n cap := by
        revert ha hn
        generalize ρ a = s
        intro ha hn
        cases s <;> simp only [sliceLen, Option.some.injEq, reduceCtorEq] at hn <;> simp only [VR] at ha
        · subst hn; exact ⟨none, 0, ha⟩
        · subst hn; obtain ⟨_, _, cap, _, _, _, h5, _⟩ := ha; exact ⟨_, cap, h5⟩
        · subst hn; obtain ⟨_, _, _, _, _, h5, _⟩ := ha; exact ⟨_, _, h5⟩
        · subst hn; obtain ⟨a, cap, h5, _⟩ := ha; exact ⟨_, cap, h5⟩
        · subst hn; obtain ⟨base, cap, h5, _⟩ := ha; exact ⟨base, cap, h5⟩
      rw [hrun, hv]
      simp [Builtin.len_, run_underlying' hu, goInt]
    · exact OK.none
  · rename_i n e hu
    refine OK.val (v := .int .i64 n) H ?_ rfl
    rw [hrun]
    simp [Builtin.len_, run_underlying' hu, goInt]
  · rename_i e hu
    split
    · rename_i n e' hu'
      refine OK.val (v := .int .i64 n) H ?_ rfl
      rw [hrun]
      simp [Builtin.len_, run_underlying' hu, run_underlying' hu', goInt]
    · exact OK.none
  · rename_i k e hu
    split
    · rename_i hm
      rw [hm] at ha
      simp only [VR] at ha
      refine OK.val (v := .int .i64 0) H ?_ rfl
      rw [hrun, ha]
      simp [Builtin.len_, run_underlying' hu, goInt]
    · rename_i id hm
      rw [hm] at ha
      simp only [VR] at ha
      split
      · rename_i es hg
        obtain ⟨_, _, ents, clock, h1, p, h2, h3, _⟩ := H.br _ _ hg
        have hl : ents.size = es.length := by have := h2.length_eq; have := h3.length; simp at *; omega
        refine OK.val (v := .int .i64 es.length) H ?_ rfl
        rw [hrun, ha.2]
        simp [Builtin.len_, run_underlying' hu, goInt, getObj, Sem.run, h1, hl]
      · exact OK.none
    · exact OK.none
  · exact evFlat_ok H hρ o

end Go.Ev

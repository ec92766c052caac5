import Derived.WalkKit
import Derived.OrdersHeld
import Derived.Lib.Mul64
import Derived.Deep.AppendSrc
import Derived.Laws.AppendOwn
import Derived.DeepKeys
import Derived.Laws.BytesString
import Derived.Laws.Cover3
import Derived.Laws.IdiomStrings
import Derived.MapKept
import Derived.Lib.Overlaps
import Derived.Laws.Externs
import Derived.RangeFuncRecord
import Derived.OrdersIn
import Derived.TacticsIn
/- A part of the proofs of the statements about the chartroom program (YtneokajhmonpaaaDoor): the walk and the plain law. -/
set_option linter.unusedSimpArgs false
set_option linter.unusedVariables false
/-! Frames as lists of known slots; quiet operations; the two drivers (a list of operations in the text's order; a region in whatever order). -/
namespace Go.W
open Go Go.RowKit

abbrev Fr := List (Nat × Value)
def fget : Fr → Nat → Option Value
  | [], _ => none
  | p :: t, n => bif Nat.beq p.1 n then some p.2 else fget t n

theorem nbeq_self : ∀ n : Nat, Nat.beq n n = true
  | 0 => rfl
  | n + 1 => nbeq_self n
theorem nbeq_ne {n m : Nat} (h : n ≠ m) : Nat.beq n m = false := by
  cases e : Nat.beq n m with
  | true => exact absurd (Nat.eq_of_beq_eq_true e) h
  | false => rfl

structure Has (n : Nat) (a : Act) (F : Fr) : Prop where
  size : a.tmps.size = n
  dfr : a.defers = []
  get : ∀ s v, fget F s = some v → a.tmps[s]? = some v

def oev (F : Fr) : Operand → Option Value
  | .tmp t => fget F t
  | .const v => some v
  | .global g => some (.pointer (some ⟨g, 0, none⟩))
  | .func f => some (.func (.func f) #[] #[])
def oevs (F : Fr) : List Operand → Option (List Value)
  | [] => some []
  | x :: t => match oev F x, oevs F t with
    | some v, some vs => some (v :: vs)
    | _, _ => none

section
variable {n d : Nat} {a : Act} {F : Fr} {v : Value}
theorem Has.eval (h : Has n a F) {x : Operand} (hx : oev F x = some v) : a.eval x = v := by
  cases x with
  | tmp t => simp only [oev] at hx; simp [Act.eval, h.get _ _ hx]
  | const c => simp only [oev, Option.some.injEq] at hx; simpa [Act.eval] using hx
  | global g => simp only [oev, Option.some.injEq] at hx; simpa [Act.eval] using hx
  | func f => simp only [oev, Option.some.injEq] at hx; simpa [Act.eval] using hx
theorem Has.put (h : Has n a F) (hd : Nat.blt d n = true) (v : Value) : Has n (a.put (some d) v) ((d, v) :: F) := by
  have hd' : d < n := by simpa [Nat.blt_eq] using hd
  refine ⟨by simp [Act.put, h.size], h.dfr, fun s u hs => ?_⟩
  simp only [fget] at hs
  by_cases e : d = s
  · subst e
    simp only [nbeq_self, cond_true, Option.some.injEq] at hs
    subst hs
    simp [Act.put, h.size, hd']
  · have hb : Nat.beq d s = false := nbeq_ne e
    rw [hb] at hs
    simp only [cond_false] at hs
    have := h.get s u hs
    simp only [Act.put, Array.getElem?_setIfInBounds_ne e]
    exact this
theorem Has.sub (h : Has n a F) {G : Fr} (hG : ∀ s v, fget G s = some v → fget F s = some v) : Has n a G := ⟨h.size, h.dfr, fun s v hs => h.get s v (hG s v hs)⟩
/-- All of G's slots hold in F what they hold in G: to be shown by 'rfl's. -/
def AllIn (F : Fr) : Fr → Prop
  | [] => True
  | p :: t => fget F p.1 = some p.2 ∧ AllIn F t
theorem AllIn.get {G : Fr} (h : AllIn F G) : ∀ s v, fget G s = some v → fget F s = some v := by
  induction G with
  | nil => intro s v hs; simp [fget] at hs
  | cons p t ih =>
    intro s v hs
    simp only [fget] at hs
    by_cases e : p.1 = s
    · subst e
      simp only [nbeq_self, cond_true, Option.some.injEq] at hs
      exact hs ▸ h.1
    · have hb : Nat.beq p.1 s = false := nbeq_ne e
      rw [hb] at hs
      exact ih h.2 s v hs
end

theorem oevs_map {n : Nat} {a : Act} {F : Fr} (h : Has n a F) : ∀ {xs : List Operand} {vs : List Value}, oevs F xs = some vs → xs.map a.eval = vs := by
  intro xs
  induction xs with
  | nil => intro vs hv; simp [oevs] at hv; simp [hv]
  | cons x t ih =>
    intro vs hv
    simp only [oevs] at hv
    split at hv
    · rename_i v vs' h1 h2
      simp only [Option.some.injEq] at hv
      subst hv
      simp [h.eval h1, ih h2]
    · cases hv

/-- The start of a body. -/
def initFr : Nat → List Value → Fr
  | _, [] => []
  | k, v :: vs => (k, v) :: initFr (k + 1) vs

/-- A quiet operation: whatever the frame knows beside F, in every world that meets S it yields v and leaves the world. -/
def Qt (P : Program) (S : World → Prop) (F : Fr) (op : Op) (ty : TypeId) (v : Value) : Prop :=
  ∀ (ρ : Operand → Value), (∀ x u, oev F x = some u → ρ x = u) → ∀ w, S w → ∀ (d : Option Tmp) (pos : String) (after : Array Edge) (g : Option (Nat × Bool)),
    (execOp ρ ⟨d, op, ty, pos, after, g⟩).run P w = .ok (.value v) w

section
variable {P : Program} {ops : Array Oper} {Q : Exit → Act → World → Prop} {rest : List Oper} {n d : Nat} {a : Act} {F : Fr} {w : World} {S : World → Prop}
  {op : Op} {ty : TypeId} {pos : String} {after : Array Edge} {v : Value} {g : Option (Nat × Bool)}

theorem n_q (hF : Has n a F) (hS : S w) (q : Qt P S F op ty v) (hd : Nat.blt d n = true) (k : ∀ a', Has n a' ((d, v) :: F) → wpList P ops Q rest a' w) :
    wpList P ops Q (⟨some d, op, ty, pos, after, none⟩ :: rest) a w := by
  refine wpList_plain rfl fun K hK => ?_
  unfold Oper.wp
  rw [q a.eval (fun x u h => hF.eval h) w hS]
  exact hK _ _ (k _ (hF.put hd v))

/-- The bool that operation j of the region has yielded. -/
def gval (ops : Array Oper) (F : Fr) (j : Nat) : Option Value := ((ops[j]?).bind (·.dst)).bind (fget F)
theorem wanted_of {gb : Nat × Bool} {b : Bool} {o : Oper} (hg : o.guard = some gb) (hF : Has n a F) (hv : gval ops F gb.1 = some (.bool b)) :
    Region.wanted o (yielded ops a.tmps) = (b == gb.2) := by
  obtain ⟨j, want⟩ := gb
  simp only [gval] at hv
  simp only [Region.wanted, hg, yielded]
  cases h : (ops[j]?).bind (·.dst) with
  | none => simp [h] at hv
  | some t =>
    simp only [h, Option.bind_some] at hv
    simp only [Option.bind_some, hF.get _ _ hv]
    cases b <;> cases want <;> rfl
theorem wanted_undef {gb : Nat × Bool} {o : Oper} (hg : o.guard = some gb) (hF : Has n a F) (hv : gval ops F gb.1 = some undef) :
    Region.wanted o (yielded ops a.tmps) = false := by
  obtain ⟨j, want⟩ := gb
  simp only [gval] at hv
  simp only [Region.wanted, hg, yielded]
  cases h : (ops[j]?).bind (·.dst) with
  | none => simp [h] at hv
  | some t =>
    simp only [h, Option.bind_some] at hv
    simp only [Option.bind_some, hF.get _ _ hv]
    cases want <;> rfl
/-- The guard says yes: as if there were none. -/
theorem n_yes {gb : Nat × Bool} {dst : Option Tmp} (hF : Has n a F) (hv : gval ops F gb.1 = some (.bool gb.2)) (h : wpList P ops Q (⟨dst, op, ty, pos, after, none⟩ :: rest) a w) :
    wpList P ops Q (⟨dst, op, ty, pos, after, some gb⟩ :: rest) a w := by
  have e := wanted_of (o := ⟨dst, op, ty, pos, after, some gb⟩) rfl hF hv
  unfold wpList at h ⊢
  rw [if_pos (by rw [e]; simp)]
  rw [if_pos (by simp [Region.wanted])] at h
  exact h
theorem n_no {gb : Nat × Bool} {b : Bool} (hF : Has n a F) (hv : gval ops F gb.1 = some (.bool b)) (hb : (b == gb.2) = false) (hd : Nat.blt d n = true)
    (k : ∀ a', Has n a' ((d, undef) :: F) → wpList P ops Q rest a' w) : wpList P ops Q (⟨some d, op, ty, pos, after, some gb⟩ :: rest) a w := by
  have e := wanted_of (o := ⟨some d, op, ty, pos, after, some gb⟩) rfl hF hv
  unfold wpList
  rw [if_neg (by rw [e, hb]; simp)]
  exact k _ (hF.put hd undef)
theorem n_nou {gb : Nat × Bool} (hF : Has n a F) (hv : gval ops F gb.1 = some undef) (hd : Nat.blt d n = true)
    (k : ∀ a', Has n a' ((d, undef) :: F) → wpList P ops Q rest a' w) : wpList P ops Q (⟨some d, op, ty, pos, after, some gb⟩ :: rest) a w := by
  have e := wanted_undef (o := ⟨some d, op, ty, pos, after, some gb⟩) rfl hF hv
  unfold wpList
  rw [if_neg (by rw [e]; simp)]
  exact k _ (hF.put hd undef)

/-- A loud operation, in the text's order. -/
theorem n_l {o : Oper} (hg : o.guard = none) (h : ∀ K : Act → World → Prop, (∀ a w, wpList P ops Q rest a w → K a w) → o.wp P a w K Q) : wpList P ops Q (o :: rest) a w :=
  wpList_plain hg h
end
end Go.W

/-! The state of a walk: what is frozen (never written from here on), what the call owns (blocks that it may write), and that all else is as it was. -/
namespace Go.W
open Go Go.RowKit

abbrev Froz := Nat → Option Obj
structure Blk where
  b : Nat
  cs : List Value
  T : TypeId
structure Base where
  w0 : World
  H0 : Froz
  M0 : List Nat
structure St (B : Base) (H : Froz) (L : List Blk) (w : World) : Prop where
  os : w.os = B.w0.os
  tape : w.tape = B.w0.tape
  output : w.output = B.w0.output
  size : B.w0.heap.size ≤ w.heap.size
  old : ∀ k, k < B.w0.heap.size → k ∉ B.M0 → w.heap[k]? = B.w0.heap[k]?
  froz : ∀ k o, H k = some o → w.heap[k]? = some o
  sub : ∀ k o, B.H0 k = some o → H k = some o
  fresh : ∀ k o, H k = some o → B.H0 k = some o ∨ B.w0.heap.size ≤ k ∨ k ∈ B.M0
  own : ∀ x ∈ L, w.heap[x.b]? = some (.cells x.cs.toArray x.T (0, 0))
  mine : ∀ x ∈ L, (B.w0.heap.size ≤ x.b ∨ x.b ∈ B.M0) ∧ H x.b = none
  nodup : L.Pairwise (fun x y => x.b ≠ y.b)

theorem lt_of_some {w : World} {k : Nat} {o : Obj} (h : w.heap[k]? = some o) : k < w.heap.size := (Array.getElem?_eq_some_iff.1 h).1

section
variable {B : Base} {H : Froz} {L : List Blk} {w : World}
theorem St.drew (h : St B H L w) : St B H L w.drew := ⟨h.os, h.tape, h.output, h.size, h.old, h.froz, h.sub, h.fresh, h.own, h.mine, h.nodup⟩
theorem St.drawn (h : St B H L w) : St B H L { w with drawn := w.drawn + 1 } := h.drew
theorem St.nil (h : St B H L w) : St B H [] w := ⟨h.os, h.tape, h.output, h.size, h.old, h.froz, h.sub, h.fresh, (fun _ hx => (by cases hx)), (fun _ hx => (by cases hx)), List.Pairwise.nil⟩
/-- Of what is owned some may be forgotten. -/
theorem St.lose (h : St B H L w) {L' : List Blk} (hs : L'.Sublist L) : St B H L' w :=
  ⟨h.os, h.tape, h.output, h.size, h.old, h.froz, h.sub, h.fresh, fun x hx => h.own x (hs.subset hx), fun x hx => h.mine x (hs.subset hx), h.nodup.sublist hs⟩
theorem St.start (w : World) (H : Froz) (hH : ∀ k o, H k = some o → w.heap[k]? = some o) : St ⟨w, H, []⟩ H [] w :=
  ⟨rfl, rfl, rfl, Nat.le_refl _, fun _ _ _ => rfl, hH, fun _ _ h => h, fun _ _ h => .inl h, (fun _ hx => (by cases hx)), (fun _ hx => (by cases hx)), List.Pairwise.nil⟩
theorem St.lt (h : St B H L w) {i : Nat} {x : Blk} (hi : L[i]? = some x) : x.b < w.heap.size := lt_of_some (h.own x (List.mem_of_getElem? hi))
theorem St.hlt (h : St B H L w) {k : Nat} {o : Obj} (hk : H k = some o) : k < w.heap.size := lt_of_some (h.froz k o hk)
theorem St.alloc (h : St B H L w) (cs : List Value) (T : TypeId) : St B H (⟨w.heap.size, cs, T⟩ :: L) (w.alloc (.cells cs.toArray T)) where
  os := h.os
  tape := h.tape
  output := h.output
  size := by simp only [World.size_alloc]; have := h.size; omega
  old k hk hm := (_root_.Go.heap_alloc_old w _ (by have := h.size; omega)).trans (h.old k hk hm)
  froz k o hk := (_root_.Go.heap_alloc_old w _ (h.hlt hk)).trans (h.froz k o hk)
  sub := h.sub
  fresh := h.fresh
  own x hx := by
    rcases List.mem_cons.1 hx with rfl | hx
    · exact _root_.Go.heap_alloc_new w _
    · exact (_root_.Go.heap_alloc_old w _ (lt_of_some (h.own x hx))).trans (h.own x hx)
  mine x hx := by
    rcases List.mem_cons.1 hx with rfl | hx
    · refine ⟨.inl h.size, ?_⟩
      cases hh : H w.heap.size with
      | none => rfl
      | some o => exact absurd (h.hlt hh) (Nat.lt_irrefl _)
    · exact h.mine x hx
  nodup := List.Pairwise.cons (fun y hy => by have := lt_of_some (h.own y hy); show w.heap.size ≠ y.b; omega) h.nodup
/-- The walk's own set of a block: only block b turns. -/
structure Only (b : Nat) (o : Obj) (w w' : World) : Prop where
  os : w'.os = w.os
  tape : w'.tape = w.tape
  output : w'.output = w.output
  size : w'.heap.size = w.heap.size
  at_ : w'.heap[b]? = some o
  other : ∀ k, k ≠ b → w'.heap[k]? = w.heap[k]?
theorem pairwise_set {L : List Blk} {i : Nat} {x y : Blk} (h : L.Pairwise (fun x y => x.b ≠ y.b)) (hi : L[i]? = some x) (hb : y.b = x.b) : (L.set i y).Pairwise (fun x y => x.b ≠ y.b) := by
  rw [List.pairwise_iff_getElem] at h ⊢
  intro p q hp hq hpq
  have hp' : p < L.length := by simpa using hp
  have hq' : q < L.length := by simpa using hq
  obtain ⟨hil, hix⟩ := List.getElem?_eq_some_iff.1 hi
  simp only [List.getElem_set]
  split <;> split
  · omega
  · rename_i e1 e2; subst e1; rw [hb, ← hix]; exact h _ _ hp' hq' hpq
  · rename_i e1 e2; subst e2; rw [hb, ← hix]; exact h _ _ hp' hq' hpq
  · exact h _ _ hp' hq' hpq
theorem ne_of_getElem? {L : List Blk} (h : L.Pairwise (fun x y => x.b ≠ y.b)) {i j : Nat} {x y : Blk} (hi : L[i]? = some x) (hj : L[j]? = some y) (hij : i ≠ j) : x.b ≠ y.b := by
  rw [List.pairwise_iff_getElem] at h
  obtain ⟨hil, hix⟩ := List.getElem?_eq_some_iff.1 hi
  obtain ⟨hjl, hjx⟩ := List.getElem?_eq_some_iff.1 hj
  rw [← hix, ← hjx]
  rcases Nat.lt_or_ge i j with hlt | hge
  · exact h i j hil hjl hlt
  · exact fun e => h j i hjl hil (by omega) e.symm
theorem St.set (h : St B H L w) {i b : Nat} {cs cs' : List Value} {T : TypeId} (hi : L[i]? = some ⟨b, cs, T⟩) {w' : World} (ho : Only b (.cells cs'.toArray T (0, 0)) w w') :
    St B H (L.set i ⟨b, cs', T⟩) w' where
  os := ho.os.trans h.os
  tape := ho.tape.trans h.tape
  output := ho.output.trans h.output
  size := by rw [ho.size]; exact h.size
  old k hk hm := by
    refine (ho.other k ?_).trans (h.old k hk hm)
    rintro rfl
    rcases (h.mine _ (List.mem_of_getElem? hi)).1 with h1 | h1
    · exact absurd h1 (by simp only []; omega)
    · exact hm h1
  froz k o hk := by
    refine (ho.other k ?_).trans (h.froz k o hk)
    rintro rfl
    have := (h.mine _ (List.mem_of_getElem? hi)).2
    simp only [] at this
    rw [this] at hk
    cases hk
  sub := h.sub
  fresh := h.fresh
  own x hx := by
    obtain ⟨j, hj⟩ := List.mem_iff_getElem?.1 hx
    rw [List.getElem?_set] at hj
    split at hj
    · split at hj
      · obtain rfl := Option.some.inj hj; exact ho.at_
      · cases hj
    · rename_i hij
      rw [ho.other x.b (fun e => ne_of_getElem? h.nodup hi hj hij e.symm)]
      exact h.own x (List.mem_of_getElem? hj)
  mine x hx := by
    obtain ⟨j, hj⟩ := List.mem_iff_getElem?.1 hx
    rw [List.getElem?_set] at hj
    split at hj
    · split at hj
      · obtain rfl := Option.some.inj hj; exact ⟨(h.mine _ (List.mem_of_getElem? hi)).1, (h.mine _ (List.mem_of_getElem? hi)).2⟩
      · cases hj
    · exact h.mine x (List.mem_of_getElem? hj)
  nodup := pairwise_set h.nodup hi rfl
theorem Only.setRow {w : World} {b : Nat} {cur cs : Array Value} {T : TypeId} (h : w.heap[b]? = some (.cells cur T (0, 0))) : Only b (.cells cs T (0, 0)) w (w.setRow b cs) :=
  ⟨rfl, rfl, rfl, by simp, setRow_heap w b cur cs T _ h, fun k hk => setRow_other w b k cs hk⟩
/-- Behind a call that was handed nothing to write: what it froze is frozen, what it made over is owned. -/
theorem St.call (h : St B H L w) {H' : Froz} {L' : List Blk} {w' : World} (hc : St ⟨w, H, []⟩ H' L' w') : St B H' (L' ++ L) w' where
  os := hc.os.trans h.os
  tape := hc.tape.trans h.tape
  output := hc.output.trans h.output
  size := Nat.le_trans h.size hc.size
  old k hk hm := (hc.old k (Nat.lt_of_lt_of_le hk h.size) (by simp)).trans (h.old k hk hm)
  froz := hc.froz
  sub k o hk := hc.sub k o (h.sub k o hk)
  fresh k o hk := by
    rcases hc.fresh k o hk with h1 | h1 | h1
    · exact h.fresh k o h1
    · exact .inr (.inl (Nat.le_trans h.size h1))
    · cases h1
  own x hx := by
    rcases List.mem_append.1 hx with hx | hx
    · exact hc.own x hx
    · exact (hc.old x.b (lt_of_some (h.own x hx)) (by simp)).trans (h.own x hx)
  mine x hx := by
    rcases List.mem_append.1 hx with hx | hx
    · have := hc.mine x hx
      refine ⟨.inl ?_, this.2⟩
      rcases this.1 with h1 | h1
      · exact Nat.le_trans h.size h1
      · cases h1
    · refine ⟨(h.mine x hx).1, ?_⟩
      cases hh : H' x.b with
      | none => rfl
      | some o =>
        rcases hc.fresh _ o hh with h1 | h1 | h1
        · have h2 := (h.mine x hx).2
          simp only [] at h1
          rw [h2] at h1; cases h1
        · exact absurd (lt_of_some (h.own x hx)) (Nat.not_lt.2 h1)
        · cases h1
  nodup := by
    refine List.pairwise_append.2 ⟨hc.nodup, h.nodup, fun x hx y hy => ?_⟩
    have h1 := lt_of_some (h.own y hy)
    rcases (hc.mine x hx).1 with h2 | h2
    · simp only [] at h2; omega
    · cases h2
/-- Behind a call that may write one block. -/
theorem St.callM (h : St B H L w) {i b : Nat} {cs cs' : List Value} {T : TypeId} (hi : L[i]? = some ⟨b, cs, T⟩) {H' : Froz} {L' : List Blk} {w' : World} (hc : St ⟨w, H, [b]⟩ H' (L' ++ [⟨b, cs', T⟩]) w') :
    St B H' (L' ++ L.set i ⟨b, cs', T⟩) w' where
  os := hc.os.trans h.os
  tape := hc.tape.trans h.tape
  output := hc.output.trans h.output
  size := Nat.le_trans h.size hc.size
  old k hk hm := by
    refine (hc.old k (Nat.lt_of_lt_of_le hk h.size) ?_).trans (h.old k hk hm)
    simp only [List.mem_singleton]
    rintro rfl
    rcases (h.mine _ (List.mem_of_getElem? hi)).1 with h1 | h1
    · exact absurd h1 (by simp only []; omega)
    · exact hm h1
  froz := hc.froz
  sub k o hk := hc.sub k o (h.sub k o hk)
  fresh k o hk := by
    rcases hc.fresh k o hk with h1 | h1 | h1
    · exact h.fresh k o h1
    · exact .inr (.inl (Nat.le_trans h.size h1))
    · simp only [List.mem_singleton] at h1
      subst h1
      have h2 := (hc.mine ⟨k, cs', T⟩ (by simp)).2
      simp only [] at h2
      rw [h2] at hk; cases hk
  own x hx := by
    rcases List.mem_append.1 hx with hx | hx
    · exact hc.own x (by simp [hx])
    · obtain ⟨j, hj⟩ := List.mem_iff_getElem?.1 hx
      rw [List.getElem?_set] at hj
      split at hj
      · split at hj
        · obtain rfl := Option.some.inj hj; exact hc.own _ (by simp)
        · cases hj
      · rename_i hij
        have hne : x.b ≠ b := fun e => ne_of_getElem? h.nodup hi hj hij e.symm
        exact (hc.old x.b (lt_of_some (h.own x (List.mem_of_getElem? hj))) (by simpa using hne)).trans (h.own x (List.mem_of_getElem? hj))
  mine x hx := by
    rcases List.mem_append.1 hx with hx | hx
    · have := hc.mine x (by simp [hx])
      refine ⟨?_, this.2⟩
      rcases this.1 with h1 | h1
      · exact .inl (Nat.le_trans h.size h1)
      · simp only [List.mem_singleton] at h1; rw [h1]; exact (h.mine _ (List.mem_of_getElem? hi)).1
    · obtain ⟨j, hj⟩ := List.mem_iff_getElem?.1 hx
      rw [List.getElem?_set] at hj
      split at hj
      · split at hj
        · obtain rfl := Option.some.inj hj
          exact ⟨(h.mine _ (List.mem_of_getElem? hi)).1, (hc.mine ⟨b, cs', T⟩ (by simp)).2⟩
        · cases hj
      · rename_i hij
        have hm := h.mine x (List.mem_of_getElem? hj)
        refine ⟨hm.1, ?_⟩
        have hne : x.b ≠ b := fun e => ne_of_getElem? h.nodup hi hj hij e.symm
        cases hh : H' x.b with
        | none => rfl
        | some o =>
          rcases hc.fresh _ o hh with h1 | h1 | h1
          · simp only [] at h1; rw [hm.2] at h1; cases h1
          · exact absurd (lt_of_some (h.own x (List.mem_of_getElem? hj))) (Nat.not_lt.2 h1)
          · exact absurd (by simpa using h1) hne
  nodup := by
    have hn := List.pairwise_append.1 hc.nodup
    refine List.pairwise_append.2 ⟨hn.1, pairwise_set h.nodup hi rfl, fun x hx y hy => ?_⟩
    obtain ⟨j, hj⟩ := List.mem_iff_getElem?.1 hy
    rw [List.getElem?_set] at hj
    split at hj
    · split at hj
      · obtain rfl := Option.some.inj hj; exact hn.2.2 x hx ⟨b, cs', T⟩ (by simp)
      · cases hj
    · rename_i hij
      have h1 := lt_of_some (h.own y (List.mem_of_getElem? hj))
      have hne : y.b ≠ b := fun e => ne_of_getElem? h.nodup hi hj hij e.symm
      rcases (hc.mine x (by simp [hx])).1 with h2 | h2
      · simp only [] at h2; omega
      · simp only [List.mem_singleton] at h2; omega
end

/-- What is owned is frozen: from here on it is only read. -/
def frz (H : Froz) (x : Blk) : Froz := fun k => if k = x.b then some (.cells x.cs.toArray x.T (0, 0)) else H k
theorem St.freeze {B : Base} {H : Froz} {L : List Blk} {w : World} (h : St B H L w) {i : Nat} {x : Blk} (hi : L[i]? = some x) : St B (frz H x) (L.eraseIdx i) w where
  os := h.os
  tape := h.tape
  output := h.output
  size := h.size
  old := h.old
  froz k o hk := by
    simp only [frz] at hk
    split at hk
    · rename_i e; subst e; rw [← hk]; exact h.own x (List.mem_of_getElem? hi)
    · exact h.froz k o hk
  sub k o hk := by
    simp only [frz]
    split
    · rename_i e
      have h1 := h.sub k o hk
      have h2 := (h.mine x (List.mem_of_getElem? hi)).2
      rw [← e, h1] at h2; cases h2
    · exact h.sub k o hk
  fresh k o hk := by
    simp only [frz] at hk
    split at hk
    · rename_i e; rw [e]; exact .inr (h.mine x (List.mem_of_getElem? hi)).1
    · exact h.fresh k o hk
  own y hy := h.own y (List.mem_of_mem_eraseIdx hy)
  mine y hy := by
    have hm := h.mine y (List.mem_of_mem_eraseIdx hy)
    refine ⟨hm.1, ?_⟩
    simp only [frz]
    split
    · rename_i e
      exfalso
      obtain ⟨j, hij, hj⟩ := List.mem_eraseIdx_iff_getElem?.1 hy
      exact ne_of_getElem? h.nodup hi hj (Ne.symm hij) e.symm
    · exact hm.2
  nodup := h.nodup.sublist (List.eraseIdx_sublist _ _)
/-- H' holds all that H holds. -/
def Le (H H' : Froz) : Prop := ∀ k o, H k = some o → H' k = some o
theorem Le.refl (H : Froz) : Le H H := fun _ _ h => h
theorem Le.trans {H H' H'' : Froz} (h : Le H H') (h' : Le H' H'') : Le H H'' := fun k o hk => h' k o (h k o hk)
theorem St.le {B : Base} {H : Froz} {L : List Blk} {w : World} (h : St B H L w) : Le B.H0 H := h.sub
theorem St.le_freeze {B : Base} {H : Froz} {L : List Blk} {w : World} (h : St B H L w) {i : Nat} {x : Blk} (hi : L[i]? = some x) : Le H (frz H x) := by
  intro k o hk
  simp only [frz]
  split
  · rename_i e
    have h2 := (h.mine x (List.mem_of_getElem? hi)).2
    rw [← e, hk] at h2; cases h2
  · exact hk
/-- What was frozen besides may be forgotten, down to what the call was handed. -/
theorem St.forget {B : Base} {H : Froz} {L : List Blk} {w : World} (h : St B H L w) {H' : Froz} (h1 : Le B.H0 H') (h2 : Le H' H) : St B H' L w where
  os := h.os
  tape := h.tape
  output := h.output
  size := h.size
  old := h.old
  froz k o hk := h.froz k o (h2 k o hk)
  sub := h1
  fresh k o hk := h.fresh k o (h2 k o hk)
  own := h.own
  mine x hx := by
    refine ⟨(h.mine x hx).1, ?_⟩
    cases hh : H' x.b with
    | none => rfl
    | some o => have := h2 _ _ hh; rw [(h.mine x hx).2] at this; cases this
  nodup := h.nodup
end Go.W

/-! Quiet operations, one lemma a kind. -/
namespace Go.W
open Go Go.RowKit

def tyS (P : Program) (T : TypeId) : Option (Bool × Nat) :=
  match P.underlying T, P.info? T with
  | some d, some i => some ((match d with | .struct _ => true | .array _ _ => true | _ => false), i.size)
  | _, _ => none
theorem tyS_parts {P : Program} {T : TypeId} {agg : Bool} {sz : Nat} (h : tyS P T = some (agg, sz)) :
    ∃ d i, P.underlying T = some d ∧ P.info? T = some i ∧ (match d with | .struct _ => true | .array _ _ => true | _ => false) = agg ∧ i.size = sz := by
  unfold tyS at h
  split at h
  · rename_i d i h1 h2
    simp only [Option.some.injEq, Prod.mk.injEq] at h
    exact ⟨d, i, h1, h2, h.1, h.2⟩
  · cases h
section
variable {P : Program} {w : World} {T : TypeId} {agg : Bool} {sz : Nat}
theorem run_isAgg' (h : tyS P T = some (agg, sz)) : (isAgg T).run P w = .ok agg w := by
  obtain ⟨d, i, h1, h2, h3, h4⟩ := tyS_parts h
  unfold isAgg
  rw [Sem.run_bind, run_underlying h1 w]
  subst h3
  cases d <;> rfl
theorem run_sizeOf' (h : tyS P T = some (agg, sz)) : (sizeOf T).run P w = .ok sz w := by
  obtain ⟨d, i, h1, h2, h3, h4⟩ := tyS_parts h
  simp [sizeOf, typeInfo, h2, h4]
end

/-- What a load of a type reads out of a row of cells. -/
def ldv (agg : Bool) (sz : Nat) (cs : List Value) (o : Nat) : Option Value := bif agg then some (.agg ((cs.drop o).take sz).toArray) else cs[o]?
theorem run_loadVar_cells {P : Program} {w : World} {T : TypeId} {agg : Bool} {sz : Nat} (ht : tyS P T = some (agg, sz)) (a : Addr) (cs : List Value) (o : Nat) (v : Value)
    (hc : ∀ j u, j < sz → cs[o + j]? = some u → w.cell? (a.add j) = some u) (hb : o + sz ≤ cs.length) (h0 : 0 < sz) (hv : ldv agg sz cs o = some v) : (loadVar T a).run P w = .ok v w := by
  unfold loadVar
  rw [Sem.run_bind, run_isAgg' ht]
  simp only [Result.andThen_ok]
  cases agg with
  | true =>
    simp only [if_true]
    have hl : ((cs.drop o).take sz).length = sz := by simp; omega
    have hload : (loadCells a sz).run P w = .ok ((cs.drop o).take sz).toArray w := by
      have := run_loadCells_list (P := P) w a ((cs.drop o).take sz) (fun j u hu => by
        rw [List.getElem?_take] at hu
        split at hu
        · rename_i hj; rw [List.getElem?_drop] at hu; exact hc j u hj hu
        · cases hu)
      rwa [hl] at this
    simp only [ldv, cond_true, Option.some.injEq] at hv
    simp [run_sizeOf' ht, hload, hv]
  | false =>
    simp only [ldv, cond_false] at hv
    have h1 := hc 0 v h0 (by simpa using hv)
    simp only [Bool.false_eq_true, if_false]
    have hz : a.add 0 = a := by simp [Addr.add]
    rw [hz] at h1
    simp [run_load, h1]

section
variable {P : Program} {S : World → Prop} {F : Fr} {ty : TypeId} {v u : Value} {x y z : Operand}

theorem q_move (hx : oev F x = some v) : Qt P S F (.move x) ty v := by
  intro ρ hρ w _ d pos after g; simp [execOp, hρ x v hx]
theorem q_assign (hx : oev F x = some v) : Qt P S F (.assign x) ty v := by
  intro ρ hρ w _ d pos after g; simp [execOp, hρ x v hx]
theorem q_pick {b : Bool} (hc : oev F z = some (.bool b)) (hv : (bif b then oev F x else oev F y) = some v) : Qt P S F (.pick z x y) ty v := by
  intro ρ hρ w _ d pos after g
  cases b
  · simp [execOp, hρ z _ hc, asBool, hρ y v hv]
  · simp [execOp, hρ z _ hc, asBool, hρ x v hv]
theorem q_extract {vs : List Value} {i : Nat} (hx : oev F x = some (.tuple vs.toArray)) (hi : vs[i]? = some v) : Qt P S F (.extract x i) ty v := by
  intro ρ hρ w _ d pos after g
  simp [execOp, hρ x _ hx, Instr.extract, hi]
theorem q_nilCheck {a : Addr} (hx : oev F x = some (.pointer (some a))) : Qt P S F (.nilCheck x) ty (.pointer (some a)) := by
  intro ρ hρ w _ d pos after g
  simp [execOp, hρ x _ hx]
theorem q_makeFunc {f : FuncId} {fs cs : List Operand} {vs us : List Value} (h1 : oevs F fs = some vs) (h2 : oevs F cs = some us) : Qt P S F (.makeFunc (.func f) fs.toArray cs.toArray) ty (.func (.func f) vs.toArray us.toArray) := by
  intro ρ hρ w _ d pos after g
  have key : ∀ (xs : List Operand) (vs : List Value), oevs F xs = some vs → xs.map ρ = vs := by
    intro xs
    induction xs with
    | nil => intro vs hv; simp [oevs] at hv; simp [hv]
    | cons x t ih =>
      intro vs hv
      simp only [oevs] at hv
      split at hv
      · rename_i v vs' h1 h2
        simp only [Option.some.injEq] at hv
        subst hv
        simp [hρ x v h1, ih _ h2]
      · cases hv
  simp [execOp, Instr.makeFunc, key _ _ h1, key _ _ h2]

/-! ints -/
theorem q_bin {op : BinOp} {t t' : TypeId} {k : IntKind} {a b : Int} (hx : oev F x = some (.int k a)) (hy : oev F y = some (.int k b))
    (hr : ∀ w, (Go.binOp op t (.int k a) (.int k b)).run P w = .ok v w) : Qt P S F (.binOp op t x y t') ty v := by
  intro ρ hρ w _ d pos after g
  have he : (eqGuard op t x y (.int k a) (.int k b)).run P w = .ok () w := by
    unfold eqGuard; cases op <;> simp
  simp [execOp, hρ x _ hx, hρ y _ hy, he, hr w]
theorem q_add {t t' : TypeId} {k : IntKind} {a b : Int} (hx : oev F x = some (.int k a)) (hy : oev F y = some (.int k b)) : Qt P S F (.binOp .add t x y t') ty (.int k (k.wrap (a + b))) :=
  q_bin hx hy fun w => by simp [Go.binOp, Op.intArith]
theorem q_sub {t t' : TypeId} {k : IntKind} {a b : Int} (hx : oev F x = some (.int k a)) (hy : oev F y = some (.int k b)) : Qt P S F (.binOp .sub t x y t') ty (.int k (k.wrap (a - b))) :=
  q_bin hx hy fun w => by simp [Go.binOp, Op.intArith]
theorem q_mul {t t' : TypeId} {k : IntKind} {a b : Int} (hx : oev F x = some (.int k a)) (hy : oev F y = some (.int k b)) : Qt P S F (.binOp .mul t x y t') ty (.int k (k.wrap (a * b))) :=
  q_bin hx hy fun w => by simp [Go.binOp, Op.intArith]
theorem wrap_i64 {n : Int} (h : -9223372036854775808 ≤ n ∧ n ≤ 9223372036854775807) : IntKind.i64.wrap n = n := IntWalk.i64_in _ (by omega)
theorem q_addI {t t' : TypeId} {a b : Int} (hx : oev F x = some (.int .i64 a)) (hy : oev F y = some (.int .i64 b)) (h : -9223372036854775808 ≤ a + b ∧ a + b ≤ 9223372036854775807) : Qt P S F (.binOp .add t x y t') ty (.int .i64 (a + b)) := by
  have := q_add (P := P) (S := S) (ty := ty) (t := t) (t' := t') hx hy; rwa [wrap_i64 h] at this
theorem q_subI {t t' : TypeId} {a b : Int} (hx : oev F x = some (.int .i64 a)) (hy : oev F y = some (.int .i64 b)) (h : -9223372036854775808 ≤ a - b ∧ a - b ≤ 9223372036854775807) : Qt P S F (.binOp .sub t x y t') ty (.int .i64 (a - b)) := by
  have := q_sub (P := P) (S := S) (ty := ty) (t := t) (t' := t') hx hy; rwa [wrap_i64 h] at this
theorem q_mulI {t t' : TypeId} {a b : Int} (hx : oev F x = some (.int .i64 a)) (hy : oev F y = some (.int .i64 b)) (h : -9223372036854775808 ≤ a * b ∧ a * b ≤ 9223372036854775807) : Qt P S F (.binOp .mul t x y t') ty (.int .i64 (a * b)) := by
  have := q_mul (P := P) (S := S) (ty := ty) (t := t) (t' := t') hx hy; rwa [wrap_i64 h] at this
theorem q_lss {t t' : TypeId} {k : IntKind} {a b : Int} (hx : oev F x = some (.int k a)) (hy : oev F y = some (.int k b)) : Qt P S F (.binOp .lss t x y t') ty (.bool (decide (a < b))) :=
  q_bin hx hy fun w => by simp [Go.binOp, Op.intCmp]
theorem q_leq {t t' : TypeId} {k : IntKind} {a b : Int} (hx : oev F x = some (.int k a)) (hy : oev F y = some (.int k b)) : Qt P S F (.binOp .leq t x y t') ty (.bool (decide (a ≤ b))) :=
  q_bin hx hy fun w => by simp [Go.binOp, Op.intCmp]
theorem q_gtr {t t' : TypeId} {k : IntKind} {a b : Int} (hx : oev F x = some (.int k a)) (hy : oev F y = some (.int k b)) : Qt P S F (.binOp .gtr t x y t') ty (.bool (decide (b < a))) :=
  q_bin hx hy fun w => by simp [Go.binOp, Op.intCmp]
theorem q_geq {t t' : TypeId} {k : IntKind} {a b : Int} (hx : oev F x = some (.int k a)) (hy : oev F y = some (.int k b)) : Qt P S F (.binOp .geq t x y t') ty (.bool (decide (b ≤ a))) :=
  q_bin hx hy fun w => by simp [Go.binOp, Op.intCmp]
theorem int_beq (a b : Int) : (a == b) = decide (a = b) := by by_cases h : a = b <;> simp [h]
theorem q_eqI {t t' : TypeId} {k : IntKind} {a b : Int} (hx : oev F x = some (.int k a)) (hy : oev F y = some (.int k b)) : Qt P S F (.binOp .eql t x y t') ty (.bool (decide (a = b))) :=
  q_bin hx hy fun w => by simp [Go.binOp, Op.intCmp, int_beq]
theorem q_neI {t t' : TypeId} {k : IntKind} {a b : Int} (hx : oev F x = some (.int k a)) (hy : oev F y = some (.int k b)) : Qt P S F (.binOp .neq t x y t') ty (.bool (!decide (a = b))) :=
  q_bin hx hy fun w => by simp only [Go.binOp, Op.intCmp, bne, int_beq]; simp
theorem q_not {t : TypeId} {b : Bool} (hx : oev F x = some (.bool b)) : Qt P S F (.unOp .not t x) ty (.bool (!b)) := by
  intro ρ hρ w _ d pos after g; simp [execOp, hρ x _ hx, Op.unary]
theorem q_neg {t : TypeId} {a : Int} (hx : oev F x = some (.int .i64 a)) (h : -9223372036854775808 ≤ -a ∧ -a ≤ 9223372036854775807) : Qt P S F (.unOp .neg t x) ty (.int .i64 (-a)) := by
  intro ρ hρ w _ d pos after g
  have h1 := wrap_i64 (n := 0 - a) (by omega)
  simp [execOp, hρ x _ hx, Op.unary, Op.intArith]
  simpa using h1
theorem q_convI {s t : TypeId} {ds : TypeDesc} {k k' : IntKind} {a : Int} (h1 : P.underlying s = some ds) (h2 : P.underlying t = some (.int k)) (hx : oev F x = some (.int k' a)) : Qt P S F (.convert s t x) ty (.int k (k.wrap a)) := by
  intro ρ hρ w _ d pos after g
  simp only [execOp, hρ x _ hx, Go.convert, Sem.run_bind, run_underlying h1, run_underlying h2, Result.andThen_ok]
  cases ds <;> simp [Conv.intToInt]
theorem q_len {T : TypeId} {d : TypeDesc} {E : TypeId} {a : Option Addr} {n c : Nat} (hd : P.underlying T = some d) (he : d = .slice E) (hx : oev F x = some (.slice a n c)) :
    Qt P S F (.call ⟨.builtin .len, #[x], #[T]⟩) ty (.int .i64 (n : Int)) := by
  intro ρ hρ w _ dd pos after g
  subst he
  simp [execOp, resolve, invoke, builtin, Builtin.len_, hρ x _ hx, run_underlying hd, goInt]
theorem q_lenS {T : TypeId} {d : TypeDesc} {s : ByteArray} (hd : P.underlying T = some d) (he : d = .string) (hx : oev F x = some (.string s)) :
    Qt P S F (.call ⟨.builtin .len, #[x], #[T]⟩) ty (.int .i64 (s.size : Int)) := by
  intro ρ hρ w _ dd pos after g
  subst he
  simp [execOp, resolve, invoke, builtin, Builtin.len_, hρ x _ hx, run_underlying hd, goInt]
theorem q_cap {T : TypeId} {d : TypeDesc} {E : TypeId} {a : Option Addr} {n c : Nat} (hd : P.underlying T = some d) (he : d = .slice E) (hx : oev F x = some (.slice a n c)) :
    Qt P S F (.call ⟨.builtin .cap, #[x], #[T]⟩) ty (.int .i64 (c : Int)) := by
  intro ρ hρ w _ dd pos after g
  subst he
  simp [execOp, resolve, invoke, builtin, Builtin.cap_, hρ x _ hx, run_underlying hd, goInt]
end
end Go.W

/-! Places: own blocks, elements of frozen slices; loads, stores, new blocks; calls; control. -/
namespace Go.W
open Go Go.RowKit

/-! ### addresses -/
def flS (P : Program) (T : TypeId) (f : Nat) : Option (Nat × Nat) :=
  match P.underlying T with
  | some (.struct fs) => match fs[f]? with
    | some x => match P.info? x.type with
      | some i => some (x.offset, i.size)
      | none => none
    | none => none
  | _ => none
theorem flS_parts {P : Program} {T : TypeId} {f off sz : Nat} (h : flS P T f = some (off, sz)) : ∃ fs x i, P.underlying T = some (.struct fs) ∧ fs[f]? = some x ∧ P.info? x.type = some i ∧ x.offset = off ∧ i.size = sz := by
  unfold flS at h
  split at h
  · rename_i fs h1
    split at h
    · rename_i x h2
      split at h
      · rename_i i h3
        simp only [Option.some.injEq, Prod.mk.injEq] at h
        exact ⟨fs, x, i, h1, h2, h3, h.1, h.2⟩
      · cases h
    · cases h
  · cases h
/-- The place j cells behind a. -/
def adr (a : Option Addr) (j : Nat) : Addr := (a.getD ⟨0, 0, none⟩).add j
theorem adr_add (a : Option Addr) (j k : Nat) : (adr a j).add k = adr a (j + k) := by
  unfold adr
  generalize a.getD ⟨0, 0, none⟩ = p
  unfold Addr.add
  by_cases hj : j = 0
  · subst hj; simp
  · by_cases hk : k = 0
    · subst hk; simp
    · simp [hj, hk, Nat.add_assoc]
theorem adr_some (b o j : Nat) : adr (some ⟨b, o, none⟩) j = ⟨b, o + j, none⟩ := by simp [adr, Addr.add_lit]

section
variable {P : Program} {S : World → Prop} {F : Fr} {ty : TypeId} {v u : Value} {x y z : Operand}
theorem q_fieldAddr {T : TypeId} {f b o off sz : Nat} (hf : flS P T f = some (off, sz)) (h0 : 0 < sz) (hx : oev F x = some (.pointer (some ⟨b, o, none⟩))) :
    Qt P S F (.fieldAddr T x f) ty (.pointer (some ⟨b, o + off, none⟩)) := by
  intro ρ hρ w _ d pos after g
  obtain ⟨fs, q, i, h1, h2, h3, h4, h5⟩ := flS_parts hf
  simp [execOp, hρ x _ hx, Instr.fieldAt, Instr.sureAddr, run_underlying h1, h2, fieldPlace, sizeOf, typeInfo, h3, h4, h5, Addr.add_lit, show sz ≠ 0 by omega]
theorem q_fieldAddrE {T : TypeId} {f j off sz : Nat} {a : Option Addr} (hf : flS P T f = some (off, sz)) (h0 : 0 < sz) (hx : oev F x = some (.pointer (some (adr a j)))) :
    Qt P S F (.fieldAddr T x f) ty (.pointer (some (adr a (j + off)))) := by
  intro ρ hρ w _ d pos after g
  obtain ⟨fs, q, i, h1, h2, h3, h4, h5⟩ := flS_parts hf
  simp [execOp, hρ x _ hx, Instr.fieldAt, Instr.sureAddr, run_underlying h1, h2, fieldPlace, sizeOf, typeInfo, h3, h4, h5, adr_add, show sz ≠ 0 by omega]
/-- A field of a struct that is a value. -/
theorem q_field {T : TypeId} {f off sz : Nat} {t : TypeId} {agg : Bool} {cs : List Value} (hf : flS P T f = some (off, sz)) (ht : tyS P t = some (agg, sz)) (hft : ∀ fs, P.underlying T = some (.struct fs) → (fs[f]?).map (·.type) = some t)
    (hx : oev F x = some (.agg cs.toArray)) (hv : ldv agg sz cs off = some v) : Qt P S F (.field T x f) ty v := by
  intro ρ hρ w _ d pos after g
  obtain ⟨fs, q, i, h1, h2, h3, h4, h5⟩ := flS_parts hf
  have ht2 : q.type = t := by have := hft fs h1; rw [h2] at this; simpa using this
  subst ht2
  subst h4
  have hp : (part q.type cs.toArray q.offset).run P w = .ok v w := by
    unfold part
    rw [Sem.run_bind, run_isAgg' ht]
    cases agg with
    | true =>
      simp only [ldv, cond_true, Option.some.injEq] at hv
      simp [run_sizeOf' ht, ← hv]
    | false =>
      simp only [ldv, cond_false] at hv
      simp [hv]
  simp [execOp, hρ x _ hx, Instr.field, run_underlying h1, h2, asAgg, hp]
/-- An element's place in an array that lies at a pointer. -/
theorem q_indexAddrA {T E : TypeId} {len b o sz : Nat} {agg : Bool} {k : IntKind} {i : Int} (h1 : P.underlying T = some (.array len E)) (h2 : tyS P E = some (agg, sz)) (hx : oev F x = some (.pointer (some ⟨b, o, none⟩)))
    (hy : oev F y = some (.int k i)) (hi : 0 ≤ i ∧ i < (len : Int)) : Qt P S F (.indexAddr T x y) ty (.pointer (some ⟨b, o + i.toNat * sz, none⟩)) := by
  intro ρ hρ w _ d pos after g
  simp only [execOp, hρ x _ hx, hρ y _ hy, Instr.indexAt, asIntOf, Sem.run_bind, Sem.run_pure, Result.andThen_ok, run_underlying h1, Instr.sureAddr, hi, and_self, if_true, run_sizeOf' h2, Addr.add_lit]
/-- An element's place in a slice. -/
theorem q_indexAddrS {T E : TypeId} {n c sz : Nat} {a : Option Addr} {agg : Bool} {k : IntKind} {i : Int} (h1 : P.underlying T = some (.slice E)) (h2 : tyS P E = some (agg, sz)) (hx : oev F x = some (.slice a n c))
    (hy : oev F y = some (.int k i)) (hi : 0 ≤ i ∧ i < (n : Int)) (ha : a ≠ none) : Qt P S F (.indexAddr T x y) ty (.pointer (some (adr a (i.toNat * sz)))) := by
  intro ρ hρ w _ d pos after g
  obtain ⟨p, rfl⟩ := Option.ne_none_iff_exists'.1 ha
  simp only [execOp, hρ x _ hx, hρ y _ hy, Instr.indexAt, asIntOf, Sem.run_bind, Sem.run_pure, Result.andThen_ok, run_underlying h1, hi, and_self, if_true, run_sizeOf' h2]
  rfl
end

/-! ### frozen rows -/
def hcell (H : Froz) (b o : Nat) : Option Value := match H b with
  | some (.cells c _ _) => c[o]?
  | _ => none
theorem hcell_le {H H' : Froz} (h : Le H H') {b o : Nat} {v : Value} (hc : hcell H b o = some v) : hcell H' b o = some v := by
  unfold hcell at *
  split at hc
  · rename_i c t fr he; rw [h _ _ he]; exact hc
  · cases hc
theorem St.hcell {B : Base} {H : Froz} {L : List Blk} {w : World} (h : St B H L w) {b o : Nat} {v : Value} (hc : hcell H b o = some v) : w.cell? ⟨b, o, none⟩ = some v := by
  unfold Go.W.hcell at hc
  split at hc
  · rename_i c t fr he
    have := h.froz _ _ he
    simp [World.cell?, this, hc]
  · cases hc
/-- The slice value (a, n, ..) reads, in what is frozen, as the cells cs, k to an element. -/
structure RdS (H : Froz) (a : Option Addr) (n k : Nat) (cs : List Value) : Prop where
  len : cs.length = n * k
  at_ : n ≠ 0 → ∃ b o, a = some ⟨b, o, none⟩ ∧ ∀ j v, cs[j]? = some v → hcell H b (o + j) = some v
theorem RdS.mono {H H' : Froz} {a : Option Addr} {n k : Nat} {cs : List Value} (h : RdS H a n k cs) (hle : Le H H') : RdS H' a n k cs :=
  ⟨h.len, fun hn => let ⟨b, o, h1, h2⟩ := h.at_ hn; ⟨b, o, h1, fun j v hv => hcell_le hle (h2 j v hv)⟩⟩
theorem RdS.some {H : Froz} {a : Option Addr} {n k : Nat} {cs : List Value} (h : RdS H a n k cs) (hn : 0 < n) : a ≠ none := by
  obtain ⟨b, o, rfl, _⟩ := h.at_ (by omega)
  simp
theorem RdS.nil (H : Froz) (a : Option Addr) (k : Nat) : RdS H a 0 k [] := ⟨by simp, fun h => absurd rfl h⟩
/-- A cut 's[l:h]' of it. -/
def cutA (a : Option Addr) (m l k : Nat) : Option Addr := if m = l then a else a.map (·.add (l * k))
theorem RdS.cut {H : Froz} {a : Option Addr} {n k c : Nat} {cs : List Value} (hr : RdS H a n k cs) {l h : Nat} (hlh : l ≤ h) (hn : h ≤ n) (hc : h ≤ c) : RdS H (cutA a c l k) (h - l) k ((cs.drop (l * k)).take ((h - l) * k)) := by
  refine ⟨?_, fun h0 => ?_⟩
  · rw [List.length_take, List.length_drop, hr.len]
    have : h * k ≤ n * k := Nat.mul_le_mul_right _ hn
    rw [Nat.sub_mul]
    omega
  · obtain ⟨b, o, rfl, hh⟩ := hr.at_ (by omega)
    refine ⟨b, o + l * k, ?_, fun j v hv => ?_⟩
    · rw [cutA, if_neg (by omega)]; simp [Addr.add_lit]
    · rw [List.getElem?_take] at hv
      split at hv
      · rw [List.getElem?_drop] at hv
        have := hh _ _ hv
        rwa [← Nat.add_assoc] at this
      · cases hv

section
variable {P : Program} {B : Base} {H : Froz} {L : List Blk} {F : Fr} {ty T : TypeId} {v u : Value} {x y z : Operand} {agg : Bool} {sz : Nat}
theorem q_load {i b o : Nat} {cs : List Value} {T' : TypeId} (ht : tyS P T = some (agg, sz)) (hx : oev F x = some (.pointer (some ⟨b, o, none⟩))) (hi : L[i]? = some ⟨b, cs, T'⟩) (hb : Nat.ble (o + sz) cs.length = true) (h0 : Nat.blt 0 sz = true)
    (hv : ldv agg sz cs o = some v) : Qt P (St B H L) F (.load T x) ty v := by
  intro ρ hρ w hS d pos after g
  have hb' : o + sz ≤ cs.length := Nat.le_of_ble_eq_true hb
  have ho := hS.own _ (List.mem_of_getElem? hi)
  have := run_loadVar_cells (P := P) (w := w) ht ⟨b, o, none⟩ cs o v (fun j u hj hu => by rw [Addr.add_lit]; simp [World.cell?, ho, hu]) hb' (by simpa [Nat.blt_eq] using h0) hv
  simp [execOp, hρ x _ hx, Instr.loadAt, Instr.sureAddr, this]
theorem q_loadE {a : Option Addr} {j n k : Nat} {cs : List Value} (ht : tyS P T = some (agg, sz)) (hx : oev F x = some (.pointer (some (adr a j)))) (hr : RdS H a n k cs) (hb : j + sz ≤ cs.length) (h0 : Nat.blt 0 sz = true)
    (hv : ldv agg sz cs j = some v) : Qt P (St B H L) F (.load T x) ty v := by
  intro ρ hρ w hS d pos after g
  have h0' : 0 < sz := by simpa [Nat.blt_eq] using h0
  obtain ⟨b, o, rfl, hh⟩ := hr.at_ (by intro hn; have := hr.len; simp [hn] at this; simp [this] at hb; omega)
  have := run_loadVar_cells (P := P) (w := w) ht (adr (some ⟨b, o, none⟩) j) cs j v (fun i u hi hu => by
    rw [adr_add, adr_some]; exact hS.hcell (hh _ _ hu)) hb h0' hv
  simp [execOp, hρ x _ hx, Instr.loadAt, Instr.sureAddr, this]
/-- A cut of a frozen slice. -/
theorem q_slice {E : TypeId} {a : Option Addr} {n c : Nat} {ol oh om : Option Operand} {l h m : Nat} (h1 : P.underlying T = some (.slice E)) (h2 : tyS P E = some (agg, sz)) (hx : oev F x = some (.slice a n c))
    (hm : match om with | some o => ∃ k, oev F o = some (.int k (m : Int)) ∧ m ≤ c | none => m = c)
    (hh : match oh with | some o => ∃ k, oev F o = some (.int k (h : Int)) ∧ h ≤ m | none => h = n ∧ om = none)
    (hl : match ol with | some o => ∃ k, oev F o = some (.int k (l : Int)) ∧ l ≤ h | none => l = 0) :
    Qt P (St B H L) F (.slice T x ol oh om) ty (.slice (cutA a m l sz) (h - l) (m - l)) := by
  intro ρ hρ w hS d pos after g
  have b1 : ∀ (k : IntKind) (p y : Nat) (code : BoundsCode), p ≤ y → (Instr.sliceBound (.int k (p : Int)) y code).run P w = .ok p w := by
    intro k p y code hp
    simp only [Instr.sliceBound, asIntOf, Sem.run_bind, Sem.run_pure, Result.andThen_ok, Sem.run_ite]
    rw [if_pos ⟨by omega, by omega⟩]
    simp
  have hb : (Instr.sliceBounds true n c (ol.map ρ) (oh.map ρ) (om.map ρ)).run P w = .ok (l, h, m) w := by
    unfold Instr.sliceBounds
    cases om with
    | none =>
      simp only at hm; subst hm
      cases oh with
      | none =>
        obtain ⟨rfl, _⟩ := hh
        cases ol with
        | none => simp only at hl; subst hl; simp
        | some o => obtain ⟨k, e, e2⟩ := hl; simp [hρ o _ e, b1 _ _ _ _ e2]
      | some o' =>
        obtain ⟨k', e', e2'⟩ := hh
        cases ol with
        | none => simp only at hl; subst hl; simp [hρ o' _ e', b1 _ _ _ _ e2']
        | some o => obtain ⟨k, e, e2⟩ := hl; simp [hρ o _ e, b1 _ _ _ _ e2, hρ o' _ e', b1 _ _ _ _ e2']
    | some o'' =>
      obtain ⟨k'', e'', e2''⟩ := hm
      cases oh with
      | none => exact absurd hh.2 (by simp)
      | some o' =>
        obtain ⟨k', e', e2'⟩ := hh
        cases ol with
        | none => simp only at hl; subst hl; simp [hρ o' _ e', b1 _ _ _ _ e2', hρ o'' _ e'', b1 _ _ _ _ e2'']
        | some o => obtain ⟨k, e, e2⟩ := hl; simp [hρ o _ e, b1 _ _ _ _ e2, hρ o' _ e', b1 _ _ _ _ e2', hρ o'' _ e'', b1 _ _ _ _ e2'']
  simp [execOp, Instr.sliceAt, run_underlying h1, hρ x _ hx, Instr.slice, hb, run_sizeOf' h2, cutA]
end
end Go.W

/-! Loud operations (they turn the world), calls, control. -/
namespace Go.W
open Go Go.RowKit

/-- A zero value's cells. -/
def zrS (P : Program) (T : TypeId) : Option (List Value) := match P.info? T with
  | some i => i.zero.map (·.cells.toList)
  | none => none
theorem zrS_parts {P : Program} {T : TypeId} {z : List Value} (h : zrS P T = some z) : ∃ i v, P.info? T = some i ∧ i.zero = some v ∧ v.cells.toList = z := by
  unfold zrS at h
  split at h
  · rename_i i hi
    obtain ⟨v, h1, h2⟩ := Option.map_eq_some_iff.1 h
    exact ⟨i, v, hi, h1, h2⟩
  · cases h

def all1 (l : List Value) : Bool := l.all (·.oneCell')
theorem all1_mem {l : List Value} (h : all1 l = true) : ∀ u ∈ l, u.oneCell' = true := by simpa [all1] using h
/-- cs with the cells vs at o. -/
def spl (cs : List Value) (o : Nat) (vs : List Value) : List Value := cs.take o ++ vs ++ cs.drop (o + vs.length)

section
variable {P : Program} {ops : Array Oper} {Q : Exit → Act → World → Prop} {rest : List Oper} {n d : Nat} {a : Act} {F : Fr} {w : World} {B : Base} {H : Froz} {L : List Blk}
  {ty T : TypeId} {pos : String} {after : Array Edge} {v : Value} {x y : Operand} {K : Act → World → Prop} {g : Option (Nat × Bool)} {agg : Bool} {sz : Nat}

/-- What is owed behind a loud operation: the new frame and the new state. -/
theorem l_alloc {z : List Value} (hF : Has n a F) (hS : St B H L w) (hz : zrS P T = some z) (hd : Nat.blt d n = true)
    (k : ∀ a' w' b, Has n a' ((d, .pointer (some ⟨b, 0, none⟩)) :: F) → St B H (⟨b, z, T⟩ :: L) w' → K a' w') : (⟨some d, .alloc T, ty, pos, after, g⟩ : Oper).wp P a w K Q := by
  obtain ⟨i, zv, h1, h2, h3⟩ := zrS_parts hz
  unfold Oper.wp
  have : (Instr.alloc T true (.tuple #[])).run P w = .ok (.pointer (some ⟨w.heap.size, 0, none⟩)) (w.alloc (.cells z.toArray T)) := by
    simp [Instr.alloc, zeroValue, typeInfo, h1, h2, newVar, newRow, ← h3]
  simp only [execOp, Sem.run_bind, this, Result.andThen_ok, Sem.run_pure]
  exact k _ _ _ (hF.put hd _) (hS.alloc z T)
theorem l_box {u : Value} {cs : List Value} (hF : Has n a F) (hS : St B H L w) (hx : oev F x = some u) (hc : u.cells.toList = cs) (hd : Nat.blt d n = true)
    (k : ∀ a' w' b, Has n a' ((d, .pointer (some ⟨b, 0, none⟩)) :: F) → St B H (⟨b, cs, T⟩ :: L) w' → K a' w') : (⟨some d, .box T x, ty, pos, after, g⟩ : Oper).wp P a w K Q := by
  unfold Oper.wp
  have : (Instr.box T u).run P w = .ok (.pointer (some ⟨w.heap.size, 0, none⟩)) (w.alloc (.cells cs.toArray T)) := by
    simp [Instr.box, newVar, newRow, ← hc]
  simp only [execOp, hF.eval hx, Sem.run_bind, this, Result.andThen_ok, Sem.run_pure]
  exact k _ _ _ (hF.put hd _) (hS.alloc cs T)
theorem l_store {i b o : Nat} {cs vs : List Value} {T' : TypeId} {u : Value} (ht : tyS P T = some (agg, sz)) (hF : Has n a F) (hS : St B H L w) (hx : oev F x = some (.pointer (some ⟨b, o, none⟩))) (hy : oev F y = some u)
    (hi : L[i]? = some ⟨b, cs, T'⟩) (hc : u.cells.toList = vs) (hl : Nat.beq vs.length sz = true) (hb : Nat.ble (o + sz) cs.length = true) (h1 : all1 vs = true)
    (k : ∀ a' w', Has n a' F → St B H (L.set i ⟨b, spl cs o vs, T'⟩) w' → K a' w') : (⟨none, .store T x y, ty, pos, after, g⟩ : Oper).wp P a w K Q := by
  have hl' : vs.length = sz := Nat.eq_of_beq_eq_true hl
  have hb' : o + sz ≤ cs.length := Nat.le_of_ble_eq_true hb
  have ho := hS.own _ (List.mem_of_getElem? hi)
  unfold Oper.wp
  have hsz : u.cells.size = sz := by rw [← hl', ← hc]; simp
  have hrow := run_storeCells_at P b o T' vs 0 cs.toArray w ho (by simp; omega) (all1_mem h1)
  have : (storeVar T ⟨b, o, none⟩ u).run P w = .ok () (w.setRow b (spl cs o vs).toArray) := by
    simp only [storeVar, Sem.run_bind, run_sizeOf' ht, Result.andThen_ok, hsz, ne_eq, not_true, if_false, hc]
    simpa [spl] using hrow
  simp only [execOp, Instr.storeAt, Instr.sureAddr, hF.eval hx, hF.eval hy, Sem.run_bind, Sem.run_pure, this, Result.andThen_ok]
  exact k _ _ hF (hS.set hi (Only.setRow ho))
/-- An element of an array of ints, by a number that the walk reckons. -/
theorem spl_set (cs : List Value) (o : Nat) (v : Value) (h : o < cs.length) : spl cs o [v] = cs.set o v := by
  unfold spl
  rw [List.set_eq_take_append_cons_drop, if_pos h]
  simp

/-! ### calls -/
def CallsR (P : Program) (f : FuncId) (args : List Value) (w : World) (R : Value → World → Prop) : Prop := Calls P f args.toArray w fun e w' => ∃ v, e = .returned v ∧ R v w'
def enS (P : Program) (f : FuncId) : Bool := match P.funcs[f]? with
  | some fn => fn.body.isSome && !(fn.name == "runtime.NumGoroutine")
  | none => false
theorem run_callFunc' {f : FuncId} (h : enS P f = true) (args : Array Value) (w : World) : (callFunc f args).run P w = .ok (.enter f args) w := by
  unfold enS at h
  split at h
  · rename_i fn hf
    simp only [Bool.and_eq_true, Bool.not_eq_true'] at h
    have h2 : ¬ fn.name = "runtime.NumGoroutine" := by simpa using h.2
    have h3 : ¬ fn.body = none := by intro e; rw [e] at h; simp at h
    simp [callFunc, hf, h2, h3]
  · cases h
theorem l_call {f : FuncId} {xs : List Operand} {vs : List Value} {ts : Array TypeId} {R : Value → World → Prop} (he : enS P f = true) (hF : Has n a F) (hxs : oevs F xs = some vs) (hd : Nat.blt d n = true)
    (hc : CallsR P f vs w R) (k : ∀ v w', R v w' → ∀ a', Has n a' ((d, v) :: F) → K a' w') : (⟨some d, .call ⟨.value (.func f), xs.toArray, ts⟩, ty, pos, after, g⟩ : Oper).wp P a w K Q := by
  unfold Oper.wp
  have hargs : (xs.toArray.map a.eval) = vs.toArray := by rw [List.map_toArray, oevs_map hF hxs]
  have : (execOp a.eval (⟨some d, .call ⟨.value (.func f), xs.toArray, ts⟩, ty, pos, after, g⟩ : Oper)).run P w = .ok (.enter f vs.toArray) w := by
    simp only [execOp, resolve, Sem.run_bind, hargs, Act.eval, Deferred.ofValue]
    simp [invoke, run_callFunc' he]
  rw [this]
  refine Calls.mono hc fun e w' ⟨v, hv, hR⟩ => ?_
  subst hv
  exact k v w' hR _ (hF.put hd v)
/-- A call of a function value. -/
theorem l_callv {f : FuncId} {fx : Operand} {fs us : List Value} {xs : List Operand} {vs : List Value} {ts : Array TypeId} {R : Value → World → Prop} (he : enS P f = true) (hF : Has n a F)
    (hf : oev F fx = some (.func (.func f) fs.toArray us.toArray)) (hxs : oevs F xs = some vs) (hd : Nat.blt d n = true)
    (hc : CallsR P f (fs ++ vs ++ us) w R) (k : ∀ v w', R v w' → ∀ a', Has n a' ((d, v) :: F) → K a' w') : (⟨some d, .call ⟨.value fx, xs.toArray, ts⟩, ty, pos, after, g⟩ : Oper).wp P a w K Q := by
  unfold Oper.wp
  have hargs : (xs.toArray.map a.eval) = vs.toArray := by rw [List.map_toArray, oevs_map hF hxs]
  have : (execOp a.eval (⟨some d, .call ⟨.value fx, xs.toArray, ts⟩, ty, pos, after, g⟩ : Oper)).run P w = .ok (.enter f (fs ++ vs ++ us).toArray) w := by
    simp only [execOp, resolve, Sem.run_bind, hargs, hF.eval hf, Deferred.ofValue]
    simp [invoke, run_callFunc' he]
  rw [this]
  refine Calls.mono hc fun e w' ⟨v, hv, hR⟩ => ?_
  subst hv
  exact k v w' hR _ (hF.put hd v)
theorem CallsR.mono {f : FuncId} {args : List Value} {R R' : Value → World → Prop} (h : CallsR P f args w R) (hr : ∀ v w', R v w' → R' v w') : CallsR P f args w R' :=
  Calls.mono h fun _ _ ⟨v, hv, hR⟩ => ⟨v, hv, hr _ _ hR⟩
end

/-! ### a body -/
theorem calls_start {P : Program} {f : FuncId} {fn : Func} {c : Code} {N : Nat} {args : List Value} {w : World} {R : Value → World → Prop} (hf : P.funcs[f]? = some fn) (hb : fn.body = some c) (hn : fn.ntmps = N) (hle : Nat.ble args.length N = true)
    (h : ∀ a, Has N a (initFr 0 args) → c.wp P (bodyPost P fn fun e w' => ∃ v, e = .returned v ∧ R v w') a w) : CallsR P f args w R := by
  refine calls_of_wp hf hb (h _ ?_)
  have hle' : args.length ≤ N := Nat.le_of_ble_eq_true hle
  have key : ∀ (l : List Value) (k s : Nat) (v : Value), fget (initFr k l) s = some v → k ≤ s ∧ l[s - k]? = some v := by
    intro l
    induction l with
    | nil => intro k s v h; simp [initFr, fget] at h
    | cons x t ih =>
      intro k s v h
      simp only [initFr, fget] at h
      by_cases e : k = s
      · subst e
        simp only [nbeq_self, cond_true, Option.some.injEq] at h
        subst h
        simp
      · rw [nbeq_ne e] at h
        simp only [cond_false] at h
        obtain ⟨h1, h2⟩ := ih _ _ _ h
        refine ⟨by omega, ?_⟩
        have : s - k = (s - (k + 1)) + 1 := by omega
        rw [this]
        simpa using h2
  refine ⟨by simp [hn]; omega, rfl, fun s v hs => ?_⟩
  obtain ⟨_, h2⟩ := key _ _ _ _ hs
  simp only [Nat.sub_zero] at h2
  have hlt := (List.getElem?_eq_some_iff.1 h2).1
  rw [Array.getElem?_append_left (by simpa using hlt)]
  simpa using h2

section
variable {P : Program} {fn : Func} {n : Nat} {a : Act} {F : Fr} {w : World} {R : Ending → World → Prop} {v : Value} {B : Base} {H : Froz} {L : List Blk}
/-- What a function's results read as. -/
inductive ResV (P : Program) (F : Fr) (L : List Blk) : List ResultVar → List Value → Prop
  | nil : ResV P F L [] []
  | tmp {t : Tmp} {v : Value} {rs : List ResultVar} {vs : List Value} (h : fget F t = some v) (r : ResV P F L rs vs) : ResV P F L (.tmp t :: rs) (v :: vs)
  | cell {t : Tmp} {T T' : TypeId} {agg : Bool} {sz b i : Nat} {cs : List Value} {v : Value} {rs : List ResultVar} {vs : List Value} (hx : fget F t = some (.pointer (some ⟨b, 0, none⟩))) (ht : tyS P T = some (agg, sz)) (hi : L[i]? = some ⟨b, cs, T'⟩)
      (hb : Nat.ble sz cs.length = true) (h0 : Nat.blt 0 sz = true) (hv : ldv agg sz cs 0 = some v) (r : ResV P F L rs vs) : ResV P F L (.cell t T :: rs) (v :: vs)
theorem ResV.run {rs : List ResultVar} {vs : List Value} (h : ResV P F L rs vs) (hF : Has n a F) (hS : St B H L w) :
    (rs.mapM (m := Sem) (fun r => match r with
      | .tmp t => pure (a.tmps.getD t undef)
      | .cell ad t => do loadVar t (← asAddr (a.tmps.getD ad undef)))).run P w = .ok vs w := by
  induction h with
  | nil => simp
  | tmp h r ih =>
    have := hF.get _ _ h
    rw [List.mapM_cons]
    simp only [Sem.run_bind, Sem.run_pure, Result.andThen_ok, ih]
    simp [this]
  | @cell t T T' agg sz b i cs v rs vs hx ht hi hb h0 hv r ih =>
    have h1 := hF.get _ _ hx
    have ho := hS.own _ (List.mem_of_getElem? hi)
    have hl := run_loadVar_cells (P := P) (w := w) ht ⟨b, 0, none⟩ cs 0 v (fun j u hj hu => by rw [Addr.add_lit]; simp only [Nat.zero_add] at hu ⊢; simp [World.cell?, ho, hu]) (by have := Nat.le_of_ble_eq_true hb; omega) (by simpa [Nat.blt_eq] using h0) hv
    rw [List.mapM_cons]
    have h2 : a.tmps.getD t undef = .pointer (some ⟨b, 0, none⟩) := by simp [h1]
    have h3 : (do loadVar T (← asAddr (a.tmps.getD t undef)) : Sem Value).run P w = .ok v w := by rw [h2]; simp [asAddr, hl]
    rw [Sem.run_bind, h3]
    simp only [Result.andThen_ok, Sem.run_bind, ih, Sem.run_pure]
def oneOf (vs : List Value) : Value := match vs with
  | [v] => v
  | vs => .tuple vs.toArray
theorem c_ret' {rs : List ResultVar} {vs : List Value} (hrs : fn.results.toList = rs) (hF : Has n a F) (hS : St B H L w) (hr : ResV P F L rs vs) (hR : R (.returned (oneOf vs)) w) : bodyPost P fn R .ret a w := by
  refine ⟨hF.dfr, oneOf vs, ?_, hR⟩
  have h1 := hr.run hF hS
  unfold results
  have e : fn.results = rs.toArray := by rw [← hrs]
  rw [e, Sem.run_bind]
  simp only [List.mapM_toArray]
  rw [Sem.run_map]
  refine Eq.trans (congrArg (fun z => ((Result.andThen z fun a w' => Result.ok (List.toArray a) w').andThen fun a w' => Sem.run P (pure (if h : a.size = 1 then a[0] else Value.tuple a)) w')) h1) ?_
  match vs with
  | [] => rfl
  | [v] => rfl
  | v :: u :: t => simp [oneOf]
end
end Go.W

/-! Control; a region in whatever order. -/
namespace Go.W
open Go Go.RowKit
section
variable {P : Program} {Q : Exit → Act → World → Prop} {n d : Nat} {a : Act} {F : Fr} {w : World} {B : Base} {H : Froz} {L : List Blk} {G : Prop}

theorem c_seq {x y : Code} (h : ∀ K : Act → World → Prop, (∀ a w, y.wp P Q a w → K a w) → x.wp P (Exit.then K Q) a w) : (Code.seq x y).wp P Q a w := wp_seq_k h
theorem c_reg {id : Nat} {l : List Oper} (h : wpList P l.toArray Q l a w) : (Code.region id l.toArray false).wp P Q a w := wp_region_lit h
theorem c_true {c : Operand} {x y : Code} (hF : Has n a F) (hc : oev F c = some (.bool true)) (h : x.wp P Q a w) : (Code.cond c x y).wp P Q a w := wp_cond_true (hF.eval hc) h
theorem c_false {c : Operand} {x y : Code} (hF : Has n a F) (hc : oev F c = some (.bool false)) (h : y.wp P Q a w) : (Code.cond c x y).wp P Q a w := wp_cond_false (hF.eval hc) h
theorem c_block {id : Nat} {c : Code} (h : c.wp P (Exit.inBlock id Q) a w) : (Code.block id c).wp P Q a w := wp_block h
theorem c_exit {id : Nat} (h : Q (.exit id) a w) : (Code.exit id).wp P Q a w := wp_exit h
theorem c_ret (h : Q .ret a w) : Code.ret.wp P Q a w := wp_ret h

/-! case distinctions on a bool of the frame -/
theorem Has.setv (hF : Has n a F) {s : Nat} {v : Value} (hs : fget F s = some v) {u : Value} (h : v = u) : Has n a ((s, u) :: F) :=
  hF.sub fun t x ht => by
    simp only [fget] at ht
    by_cases e : s = t
    · subst e; simp only [nbeq_self, cond_true, Option.some.injEq] at ht; rw [hs, h, ht]
    · rw [nbeq_ne e] at ht; exact ht
theorem sp (hF : Has n a F) {s : Nat} {b : Bool} (hs : fget F s = some (.bool b)) (h1 : b = true → Has n a ((s, .bool true) :: F) → G) (h2 : b = false → Has n a ((s, .bool false) :: F) → G) : G := by
  cases b with
  | true => exact h1 rfl (hF.setv hs rfl)
  | false => exact h2 rfl (hF.setv hs rfl)
theorem spd (hF : Has n a F) {s : Nat} {p : Prop} [Decidable p] (hs : fget F s = some (.bool (decide p))) (h1 : p → Has n a ((s, .bool true) :: F) → G) (h2 : ¬ p → Has n a ((s, .bool false) :: F) → G) : G := by
  by_cases h : p
  · exact h1 h (hF.setv hs (by simp [h]))
  · exact h2 h (hF.setv hs (by simp [h]))
theorem spn (hF : Has n a F) {s : Nat} {p : Prop} [Decidable p] (hs : fget F s = some (.bool (!decide p))) (h1 : ¬ p → Has n a ((s, .bool true) :: F) → G) (h2 : p → Has n a ((s, .bool false) :: F) → G) : G := by
  by_cases h : p
  · exact h2 h (hF.setv hs (by simp [h]))
  · exact h1 h (hF.setv hs (by simp [h]))
/-- It is known what a slot holds: by another spelling. -/
theorem rw_ (hF : Has n a F) {s : Nat} {v u : Value} (hs : fget F s = some v) (h : v = u) (k : Has n a ((s, u) :: F) → G) : G := k (hF.setv hs h)
theorem spT (hF : Has n a F) {s : Nat} {p : Prop} [Decidable p] (hs : fget F s = some (.bool (decide p))) (h : p) (k : Has n a ((s, .bool true) :: F) → G) : G := k (hF.setv hs (by simp [h]))
theorem spF (hF : Has n a F) {s : Nat} {p : Prop} [Decidable p] (hs : fget F s = some (.bool (decide p))) (h : ¬ p) (k : Has n a ((s, .bool false) :: F) → G) : G := k (hF.setv hs (by simp [h]))

/-! loops -/
/-- What the frame knows of the slots that are not among W. -/
def rem (W : List Nat) : Fr → Fr
  | [] => []
  | p :: t => bif W.contains p.1 then rem W t else p :: rem W t
theorem fget_rem (W : List Nat) (F : Fr) : ∀ s v, fget (rem W F) s = some v → fget F s = some v := by
  induction F with
  | nil => intro s v h; simp [rem, fget] at h
  | cons p t ih =>
    intro s v h
    simp only [rem] at h
    by_cases e : p.1 = s
    · subst e
      cases hc : W.contains p.1 with
      | false =>
        rw [hc] at h
        simp only [cond_false, fget, nbeq_self, cond_true] at h
        simp only [fget, nbeq_self, cond_true]
        exact h
      | true =>
        exfalso
        rw [hc] at h
        simp only [cond_true] at h
        have key : ∀ (G : Fr) (v : Value), fget (rem W G) p.1 ≠ some v := by
          intro G
          induction G with
          | nil => intro v hv; simp [rem, fget] at hv
          | cons q t' ih' =>
            intro v hv
            simp only [rem] at hv
            cases hq : W.contains q.1 with
            | true => rw [hq] at hv; exact ih' v hv
            | false =>
              rw [hq] at hv
              simp only [cond_false, fget] at hv
              by_cases e2 : q.1 = p.1
              · rw [e2, hc] at hq; cases hq
              · rw [nbeq_ne e2] at hv; exact ih' v hv
        exact key t v h
    · simp only [fget, nbeq_ne e, cond_false]
      cases hc : W.contains p.1 with
      | false => rw [hc] at h; simp only [cond_false, fget, nbeq_ne e] at h; exact ih s v h
      | true => rw [hc] at h; exact ih s v h
theorem fget_rem_not {W : List Nat} {F : Fr} {s : Nat} {v : Value} (h : fget (rem W F) s = some v) : W.contains s = false := by
  induction F with
  | nil => simp [rem, fget] at h
  | cons q t ih =>
    simp only [rem] at h
    cases hq : W.contains q.1 with
    | true => rw [hq] at h; exact ih h
    | false =>
      rw [hq] at h
      simp only [cond_false, fget] at h
      by_cases e2 : q.1 = s
      · subst e2; exact hq
      · rw [nbeq_ne e2] at h; exact ih h
/-- F' holds what R holds, of the slots that are not among W. -/
def Ext (W : List Nat) (R F' : Fr) : Prop := ∀ s v, W.contains s = false → fget R s = some v → fget F' s = some v
theorem Ext.refl (W : List Nat) (R : Fr) : Ext W R R := fun _ _ _ h => h
theorem Ext.push {W : List Nat} {R F' : Fr} {p : Nat × Value} (hp : W.contains p.1 = true) (h : Ext W R F') : Ext W R (p :: F') := fun s v hs hv => by
  simp only [fget]
  by_cases e : p.1 = s
  · subst e; rw [hp] at hs; cases hs
  · rw [nbeq_ne e]; exact h s v hs hv
theorem fget_rem_of {W : List Nat} : ∀ {F : Fr} {s : Nat}, W.contains s = false → fget (rem W F) s = fget F s
  | [], _, _ => rfl
  | p :: t, s, h => by
    simp only [rem, fget]
    by_cases e : p.1 = s
    · subst e
      rw [h]
      simp [fget, nbeq_self]
    · rw [nbeq_ne e]
      simp only [cond_false]
      cases hc : W.contains p.1 with
      | true => simp only [cond_true]; exact fget_rem_of h
      | false => simp only [cond_false, fget, nbeq_ne e]; exact fget_rem_of h
theorem Ext.rem' {W W2 : List Nat} {R F' : Fr} (hW : (W2.all fun s => W.contains s) = true) (h : Ext W R F') : Ext W R (rem W2 F') := fun s v hs hv => by
  have h2 : W2.contains s = false := by
    cases hc : W2.contains s with
    | false => rfl
    | true =>
      have := List.all_eq_true.1 hW s (List.contains_iff_mem.1 hc)
      rw [hs] at this; cases this
  rw [fget_rem_of h2]
  exact h s v hs hv
theorem Ext.app {W : List Nat} {R : Fr} : ∀ {X : Fr}, (X.all fun p => W.contains p.1) = true → Ext W R (X ++ R)
  | [], _ => Ext.refl W R
  | p :: X, h => by
    simp only [List.all_cons, Bool.and_eq_true] at h
    exact Ext.push h.1 (Ext.app h.2)
theorem AllIn.append {F X Y : Fr} (h1 : AllIn F X) (h2 : ∀ s v, fget Y s = some v → fget F s = some v) : ∀ s v, fget (X ++ Y) s = some v → fget F s = some v := by
  induction X with
  | nil => exact h2
  | cons p t ih =>
    intro s v hs
    simp only [List.cons_append, fget] at hs
    by_cases e : p.1 = s
    · subst e; simp only [nbeq_self, cond_true, Option.some.injEq] at hs; subst hs; exact h1.1
    · rw [nbeq_ne e] at hs; exact ih h1.2 s v hs
/-- The frame at a loop's head: the named slots as told, what the body doesn't write as it was. -/
theorem Has.head (hF : Has n a F) {W : List Nat} {X : Fr} (hX : AllIn F X) : Has n a (X ++ rem W F) := hF.sub (hX.append (fget_rem W F))
theorem Has.back {W : List Nat} {X X' F0 F' : Fr} {a' : Act} (hF : Has n a' F') (hX : AllIn F' X') (hW : (X.all fun p => W.contains p.1) = true) (he : Ext W (X ++ rem W F0) F') : Has n a' (X' ++ rem W F0) :=
  hF.sub (hX.append fun s v h => he s v (fget_rem_not h) (Ext.app hW s v (fget_rem_not h) h))

theorem c_loop {c : Code} (I : Act → World → Nat → Prop) (m : Nat) (h0 : I a w m)
    (hr : ∀ a w m, I a w m → c.wp P (Exit.then (fun a' w' => ∃ m', m' < m ∧ I a' w' m') Q) a w) : (Code.loop c).wp P Q a w := by
  intro b k cs
  have key : ∀ m a w, I a w m → ∃ e a' w', Q e a' w' ∧ Arrives P (lone (b.at a (.code c :: .inLoop c :: k)) cs w) b k cs e a' w' := by
    intro m
    induction m using Nat.strongRecOn with
    | _ m ih =>
      intro a w hI
      obtain ⟨e, a₁, w₁, hq, harr⟩ := hr a w m hI b (.inLoop c :: k) cs
      cases e with
      | normal =>
        obtain ⟨m', hlt, hI'⟩ := hq
        obtain ⟨e, a', w', hq', harr'⟩ := ih m' hlt a₁ w₁ hI'
        exact ⟨e, a', w', hq', .of_steps (Steps.trans harr (.one step_inLoop)) harr'⟩
      | exit id => exact ⟨_, a₁, w₁, hq, .pass (x := .inLoop c) rfl (fun _ _ => .inl (by simp)) harr⟩
      | goto l => exact ⟨_, a₁, w₁, hq, .pass (x := .inLoop c) rfl (fun _ _ => .inl (by simp)) harr⟩
      | ret => exact ⟨_, a₁, w₁, hq, .pass (x := .inLoop c) rfl (fun _ _ => .inl (by simp)) harr⟩
      | panic ch => exact ⟨_, a₁, w₁, hq, .pass (x := .inLoop c) rfl (fun _ _ => .inl (by simp)) harr⟩
      | outgrown => exact ⟨_, a₁, w₁, hq, .pass (x := .inLoop c) rfl (fun _ _ => .inl (by simp)) harr⟩
  obtain ⟨e, a', w', hq, harr⟩ := key m a w h0
  exact ⟨e, a', w', hq, .of_steps (.one step_loop) harr⟩
end

end Go.W

/-! A region in whatever order, whose last operations write: a state S is held till these begin. -/
namespace Go.W
open Go Go.RowKit
section
variable {P : Program} {ops : Array Oper} {Q : Exit → Act → World → Prop} {md : Region.Mode} {S : World → Prop} {Ls : List Nat}
/-- Whatever order is picked from here on; S holds behind every operation that is not among Ls. -/
def wpAnyL (P : Program) (md : Region.Mode) (ops : Array Oper) (Q : Exit → Act → World → Prop) (S : World → Prop) (Ls : List Nat) : Nat → Array Bool → Act → World → Prop
  | 0, listed, a, w => Region.ready md ops listed = [] ∧ Q .normal a w
  | fuel + 1, listed, a, w =>
    (Region.ready md ops listed = [] → Q .normal a w) ∧
    ∀ i ∈ Region.ready md ops listed, wpOp P ops Q i (fun a' w' => (Ls.contains i = false → S w') ∧ wpAnyL P md ops Q S Ls fuel (listed.setIfInBounds i true) a' w') a w
theorem wpAny_of_L : ∀ (fuel : Nat) (listed : Array Bool) (a : Act) (w : World), wpAnyL P md ops Q S Ls fuel listed a w → wpAny P md ops Q fuel listed a w
  | 0, _, _, _, h => h
  | fuel + 1, _, _, _, h => ⟨h.1, fun i hi => wpOp_mono (fun a' w' h' => wpAny_of_L fuel _ a' w' h'.2) (h.2 i hi)⟩
/-- Those that come behind number i, for sure: they lead back to it. -/
def Behind (md : Region.Mode) (ops : Array Oper) (listed : Array Bool) (i : Nat) (D : List Nat) : Prop :=
  ∀ j ∈ D, listed.getD j true = false ∧ ∃ oj, ops[j]? = some oj ∧ ∃ e ∈ oj.after, Region.binds md e = true ∧ (e.on = i ∨ e.on ∈ D)
theorem wpAnyL_first {S0 : World → Prop} {i : Nat} {oi : Oper} {v : Value} {D : List Nat} (hi : ops[i]? = some oi) (hsel : ∀ (j : Nat) (o : Oper) cs b, ops[j]? = some o → o.op ≠ .select cs b)
    (hQ : ∀ c a w, Q (.panic c) (a.put oi.dst v) w → Q (.panic c) a w) (hS0 : ∀ w, S w → S0 w) :
    ∀ (fuel : Nat) (listed : Array Bool) (a : Act) (w : World), Behind md ops listed i D →
      (∀ j oj, ops[j]? = some oj → j ≠ i → listed.getD j true = false → j ∉ D → oi.apart ops oj = true ∧ (Ls.contains j = true → Ls.contains i = true ∧ ∀ w, S0 w)) →
      i ∈ Region.ready md ops listed → YieldsIf P ops S0 oi v a → S0 w → (Ls.contains i = false → S w) →
      wpAnyL P md ops Q S Ls fuel (listed.setIfInBounds i true) (a.put oi.dst v) w → wpAnyL P md ops Q S Ls (fuel + 1) listed a w := by
  have notD : ∀ (listed : Array Bool), Behind md ops listed i D → i ∈ Region.ready md ops listed → ∀ j ∈ Region.ready md ops listed, j ∉ D := by
    intro listed hD hr j hj hjD
    obtain ⟨_, oj, hoj, hall⟩ := mem_ready.1 hj
    obtain ⟨_, oj', hoj', e, he, hb, hon⟩ := hD j hjD
    obtain rfl := Option.some.inj (hoj.symm.trans hoj')
    have h1 := hall e he hb
    have h0 : listed.getD e.on true = false := by
      rcases hon with h | h
      · rw [h]; exact (mem_ready.1 hr).1
      · exact (hD _ h).1
    rcases Nat.lt_or_ge e.on listed.size with h' | h'
    · simp [h'] at h0 h1; rw [h0] at h1; cases h1
    · simp [Array.getElem?_eq_none h'] at h1
  intro fuel
  induction fuel with
  | zero =>
    intro listed a w _ _ hr hy hS hSi H
    refine ⟨fun h => (by rw [h] at hr; cases hr), fun j hj => ?_⟩
    by_cases hji : j = i
    · subst hji; exact hy.wpOp hi hS ⟨hSi, H⟩
    · have := ready_mono hj hji
      rw [H.1] at this
      cases this
  | succ fuel ih =>
    intro listed a w hD hfree hr hy hS hSi H
    refine ⟨fun h => (by rw [h] at hr; cases hr), fun j hj => ?_⟩
    by_cases hji : j = i
    · subst hji; exact hy.wpOp hi hS ⟨hSi, H⟩
    · have h1 := H.2 j (ready_mono hj hji)
      have hjD := notD listed hD hr j hj
      obtain ⟨hjun, oj, hoj, hall⟩ := mem_ready.1 hj
      obtain ⟨hap, hkeep⟩ := hfree j oj hoj hji hjun hjD
      have h2 := wpOp_putIf hoj hap (fun cs b => hsel i oi cs b hi) (fun cs b => hsel j oj cs b hoj) hQ hy h1
      have hD' : Behind md ops (listed.setIfInBounds j true) i D := fun k hk => by
        have hne : j ≠ k := fun e => hjD (e ▸ hk)
        obtain ⟨h1, h2⟩ := hD k hk
        exact ⟨by rw [getD_set_ne true hne]; exact h1, h2⟩
      have hfree' : ∀ k ok, ops[k]? = some ok → k ≠ i → (listed.setIfInBounds j true).getD k true = false → k ∉ D →
          oi.apart ops ok = true ∧ (Ls.contains k = true → Ls.contains i = true ∧ ∀ w, S0 w) := fun k ok hk hki hun hno => by
        refine hfree k ok hk hki ?_ hno
        by_cases hjk : j = k
        · subst hjk; exact hjun
        · rw [getD_set_ne true hjk] at hun; exact hun
      refine wpOp_mono (fun a' w' h3 => ⟨h3.2.1, ?_⟩) h2
      have hb : S0 w' ∧ (Ls.contains i = false → S w') := by
        cases hlj : Ls.contains j with
        | false => exact ⟨hS0 _ (h3.2.1 hlj), fun _ => h3.2.1 hlj⟩
        | true => exact ⟨(hkeep hlj).2 w', fun h => by rw [(hkeep hlj).1] at h; cases h⟩
      refine ih (listed.setIfInBounds j true) a' w' hD' hfree' (ready_mono hr (Ne.symm hji)) h3.1 hb.1 hb.2 ?_
      rw [Array.setIfInBounds_comm _ _ hji]
      exact h3.2.2
/-- Those behind number i, gathered from the left to the right. -/
def behindL (md : Region.Mode) (ops : Array Oper) (listed : Array Bool) (i : Nat) : List Nat :=
  (List.range ops.size).foldl (fun D j => bif !listed.getD j true && (match ops[j]? with | some oj => oj.after.any (fun e => Region.binds md e && (e.on == i || D.contains e.on)) | none => false) then j :: D else D) []
theorem behindL_spec (md : Region.Mode) (ops : Array Oper) (listed : Array Bool) (i : Nat) : Behind md ops listed i (behindL md ops listed i) := by
  unfold behindL
  generalize List.range ops.size = l
  have key : ∀ (l : List Nat) (D : List Nat), Behind md ops listed i D → Behind md ops listed i (l.foldl (fun D j => bif !listed.getD j true && (match ops[j]? with | some oj => oj.after.any (fun e => Region.binds md e && (e.on == i || D.contains e.on)) | none => false) then j :: D else D) D) := by
    intro l
    induction l with
    | nil => intro D hD; exact hD
    | cons j t ih =>
      intro D hD
      rw [List.foldl_cons]
      refine ih _ ?_
      cases hc : (!listed.getD j true && (match ops[j]? with | some oj => oj.after.any (fun e => Region.binds md e && (e.on == i || D.contains e.on)) | none => false)) with
      | false => exact hD
      | true =>
        simp only [cond_true]
        have weak : ∀ k ∈ D, listed.getD k true = false ∧ ∃ ok, ops[k]? = some ok ∧ ∃ e ∈ ok.after, Region.binds md e = true ∧ (e.on = i ∨ e.on ∈ j :: D) := fun k hk => by
          obtain ⟨h1, ok, h2, e, h3, h4, h5⟩ := hD k hk
          exact ⟨h1, ok, h2, e, h3, h4, h5.imp id (List.mem_cons_of_mem _)⟩
        intro k hk
        rcases List.mem_cons.1 hk with rfl | hk
        · simp only [Bool.and_eq_true, Bool.not_eq_true'] at hc
          refine ⟨hc.1, ?_⟩
          cases ho : ops[k]? with
          | none => rw [ho] at hc; cases hc.2
          | some ok =>
            rw [ho] at hc
            have h2 := hc.2
            simp only [Array.any_eq_true] at h2
            obtain ⟨p, hp, h3⟩ := h2
            simp only [Bool.and_eq_true, Bool.or_eq_true, beq_iff_eq, List.contains_iff_mem] at h3
            exact ⟨ok, rfl, _, Array.getElem_mem hp, h3.1, h3.2.imp id (List.mem_cons_of_mem _)⟩
        · exact weak k hk
  exact key l [] (fun j hj => by cases hj)
/-- Whether number i may be taken first, as a Bool: nobody that could come before it touches its slots, or is among Ls. -/
def freeL (md : Region.Mode) (ops : Array Oper) (Ls : List Nat) (listed : Array Bool) (i : Nat) : Bool :=
  match ops[i]? with
  | none => false
  | some oi => (fun D : List Nat => (List.range ops.size).all fun j => j == i || listed.getD j true || D.contains j || match ops[j]? with
      | some oj => oi.apart ops oj && (!(Ls.contains j) || Ls.contains i)
      | none => true) (behindL md ops listed i)
theorem freeL_spec {i : Nat} {oi : Oper} {listed : Array Bool} (hi : ops[i]? = some oi) (h : freeL md ops Ls listed i = true) (j : Nat) (oj : Oper)
    (hj : ops[j]? = some oj) (hne : j ≠ i) (hun : listed.getD j true = false) (hno : j ∉ behindL md ops listed i) :
    oi.apart ops oj = true ∧ (Ls.contains j = true → Ls.contains i = true) := by
  unfold freeL at h
  simp only [hi, List.all_eq_true, List.mem_range] at h
  have hjlt : j < ops.size := (Array.getElem?_eq_some_iff.1 hj).1
  have h1 := h j hjlt
  have hno' : (behindL md ops listed i).contains j = false := by
    cases hc : (behindL md ops listed i).contains j with
    | false => rfl
    | true => exact absurd (List.contains_iff_mem.1 hc) hno
  simp only [hj, hun, hno', Bool.or_false, Bool.or_eq_true, beq_iff_eq, hne, false_or, Bool.and_eq_true, Bool.not_eq_true'] at h1
  refine ⟨h1.1, fun hc => ?_⟩
  rcases h1.2 with h2 | h2
  · rw [h2] at hc; cases hc
  · exact h2
end

section
variable {P : Program} {ops : Array Oper} {Q : Exit → Act → World → Prop} {n d i fuel : Nat} {a : Act} {F : Fr} {w : World} {B : Base} {H : Froz} {L : List Blk} {listed : Array Bool}
  {op : Op} {ty : TypeId} {pos : String} {after : Array Edge} {v : Value} {S S' : World → Prop} {Ls : List Nat}
theorem r_start {id : Nat} {l : List Oper} (f : List Blk → List Blk) (Ls : List Nat) (hm : P.follows .mixedOrders = true) (hS : St B H L w)
    (h : ∀ w, St B H L w → wpAnyL P .any l.toArray Q (St B H (f L)) Ls l.toArray.size (Array.replicate l.toArray.size false) a w) : (Code.region id l.toArray true).wp P Q a w :=
  wp_region_any hm (wpAny_of_L _ _ _ _ (h _ hS.drawn))
/-- From here on the state that is held is another, that says more. -/
theorem r_hold (hs : ∀ w, S' w → S w) : ∀ (fuel : Nat) (listed : Array Bool) (a : Act) (w : World), wpAnyL P .any ops Q S' Ls fuel listed a w → wpAnyL P .any ops Q S Ls fuel listed a w
  | 0, _, _, _, h => h
  | fuel + 1, _, _, _, h => ⟨h.1, fun i hi => wpOp_mono (fun a' w' h' => ⟨fun hl => hs _ (h'.1 hl), r_hold hs fuel _ a' w' h'.2⟩) (h.2 i hi)⟩
/-- A quiet operation that leans on what is held. -/
theorem r_q (hi : ops[i]? = some ⟨some d, op, ty, pos, after, none⟩) (hl : Ls.contains i = false)
    (hF : Has n a F) (hS : S w) (q : Qt P S F op ty v) (hd : Nat.blt d n = true)
    (k : ∀ a', Has n a' ((d, v) :: F) → wpAnyL P .any ops Q S Ls fuel (listed.setIfInBounds i true) a' w)
    (hs : Region.noSelect ops = true := by kernel_rfl) (hf : freeL .any ops Ls listed i = true := by kernel_rfl) (hr : (Region.ready .any ops listed).contains i = true := by kernel_rfl)
    (hQ : ∀ c a u w, Q (.panic c) (a.put (some d) u) w → Q (.panic c) a w := by exact fun _ _ _ _ h => h) : wpAnyL P .any ops Q S Ls (fuel + 1) listed a w :=
  wpAnyL_first (S0 := S) hi (Region.noSelect_spec hs) (fun c a w h => hQ c a v w h) (fun _ h => h) fuel listed a w (behindL_spec _ _ _ _)
    (fun j oj hj hne hun hno => ⟨(freeL_spec hi hf j oj hj hne hun hno).1, fun hc => by have := (freeL_spec hi hf j oj hj hne hun hno).2 hc; rw [hl] at this; cases this⟩)
    (by simpa using hr) (.inl ⟨by simp [Region.wanted], fun w' hS' => q a.eval (fun x u h => hF.eval h) w' hS' _ _ _ _⟩) hS (fun _ => hS) (k _ (hF.put hd v))
theorem r_qg {gb : Nat × Bool} (hi : ops[i]? = some ⟨some d, op, ty, pos, after, some gb⟩) (hl : Ls.contains i = false)
    (hF : Has n a F) (hS : S w) (hg : gval ops F gb.1 = some (.bool gb.2)) (q : Qt P S F op ty v) (hd : Nat.blt d n = true)
    (k : ∀ a', Has n a' ((d, v) :: F) → wpAnyL P .any ops Q S Ls fuel (listed.setIfInBounds i true) a' w)
    (hs : Region.noSelect ops = true := by kernel_rfl) (hf : freeL .any ops Ls listed i = true := by kernel_rfl) (hr : (Region.ready .any ops listed).contains i = true := by kernel_rfl)
    (hQ : ∀ c a u w, Q (.panic c) (a.put (some d) u) w → Q (.panic c) a w := by exact fun _ _ _ _ h => h) : wpAnyL P .any ops Q S Ls (fuel + 1) listed a w :=
  wpAnyL_first (S0 := S) hi (Region.noSelect_spec hs) (fun c a w h => hQ c a v w h) (fun _ h => h) fuel listed a w (behindL_spec _ _ _ _)
    (fun j oj hj hne hun hno => ⟨(freeL_spec hi hf j oj hj hne hun hno).1, fun hc => by have := (freeL_spec hi hf j oj hj hne hun hno).2 hc; rw [hl] at this; cases this⟩)
    (by simpa using hr) (.inl ⟨by rw [wanted_of rfl hF hg]; simp, fun w' hS' => q a.eval (fun x u h => hF.eval h) w' hS' _ _ _ _⟩) hS (fun _ => hS) (k _ (hF.put hd v))
theorem r_no {gb : Nat × Bool} {b : Bool} (hi : ops[i]? = some ⟨some d, op, ty, pos, after, some gb⟩) (hl : Ls.contains i = false)
    (hF : Has n a F) (hS : S w) (hg : gval ops F gb.1 = some (.bool b)) (hb : (b == gb.2) = false) (hd : Nat.blt d n = true)
    (k : ∀ a', Has n a' ((d, undef) :: F) → wpAnyL P .any ops Q S Ls fuel (listed.setIfInBounds i true) a' w)
    (hs : Region.noSelect ops = true := by kernel_rfl) (hf : freeL .any ops Ls listed i = true := by kernel_rfl) (hr : (Region.ready .any ops listed).contains i = true := by kernel_rfl)
    (hQ : ∀ c a u w, Q (.panic c) (a.put (some d) u) w → Q (.panic c) a w := by exact fun _ _ _ _ h => h) : wpAnyL P .any ops Q S Ls (fuel + 1) listed a w :=
  wpAnyL_first (S0 := S) hi (Region.noSelect_spec hs) (fun c a w h => hQ c a undef w h) (fun _ h => h) fuel listed a w (behindL_spec _ _ _ _)
    (fun j oj hj hne hun hno => ⟨(freeL_spec hi hf j oj hj hne hun hno).1, fun hc => by have := (freeL_spec hi hf j oj hj hne hun hno).2 hc; rw [hl] at this; cases this⟩)
    (by simpa using hr) (.inr ⟨by rw [wanted_of rfl hF hg, hb], rfl⟩) hS (fun _ => hS) (k _ (hF.put hd undef))
theorem r_nou {gb : Nat × Bool} (hi : ops[i]? = some ⟨some d, op, ty, pos, after, some gb⟩) (hl : Ls.contains i = false)
    (hF : Has n a F) (hS : S w) (hg : gval ops F gb.1 = some undef) (hd : Nat.blt d n = true)
    (k : ∀ a', Has n a' ((d, undef) :: F) → wpAnyL P .any ops Q S Ls fuel (listed.setIfInBounds i true) a' w)
    (hs : Region.noSelect ops = true := by kernel_rfl) (hf : freeL .any ops Ls listed i = true := by kernel_rfl) (hr : (Region.ready .any ops listed).contains i = true := by kernel_rfl)
    (hQ : ∀ c a u w, Q (.panic c) (a.put (some d) u) w → Q (.panic c) a w := by exact fun _ _ _ _ h => h) : wpAnyL P .any ops Q S Ls (fuel + 1) listed a w :=
  wpAnyL_first (S0 := S) hi (Region.noSelect_spec hs) (fun c a w h => hQ c a undef w h) (fun _ h => h) fuel listed a w (behindL_spec _ _ _ _)
    (fun j oj hj hne hun hno => ⟨(freeL_spec hi hf j oj hj hne hun hno).1, fun hc => by have := (freeL_spec hi hf j oj hj hne hun hno).2 hc; rw [hl] at this; cases this⟩)
    (by simpa using hr) (.inr ⟨wanted_undef rfl hF hg, rfl⟩) hS (fun _ => hS) (k _ (hF.put hd undef))
/-- A quiet operation that leans on nothing, among Ls. -/
theorem r_qL (hi : ops[i]? = some ⟨some d, op, ty, pos, after, none⟩) (hl : Ls.contains i = true)
    (hF : Has n a F) (q : Qt P (fun _ => True) F op ty v) (hd : Nat.blt d n = true)
    (k : ∀ a', Has n a' ((d, v) :: F) → wpAnyL P .any ops Q S Ls fuel (listed.setIfInBounds i true) a' w)
    (hs : Region.noSelect ops = true := by kernel_rfl) (hf : freeL .any ops Ls listed i = true := by kernel_rfl) (hr : (Region.ready .any ops listed).contains i = true := by kernel_rfl)
    (hQ : ∀ c a u w, Q (.panic c) (a.put (some d) u) w → Q (.panic c) a w := by exact fun _ _ _ _ h => h) : wpAnyL P .any ops Q S Ls (fuel + 1) listed a w :=
  wpAnyL_first (S0 := fun _ => True) hi (Region.noSelect_spec hs) (fun c a w h => hQ c a v w h) (fun _ _ => trivial) fuel listed a w (behindL_spec _ _ _ _)
    (fun j oj hj hne hun hno => ⟨(freeL_spec hi hf j oj hj hne hun hno).1, fun _ => ⟨hl, fun _ => trivial⟩⟩)
    (by simpa using hr) (.inl ⟨by simp [Region.wanted], fun w' hS' => q a.eval (fun x u h => hF.eval h) w' hS' _ _ _ _⟩) trivial (fun h => (by rw [hl] at h; cases h)) (k _ (hF.put hd v))
/-- A loud operation that comes up: behind it, if it is not among Ls, the new state says more than the old. -/
theorem r_li {o : Oper} (hi : ops[i]? = some o) (hg : o.guard = none)
    (h : ∀ K : Act → World → Prop, (∀ (S' : World → Prop) a' w', S' w' → (∀ w, S' w → S w) → wpAnyL P .any ops Q S' Ls fuel (listed.setIfInBounds i true) a' w' → K a' w') → o.wp P a w K Q) :
    wpOp P ops Q i (fun a' w' => (Ls.contains i = false → S w') ∧ wpAnyL P .any ops Q S Ls fuel (listed.setIfInBounds i true) a' w') a w := by
  unfold wpOp
  simp only [hi]
  rw [if_pos (by simp [Region.wanted, hg])]
  exact .inl (h _ fun S' a' w' h1 hss h3 => ⟨fun _ => hss _ h1, r_hold hss _ _ _ _ h3⟩)
theorem r_lL {o : Oper} (hi : ops[i]? = some o) (hl : Ls.contains i = true) (hg : o.guard = none)
    (h : ∀ K : Act → World → Prop, (∀ a' w', wpAnyL P .any ops Q S Ls fuel (listed.setIfInBounds i true) a' w' → K a' w') → o.wp P a w K Q) :
    wpOp P ops Q i (fun a' w' => (Ls.contains i = false → S w') ∧ wpAnyL P .any ops Q S Ls fuel (listed.setIfInBounds i true) a' w') a w := by
  unfold wpOp
  simp only [hi]
  rw [if_pos (by simp [Region.wanted, hg])]
  exact .inl (h _ fun a' w' h3 => ⟨fun h => (by rw [hl] at h; cases h), h3⟩)
/-- One alone may come up. -/
theorem r_one (hr : Region.ready .any ops listed = [i])
    (h : wpOp P ops Q i (fun a' w' => (Ls.contains i = false → S w') ∧ wpAnyL P .any ops Q S Ls fuel (listed.setIfInBounds i true) a' w') a w) : wpAnyL P .any ops Q S Ls (fuel + 1) listed a w :=
  ⟨fun h0 => (by rw [hr] at h0; cases h0), fun j hj => (by rw [hr] at hj; obtain rfl := List.mem_singleton.1 hj; exact h)⟩
/-- Two may. -/
theorem r_two {j : Nat} (hr : Region.ready .any ops listed = [i, j])
    (h : wpOp P ops Q i (fun a' w' => (Ls.contains i = false → S w') ∧ wpAnyL P .any ops Q S Ls fuel (listed.setIfInBounds i true) a' w') a w)
    (h' : wpOp P ops Q j (fun a' w' => (Ls.contains j = false → S w') ∧ wpAnyL P .any ops Q S Ls fuel (listed.setIfInBounds j true) a' w') a w) : wpAnyL P .any ops Q S Ls (fuel + 1) listed a w :=
  ⟨fun h0 => (by rw [hr] at h0; cases h0), fun k hk => (by
    rw [hr] at hk
    rcases List.mem_cons.1 hk with rfl | hk
    · exact h
    · obtain rfl := List.mem_singleton.1 hk; exact h')⟩
theorem r_three {j l : Nat} (hr : Region.ready .any ops listed = [i, j, l])
    (h : wpOp P ops Q i (fun a' w' => (Ls.contains i = false → S w') ∧ wpAnyL P .any ops Q S Ls fuel (listed.setIfInBounds i true) a' w') a w)
    (h' : wpOp P ops Q j (fun a' w' => (Ls.contains j = false → S w') ∧ wpAnyL P .any ops Q S Ls fuel (listed.setIfInBounds j true) a' w') a w)
    (h'' : wpOp P ops Q l (fun a' w' => (Ls.contains l = false → S w') ∧ wpAnyL P .any ops Q S Ls fuel (listed.setIfInBounds l true) a' w') a w) : wpAnyL P .any ops Q S Ls (fuel + 1) listed a w :=
  ⟨fun h0 => (by rw [hr] at h0; cases h0), fun k hk => (by
    rw [hr] at hk
    rcases List.mem_cons.1 hk with rfl | hk
    · exact h
    · rcases List.mem_cons.1 hk with rfl | hk
      · exact h'
      · obtain rfl := List.mem_singleton.1 hk; exact h'')⟩
theorem r_done (hr : Region.ready .any ops listed = []) (h : Q .normal a w) : ∀ {fuel}, wpAnyL P .any ops Q S Ls fuel listed a w
  | 0 => ⟨hr, h⟩
  | _ + 1 => ⟨fun _ => h, by rw [hr]; simp⟩
/-- What is held of the state behind a new block, a call. -/
theorem St.weak_cons {x : Blk} (h : St B H (x :: L) w) : St B H L w := h.lose (List.sublist_cons_self _ _)
end
end Go.W

/-! A loop with its frame and its state; whole blocks. -/
namespace Go.W
open Go Go.RowKit
/-- L with new cells in some of its blocks. -/
def upL (L : List Blk) : List (Nat × List Value) → List Blk
  | [] => L
  | p :: t => upL (L.modify p.1 fun x => ⟨x.b, p.2, x.T⟩) t
section
variable {P : Program} {Q : Exit → Act → World → Prop} {n d : Nat} {a : Act} {F : Fr} {w : World} {B : Base} {H : Froz} {L : List Blk}
theorem c_loopS {γ : Type} {c : Code} (hF : Has n a F) (W : List Nat) (X : γ → Fr) (u : γ → List (Nat × List Value)) (J : γ → Froz → Prop) (μ : γ → Nat) (g : γ)
    (h0 : AllIn F (X g)) (hL : St B H (upL L (u g)) w) (hJ : J g H)
    (hr : ∀ g a w H', Le H H' → Has n a (X g ++ rem W F) → St B H' (upL L (u g)) w → J g H' →
      c.wp P (Exit.then (fun a' w' => ∃ g' H'', μ g' < μ g ∧ Le H' H'' ∧ Has n a' (X g' ++ rem W F) ∧ St B H'' (upL L (u g')) w' ∧ J g' H'') Q) a w) : (Code.loop c).wp P Q a w := by
  refine c_loop (fun a w m => ∃ g H', m = μ g ∧ Le H H' ∧ Has n a (X g ++ rem W F) ∧ St B H' (upL L (u g)) w ∧ J g H') (μ g) ⟨g, H, rfl, Le.refl H, hF.head h0, hL, hJ⟩ ?_
  rintro a w m ⟨g, H', rfl, hle, hF', hS', hJ'⟩
  refine Code.wp_mono ?_ (hr g a w H' hle hF' hS' hJ')
  intro e a' w' hq
  cases e with
  | normal =>
    obtain ⟨g', H'', h1, h2, h3, h4, h5⟩ := hq
    exact ⟨μ g', h1, g', H'', rfl, hle.trans h2, h3, h4, h5⟩
  | _ => exact hq
end
section
variable {P : Program} {ops : Array Oper} {Q : Exit → Act → World → Prop} {rest : List Oper} {n d : Nat} {a : Act} {F : Fr} {w : World} {B : Base} {H : Froz} {L : List Blk}
  {ty T : TypeId} {pos : String} {after : Array Edge} {v : Value} {x y : Operand} {K : Act → World → Prop} {g : Option (Nat × Bool)} {agg : Bool} {sz : Nat}
/-- A whole block, stored. -/
theorem l_store0 {i b : Nat} {cs vs : List Value} {T' : TypeId} {u : Value} (ht : tyS P T = some (agg, sz)) (hF : Has n a F) (hS : St B H L w) (hx : oev F x = some (.pointer (some ⟨b, 0, none⟩))) (hy : oev F y = some u)
    (hi : L[i]? = some ⟨b, cs, T'⟩) (hc : u.cells.toList = vs) (hl : vs.length = sz) (hb : cs.length = sz) (h1 : all1 vs = true)
    (k : ∀ a' w', Has n a' F → St B H (L.set i ⟨b, vs, T'⟩) w' → K a' w') : (⟨none, .store T x y, ty, pos, after, g⟩ : Oper).wp P a w K Q := by
  refine l_store ht hF hS hx hy hi hc (by rw [hl]; exact nbeq_self _) (by rw [Nat.ble_eq]; omega) h1 (fun a' w' h2 h3 => k a' w' h2 ?_)
  have e : spl cs 0 vs = vs := by
    unfold spl
    rw [List.drop_eq_nil_of_le (by omega)]
    simp
  rwa [e] at h3
theorem q_load0 {i b : Nat} {cs : List Value} {T' : TypeId} (ht : tyS P T = some (true, sz)) (hx : oev F x = some (.pointer (some ⟨b, 0, none⟩))) (hi : L[i]? = some ⟨b, cs, T'⟩) (hb : cs.length = sz) (h0 : Nat.blt 0 sz = true) : Qt P (St B H L) F (.load T x) ty (.agg cs.toArray) :=
  q_load ht hx hi (by rw [Nat.ble_eq]; omega) h0 (by simp only [ldv, List.drop_zero, cond_true]; rw [List.take_of_length_le (by omega)])
theorem ResV.cell0 {t : Tmp} {T T' : TypeId} {sz b i : Nat} {cs : List Value} {rs : List ResultVar} {vs : List Value} (hx : fget F t = some (.pointer (some ⟨b, 0, none⟩))) (ht : tyS P T = some (true, sz)) (hi : L[i]? = some ⟨b, cs, T'⟩)
    (hb : cs.length = sz) (h0 : Nat.blt 0 sz = true) (r : ResV P F L rs vs) : ResV P F L (.cell t T :: rs) (.agg cs.toArray :: vs) :=
  .cell hx ht hi (by rw [Nat.ble_eq]; omega) h0 (by simp only [ldv, List.drop_zero, cond_true]; rw [List.take_of_length_le (by omega)]) r
end
theorem Le.mono {H H' H'' : Froz} (h : Le H H') (h2 : Le H' H'') : Le H H'' := h.trans h2
def Fz (H : Froz) (w : World) : Prop := ∀ k o, H k = some o → w.heap[k]? = some o
theorem St.fz {B : Base} {H : Froz} {L : List Blk} {w : World} (h : St B H L w) : Fz H w := h.froz
/-- What a call that hands back no memory leaves. -/
theorem St.same {w w' : World} {H H' : Froz} {L : List Blk} (h : St ⟨w, H, []⟩ H' L w') : St ⟨w, H, []⟩ H [] w' := (h.forget (Le.refl H) h.sub).nil
theorem St.call0 {B : Base} {H : Froz} {L : List Blk} {w w' : World} (h : St B H L w) (hc : St ⟨w, H, []⟩ H [] w') : St B H L w' := h.call hc
end Go.W

/-! More quiet operations; slices read element by element. -/
namespace Go.W
open Go Go.RowKit
section
variable {P : Program} {Q : Exit → Act → World → Prop} {n d : Nat} {a : Act} {F : Fr} {w : World} {B : Base} {H : Froz} {L : List Blk} {fn : Func} {R : Ending → World → Prop}
theorem c_norm {rs : List ResultVar} {vs : List Value} (hrs : fn.results.toList = rs) (hF : Has n a F) (hS : St B H L w) (hr : ResV P F L rs vs) (hR : R (.returned (oneOf vs)) w) : bodyPost P fn R .normal a w :=
  c_ret' (R := R) hrs hF hS hr hR
theorem ret_then {K : Act → World → Prop} (h : Q .ret a w) : Exit.then K Q .ret a w := h
theorem ret_blk {id : Nat} (h : Q .ret a w) : Exit.inBlock id Q .ret a w := h
end
/-- A slice's elements, each by its cells. -/
structure RdL (H : Froz) (a : Option Addr) (k : Nat) (els : List (List Value)) : Prop where
  rd : RdS H a els.length k els.flatten
  each : ∀ e ∈ els, e.length = k
theorem RdL.mono {H H' : Froz} {a : Option Addr} {k : Nat} {els : List (List Value)} (h : RdL H a k els) (hle : Le H H') : RdL H' a k els := ⟨h.rd.mono hle, h.each⟩
theorem RdL.some {H : Froz} {a : Option Addr} {k : Nat} {els : List (List Value)} (h : RdL H a k els) (hn : 0 < els.length) : a ≠ none := h.rd.some hn
theorem RdL.nil (H : Froz) (a : Option Addr) (k : Nat) : RdL H a k [] := ⟨RdS.nil H a k, fun e he => by cases he⟩
theorem flatten_len {k : Nat} : ∀ {els : List (List Value)}, (∀ e ∈ els, e.length = k) → els.flatten.length = els.length * k
  | [], _ => by simp
  | e :: t, h => by
    rw [List.flatten_cons, List.length_append, h e (by simp), flatten_len (els := t) (fun x hx => h x (by simp [hx])), List.length_cons, Nat.succ_mul]
    omega
theorem flatten_drop {k : Nat} : ∀ {els : List (List Value)} (i : Nat), (∀ e ∈ els, e.length = k) → els.flatten.drop (i * k) = (els.drop i).flatten
  | [], i, _ => by simp
  | e :: t, 0, _ => by simp
  | e :: t, i + 1, h => by
    have hl := h e (by simp)
    rw [List.flatten_cons, List.drop_succ_cons, ← flatten_drop (els := t) i (fun x hx => h x (by simp [hx])), List.drop_append, List.drop_eq_nil_of_le (by rw [hl, Nat.succ_mul]; omega), List.nil_append, hl, Nat.succ_mul, Nat.add_sub_cancel]
theorem flatten_take {k : Nat} : ∀ {els : List (List Value)} (i : Nat), (∀ e ∈ els, e.length = k) → els.flatten.take (i * k) = (els.take i).flatten
  | [], i, _ => by simp
  | e :: t, 0, _ => by simp
  | e :: t, i + 1, h => by
    rw [List.flatten_cons, List.take_succ_cons, List.flatten_cons, ← flatten_take (els := t) i (fun x hx => h x (by simp [hx])), Nat.succ_mul, Nat.add_comm, List.take_append, List.take_of_length_le (by rw [h e (by simp)]; omega), h e (by simp), Nat.add_sub_cancel_left]
theorem ldv_flatten {agg : Bool} {sz k off i : Nat} {els : List (List Value)} {e : List Value} {v : Value} (h : ∀ e ∈ els, e.length = k) (he : els[i]? = some e) (hb : off + sz ≤ k) (h0 : 0 < sz) (hv : ldv agg sz e off = some v) : ldv agg sz els.flatten (i * k + off) = some v := by
  obtain ⟨hi, hei⟩ := List.getElem?_eq_some_iff.1 he
  have hel : e.length = k := h e (List.mem_of_getElem? he)
  have hd : els.flatten.drop (i * k + off) = e.drop off ++ (els.drop (i + 1)).flatten := by
    rw [← List.drop_drop, flatten_drop i h, List.drop_eq_getElem_cons hi, hei, List.flatten_cons, List.drop_append_of_le_length (by omega)]
  cases agg with
  | true =>
    simp only [ldv, cond_true, Option.some.injEq] at hv ⊢
    rw [hd, List.take_append_of_le_length (by simp; omega)]
    exact hv
  | false =>
    simp only [ldv, cond_false] at hv ⊢
    have h1 : els.flatten[i * k + off]? = (els.flatten.drop (i * k + off))[0]? := by rw [List.getElem?_drop]; rfl
    rw [h1, hd, List.getElem?_append_left (by simp; omega), List.getElem?_drop]
    exact hv
/-- A cut of it. -/
theorem RdL.cut {H : Froz} {a : Option Addr} {k c : Nat} {els : List (List Value)} (hr : RdL H a k els) {l h : Nat} (hlh : l ≤ h) (hn : h ≤ els.length) (hc : h ≤ c) : RdL H (cutA a c l k) k ((els.take h).drop l) := by
  refine ⟨?_, fun e he => hr.each e (List.mem_of_mem_take (List.mem_of_mem_drop he))⟩
  have h1 := hr.rd.cut hlh hn hc
  have e1 : ((els.take h).drop l).length = h - l := by simp; omega
  have e2 : (els.flatten.drop (l * k)).take ((h - l) * k) = ((els.take h).drop l).flatten := by
    rw [flatten_drop l hr.each, flatten_take (h - l) (fun e he => hr.each e (List.mem_of_mem_drop he)), List.drop_take]
  rw [e1, ← e2]
  exact h1

section
variable {P : Program} {B : Base} {H : Froz} {L : List Blk} {F : Fr} {ty T : TypeId} {v u : Value} {x y z : Operand} {agg : Bool} {sz : Nat} {S : World → Prop}
theorem q_loadL {a : Option Addr} {i k off : Nat} {els : List (List Value)} {e : List Value} (ht : tyS P T = some (agg, sz)) (hx : oev F x = some (.pointer (some (adr a (i * k + off))))) (hr : RdL H a k els) (he : els[i]? = some e) (hb : off + sz ≤ k) (h0 : Nat.blt 0 sz = true)
    (hv : ldv agg sz e off = some v) : Qt P (St B H L) F (.load T x) ty v := by
  have h0' : 0 < sz := by simpa [Nat.blt_eq] using h0
  refine q_loadE ht hx hr.rd ?_ h0 (ldv_flatten hr.each he hb h0' hv)
  obtain ⟨hi, _⟩ := List.getElem?_eq_some_iff.1 he
  rw [hr.rd.len]
  have : (i + 1) * k ≤ els.length * k := Nat.mul_le_mul_right _ hi
  rw [Nat.succ_mul] at this
  omega
theorem q_loadL0 {a : Option Addr} {i k : Nat} {els : List (List Value)} {e : List Value} (ht : tyS P T = some (agg, sz)) (hx : oev F x = some (.pointer (some (adr a (i * k))))) (hr : RdL H a k els) (he : els[i]? = some e) (hb : sz ≤ k) (h0 : Nat.blt 0 sz = true)
    (hv : ldv agg sz e 0 = some v) : Qt P (St B H L) F (.load T x) ty v := q_loadL (off := 0) ht hx hr he (by omega) h0 hv
theorem q_min2 {ts : Array TypeId} {a b : Int} (hx : oev F x = some (.int .i64 a)) (hy : oev F y = some (.int .i64 b)) : Qt P S F (.call ⟨.builtin .min, #[x, y], ts⟩) ty (.int .i64 (min a b)) := by
  intro ρ hρ w _ dd pos after g
  have e : (if b < a then b else a) = min a b := by omega
  simp [execOp, resolve, invoke, builtin, Builtin.min_, Builtin.min2, hρ x _ hx, hρ y _ hy, e]
theorem q_max2 {ts : Array TypeId} {a b : Int} (hx : oev F x = some (.int .i64 a)) (hy : oev F y = some (.int .i64 b)) : Qt P S F (.call ⟨.builtin .max, #[x, y], ts⟩) ty (.int .i64 (max a b)) := by
  intro ρ hρ w _ dd pos after g
  have e : (if b > a then b else a) = max a b := by omega
  simp [execOp, resolve, invoke, builtin, Builtin.max_, Builtin.max2, hρ x _ hx, hρ y _ hy, e]
theorem q_eqB {t t' : TypeId} {a b : Bool} (hd : P.underlying t = some .bool) (hx : oev F x = some (.bool a)) (hy : oev F y = some (.bool b)) : Qt P S F (.binOp .eql t x y t') ty (.bool (a == b)) := by
  intro ρ hρ w _ d pos after g
  have h1 : (Op.equal t (.bool a) (.bool b)).run P w = .ok (a == b) w := run_equalIn_bool' w 9999 t a b hd
  have h2 : (eqGuard .eql t x y (.bool a) (.bool b)).run P w = .ok () w := by simp [eqGuard]
  simp only [execOp, hρ x _ hx, hρ y _ hy, Go.binOp, Sem.run_bind, h1, h2, Result.andThen_ok, Sem.run_pure]
theorem q_neB {t t' : TypeId} {a b : Bool} (hd : P.underlying t = some .bool) (hx : oev F x = some (.bool a)) (hy : oev F y = some (.bool b)) : Qt P S F (.binOp .neq t x y t') ty (.bool (!(a == b))) := by
  intro ρ hρ w _ d pos after g
  have h1 : (Op.equal t (.bool a) (.bool b)).run P w = .ok (a == b) w := run_equalIn_bool' w 9999 t a b hd
  have h2 : (eqGuard .neq t x y (.bool a) (.bool b)).run P w = .ok () w := by simp [eqGuard]
  simp only [execOp, hρ x _ hx, hρ y _ hy, Go.binOp, Sem.run_bind, h1, h2, Result.andThen_ok, Sem.run_pure]
theorem q_eqStr {t t' : TypeId} {a b : ByteArray} (hx : oev F x = some (.string a)) (hy : oev F y = some (.string b)) : Qt P S F (.binOp .eql t x y t') ty (.bool (decide (a.toList = b.toList))) := by
  intro ρ hρ w _ d pos after g
  have e : (a.toList == b.toList) = decide (a.toList = b.toList) := by by_cases h : a.toList = b.toList <;> simp [h]
  simp [execOp, hρ x _ hx, hρ y _ hy, eqGuard, Go.binOp, Op.stringOp, e]
/-- A struct put together. -/
def bld (places : List (Nat × Nat)) : List Value → List (Nat × Value) → Option (List Value)
  | cs, [] => some cs
  | cs, p :: t => match places[p.1]? with
    | none => none
    | some pl => if p.2.cells.toList.length = pl.2 ∧ pl.1 + pl.2 ≤ cs.length then bld places (spl cs pl.1 p.2.cells.toList) t else none
theorem fold_set (vs : List Value) : ∀ (cs : List Value) (o k : Nat), o + k + vs.length ≤ cs.length →
    (vs.zipIdx k).foldl (fun (c : Array Value) (p : Value × Nat) => c.setIfInBounds (o + p.2) p.1) cs.toArray = (cs.take (o + k) ++ vs ++ cs.drop (o + k + vs.length)).toArray := by
  induction vs with
  | nil => intro cs o k _; simp
  | cons v t ih =>
    intro cs o k h
    simp only [List.length_cons] at h
    simp only [List.zipIdx_cons, List.foldl_cons, List.setIfInBounds_toArray]
    rw [ih (cs.set (o + k) v) o (k + 1) (by simp; omega)]
    congr 1
    rw [List.take_set, List.drop_set]
    have h1 : (cs.take (o + (k + 1))).set (o + k) v = cs.take (o + k) ++ [v] := by
      rw [← Nat.add_assoc, List.take_succ_eq_append_getElem (by omega), List.set_append_right _ _ (by simp; omega)]
      simp [show min (o + k) cs.length = o + k by omega]
    rw [h1, if_pos (by omega)]
    simp [Nat.add_assoc, Nat.add_comm 1]
theorem fill_bld (place : Nat → Option (Nat × Nat)) (places : List (Nat × Nat)) (hp : ∀ i, place i = places[i]?) : ∀ (parts : List (Nat × Value)) (cs out : List Value), bld places cs parts = some out → Instr.fill place cs.toArray parts = some out.toArray := by
  intro parts
  induction parts with
  | nil => intro cs out h; simp only [bld, Option.some.injEq] at h; subst h; rfl
  | cons p t ih =>
    intro cs out h
    simp only [bld] at h
    split at h
    · cases h
    · rename_i pl hpl
      split at h
      · rename_i hc
        obtain ⟨h1, h2⟩ := hc
        obtain ⟨i, v⟩ := p
        obtain ⟨off, size⟩ := pl
        simp only [] at h1 h2 hpl h
        have h3 : v.cells.size = size := by simpa using h1
        simp only [Instr.fill, hp, hpl]
        rw [if_neg (by simp; omega)]
        have hf := fold_set v.cells.toList cs off 0 (by rw [h1]; omega)
        rw [← ih _ _ h]
        congr 1
        have : v.cells.zipIdx.foldl (fun (cs : Array Value) (x : Value × Nat) => match x with | (c, j) => cs.setIfInBounds (off + j) c) cs.toArray = (v.cells.toList.zipIdx 0).foldl (fun (c : Array Value) (p : Value × Nat) => c.setIfInBounds (off + p.2) p.1) cs.toArray := by
          rw [← Array.foldl_toList]
          simp [Array.toList_zipIdx]
        rw [this, hf]
        simp [spl]
      · cases h
def oevp (F : Fr) : List (Nat × Operand) → Option (List (Nat × Value))
  | [] => some []
  | p :: t => match oev F p.2, oevp F t with
    | some v, some vs => some ((p.1, v) :: vs)
    | _, _ => none
def plS (P : Program) (T : TypeId) : Option (List (Nat × Nat)) := match P.underlying T with
  | some (.struct fs) => fs.toList.mapM fun f => (P.info? f.type).map fun i => (f.offset, i.size)
  | _ => none
theorem mapM_places (P : Program) (w : World) : ∀ (fs : List Field) (out : List (Nat × Nat)), fs.mapM (fun f => (P.info? f.type).map fun i => (f.offset, i.size)) = some out →
    (fs.mapM (m := Sem) (fun f => do pure (f.offset, ← sizeOf f.type))).run P w = .ok out w := by
  intro fs
  induction fs with
  | nil => intro out h; simp at h; subst h; simp
  | cons f t ih =>
    intro out h
    rw [List.mapM_cons] at h
    simp only [Option.bind_eq_bind, Option.bind_eq_some_iff, Option.map_eq_some_iff, Option.pure_def, Option.some.injEq] at h
    obtain ⟨p, ⟨i, hi, rfl⟩, ps, hps, rfl⟩ := h
    have hs : (sizeOf f.type).run P w = .ok i.size w := by simp [sizeOf, typeInfo, hi]
    rw [List.mapM_cons]
    simp only [Sem.run_bind, hs, Result.andThen_ok, Sem.run_pure, ih _ hps]
theorem q_build {zs cs : List Value} {ps : List (Nat × Operand)} {vs : List (Nat × Value)} {pl : List (Nat × Nat)} (hz : zrS P T = some zs) (hp : plS P T = some pl) (hv : oevp F ps = some vs) (hb : bld pl zs vs = some cs) :
    Qt P S F (.build T ps.toArray) ty (.agg cs.toArray) := by
  intro ρ hρ w _ d pos after g
  obtain ⟨i, zv, h1, h2, h3⟩ := zrS_parts hz
  have key : ∀ (ps : List (Nat × Operand)) (vs : List (Nat × Value)), oevp F ps = some vs → ps.map (fun (i, x) => (i, ρ x)) = vs := by
    intro ps
    induction ps with
    | nil => intro vs hv; simp [oevp] at hv; simp [hv]
    | cons p t ih =>
      intro vs hv
      simp only [oevp] at hv
      split at hv
      · rename_i v vs' e1 e2
        simp only [Option.some.injEq] at hv
        subst hv
        simp [hρ _ _ e1, ih _ e2]
      · cases hv
  have hzc : zv.cells = zs.toArray := by rw [← h3]
  unfold plS at hp
  split at hp
  · rename_i fs hu
    have hpl := mapM_places P w fs.toList pl hp
    have hfill := fill_bld (fun i => pl.toArray[i]?) pl (fun i => by simp) vs zs cs hb
    have hrun : (Instr.build T (ps.map (fun (i, x) => (i, ρ x))).toArray).run P w = .ok (.agg cs.toArray) w := by
      unfold Instr.build
      have hfm : (fs.mapM (m := Sem) (fun f => do pure (f.offset, ← sizeOf f.type))).run P w = .ok pl.toArray w := by
        have e : fs = fs.toList.toArray := by simp
        rw [e, List.mapM_toArray, Sem.run_map, hpl]
        rfl
      have hzv : (zeroValue T).run P w = .ok zv w := by simp [zeroValue, typeInfo, h1, h2]
      simp only [Sem.run_bind, hzv, Result.andThen_ok, run_underlying hu, hfm, hzc]
      rw [key _ _ hv]
      simp only [hfill, Sem.run_pure]
    simp only [execOp, Sem.run_bind, List.map_toArray]
    rw [hrun]
    rfl
  · cases hp
end
end Go.W

/-! Unsigned numbers as natural numbers. -/
namespace Go.W
open Go Go.RowKit
theorem wrap_u {k : IntKind} {m : Nat} (hk : k.signed = false) (hm : 2 ^ k.bits = m) (n : Nat) : k.wrap (n : Int) = ((n % m : Nat) : Int) := by
  unfold IntKind.wrap
  simp only [hk, Bool.false_and]
  have : ((2 : Int) ^ k.bits) = ((m : Nat) : Int) := by rw [← hm]; push_cast; rfl
  simp only [this]
  split
  · rename_i h; simp at h
  · exact (Int.natCast_emod n m).symm
theorem wrap_u8 (n : Nat) : IntKind.u8.wrap (n : Int) = ((n % 256 : Nat) : Int) := wrap_u rfl rfl n
theorem wrap_u32 (n : Nat) : IntKind.u32.wrap (n : Int) = ((n % 4294967296 : Nat) : Int) := wrap_u rfl rfl n
theorem wrap_u64 (n : Nat) : IntKind.u64.wrap (n : Int) = ((n % 18446744073709551616 : Nat) : Int) := wrap_u rfl rfl n
section
variable {P : Program} {S : World → Prop} {F : Fr} {ty : TypeId} {x y : Operand} {t t' : TypeId} {a b : Nat}
theorem q_add32 (hx : oev F x = some (.int .u32 (a : Int))) (hy : oev F y = some (.int .u32 (b : Int))) : Qt P S F (.binOp .add t x y t') ty (.int .u32 (((a + b) % 4294967296 : Nat) : Int)) := by
  have := q_add (P := P) (S := S) (ty := ty) (t := t) (t' := t') hx hy
  rwa [← Int.natCast_add, wrap_u32] at this
theorem q_add64 (hx : oev F x = some (.int .u64 (a : Int))) (hy : oev F y = some (.int .u64 (b : Int))) : Qt P S F (.binOp .add t x y t') ty (.int .u64 (((a + b) % 18446744073709551616 : Nat) : Int)) := by
  have := q_add (P := P) (S := S) (ty := ty) (t := t) (t' := t') hx hy
  rwa [← Int.natCast_add, wrap_u64] at this
theorem q_mul64 (hx : oev F x = some (.int .u64 (a : Int))) (hy : oev F y = some (.int .u64 (b : Int))) : Qt P S F (.binOp .mul t x y t') ty (.int .u64 (((a * b) % 18446744073709551616 : Nat) : Int)) := by
  have := q_mul (P := P) (S := S) (ty := ty) (t := t) (t' := t') hx hy
  rwa [← Int.natCast_mul, wrap_u64] at this
theorem q_sub64 (hx : oev F x = some (.int .u64 (a : Int))) (hy : oev F y = some (.int .u64 (b : Int))) (hb : b ≤ 18446744073709551616) : Qt P S F (.binOp .sub t x y t') ty (.int .u64 (((a + (18446744073709551616 - b)) % 18446744073709551616 : Nat) : Int)) := by
  have := q_sub (P := P) (S := S) (ty := ty) (t := t) (t' := t') hx hy
  have e : IntKind.u64.wrap ((a : Int) - (b : Int)) = IntKind.u64.wrap (((a + (18446744073709551616 - b) : Nat)) : Int) := by
    unfold IntKind.wrap
    simp only [show IntKind.u64.signed = false from rfl, Bool.false_and]
    have : (2 : Int) ^ IntKind.u64.bits = 18446744073709551616 := by decide
    rw [this]
    have h2 : ((a + (18446744073709551616 - b) : Nat) : Int) = ((a : Int) - (b : Int)) + 18446744073709551616 := by omega
    rw [h2]
    simp
  rwa [e, wrap_u64] at this
theorem q_bits {k : IntKind} {op : BinOp} {r : Nat} (hx : oev F x = some (.int k (a : Int))) (hy : oev F y = some (.int k (b : Int)))
    (hr : ∀ w, (Op.intBits op k (a : Int) (b : Int)).run P w = .ok (.int k (r : Int)) w) (ho : op = .and ∨ op = .or ∨ op = .xor) : Qt P S F (.binOp op t x y t') ty (.int k (r : Int)) :=
  q_bin hx hy fun w => by rcases ho with rfl | rfl | rfl <;> simpa [Go.binOp] using hr w
theorem q_and {k : IntKind} {m : Nat} (hk : k.signed = false) (hm : 2 ^ k.bits = m) (hx : oev F x = some (.int k (a : Int))) (hy : oev F y = some (.int k (b : Int))) (ha : a < m) (hb : b < m) : Qt P S F (.binOp .and t x y t') ty (.int k ((a &&& b : Nat) : Int)) :=
  q_bits hx hy (fun w => by
    subst hm
    have hlt : a &&& b < 2 ^ k.bits := Nat.and_lt_two_pow _ hb
    simp only [Op.intBits, BitVec.toNat_and, BitVec.toNat_ofInt, Sem.run_pure]
    have e : ∀ n : Nat, n < 2 ^ k.bits → (((n : Int) % ((2 ^ k.bits : Nat) : Int)).toNat) = n := fun n hn => by rw [← Int.natCast_emod, Int.toNat_natCast, Nat.mod_eq_of_lt hn]
    rw [e a ha, e b hb, wrap_u hk rfl, Nat.mod_eq_of_lt hlt]) (.inl rfl)
theorem q_or {k : IntKind} {m : Nat} (hk : k.signed = false) (hm : 2 ^ k.bits = m) (hx : oev F x = some (.int k (a : Int))) (hy : oev F y = some (.int k (b : Int))) (ha : a < m) (hb : b < m) : Qt P S F (.binOp .or t x y t') ty (.int k ((a ||| b : Nat) : Int)) :=
  q_bits hx hy (fun w => by
    subst hm
    have hlt : a ||| b < 2 ^ k.bits := Nat.or_lt_two_pow ha hb
    simp only [Op.intBits, BitVec.toNat_or, BitVec.toNat_ofInt, Sem.run_pure]
    have e : ∀ n : Nat, n < 2 ^ k.bits → (((n : Int) % ((2 ^ k.bits : Nat) : Int)).toNat) = n := fun n hn => by rw [← Int.natCast_emod, Int.toNat_natCast, Nat.mod_eq_of_lt hn]
    rw [e a ha, e b hb, wrap_u hk rfl, Nat.mod_eq_of_lt hlt]) (.inr (.inl rfl))
theorem q_xor {k : IntKind} {m : Nat} (hk : k.signed = false) (hm : 2 ^ k.bits = m) (hx : oev F x = some (.int k (a : Int))) (hy : oev F y = some (.int k (b : Int))) (ha : a < m) (hb : b < m) : Qt P S F (.binOp .xor t x y t') ty (.int k ((a ^^^ b : Nat) : Int)) :=
  q_bits hx hy (fun w => by
    subst hm
    have hlt : a ^^^ b < 2 ^ k.bits := Nat.xor_lt_two_pow ha hb
    simp only [Op.intBits, BitVec.toNat_xor, BitVec.toNat_ofInt, Sem.run_pure]
    have e : ∀ n : Nat, n < 2 ^ k.bits → (((n : Int) % ((2 ^ k.bits : Nat) : Int)).toNat) = n := fun n hn => by rw [← Int.natCast_emod, Int.toNat_natCast, Nat.mod_eq_of_lt hn]
    rw [e a ha, e b hb, wrap_u hk rfl, Nat.mod_eq_of_lt hlt]) (.inr (.inr rfl))
theorem q_shift {k yk : IntKind} {op : BinOp} {r : Nat} {s : Int} (hx : oev F x = some (.int k (a : Int))) (hy : oev F y = some (.int yk s))
    (hr : ∀ w, (Op.shift op k (a : Int) yk s).run P w = .ok (.int k (r : Int)) w) (ho : op = .shl ∨ op = .shr) : Qt P S F (.binOp op t x y t') ty (.int k (r : Int)) := by
  intro ρ hρ w _ d pos after g
  have he : (eqGuard op t x y (.int k (a : Int)) (.int yk s)).run P w = .ok () w := by
    unfold eqGuard; rcases ho with rfl | rfl <;> simp
  have hb : (Go.binOp op t (.int k (a : Int)) (.int yk s)).run P w = .ok (.int k (r : Int)) w := by
    rcases ho with rfl | rfl <;> simpa [Go.binOp] using hr w
  simp only [execOp, hρ x _ hx, hρ y _ hy, Sem.run_bind, he, hb, Result.andThen_ok, Sem.run_pure]
/-- A shift to the right by a number. -/
theorem q_shr {k yk : IntKind} {s : Nat} (hx : oev F x = some (.int k (a : Int))) (hy : oev F y = some (.int yk (s : Int))) (hs : s ≤ k.bits) : Qt P S F (.binOp .shr t x y t') ty (.int k ((a / 2 ^ s : Nat) : Int)) :=
  q_shift hx hy (fun w => by
    simp only [Op.shift]
    rw [if_neg (by omega)]
    simp only [Int.toNat_natCast, Nat.min_eq_left hs, Sem.run_pure]
    congr 2
    rw [Int.fdiv_eq_ediv_of_nonneg _ (by exact_mod_cast Nat.zero_le (2 ^ s))]
    push_cast
    rfl) (.inr rfl)
theorem q_shl {k yk : IntKind} {m s : Nat} (hk : k.signed = false) (hm : 2 ^ k.bits = m) (hx : oev F x = some (.int k (a : Int))) (hy : oev F y = some (.int yk (s : Int))) (hs : s ≤ k.bits) : Qt P S F (.binOp .shl t x y t') ty (.int k ((a * 2 ^ s % m : Nat) : Int)) :=
  q_shift hx hy (fun w => by
    simp only [Op.shift]
    rw [if_neg (by omega)]
    simp only [Int.toNat_natCast, Nat.min_eq_left hs, Sem.run_pure]
    have : (a : Int) * 2 ^ s = ((a * 2 ^ s : Nat) : Int) := by push_cast; rfl
    rw [this, wrap_u hk hm]) (.inl rfl)
theorem q_quo64 (hx : oev F x = some (.int .u64 (a : Int))) (hy : oev F y = some (.int .u64 (b : Int))) (ha : a < 18446744073709551616) (hb : 0 < b) : Qt P S F (.binOp .quo t x y t') ty (.int .u64 ((a / b : Nat) : Int)) :=
  q_bin hx hy fun w => by
    simp only [Go.binOp, Op.intDiv]
    rw [if_neg (by simp), if_neg (by omega)]
    simp only [Sem.run_pure]
    have e : (a : Int).tdiv (b : Int) = ((a / b : Nat) : Int) := by rw [Int.tdiv_eq_ediv_of_nonneg (by omega)]; rfl
    have hlt : a / b < 18446744073709551616 := Nat.lt_of_le_of_lt (Nat.div_le_self _ _) ha
    rw [e, wrap_u64, Nat.mod_eq_of_lt hlt]
theorem q_rem64 (hx : oev F x = some (.int .u64 (a : Int))) (hy : oev F y = some (.int .u64 (b : Int))) (hb : 0 < b) : Qt P S F (.binOp .rem t x y t') ty (.int .u64 ((a % b : Nat) : Int)) :=
  q_bin hx hy fun w => by
    simp only [Go.binOp, Op.intDiv]
    rw [if_neg (by simp), if_neg (by omega)]
    simp only [Sem.run_pure]
    have e : (a : Int).tmod (b : Int) = ((a % b : Nat) : Int) := by rw [Int.tmod_eq_emod_of_nonneg (by omega)]; rfl
    rw [e]
theorem q_remI {a b : Int} (hx : oev F x = some (.int .i64 a)) (hy : oev F y = some (.int .i64 b)) (ha : 0 ≤ a) (hb : 0 < b) : Qt P S F (.binOp .rem t x y t') ty (.int .i64 (a % b)) :=
  q_bin hx hy fun w => by
    simp only [Go.binOp, Op.intDiv]
    rw [if_neg (by simp), if_neg (by omega)]
    simp only [Sem.run_pure, Int.tmod_eq_emod_of_nonneg ha]
/-- A conversion between kinds of ints, of a number that fits. -/
theorem q_cv {s t : TypeId} {ds : TypeDesc} {k k' : IntKind} {c : Int} {r : Int} (h1 : P.underlying s = some ds) (h2 : P.underlying t = some (.int k)) (hx : oev F x = some (.int k' c)) (hr : k.wrap c = r) : Qt P S F (.convert s t x) ty (.int k r) := by
  have := q_convI (P := P) (S := S) (ty := ty) h1 h2 hx
  rwa [hr] at this
theorem q_cv64 {s t : TypeId} {ds : TypeDesc} {k' : IntKind} (h1 : P.underlying s = some ds) (h2 : P.underlying t = some (.int .u64)) (hx : oev F x = some (.int k' (a : Int))) (ha : a < 18446744073709551616) : Qt P S F (.convert s t x) ty (.int .u64 (a : Int)) :=
  q_cv h1 h2 hx (by rw [wrap_u64, Nat.mod_eq_of_lt ha])
theorem q_cv32 {s t : TypeId} {ds : TypeDesc} {k' : IntKind} (h1 : P.underlying s = some ds) (h2 : P.underlying t = some (.int .u32)) (hx : oev F x = some (.int k' (a : Int))) (ha : a < 4294967296) : Qt P S F (.convert s t x) ty (.int .u32 (a : Int)) :=
  q_cv h1 h2 hx (by rw [wrap_u32, Nat.mod_eq_of_lt ha])
theorem q_cv8 {s t : TypeId} {ds : TypeDesc} {k' : IntKind} (h1 : P.underlying s = some ds) (h2 : P.underlying t = some (.int .u8)) (hx : oev F x = some (.int k' (a : Int))) : Qt P S F (.convert s t x) ty (.int .u8 ((a % 256 : Nat) : Int)) :=
  q_cv h1 h2 hx (wrap_u8 a)
theorem q_cvI {s t : TypeId} {ds : TypeDesc} {k' : IntKind} {c : Int} (h1 : P.underlying s = some ds) (h2 : P.underlying t = some (.int .i64)) (hx : oev F x = some (.int k' c)) (hc : -9223372036854775808 ≤ c ∧ c ≤ 9223372036854775807) : Qt P S F (.convert s t x) ty (.int .i64 c) :=
  q_cv h1 h2 hx (wrap_i64 hc)
end
end Go.W

/-! Plain arithmetic under math/bits. -/
namespace Go.W
/-- A value that is told and never unfolded. -/
noncomputable def kept {α : Type} (a : α) : { b : α // b = a } := Classical.choice ⟨⟨a, rfl⟩⟩
/-- How many bits a number takes. -/
def bl (x : Nat) : Nat := if x = 0 then 0 else Nat.log2 x + 1
theorem bl_pos {x : Nat} (h : x ≠ 0) : 2 ^ (bl x - 1) ≤ x ∧ x < 2 ^ bl x := by
  unfold bl
  rw [if_neg h]
  exact ⟨Nat.log2_self_le h, Nat.lt_log2_self⟩
theorem bl_lt (x : Nat) : x < 2 ^ bl x := by
  by_cases h : x = 0
  · subst h; decide
  · exact (bl_pos h).2
theorem bl_le {x n : Nat} (h : x < 2 ^ n) : bl x ≤ n := by
  by_cases h0 : x = 0
  · subst h0; simp [bl]
  · have h1 := (bl_pos h0).1
    have : 2 ^ (bl x - 1) < 2 ^ n := Nat.lt_of_le_of_lt h1 h
    have := (Nat.pow_lt_pow_iff_right (by omega : 1 < 2)).1 this
    omega
theorem bl_eq {x n : Nat} (h1 : 2 ^ n ≤ x) (h2 : x < 2 ^ (n + 1)) : bl x = n + 1 := by
  have h0 : x ≠ 0 := by intro e; subst e; have := Nat.two_pow_pos n; omega
  unfold bl
  rw [if_neg h0]
  congr 1
  exact (Nat.log2_eq_iff h0).2 ⟨h1, h2⟩
theorem bl_shift {x k : Nat} (h : 2 ^ k ≤ x) : bl x = k + bl (x / 2 ^ k) := by
  have hk : 0 < 2 ^ k := Nat.two_pow_pos _
  have h1 : 1 ≤ x / 2 ^ k := (Nat.le_div_iff_mul_le hk).2 (by omega)
  obtain ⟨h2, h3⟩ := bl_pos (x := x / 2 ^ k) (by omega)
  have hb : bl (x / 2 ^ k) = (bl (x / 2 ^ k) - 1) + 1 := by
    have : bl (x / 2 ^ k) ≠ 0 := by intro e; rw [e] at h3; omega
    omega
  have h4 : 2 ^ (k + (bl (x / 2 ^ k) - 1)) ≤ x := by
    rw [Nat.pow_add]
    calc 2 ^ k * 2 ^ (bl (x / 2 ^ k) - 1) ≤ 2 ^ k * (x / 2 ^ k) := Nat.mul_le_mul_left _ h2
      _ ≤ x := Nat.mul_div_le x (2 ^ k)
  have h5 : x < 2 ^ (k + (bl (x / 2 ^ k) - 1) + 1) := by
    have : x < 2 ^ k * 2 ^ bl (x / 2 ^ k) := by
      have := Nat.lt_mul_div_succ x hk
      calc x < 2 ^ k * (x / 2 ^ k + 1) := this
        _ ≤ 2 ^ k * 2 ^ bl (x / 2 ^ k) := Nat.mul_le_mul_left _ h3
    rw [← Nat.pow_add] at this
    rw [hb] at this
    exact this
  rw [bl_eq h4 h5]
  omega
theorem len64_b {x : Nat} (h : 4294967296 ≤ x) : bl x = 32 + bl (x / 4294967296) := bl_shift (k := 32) h
theorem len64_c {x : Nat} (h : 65536 ≤ x) : bl x = 16 + bl (x / 65536) := bl_shift (k := 16) h
theorem len64_d {x : Nat} (h : 256 ≤ x) : bl x = 8 + bl (x / 256) := bl_shift (k := 8) h
theorem mask32 (a : Nat) : a &&& 4294967295 = a % 4294967296 := Nat.and_two_pow_sub_one_eq_mod a 32

/-! Division of 128 bits by 64. One digit: q is reckoned from above. -/
/-- What holds of the estimate: u = q * y1 + r, and q is not below the true digit. (K: 2^32.) -/
structure Est (K u u1 y y1 q r : Nat) : Prop where
  eq : u = q * y1 + r
  ge : (u * K + u1) / y ≤ q
  le : q ≤ K + 1
section
variable {K u u1 y y1 y0 q r : Nat}
theorem est_start (hy : y = y1 * K + y0) (h0 : y0 < K) (h1 : K ≤ 2 * y1) (hk : 0 < K) (hu : u < y) (h2 : u1 < K) : Est K u u1 y y1 (u / y1) (u % y1) := by
  have hy1 : 0 < y1 := by omega
  refine ⟨by rw [Nat.mul_comm]; exact (Nat.div_add_mod u y1).symm, ?_, ?_⟩
  · rw [← Nat.lt_succ_iff, Nat.div_lt_iff_lt_mul (by rw [hy]; have := Nat.mul_pos hy1 hk; omega)]
    have h3 : u + 1 ≤ y1 * (u / y1 + 1) := Nat.lt_mul_div_succ u hy1
    have h5 : (u + 1) * K ≤ y1 * (u / y1 + 1) * K := Nat.mul_le_mul_right _ h3
    have h6 : y1 * (u / y1 + 1) * K ≤ y * (u / y1 + 1) := by
      rw [Nat.mul_right_comm]; exact Nat.mul_le_mul_right _ (by omega)
    have h7 : (u + 1) * K = u * K + K := by rw [Nat.add_mul, Nat.one_mul]
    have h8 : (u / y1).succ * y = y * (u / y1 + 1) := Nat.mul_comm _ _
    omega
  · rw [← Nat.lt_succ_iff, Nat.div_lt_iff_lt_mul hy1]
    have e : (K + 1).succ * y1 = y1 * K + 2 * y1 := by
      rw [Nat.succ_mul, Nat.add_mul, Nat.one_mul, Nat.mul_comm K]; omega
    omega
theorem est_start' (hy : y = y1 * K + y0) (h0 : y0 < K) (h1 : K ≤ 2 * y1) (hk : 0 < K) (hu : u < y) (h2 : u1 < K) : Est K u u1 y y1 (u / y1) (u - u / y1 * y1) ∧ u - u / y1 * y1 < y1 := by
  have e : u - u / y1 * y1 = u % y1 := by
    have := Nat.div_add_mod u y1
    rw [Nat.mul_comm] at this
    omega
  rw [e]
  exact ⟨est_start hy h0 h1 hk hu h2, Nat.mod_lt _ (by omega)⟩
theorem est_test (hy : y = y1 * K + y0) (hy0 : 0 < y) (hu : u < y) (h2 : u1 < K) (e : Est K u u1 y y1 q r) :
    (K ≤ q ∨ r * K + u1 < q * y0) → (u * K + u1) / y + 1 ≤ q := by
  intro h
  rcases h with h | h
  · have : (u * K + u1) / y < K := by
      rw [Nat.div_lt_iff_lt_mul hy0]
      have h3 : (u + 1) * K ≤ y * K := Nat.mul_le_mul_right _ hu
      rw [Nat.add_mul, Nat.one_mul] at h3
      rw [Nat.mul_comm K]
      omega
    omega
  · rw [Nat.succ_le_iff, Nat.div_lt_iff_lt_mul hy0]
    have e1 : q * y = q * (y1 * K) + q * y0 := by rw [hy, Nat.mul_add]
    have e2 : u * K = q * (y1 * K) + r * K := by rw [e.eq, Nat.add_mul, Nat.mul_assoc]
    omega
theorem est_done (hy : y = y1 * K + y0) (hy0 : 0 < y) (e : Est K u u1 y y1 q r) (h : q * y0 ≤ r * K + u1) : q = (u * K + u1) / y := by
  refine Nat.le_antisymm ?_ e.ge
  rw [Nat.le_div_iff_mul_le hy0]
  have e1 : q * y = q * (y1 * K) + q * y0 := by rw [hy, Nat.mul_add]
  have e2 : u * K = q * (y1 * K) + r * K := by rw [e.eq, Nat.add_mul, Nat.mul_assoc]
  omega
theorem est_next (e : Est K u u1 y y1 q r) (h : (u * K + u1) / y + 1 ≤ q) : Est K u u1 y y1 (q - 1) (r + y1) := by
  have h1 := e.le
  refine ⟨?_, Nat.le_sub_of_add_le h, Nat.le_trans (Nat.sub_le _ _) h1⟩
  obtain ⟨p, rfl⟩ : ∃ p, q = p + 1 := ⟨q - 1, (Nat.sub_add_cancel (Nat.le_trans (Nat.le_add_left _ _) h)).symm⟩
  have e1 := e.eq
  rw [Nat.add_mul, Nat.one_mul] at e1
  rw [Nat.add_sub_cancel]
  omega
/-- Behind one step down: either the rest has grown past 32 bits, and the digit is right. -/
theorem est_break (hy : y = y1 * K + y0) (hy0 : 0 < y) (h0 : y0 < K) (e : Est K u u1 y y1 q r) (hq : q ≤ K) (hr : K ≤ r) : q = (u * K + u1) / y :=
  est_done hy hy0 e (by
    have h1 : q * y0 ≤ K * y0 := Nat.mul_le_mul_right _ hq
    have h2 : K * y0 ≤ K * K := Nat.mul_le_mul_left _ (Nat.le_of_lt h0)
    have h3 : K * K ≤ r * K := Nat.mul_le_mul_right _ hr
    omega)
end
/-- Two digits make the quotient. -/
theorem two_digits {v K u0 y : Nat} (hy : 0 < y) : (v * K + u0) / y = v / y * K + (v % y * K + u0) / y ∧ (v * K + u0) % y = (v % y * K + u0) % y := by
  have h := Nat.div_add_mod v y
  have e : v * K + u0 = y * (v / y * K) + (v % y * K + u0) := by
    have : v * K = y * (v / y * K) + v % y * K := by
      conv => lhs; rw [← h]
      rw [Nat.add_mul, Nat.mul_assoc]
    omega
  rw [e]
  exact ⟨by rw [Nat.mul_add_div hy], by rw [Nat.mul_add_mod]⟩
/-- Shifting both by s. -/
theorem shift_div {n y s : Nat} : (n * 2 ^ s) / (y * 2 ^ s) = n / y ∧ (n * 2 ^ s) % (y * 2 ^ s) / 2 ^ s = n % y := by
  have hs : 0 < 2 ^ s := Nat.two_pow_pos _
  refine ⟨Nat.mul_div_mul_right _ _ hs, ?_⟩
  rw [Nat.mul_mod_mul_right, Nat.mul_div_cancel _ hs]
/-- What the words of the divisor and of the dividend are, both shifted by s. -/
theorem div_words {hi lo y s : Nat} (hlo : lo < 18446744073709551616) (hs : s ≤ 63) (hh : hi < y) (hY : y * 2 ^ s < 18446744073709551616) :
    hi * 2 ^ s < 18446744073709551616 ∧ (hi * 2 ^ s ||| lo / 2 ^ (64 - s)) = hi * 2 ^ s + lo / 2 ^ (64 - s) ∧
    hi * 2 ^ s + lo / 2 ^ (64 - s) < y * 2 ^ s ∧
    (hi * 18446744073709551616 + lo) * 2 ^ s = (hi * 2 ^ s + lo / 2 ^ (64 - s)) * 18446744073709551616 + lo * 2 ^ s % 18446744073709551616 := by
  have hp : 2 ^ s * 2 ^ (64 - s) = 18446744073709551616 := by rw [← Nat.pow_add, show s + (64 - s) = 64 by omega]
  have hlt : lo / 2 ^ (64 - s) < 2 ^ s := by
    rw [Nat.div_lt_iff_lt_mul (Nat.two_pow_pos _), hp]; exact hlo
  have hor : hi * 2 ^ s ||| lo / 2 ^ (64 - s) = hi * 2 ^ s + lo / 2 ^ (64 - s) := by rw [Nat.mul_comm hi]; exact (Nat.two_pow_add_eq_or_of_lt hlt hi).symm
  have hs0 : 0 < 2 ^ s := Nat.two_pow_pos s
  generalize 2 ^ (64 - s) = B at *
  generalize 2 ^ s = A at *
  have h1 : (hi + 1) * A ≤ y * A := Nat.mul_le_mul_right _ hh
  rw [Nat.add_mul, Nat.one_mul] at h1
  refine ⟨by omega, hor, by omega, ?_⟩
  have h2 : lo * A / 18446744073709551616 = lo / B := by
    rw [← hp, Nat.mul_comm lo, Nat.mul_div_mul_left _ _ hs0]
  have h3 := Nat.div_add_mod (lo * A) 18446744073709551616
  rw [h2] at h3
  rw [Nat.add_mul, Nat.add_mul, Nat.mul_right_comm]
  generalize hi * A = X at *
  generalize lo * A = Z at *
  omega
/-- A difference that is reckoned modulo 2^64. -/
theorem sub_words {a b c q Y M : Nat} (hM : 0 < M) (h : (a * b + c) / Y = q) (hr : (a * b + c) % Y < M) : ((a * b % M + c) % M + (M - q * Y % M)) % M = (a * b + c) % Y := by
  have e := Nat.div_add_mod (a * b + c) Y
  rw [h, Nat.mul_comm] at e
  generalize (a * b + c) % Y = r at *
  have hq := Nat.mod_lt (q * Y) hM
  have h1 : (a * b % M + c) % M = (q * Y + r) % M := by rw [Nat.mod_add_mod, ← e]
  rw [h1, Nat.add_mod (q * Y) r M, Nat.mod_eq_of_lt hr]
  generalize q * Y % M = z at *
  by_cases hz : z + r < M
  · rw [Nat.mod_eq_of_lt hz, show z + r + (M - z) = r + M by omega, Nat.add_mod_right, Nat.mod_eq_of_lt hr]
  · have : (z + r) % M = z + r - M := by rw [Nat.mod_eq_sub_mod (by omega), Nat.mod_eq_of_lt (by omega)]
    rw [this, show z + r - M + (M - z) = r by omega, Nat.mod_eq_of_lt hr]
end Go.W

namespace Go.W
open Go Go.RowKit
section
variable {P : Program} {S : World → Prop} {F : Fr} {ty : TypeId} {x y : Operand} {t t' : TypeId} {a b : Nat}
theorem q_shrC {k yk : IntKind} {s m : Nat} (hx : oev F x = some (.int k (a : Int))) (hy : oev F y = some (.int yk (s : Int))) (hs : s ≤ k.bits) (hm : 2 ^ s = m) : Qt P S F (.binOp .shr t x y t') ty (.int k ((a / m : Nat) : Int)) := by
  subst hm; exact q_shr hx hy hs
theorem q_mask32 (hx : oev F x = some (.int .u64 (a : Int))) (hy : oev F y = some (.int .u64 4294967295)) (ha : a < 18446744073709551616) : Qt P S F (.binOp .and t x y t') ty (.int .u64 ((a % 4294967296 : Nat) : Int)) := by
  have := q_and (P := P) (S := S) (ty := ty) (t := t) (t' := t') (b := 4294967295) (k := .u64) rfl rfl hx hy ha (by decide)
  rwa [mask32] at this
theorem q_add64n (hx : oev F x = some (.int .u64 (a : Int))) (hy : oev F y = some (.int .u64 (b : Int))) (h : a + b < 18446744073709551616) : Qt P S F (.binOp .add t x y t') ty (.int .u64 ((a + b : Nat) : Int)) := by
  have := q_add64 (P := P) (S := S) (ty := ty) (t := t) (t' := t') hx hy
  rwa [Nat.mod_eq_of_lt h] at this
theorem q_mul64n (hx : oev F x = some (.int .u64 (a : Int))) (hy : oev F y = some (.int .u64 (b : Int))) (h : a * b < 18446744073709551616) : Qt P S F (.binOp .mul t x y t') ty (.int .u64 ((a * b : Nat) : Int)) := by
  have := q_mul64 (P := P) (S := S) (ty := ty) (t := t) (t' := t') hx hy
  rwa [Nat.mod_eq_of_lt h] at this
theorem q_sub64n (hx : oev F x = some (.int .u64 (a : Int))) (hy : oev F y = some (.int .u64 (b : Int))) (ha : a < 18446744073709551616) (h : b ≤ a) : Qt P S F (.binOp .sub t x y t') ty (.int .u64 ((a - b : Nat) : Int)) := by
  have := q_sub64 (P := P) (S := S) (ty := ty) (t := t) (t' := t') hx hy (by omega)
  rwa [show (a + (18446744073709551616 - b)) % 18446744073709551616 = a - b by omega] at this
theorem q_indexStr {t : TypeId} {s : ByteArray} {k : IntKind} {i : Nat} {c : UInt8} (hd : P.underlying t = some .string) (hx : oev F x = some (.string s)) (hy : oev F y = some (.int k (i : Int))) (hc : s[i]? = some c) : Qt P S F (.index t x y) ty (.int .u8 (c.toNat : Int)) := by
  intro ρ hρ w _ d pos after g
  have h0 : (if (0 : Int) ≤ (i : Int) then s[(i : Int).toNat]? else none) = some c := by rw [if_pos (by omega)]; simpa using hc
  simp only [execOp, hρ x _ hx, hρ y _ hy, Instr.index, asIntOf, Sem.run_bind, Sem.run_pure, Result.andThen_ok, run_underlying hd, h0]
theorem q_sub64r {r : Nat} (hx : oev F x = some (.int .u64 (a : Int))) (hy : oev F y = some (.int .u64 (b : Int))) (hb : b ≤ 18446744073709551616) (hr : (a + (18446744073709551616 - b)) % 18446744073709551616 = r) : Qt P S F (.binOp .sub t x y t') ty (.int .u64 (r : Int)) := by
  subst hr; exact q_sub64 hx hy hb
theorem q_shl64n {yk : IntKind} {s : Nat} (hx : oev F x = some (.int .u64 (a : Int))) (hy : oev F y = some (.int yk (s : Int))) (hs : s ≤ 64) (h : a * 2 ^ s < 18446744073709551616) : Qt P S F (.binOp .shl t x y t') ty (.int .u64 ((a * 2 ^ s : Nat) : Int)) := by
  have := q_shl (P := P) (S := S) (ty := ty) (t := t) (t' := t') (m := 18446744073709551616) (k := .u64) rfl rfl hx hy hs
  rwa [Nat.mod_eq_of_lt h] at this
theorem q_or64r {r : Nat} (hx : oev F x = some (.int .u64 (a : Int))) (hy : oev F y = some (.int .u64 (b : Int))) (ha : a < 18446744073709551616) (hb : b < 18446744073709551616) (hr : (a ||| b) = r) : Qt P S F (.binOp .or t x y t') ty (.int .u64 (r : Int)) := by
  subst hr; exact q_or (m := 18446744073709551616) (k := .u64) rfl rfl hx hy ha hb
theorem q_shl64r {yk : IntKind} {s r : Nat} (hx : oev F x = some (.int .u64 (a : Int))) (hy : oev F y = some (.int yk (s : Int))) (hs : s ≤ 64) (h : r < 18446744073709551616) (hr : a * 2 ^ s = r) : Qt P S F (.binOp .shl t x y t') ty (.int .u64 (r : Int)) := by
  subst hr; exact q_shl64n hx hy hs h
theorem q_shlR {yk : IntKind} {s r : Nat} (hx : oev F x = some (.int .u64 (a : Int))) (hy : oev F y = some (.int yk (s : Int))) (hs : s ≤ 64) (hr : a * 2 ^ s % 18446744073709551616 = r) : Qt P S F (.binOp .shl t x y t') ty (.int .u64 (r : Int)) := by
  subst hr; exact q_shl (m := 18446744073709551616) (k := .u64) rfl rfl hx hy hs
theorem q_shrR {k yk : IntKind} {s r : Nat} (hx : oev F x = some (.int k (a : Int))) (hy : oev F y = some (.int yk (s : Int))) (hs : s ≤ k.bits) (hr : a / 2 ^ s = r) : Qt P S F (.binOp .shr t x y t') ty (.int k (r : Int)) := by
  subst hr; exact q_shr hx hy hs
theorem q_mask32r {r : Nat} (hx : oev F x = some (.int .u64 (a : Int))) (hy : oev F y = some (.int .u64 4294967295)) (ha : a < 18446744073709551616) (hr : a % 4294967296 = r) : Qt P S F (.binOp .and t x y t') ty (.int .u64 (r : Int)) := by
  subst hr; exact q_mask32 hx hy ha
/-- A rotation to the right. -/
def rotr (x k : Nat) : Nat := x * 2 ^ (32 - k) % 4294967296 ||| x / 2 ^ k
theorem wrap_neg {k : Nat} (hk : 1 ≤ k ∧ k ≤ 31) : IntKind.u64.wrap (-(k : Int)) = ((18446744073709551616 - k : Nat) : Int) := by
  unfold IntKind.wrap
  simp only [show IntKind.u64.signed = false from rfl, Bool.false_and, show (2 : Int) ^ IntKind.u64.bits = 18446744073709551616 from by decide]
  simp
  omega
theorem and31 {k : Nat} (hk : 1 ≤ k ∧ k ≤ 31) : (18446744073709551616 - k) &&& 31 = 32 - k := by
  rw [Nat.and_two_pow_sub_one_eq_mod _ 5]
  omega
theorem q_and_eq {k : IntKind} {m r : Nat} (hk : k.signed = false) (hm : 2 ^ k.bits = m) (hx : oev F x = some (.int k (a : Int))) (hy : oev F y = some (.int k (b : Int))) (ha : a < m) (hb : b < m) (hr : a &&& b = r) : Qt P S F (.binOp .and t x y t') ty (.int k (r : Int)) := by
  subst hr; exact q_and hk hm hx hy ha hb
theorem bl8 {i : Nat} (hi : i < 256) : bl i ≤ 8 := bl_le (n := 8) hi
theorem bl8I {i : Nat} (hi : i < 256) : -9223372036854775808 ≤ ((bl i : Nat) : Int) ∧ ((bl i : Nat) : Int) ≤ 9223372036854775807 := by have := bl8 hi; omega
theorem bl8A {i : Nat} {a : Int} (ha : 0 ≤ a ∧ a ≤ 64) (hi : i < 256) : -9223372036854775808 ≤ a + ((bl i : Nat) : Int) ∧ a + ((bl i : Nat) : Int) ≤ 9223372036854775807 := by have := bl8 hi; omega
theorem q_len8 {t : TypeId} {s : ByteArray} {k : IntKind} {i : Nat} (hd : P.underlying t = some .string) (hx : oev F x = some (.string s)) (hall : (List.range 256).all (fun i => s[i]? == some (UInt8.ofNat (bl i))) = true) (hy : oev F y = some (.int k (i : Int))) (hi : i < 256) :
    Qt P S F (.index t x y) ty (.int .u8 ((bl i : Nat) : Int)) := by
  have h1 : s[i]? = some (UInt8.ofNat (bl i)) := by
    have := List.all_eq_true.1 hall i (List.mem_range.2 hi)
    simpa using this
  have := q_indexStr (P := P) (S := S) (ty := ty) hd hx hy h1
  have e : (UInt8.ofNat (bl i)).toNat = bl i := by have := bl8 hi; simp; omega
  rwa [e] at this
end
end Go.W

/-! Slices put together out of their elements. -/
namespace Go.W
open Go Go.RowKit
theorem fill_els (sz : Nat) : ∀ (vs : List (Nat × Value)) (els : List (List Value)) (k : Nat) (done todo : List Value), vs.map (·.1) = (List.range' k vs.length) → vs.map (fun p => p.2.cells.toList) = els → (∀ e ∈ els, e.length = sz) →
    done.length = k * sz → todo.length = els.length * sz → Instr.fill (fun i => some (i * sz, sz)) (done ++ todo).toArray vs = some (done ++ els.flatten).toArray := by
  intro vs
  induction vs with
  | nil =>
    intro els k done todo _ h2 _ _ h5
    simp at h2
    subst h2
    simp at h5
    subst h5
    simp [Instr.fill]
  | cons p t ih =>
    intro els k done todo h1 h2 h3 h4 h5
    obtain ⟨i, v⟩ := p
    simp only [List.map_cons, List.length_cons, List.range'_succ, List.cons.injEq] at h1
    obtain ⟨rfl, h1⟩ := h1
    simp only [List.map_cons] at h2
    subst h2
    have hv : v.cells.toList.length = sz := h3 _ (by simp)
    have hv' : v.cells.size = sz := by simpa using hv
    simp only [List.length_cons, List.length_map, Nat.succ_mul] at h5
    simp only [Instr.fill]
    rw [if_neg (by simp [hv']; omega)]
    have hf := fold_set v.cells.toList (done ++ todo) (i * sz) 0 (by simp [hv']; omega)
    have e : v.cells.zipIdx.foldl (fun (cs : Array Value) (x : Value × Nat) => match x with | (c, j) => cs.setIfInBounds (i * sz + j) c) (done ++ todo).toArray = (v.cells.toList.zipIdx 0).foldl (fun (c : Array Value) (p : Value × Nat) => c.setIfInBounds (i * sz + p.2) p.1) (done ++ todo).toArray := by
      rw [← Array.foldl_toList]
      simp [Array.toList_zipIdx]
    rw [e, hf]
    have e2 : ((done ++ todo).take (i * sz + 0) ++ v.cells.toList ++ (done ++ todo).drop (i * sz + 0 + v.cells.toList.length)) = (done ++ v.cells.toList) ++ todo.drop sz := by
      rw [Nat.add_zero, ← h4, List.take_left, hv, ← List.drop_drop, List.drop_left]
    rw [e2, ih _ (i + 1) (done ++ v.cells.toList) (todo.drop sz) h1 rfl (fun e he => h3 e (by simp only [List.mem_cons]; exact .inr he)) (by simp [hv', h4, Nat.succ_mul]) (by simp; omega)]
    simp
section
variable {P : Program} {ops : Array Oper} {Q : Exit → Act → World → Prop} {n d : Nat} {a : Act} {F : Fr} {w : World} {B : Base} {H : Froz} {L : List Blk}
  {ty T E : TypeId} {pos : String} {after : Array Edge} {K : Act → World → Prop} {g : Option (Nat × Bool)} {agg : Bool} {sz : Nat}
theorem run_buildSlice' {vs : List (Nat × Value)} {els : List (List Value)} {zs : List Value} (h1 : P.underlying T = some (.slice E)) (ht : tyS P E = some (agg, sz)) (hz : zrS P E = some zs)
    (hi : vs.map (·.1) = List.range' 0 vs.length) (he : vs.map (fun p => p.2.cells.toList) = els) (hl : ∀ e ∈ els, e.length = sz) (hb : els.length * sz ≤ 16777216) (w : World) :
    (Instr.buildSlice T els.length vs.toArray).run P w = .ok (.slice (some ⟨w.heap.size, 0, none⟩) els.length els.length) (w.alloc (.cells els.flatten.toArray E)) := by
  obtain ⟨i, zv, z1, z2, z3⟩ := zrS_parts hz
  have hzv : (zeroValue E).run P w = .ok zv w := by simp [zeroValue, typeInfo, z1, z2]
  unfold Instr.buildSlice
  simp only [Sem.run_bind, run_underlying h1, Result.andThen_ok, run_sizeOf' ht]
  rw [if_neg (by omega)]
  have hfill : ∀ z : Array Value, Instr.fill (fun i => some (i * sz, sz)) ((Array.range (els.length * sz)).map (z[· % z.size]!)) vs.toArray.toList = some els.flatten.toArray := by
    intro z
    have h := fill_els sz vs els 0 [] ((Array.range (els.length * sz)).map (z[· % z.size]!)).toList hi he hl (by simp) (by simp)
    rw [List.nil_append, List.nil_append, Array.toArray_toList] at h
    exact h
  split
  · simp only [hfill]
    simp [newRow]
  · simp only [Sem.run_bind, hzv, Sem.run_pure, Result.andThen_ok, hfill]
    simp [newRow]
theorem frz_self (H : Froz) (x : Blk) : frz H x x.b = some (.cells x.cs.toArray x.T (0, 0)) := by simp [frz]
theorem rdL_of_frz {H : Froz} {b : Nat} {T : TypeId} {k : Nat} {els : List (List Value)} (hl : ∀ e ∈ els, e.length = k) : RdL (frz H ⟨b, els.flatten, T⟩) (some ⟨b, 0, none⟩) k els :=
  ⟨⟨flatten_len hl, fun _ => ⟨b, 0, rfl, fun j v hv => (by
    have := frz_self H ⟨b, els.flatten, T⟩
    simp only [hcell, this]
    simpa using hv)⟩⟩, hl⟩
/-- A slice's literal, frozen at once. -/
theorem l_buildF {len : Nat} {ps : List (Nat × Operand)} {vs : List (Nat × Value)} {els : List (List Value)} {zs : List Value} (h1 : P.underlying T = some (.slice E)) (ht : tyS P E = some (agg, sz)) (hz : zrS P E = some zs) (hF : Has n a F) (hS : St B H L w) (hv : oevp F ps = some vs)
    (hi : vs.map (·.1) = List.range' 0 vs.length) (he : vs.map (fun p => p.2.cells.toList) = els) (hl : ∀ e ∈ els, e.length = sz) (hlen : els.length = len) (hb : Nat.ble (len * sz) 16777216 = true) (hd : Nat.blt d n = true)
    (k : ∀ a' w' b, Has n a' ((d, .slice (some ⟨b, 0, none⟩) len len) :: F) → Le H (frz H ⟨b, els.flatten, E⟩) → St B (frz H ⟨b, els.flatten, E⟩) L w' → RdL (frz H ⟨b, els.flatten, E⟩) (some ⟨b, 0, none⟩) sz els → K a' w') :
    (⟨some d, .buildSlice T len ps.toArray, ty, pos, after, g⟩ : Oper).wp P a w K Q := by
  subst hlen
  have hb' := Nat.le_of_ble_eq_true hb
  have key : ∀ (ps : List (Nat × Operand)) (vs : List (Nat × Value)), oevp F ps = some vs → ps.map (fun (i, x) => (i, a.eval x)) = vs := by
    intro ps
    induction ps with
    | nil => intro vs hv; simp [oevp] at hv; simp [hv]
    | cons p t ih =>
      intro vs hv
      simp only [oevp] at hv
      split at hv
      · rename_i v vs' e1 e2
        simp only [Option.some.injEq] at hv
        subst hv
        simp [hF.eval e1, ih _ e2]
      · cases hv
  unfold Oper.wp
  have hrun := run_buildSlice' (P := P) (T := T) (E := E) h1 ht hz hi he hl hb' w
  have : (execOp a.eval (⟨some d, .buildSlice T els.length ps.toArray, ty, pos, after, g⟩ : Oper)).run P w = .ok (.value (.slice (some ⟨w.heap.size, 0, none⟩) els.length els.length)) (w.alloc (.cells els.flatten.toArray E)) := by
    simp only [execOp, Sem.run_bind, List.map_toArray]
    rw [key _ _ hv, hrun]
    rfl
  rw [this]
  have hS1 := hS.alloc els.flatten E
  exact k _ _ _ (hF.put hd _) (hS1.le_freeze (i := 0) rfl) (hS1.freeze (i := 0) rfl) (rdL_of_frz hl)
theorem l_buildO {len : Nat} {ps : List (Nat × Operand)} {vs : List (Nat × Value)} {els : List (List Value)} {zs : List Value} (h1 : P.underlying T = some (.slice E)) (ht : tyS P E = some (agg, sz)) (hz : zrS P E = some zs) (hF : Has n a F) (hS : St B H L w) (hv : oevp F ps = some vs)
    (hi : vs.map (·.1) = List.range' 0 vs.length) (he : vs.map (fun p => p.2.cells.toList) = els) (hl : ∀ e ∈ els, e.length = sz) (hlen : els.length = len) (hb : Nat.ble (len * sz) 16777216 = true) (hd : Nat.blt d n = true)
    (k : ∀ a' w' b, Has n a' ((d, .slice (some ⟨b, 0, none⟩) len len) :: F) → St B H (⟨b, els.flatten, E⟩ :: L) w' → K a' w') :
    (⟨some d, .buildSlice T len ps.toArray, ty, pos, after, g⟩ : Oper).wp P a w K Q := by
  subst hlen
  have hb' := Nat.le_of_ble_eq_true hb
  have key : ∀ (ps : List (Nat × Operand)) (vs : List (Nat × Value)), oevp F ps = some vs → ps.map (fun (i, x) => (i, a.eval x)) = vs := by
    intro ps
    induction ps with
    | nil => intro vs hv; simp [oevp] at hv; simp [hv]
    | cons p t ih =>
      intro vs hv
      simp only [oevp] at hv
      split at hv
      · rename_i v vs' e1 e2
        simp only [Option.some.injEq] at hv
        subst hv
        simp [hF.eval e1, ih _ e2]
      · cases hv
  unfold Oper.wp
  have hrun := run_buildSlice' (P := P) (T := T) (E := E) h1 ht hz hi he hl hb' w
  have : (execOp a.eval (⟨some d, .buildSlice T els.length ps.toArray, ty, pos, after, g⟩ : Oper)).run P w = .ok (.value (.slice (some ⟨w.heap.size, 0, none⟩) els.length els.length)) (w.alloc (.cells els.flatten.toArray E)) := by
    simp only [execOp, Sem.run_bind, List.map_toArray]
    rw [key _ _ hv, hrun]
    rfl
  rw [this]
  exact k _ _ _ (hF.put hd _) (hS.alloc els.flatten E)
end
end Go.W

/-! Slices that the call owns: append; loops over any owned blocks; blocks handed over. -/
namespace Go.W
open Go Go.RowKit
def byS (P : Program) (T : TypeId) : Option Nat := (P.info? T).map (·.bytes)
/-- A slice of the call's own, or none. -/
inductive OwS (T : TypeId) (sz : Nat) : Value → Nat → List Value → List Blk → Prop
  | nil : OwS T sz (.slice none 0 0) 0 [] []
  | row {b n cap : Nat} {xs tail : List Value} (h1 : xs.length = n * sz) (h2 : (xs ++ tail).length = cap * sz) (h3 : n ≤ cap) (h4 : cap ≤ maxLen) : OwS T sz (.slice (some ⟨b, 0, none⟩) n cap) n xs [⟨b, xs ++ tail, T⟩]
theorem OwS.len {T : TypeId} {sz n : Nat} {v : Value} {xs : List Value} {Lx : List Blk} (h : OwS T sz v n xs Lx) : xs.length = n * sz := by
  cases h with
  | nil => simp
  | row h1 => exact h1
/-- What is read of it once it is written no more. -/
theorem OwS.freeze {T : TypeId} {sz n c : Nat} {a : Option Addr} {xs : List Value} {Lx L : List Blk} {B : Base} {H : Froz} {w : World} (h : OwS T sz (.slice a n c) n xs Lx) (hS : St B H (Lx ++ L) w) : ∃ H', Le H H' ∧ St B H' L w ∧ RdS H' a n sz xs := by
  generalize hv : Value.slice a n c = v at h
  cases h with
  | nil =>
    simp only [Value.slice.injEq, true_and] at hv
    obtain ⟨rfl, rfl⟩ := hv
    exact ⟨H, Le.refl H, hS, RdS.nil H _ _⟩
  | row h1 h2 h3 =>
    simp only [Value.slice.injEq, true_and] at hv
    obtain ⟨rfl, rfl⟩ := hv
    rename_i b tail _
    refine ⟨frz H ⟨b, xs ++ tail, T⟩, hS.le_freeze (i := 0) rfl, hS.freeze (i := 0) rfl, h1, fun _ => ⟨b, 0, rfl, fun j v hv => ?_⟩⟩
    have := frz_self H ⟨b, xs ++ tail, T⟩
    simp only [hcell, this]
    have hj := (List.getElem?_eq_some_iff.1 hv).1
    simp [List.getElem?_append_left hj, hv]
section
variable {B : Base} {H : Froz} {L Lx : List Blk} {w : World}
/-- Blocks are handed over to a call; some of them, and new ones, come back. -/
theorem St.callG (h : St B H (Lx ++ L) w) {H' : Froz} {L' : List Blk} {w' : World} (hc : St ⟨w, H, Lx.map (·.b)⟩ H' L' w') : St B H' (L' ++ L) w' where
  os := hc.os.trans h.os
  tape := hc.tape.trans h.tape
  output := hc.output.trans h.output
  size := Nat.le_trans h.size hc.size
  old k hk hm := by
    refine (hc.old k (Nat.lt_of_lt_of_le hk h.size) ?_).trans (h.old k hk hm)
    intro hk2
    obtain ⟨x, hx, rfl⟩ := List.mem_map.1 hk2
    rcases (h.mine x (List.mem_append_left _ hx)).1 with h1 | h1
    · omega
    · exact hm h1
  froz := hc.froz
  sub k o hk := hc.sub k o (h.sub k o hk)
  fresh k o hk := by
    rcases hc.fresh k o hk with h1 | h1 | h1
    · exact h.fresh k o h1
    · exact .inr (.inl (Nat.le_trans h.size h1))
    · obtain ⟨x, hx, rfl⟩ := List.mem_map.1 h1
      rcases (h.mine x (List.mem_append_left _ hx)).1 with h2 | h2
      · exact .inr (.inl h2)
      · exact .inr (.inr h2)
  own x hx := by
    rcases List.mem_append.1 hx with hx | hx
    · exact hc.own x hx
    · have hm := h.own x (List.mem_append_right _ hx)
      refine (hc.old x.b (lt_of_some hm) ?_).trans hm
      intro hk2
      obtain ⟨y, hy, hyb⟩ := List.mem_map.1 hk2
      exact (List.pairwise_append.1 h.nodup).2.2 y hy x hx hyb
  mine x hx := by
    rcases List.mem_append.1 hx with hx | hx
    · have := hc.mine x hx
      refine ⟨?_, this.2⟩
      rcases this.1 with h1 | h1
      · exact .inl (Nat.le_trans h.size h1)
      · obtain ⟨y, hy, hyb⟩ := List.mem_map.1 h1
        rw [← hyb]
        exact (h.mine y (List.mem_append_left _ hy)).1
    · have hm := h.mine x (List.mem_append_right _ hx)
      refine ⟨hm.1, ?_⟩
      cases hh : H' x.b with
      | none => rfl
      | some o =>
        rcases hc.fresh _ o hh with h1 | h1 | h1
        · simp only [] at h1; rw [hm.2] at h1; cases h1
        · exact absurd (lt_of_some (h.own x (List.mem_append_right _ hx))) (Nat.not_lt.2 h1)
        · obtain ⟨y, hy, hyb⟩ := List.mem_map.1 h1
          exact absurd hyb ((List.pairwise_append.1 h.nodup).2.2 y hy x hx)
  nodup := by
    refine List.pairwise_append.2 ⟨hc.nodup, (List.pairwise_append.1 h.nodup).2.1, fun x hx y hy => ?_⟩
    have h1 := lt_of_some (h.own y (List.mem_append_right _ hy))
    rcases (hc.mine x hx).1 with h2 | h2
    · simp only [] at h2; omega
    · obtain ⟨z, hz, hzb⟩ := List.mem_map.1 h2
      intro e
      exact (List.pairwise_append.1 h.nodup).2.2 z hz y hy (hzb.trans e)
/-- What a call finds that is handed blocks. -/
structure Hand (w : World) (H : Froz) (Lx : List Blk) : Prop where
  fz : Fz H w
  own : ∀ x ∈ Lx, w.heap[x.b]? = some (.cells x.cs.toArray x.T (0, 0))
  not : ∀ x ∈ Lx, H x.b = none
  nodup : Lx.Pairwise (fun x y => x.b ≠ y.b)
theorem St.hand (h : St B H (Lx ++ L) w) : Hand w H Lx :=
  ⟨h.froz, fun x hx => h.own x (List.mem_append_left _ hx), fun x hx => (h.mine x (List.mem_append_left _ hx)).2, (List.pairwise_append.1 h.nodup).1⟩
theorem Hand.nil (hz : Fz H w) : Hand w H [] := ⟨hz, (fun _ h => (by cases h)), (fun _ h => (by cases h)), List.Pairwise.nil⟩
theorem St.startG (h : Hand w H Lx) : St ⟨w, H, Lx.map (·.b)⟩ H Lx w :=
  ⟨rfl, rfl, rfl, Nat.le_refl _, fun _ _ _ => rfl, h.fz, fun _ _ h => h, fun _ _ h => .inl h, h.own, fun x hx => ⟨.inr (List.mem_map.2 ⟨x, hx, rfl⟩), h.not x hx⟩, h.nodup⟩
theorem St.perm (h : St B H L w) {L' : List Blk} (hp : L.Perm L') : St B H L' w :=
  ⟨h.os, h.tape, h.output, h.size, h.old, h.froz, h.sub, h.fresh, fun x hx => h.own x (hp.mem_iff.2 hx), fun x hx => h.mine x (hp.mem_iff.2 hx), (hp.pairwise_iff (fun hne => Ne.symm hne)).1 h.nodup⟩
theorem St.drawAlloc (h : St B H L w) (cs : List Value) (T : TypeId) : St B H (⟨w.heap.size, cs, T⟩ :: L) (w.drew.alloc (.cells cs.toArray T)) := h.drew.alloc cs T
end
section
variable {P : Program} {Q : Exit → Act → World → Prop} {n d : Nat} {a : Act} {F : Fr} {w : World} {B : Base} {H : Froz} {L : List Blk}
/-- A loop, the owned blocks whatever the ghost says. -/
theorem c_loopL {γ : Type} {c : Code} (hF : Has n a F) (W : List Nat) (X : γ → Fr) (Lf : γ → List Blk) (J : γ → Froz → Prop) (μ : γ → Nat) (g : γ)
    (h0 : AllIn F (X g)) (hL : St B H (Lf g) w) (hJ : J g H)
    (hr : ∀ g a w H', Le H H' → Has n a (X g ++ rem W F) → St B H' (Lf g) w → J g H' →
      c.wp P (Exit.then (fun a' w' => ∃ g' H'', μ g' < μ g ∧ Le H' H'' ∧ Has n a' (X g' ++ rem W F) ∧ St B H'' (Lf g') w' ∧ J g' H'') Q) a w) : (Code.loop c).wp P Q a w := by
  refine c_loop (fun a w m => ∃ g H', m = μ g ∧ Le H H' ∧ Has n a (X g ++ rem W F) ∧ St B H' (Lf g) w ∧ J g H') (μ g) ⟨g, H, rfl, Le.refl H, hF.head h0, hL, hJ⟩ ?_
  rintro a w m ⟨g, H', rfl, hle, hF', hS', hJ'⟩
  refine Code.wp_mono ?_ (hr g a w H' hle hF' hS' hJ')
  intro e a' w' hq
  cases e with
  | normal =>
    obtain ⟨g', H'', h1, h2, h3, h4, h5⟩ := hq
    exact ⟨μ g', h1, g', H'', rfl, hle.trans h2, h3, h4, h5⟩
  | _ => exact hq
end
/-- What an append takes its elements from. -/
inductive Srce (P : Program) (H : Froz) (sz : Nat) (tx : TypeId) : Value → Nat → List Value → Prop
  | slice {a : Option Addr} {m c : Nat} {news : List Value} {e' : TypeId} (hk : P.underlying tx = some (.slice e')) (hr : RdS H a m sz news) (h1 : all1 news = true) : Srce P H sz tx (.slice a m c) m news
  | str {s : ByteArray} (hk : P.underlying tx = some .string) (h : sz = 1) : Srce P H sz tx (.string s) s.size (byteCells s)
theorem Srce.src {P : Program} {H : Froz} {sz : Nat} {tx : TypeId} {x : Value} {m : Nat} {news : List Value} {B : Base} {L : List Blk} {w : World} (h : Srce P H sz tx x m news) (hS : St B H L w) : Src P sz tx x m news w := by
  cases h with
  | slice hk hr h1 =>
    rename_i a c e'
    rcases Nat.eq_zero_or_pos m with rfl | hm
    · have hn : news = [] := List.eq_nil_of_length_eq_zero (by rw [hr.len]; simp)
      subst hn
      cases a with
      | none => exact ⟨.inl ⟨e', hk⟩, fun _ => rfl, run_firstCells_none w _ _ _ _, run_firstCells_none w.drew _ _ _ _, by simp, fun _ h => by cases h⟩
      | some a => exact Src.ofSlice w hk a 0 c [] (by simp) (fun j u hj => by simp at hj) (fun _ h => by cases h)
    · obtain ⟨b, o, rfl, hh⟩ := hr.at_ (by omega)
      exact Src.ofSlice w hk ⟨b, o, none⟩ m c news hr.len (fun j u hj => by rw [Addr.add_lit]; exact hS.hcell (hh j u hj)) (all1_mem h1)
  | str hk h => subst h; exact Src.ofString w hk _
theorem grown_tail {w : World} {need old : Nat} {e : TypeId} {z : Value} {sz : Nat} {xs news : List Value} (hz : z.cells.size = sz) (hl : (xs ++ news).length = need * sz) :
    ((xs ++ news).toArray ++ Builtin.zeroCells z.cells (grownCap w need old e - need)).toList = (xs ++ news) ++ (Builtin.zeroCells z.cells (grownCap w need old e - need)).toList ∧
    ((xs ++ news) ++ (Builtin.zeroCells z.cells (grownCap w need old e - need)).toList).length = grownCap w need old e * sz := by
  refine ⟨by simp, ?_⟩
  have hge := grownCap_ge w need old e
  rw [List.length_append, hl, Array.length_toList, size_zeroCells, hz, ← Nat.add_mul]
  congr 1
  omega
section
variable {P : Program} {ops : Array Oper} {Q : Exit → Act → World → Prop} {n d : Nat} {a : Act} {F : Fr} {w : World} {B : Base} {H : Froz} {L Lx : List Blk}
  {ty T tx E : TypeId} {pos : String} {after : Array Edge} {v u : Value} {x y : Operand} {K : Act → World → Prop} {g : Option (Nat × Bool)} {agg : Bool} {sz bytes : Nat}
theorem append_exec {ρ : Operand → Value} {r : Value} {w' : World} (hx : ρ x = v) (hy : ρ y = u) (h : (Builtin.append_ #[T, tx] ty #[v, u]).run P w = .ok r w') {dd : Option Tmp} :
    (execOp ρ (⟨dd, .call ⟨.builtin .append, #[x, y], #[T, tx]⟩, ty, pos, after, g⟩ : Oper)).run P w = .ok (.value r) w' := by
  simp [execOp, resolve, invoke, builtin, hx, hy, h, Result.andThen]
/-- An append to what the call owns. -/
theorem l_append {m k : Nat} {xs news zs : List Value} (h1 : P.underlying T = some (.slice E)) (ht : tyS P E = some (agg, sz)) (hz : zrS P E = some zs) (hby : byS P E = some bytes) (hF : Has n a F) (hS : St B H (Lx ++ L) w) (hx : oev F x = some v) (hy : oev F y = some u)
    (ho : OwS E sz v k xs Lx) (hs : Srce P H sz tx u m news) (hb : (k + m) * bytes ≤ 140737488355328) (hm : k + m ≤ maxLen) (hzl : zs.length = sz) (hd : Nat.blt d n = true)
    (kk : ∀ a' w' c' ad' Lx', OwS E sz (.slice ad' (k + m) c') (k + m) (xs ++ news) Lx' → Has n a' ((d, .slice ad' (k + m) c') :: F) → St B H (Lx' ++ L) w' → K a' w') :
    (⟨some d, .call ⟨.builtin .append, #[x, y], #[T, tx]⟩, ty, pos, after, g⟩ : Oper).wp P a w K Q := by
  obtain ⟨dd, i, p1, hi, p3, rfl⟩ := tyS_parts ht
  obtain ⟨i', zv, z1, z2, z3⟩ := zrS_parts hz
  obtain rfl := Option.some.inj (hi.symm.trans z1)
  have hbb : i.bytes = bytes := by simpa [byS, hi] using hby
  subst hbb
  have hzs : zv.cells.size = i.size := by rw [← hzl, ← z3]; simp
  have hsrc := hs.src hS
  have hmx : k + m ≤ 9223372036854775807 := by simp only [maxLen] at hm; omega
  unfold Oper.wp
  cases ho with
  | nil =>
    rcases Nat.eq_zero_or_pos m with rfl | hm0
    · have hn : news = [] := List.eq_nil_of_length_eq_zero (by rw [hsrc.newsLen]; simp)
      subst hn
      have hrun : (Builtin.append_ #[T, tx] ty #[.slice none 0 0, u]).run P w = .ok (.slice none 0 0) w := by
        rcases hsrc.kind with ⟨e', hk⟩ | hk <;> simp [Builtin.append_, run_underlying h1, run_underlying hk, sizeOf, typeInfo, hi, hsrc.len, hsrc.cells]
      rw [append_exec (hF.eval hx) (hF.eval hy) hrun]
      exact kk _ _ _ _ [] .nil (hF.put hd _) hS
    · have hrun := run_append_grow_src (P := P) w T tx ty E i zv h1 hi z2 none 0 0 [] (by simp [Builtin.firstCells]) u m news hsrc (by omega) (by omega) (growslice_fits (by omega) hb)
      rw [append_exec (hF.eval hx) (hF.eval hy) hrun]
      obtain ⟨t1, t2⟩ := grown_tail (w := w) (need := 0 + m) (old := 0) (e := E) (xs := []) (news := news) hzs (by simp [hsrc.newsLen])
      refine kk _ _ _ _ [⟨w.heap.size, _, E⟩] (.row (by simp [hsrc.newsLen]) t2 (grownCap_ge _ _ _ _) (grownCap_le_maxLen _ _ _ _ hm)) (hF.put hd _) ?_
      have := hS.drawAlloc (([] ++ news) ++ (Builtin.zeroCells zv.cells (grownCap w (0 + m) 0 E - (0 + m))).toList) E
      rw [← t1, Array.toArray_toList] at this
      rw [← t1]
      exact this
  | row e1 e2 e3 e4 =>
    rename_i b cap tail
    have ho0 := hS.own _ (List.mem_append_left _ (List.mem_singleton.2 rfl))
    simp only [] at ho0
    have hlen : (xs ++ news).length = (k + m) * i.size := by rw [List.length_append, e1, hsrc.newsLen, Nat.add_mul]
    by_cases hr : k + m ≤ cap
    · have hfit : k * i.size + news.length ≤ (xs ++ tail).length := by
        rw [e2, hsrc.newsLen, ← Nat.add_mul]
        exact Nat.mul_le_mul_right _ hr
      have hst := run_storeCells_at P b (k * i.size) E news 0 (xs ++ tail).toArray w ho0 (by simpa using hfit) hsrc.one
      simp only [Nat.add_zero] at hst
      have hrun : (Builtin.append_ #[T, tx] ty #[.slice (some ⟨b, 0, none⟩) k cap, u]).run P w = .ok (.slice (some ⟨b, 0, none⟩) (k + m) cap) (w.setRow b ((xs ++ tail).take (k * i.size) ++ news ++ (xs ++ tail).drop (k * i.size + news.length)).toArray) := by
        rcases hsrc.kind with ⟨e', hk⟩ | hk <;> simp [Builtin.append_, run_underlying h1, run_underlying hk, sizeOf, typeInfo, hi, hsrc.len, hr, hsrc.cells, Addr.add_lit, hst]
      rw [append_exec (hF.eval hx) (hF.eval hy) hrun]
      have e5 : (xs ++ tail).take (k * i.size) = xs := by rw [← e1]; simp
      rw [e5]
      have hset := hS.set (i := 0) (cs' := xs ++ news ++ (xs ++ tail).drop (k * i.size + news.length)) rfl (Only.setRow ho0)
      refine kk _ _ _ _ [⟨b, _, E⟩] (.row hlen ?_ hr e4) (hF.put hd _) hset
      rw [List.length_append, List.length_drop, hlen, e2, hsrc.newsLen, ← Nat.add_mul]
      have : (k + m) * i.size ≤ cap * i.size := Nat.mul_le_mul_right _ hr
      omega
    · have hold : (Builtin.firstCells i.size k (.slice (some ⟨b, 0, none⟩) k cap)).run P w.drew = .ok xs.toArray w.drew :=
        run_firstCells_some (P := P) w.drew i.size k ⟨b, 0, none⟩ k cap xs e1 (fun j u hj => by
          rw [Addr.add_lit]
          have hj2 := (List.getElem?_eq_some_iff.1 hj).1
          have h5 := hS.drew.own _ (List.mem_append_left _ (List.mem_singleton.2 rfl))
          simp only [] at h5
          simp only [World.cell?, h5]
          simp [List.getElem?_append_left hj2, hj])
      have hrun := run_append_grow_src (P := P) w T tx ty E i zv h1 hi z2 (some ⟨b, 0, none⟩) k cap xs hold u m news hsrc (by omega) (by omega) (growslice_fits (by omega) hb)
      rw [append_exec (hF.eval hx) (hF.eval hy) hrun]
      obtain ⟨t1, t2⟩ := grown_tail (w := w) (need := k + m) (old := cap) (e := E) (xs := xs) (news := news) hzs hlen
      refine kk _ _ _ _ [⟨w.heap.size, _, E⟩] (.row hlen t2 (grownCap_ge _ _ _ _) (grownCap_le_maxLen _ _ _ _ hm)) (hF.put hd _) ?_
      have := (hS.lose (L' := L) (List.sublist_append_right _ _)).drawAlloc ((xs ++ news) ++ (Builtin.zeroCells zv.cells (grownCap w (k + m) cap E - (k + m))).toList) E
      rw [← t1, Array.toArray_toList] at this
      rw [← t1]
      exact this
end
end Go.W

/-! More: arrays that are values, arrays seen as slices, bytes and strings, copies, makes, equalities. -/
namespace Go.W
open Go Go.RowKit
section
variable {P : Program} {S : World → Prop} {B : Base} {H : Froz} {L : List Blk} {F : Fr} {ty T : TypeId} {v u : Value} {x y z : Operand} {agg : Bool} {sz : Nat}
theorem run_part' {t : TypeId} {cs : List Value} {o : Nat} {w : World} (ht : tyS P t = some (agg, sz)) (hv : ldv agg sz cs o = some v) : (part t cs.toArray o).run P w = .ok v w := by
  unfold part
  rw [Sem.run_bind, run_isAgg' ht]
  cases agg with
  | true =>
    simp only [ldv, cond_true, Option.some.injEq] at hv
    simp [run_sizeOf' ht, ← hv]
  | false =>
    simp only [ldv, cond_false] at hv
    simp [hv]
theorem q_indexAgg {E : TypeId} {len : Nat} {cs : List Value} {k : IntKind} {i : Nat} (h1 : P.underlying T = some (.array len E)) (h2 : tyS P E = some (agg, sz)) (hx : oev F x = some (.agg cs.toArray)) (hy : oev F y = some (.int k (i : Int))) (hi : i < len)
    (hv : ldv agg sz cs (i * sz) = some v) : Qt P S F (.index T x y) ty v := by
  intro ρ hρ w _ d pos after g
  have hc : (0 : Int) ≤ (i : Int) ∧ (i : Int) < (len : Int) := by omega
  simp only [execOp, hρ x _ hx, hρ y _ hy, Instr.index, asIntOf, Sem.run_bind, Sem.run_pure, Result.andThen_ok, run_underlying h1, hc, and_self, if_true, run_sizeOf' h2, Int.toNat_natCast, run_part' h2 hv]
/-- An array at a pointer, seen as a slice. -/
theorem q_sliceA {E : TypeId} {b o n l h : Nat} {ol oh : Option Operand} (h1 : P.underlying T = some (.array n E)) (h3 : tyS P E = some (agg, sz)) (hx : oev F x = some (.pointer (some ⟨b, o, none⟩)))
    (hh : match oh with | some q => ∃ k, oev F q = some (.int k (h : Int)) ∧ h ≤ n | none => h = n)
    (hl : match ol with | some q => ∃ k, oev F q = some (.int k (l : Int)) ∧ l ≤ h | none => l = 0) (hln : l < n) :
    Qt P S F (.slice T x ol oh none) ty (.slice (some ⟨b, o + l * sz, none⟩) (h - l) (n - l)) := by
  intro ρ hρ w _ d pos after g
  have b1 : ∀ (k : IntKind) (p y : Nat) (code : BoundsCode), p ≤ y → (Instr.sliceBound (.int k (p : Int)) y code).run P w = .ok p w := by
    intro k p y code hp
    simp only [Instr.sliceBound, asIntOf, Sem.run_bind, Sem.run_pure, Result.andThen_ok, Sem.run_ite]
    rw [if_pos ⟨by omega, by omega⟩]
    simp
  have hb : (Instr.sliceBounds false n n (ol.map ρ) (oh.map ρ) none).run P w = .ok (l, h, n) w := by
    unfold Instr.sliceBounds
    cases oh with
    | none =>
      simp only at hh; subst hh
      cases ol with
      | none => simp only at hl; subst hl; simp
      | some q => obtain ⟨k, e, e2⟩ := hl; simp [hρ q _ e, b1 _ _ _ _ e2]
    | some q' =>
      obtain ⟨k', e', e2'⟩ := hh
      cases ol with
      | none => simp only at hl; subst hl; simp [hρ q' _ e', b1 _ _ _ _ e2']
      | some q => obtain ⟨k, e, e2⟩ := hl; simp [hρ q _ e, b1 _ _ _ _ e2, hρ q' _ e', b1 _ _ _ _ e2']
  have hne : n ≠ l := by omega
  simp [execOp, Instr.sliceAt, Instr.sureAddr, run_underlying h1, hρ x _ hx, hb, run_sizeOf' h3, hne, Addr.add_lit]
/-- Bytes, as cells. -/
def bc (l : List UInt8) : List Value := l.map fun b => Value.int .u8 (b.toNat : Int)
theorem bc_length (l : List UInt8) : (bc l).length = l.length := by simp [bc]
theorem bc_get (l : List UInt8) (i : Nat) : (bc l)[i]? = (l[i]?).map fun b => Value.int .u8 (b.toNat : Int) := by simp [bc]
theorem bc_all1 (l : List UInt8) : all1 (bc l) = true := by simp only [all1, bc, List.all_eq_true, List.mem_map]; rintro _ ⟨b, _, rfl⟩; rfl
theorem bc_append (a b : List UInt8) : bc (a ++ b) = bc a ++ bc b := by simp [bc]
theorem bc_inj {a b : List UInt8} (h : bc a = bc b) : a = b := by
  have hinj : Function.Injective (fun b : UInt8 => Value.int .u8 (b.toNat : Int)) := fun p q e => by
    simp only [Value.int.injEq, true_and] at e
    exact UInt8.toNat_inj.1 (by omega)
  exact List.map_inj_right (fun p q e => hinj e) |>.1 h
theorem byteCells_bc (s : ByteArray) : byteCells s = bc s.data.toList := rfl
theorem RdS.bytes {H : Froz} {a : Option Addr} {n : Nat} {l : List UInt8} (h : RdS H a n 1 (bc l)) : n = l.length := by have := h.len; simp [bc_length] at this; exact this.symm
def bstr (l : List UInt8) : ByteArray := ⟨l.toArray⟩
theorem fold_bytes : ∀ (l : List UInt8) (s : ByteArray), (l.map (fun b => (b.toNat : Int))).foldl (fun r n => r.push (UInt8.ofNat n.toNat)) s = ⟨(s.data.toList ++ l).toArray⟩
  | [], s => by simp
  | b :: t, s => by
    rw [List.map_cons, List.foldl_cons, fold_bytes t]
    simp [ByteArray.push]
theorem q_convBS {S0 : TypeId} {E : TypeId} {a : Option Addr} {c : Nat} {l : List UInt8} (hs : P.underlying S0 = some (.slice E)) (he : P.underlying E = some (.int .u8)) (hd : P.underlying T = some .string) (hx : oev F x = some (.slice a l.length c)) (hr : RdS H a l.length 1 (bc l)) :
    Qt P (St B H L) F (.convert S0 T x) ty (.string (bstr l)) := by
  intro ρ hρ w hS d pos after g
  have hb : (Conv.bytesToString (.slice a l.length c)).run P w = .ok (.string (bstr l)) w := by
    cases a with
    | none =>
      have : l = [] := by
        rcases Nat.eq_zero_or_pos l.length with h | h
        · exact List.eq_nil_of_length_eq_zero h
        · exact absurd rfl (hr.some h)
      subst this
      simp [Conv.bytesToString, bstr]
      rfl
    | some p =>
      have hl : (loadCells p (bc l).length).run P w = .ok (bc l).toArray w := by
        refine run_loadCells_list (P := P) w p (bc l) (fun j v hv => ?_)
        have hj := (List.getElem?_eq_some_iff.1 hv).1
        rw [bc_length] at hj
        obtain ⟨b, o, hp, hh⟩ := hr.at_ (by omega)
        rw [Option.some.inj hp, Addr.add_lit]
        exact hS.hcell (hh _ _ hv)
      rw [bc_length] at hl
      have e : (l.map (fun b => (b.toNat : Int))).map (Value.int .u8) = bc l := by simp [bc]
      rw [← e] at hl
      rw [run_bytesToString w p l.length c _ hl, fold_bytes]
      rfl
  simp only [execOp, hρ x _ hx, Sem.run_bind, run_convert_bytes_string (P := P) w S0 T E a l.length c hs he hd, hb, Result.andThen_ok, Sem.run_pure]
/-- A slice, held against nil. -/
theorem q_eqNilS {E : TypeId} {a : Option Addr} {n c : Nat} {t' : TypeId} (h : P.underlying T = some (.slice E)) (hx : oev F x = some (.slice a n c)) (hy : oev F y = some (.slice none 0 0)) : Qt P S F (.binOp .eql T x y t') ty (.bool a.isNone) := by
  intro ρ hρ w _ d pos after g
  have h1 : (Op.equal T (.slice a n c) (.slice none 0 0)).run P w = .ok a.isNone w := by
    exact run_equalIn_slice_nil (P := P) w 9999 T E a n c h
  have h2 : (eqGuard .eql T x y (.slice a n c) (.slice none 0 0)).run P w = .ok () w := by simp [eqGuard]
  simp only [execOp, hρ x _ hx, hρ y _ hy, Go.binOp, Sem.run_bind, h1, h2, Result.andThen_ok, Sem.run_pure]
/-- Arrays of ints. -/
theorem eqItems_ints {E : TypeId} {k k' : IntKind} {dd : Nat} (he : P.underlying E = some (.int k')) (ht : tyS P E = some (false, 1)) (w : World) (xs ys : List Int) : ∀ (m i : Nat), i + m ≤ xs.length → i + m ≤ ys.length →
    (Op.eqItems (dd + 1) E 1 (xs.map (Value.int k)).toArray (ys.map (Value.int k)).toArray (List.range' i m)).run P w = .ok (decide ((xs.drop i).take m = (ys.drop i).take m)) w
  | 0, i, _, _ => by simp [Op.eqItems]
  | m + 1, i, h1, h2 => by
    have e1 : (xs.drop i).take (m + 1) = xs[i] :: (xs.drop (i + 1)).take m := by rw [List.drop_eq_getElem_cons (by omega)]; rfl
    have e2 : (ys.drop i).take (m + 1) = ys[i] :: (ys.drop (i + 1)).take m := by rw [List.drop_eq_getElem_cons (by omega)]; rfl
    have p1 : (part E (xs.map (Value.int k)).toArray (i * 1)).run P w = .ok (.int k xs[i]) w := run_part' ht (by simp [ldv, show i < xs.length by omega])
    have p2 : (part E (ys.map (Value.int k)).toArray (i * 1)).run P w = .ok (.int k ys[i]) w := run_part' ht (by simp [ldv, show i < ys.length by omega])
    have p3 := run_equalIn_int (P := P) w dd E k k' xs[i] ys[i] he
    rw [List.range'_succ]
    simp only [Op.eqItems, Sem.run_bind, p1, p2, p3, Result.andThen_ok]
    have ih := eqItems_ints he ht (k := k) (dd := dd) w xs ys m (i + 1) (by omega) (by omega)
    rw [e1, e2]
    by_cases hq : xs[i] = ys[i]
    · simp [hq, ih]
    · simp [hq]
theorem run_eqArrI {E : TypeId} {k k' : IntKind} {n dd : Nat} (h : P.underlying T = some (.array n E)) (he : P.underlying E = some (.int k')) (ht : tyS P E = some (false, 1)) (w : World) {xs ys : List Int} (h1 : xs.length = n) (h2 : ys.length = n) :
    (Op.equalIn (dd + 2) T (.agg (xs.map (Value.int k)).toArray) (.agg (ys.map (Value.int k)).toArray)).run P w = .ok (decide (xs = ys)) w := by
  obtain ⟨d0, i, p1, p2, p3, p4⟩ := tyS_parts ht
  have hc : P.cellsOf E = 1 := by simp [Program.cellsOf, p2, p4]
  rw [run_equalIn_array (P := P) w (dd + 1) _ _ h p2, hc, List.range_eq_range', eqItems_ints he ht w xs ys n 0 (by omega) (by omega)]
  rw [List.drop_zero, List.drop_zero, List.take_of_length_le (by omega), List.take_of_length_le (by omega)]
def guS (P : Program) (T : TypeId) : Bool := !P.eqGuardType P.depth T
theorem q_eqArrI {E : TypeId} {k k' : IntKind} {n : Nat} {t' : TypeId} (hg : guS P T = true) (h : P.underlying T = some (.array n E)) (he : P.underlying E = some (.int k')) (ht : tyS P E = some (false, 1)) {xs ys : List Int} (h1 : xs.length = n) (h2 : ys.length = n)
    (hx : oev F x = some (.agg (xs.map (Value.int k)).toArray)) (hy : oev F y = some (.agg (ys.map (Value.int k)).toArray)) : Qt P S F (.binOp .eql T x y t') ty (.bool (decide (xs = ys))) := by
  intro ρ hρ w _ d pos after g
  have e1 := run_eqArrI (P := P) (k := k) (dd := 9998) h he ht w h1 h2
  have e2 : (eqGuard .eql T x y (.agg (xs.map (Value.int k)).toArray) (.agg (ys.map (Value.int k)).toArray)).run P w = .ok () w := run_eqGuard_agg w .eql T x y _ _ (by simpa [guS] using hg)
  have e3 : (Op.equal T (.agg (xs.map (Value.int k)).toArray) (.agg (ys.map (Value.int k)).toArray)).run P w = .ok (decide (xs = ys)) w := e1
  simp only [execOp, hρ x _ hx, hρ y _ hy, Go.binOp, Sem.run_bind, e3, e2, Result.andThen_ok, Sem.run_pure]
theorem q_neArrI {E : TypeId} {k k' : IntKind} {n : Nat} {t' : TypeId} (hg : guS P T = true) (h : P.underlying T = some (.array n E)) (he : P.underlying E = some (.int k')) (ht : tyS P E = some (false, 1)) {xs ys : List Int} (h1 : xs.length = n) (h2 : ys.length = n)
    (hx : oev F x = some (.agg (xs.map (Value.int k)).toArray)) (hy : oev F y = some (.agg (ys.map (Value.int k)).toArray)) : Qt P S F (.binOp .neq T x y t') ty (.bool (!decide (xs = ys))) := by
  intro ρ hρ w _ d pos after g
  have e1 := run_eqArrI (P := P) (k := k) (dd := 9998) h he ht w h1 h2
  have e2 : (eqGuard .neq T x y (.agg (xs.map (Value.int k)).toArray) (.agg (ys.map (Value.int k)).toArray)).run P w = .ok () w := run_eqGuard_agg w .neq T x y _ _ (by simpa [guS] using hg)
  have e3 : (Op.equal T (.agg (xs.map (Value.int k)).toArray) (.agg (ys.map (Value.int k)).toArray)).run P w = .ok (decide (xs = ys)) w := e1
  simp only [execOp, hρ x _ hx, hρ y _ hy, Go.binOp, Sem.run_bind, e3, e2, Result.andThen_ok, Sem.run_pure]
end
/-- Behind the making of a block that is frozen at once. -/
theorem St.addF {B : Base} {H : Froz} {L : List Blk} {w : World} (h : St B H L w) (o : Obj) : Le H (fun k => if k = w.heap.size then some o else H k) ∧ St B (fun k => if k = w.heap.size then some o else H k) L (w.alloc o) := by
  have hno : H w.heap.size = none := by
    cases hh : H w.heap.size with
    | none => rfl
    | some o => exact absurd (h.hlt hh) (Nat.lt_irrefl _)
  refine ⟨fun k q hk => ?_, ⟨h.os, h.tape, h.output, ?_, ?_, ?_, ?_, ?_, ?_, ?_, h.nodup⟩⟩
  · by_cases e : k = w.heap.size
    · rw [e, hno] at hk; cases hk
    · simpa [e] using hk
  · simp only [World.size_alloc]; have := h.size; omega
  · exact fun k hk hm => (_root_.Go.heap_alloc_old w _ (by have := h.size; omega)).trans (h.old k hk hm)
  · intro k q hk
    by_cases e : k = w.heap.size
    · simp only [e, if_true] at hk; rw [e, ← Option.some.inj hk]; exact _root_.Go.heap_alloc_new w _
    · simp only [e, if_false] at hk; exact (_root_.Go.heap_alloc_old w _ (h.hlt hk)).trans (h.froz k q hk)
  · intro k q hk
    have := h.sub k q hk
    by_cases e : k = w.heap.size
    · rw [e, hno] at this; cases this
    · simpa [e] using this
  · intro k q hk
    by_cases e : k = w.heap.size
    · rw [e]; exact .inr (.inl h.size)
    · simp only [e, if_false] at hk; exact h.fresh k q hk
  · exact fun x hx => (_root_.Go.heap_alloc_old w _ (lt_of_some (h.own x hx))).trans (h.own x hx)
  · intro x hx
    refine ⟨(h.mine x hx).1, ?_⟩
    have hlt := lt_of_some (h.own x hx)
    have e : ¬ x.b = w.heap.size := by omega
    simp only [e, if_false]
    exact (h.mine x hx).2
section
variable {P : Program} {ops : Array Oper} {Q : Exit → Act → World → Prop} {n d : Nat} {a : Act} {F : Fr} {w : World} {B : Base} {H : Froz} {L Lx : List Blk}
  {ty T tx E : TypeId} {pos : String} {after : Array Edge} {v u : Value} {x y : Operand} {K : Act → World → Prop} {g : Option (Nat × Bool)} {agg : Bool} {sz bytes : Nat}
/-- A string's bytes, in new memory that is read only. -/
theorem l_convSB {S0 : TypeId} {s : ByteArray} (hs : P.underlying S0 = some .string) (hd0 : P.underlying T = some (.slice E)) (he : P.underlying E = some (.int .u8)) (hF : Has n a F) (hS : St B H L w) (hx : oev F x = some (.string s)) (hd : Nat.blt d n = true)
    (kk : ∀ a' w' H' c' ad', Le H H' → s.data.toList.length ≤ c' → RdS H' ad' s.data.toList.length 1 (bc s.data.toList) → Has n a' ((d, .slice ad' s.data.toList.length c') :: F) → St B H' L w' → K a' w') :
    (⟨some d, .convert S0 T x, ty, pos, after, g⟩ : Oper).wp P a w K Q := by
  unfold Oper.wp
  obtain ⟨cap, hcap⟩ : ∃ cap, cap = grownCap w s.size 0 E := ⟨_, rfl⟩
  have hsz : s.size = s.data.toList.length := by simp
  have hrun := run_bytes_of_string (P := P) w S0 T E s hs hd0 he
  rw [← hcap] at hrun
  obtain ⟨cs, hcs⟩ : ∃ cs, cs = bytesRow s cap := ⟨_, rfl⟩
  rw [← hcs] at hrun
  have : (execOp a.eval (⟨some d, .convert S0 T x, ty, pos, after, g⟩ : Oper)).run P w = .ok (.value (.slice (some ⟨w.heap.size, 0, none⟩) s.size cap)) (w.drew.alloc (.cells cs E (cs.size, cs.size + 1))) := by
    simp only [execOp, hF.eval hx, Sem.run_bind, hrun, Result.andThen_ok, Sem.run_pure]
  rw [this]
  obtain ⟨h1, h2⟩ := hS.drew.addF (.cells cs E (cs.size, cs.size + 1))
  have hcge : s.size ≤ cap := by rw [hcap]; exact grownCap_ge _ _ _ _
  rw [hsz] at *
  refine kk _ _ _ _ _ h1 hcge ⟨by simp [bc_length], fun _ => ⟨w.heap.size, 0, rfl, fun j v hv => ?_⟩⟩ (hF.put hd _) h2
  have hj := (List.getElem?_eq_some_iff.1 hv).1
  rw [bc_length] at hj
  rw [bc_get] at hv
  have hd1 : w.drew.heap.size = w.heap.size := rfl
  simp only [hcell, hd1, if_true, Nat.zero_add, hcs, bytesRow]
  rw [Array.getElem?_append_left (by simpa using hj)]
  simpa using hv
/-- A copy into an owned block; where the cells come from is shown by the caller. -/
theorem l_copyG {i b o m dc k : Nat} {cs news : List Value} {T' tx : TypeId} {sa : Option Addr} {sm sc : Nat} (h1 : P.underlying T = some (.slice E)) (ht : tyS P E = some (agg, sz)) (hF : Has n a F) (hS : St B H L w) (hx : oev F x = some (.slice (some ⟨b, o, none⟩) m dc)) (hy : oev F y = some (.slice sa sm sc))
    (hi : L[i]? = some ⟨b, cs, T'⟩) (hk : k = min sm m) (hl : news.length = k * sz) (hb : o + k * sz ≤ cs.length) (hone : all1 news = true)
    (hsrc : k ≠ 0 → ∃ b' o', sa = some ⟨b', o', none⟩ ∧ ∀ j v, news[j]? = some v → w.cell? ⟨b', o' + j, none⟩ = some v) (hd : Nat.blt d n = true)
    (kk : ∀ a' w', Has n a' ((d, .int .i64 (k : Int)) :: F) → St B H (L.set i ⟨b, spl cs o news, T'⟩) w' → K a' w') :
    (⟨some d, .call ⟨.builtin .copy, #[x, y], #[T, tx]⟩, ty, pos, after, g⟩ : Oper).wp P a w K Q := by
  have ho := hS.own _ (List.mem_of_getElem? hi)
  simp only [] at ho
  have hfc : (Builtin.firstCells sz k (.slice sa sm sc)).run P w = .ok news.toArray w := by
    rcases Nat.eq_zero_or_pos k with h0 | h0
    · have hn : news = [] := List.eq_nil_of_length_eq_zero (by rw [hl, h0]; simp)
      subst hn
      cases sa with
      | none => simp [Builtin.firstCells]
      | some q => rw [h0]; exact run_firstCells_some (P := P) w sz 0 q sm sc [] (by simp) (fun j u hj => by simp at hj)
    · obtain ⟨b', o', rfl, hh⟩ := hsrc (by omega)
      exact run_firstCells_some (P := P) w sz k ⟨b', o', none⟩ sm sc news hl (fun j u hj => by rw [Addr.add_lit]; exact hh j u hj)
  have hst := run_storeCells_at P b o T' news 0 cs.toArray w ho (by simp; omega) (all1_mem hone)
  simp only [Nat.add_zero] at hst
  unfold Oper.wp
  have : (execOp a.eval (⟨some d, .call ⟨.builtin .copy, #[x, y], #[T, tx]⟩, ty, pos, after, g⟩ : Oper)).run P w = .ok (.value (.int .i64 (k : Int))) (w.setRow b (spl cs o news).toArray) := by
    have hmin : Nat.min sm m = k := hk.symm
    simp only [execOp, resolve, invoke, builtin]
    simp [hF.eval hx, hF.eval hy, Builtin.copy_, run_underlying h1, Builtin.lenOf, hmin, run_sizeOf' ht, hfc, hst, goInt]
    simp [spl]
  rw [this]
  exact kk _ _ (hF.put hd _) (hS.set hi (Only.setRow ho))
theorem cell_of_own {B : Base} {H : Froz} {L : List Blk} {w : World} (hS : St B H L w) {i b : Nat} {cs : List Value} {T : TypeId} (hi : L[i]? = some ⟨b, cs, T⟩) {j : Nat} {v : Value} (hv : cs[j]? = some v) : w.cell? ⟨b, j, none⟩ = some v := by
  have ho := hS.own _ (List.mem_of_getElem? hi)
  simp only [] at ho
  simp [World.cell?, ho, hv]
/-- New memory for a slice, all of it zero. -/
theorem l_makeO {l c : Nat} {zs : List Value} {k k' : IntKind} (h1 : P.underlying T = some (.slice E)) (ht : tyS P E = some (agg, sz)) (hz : zrS P E = some zs) (hby : byS P E = some bytes) (hF : Has n a F) (hS : St B H L w) (hx : oev F x = some (.int k (l : Int))) (hy : oev F y = some (.int k' (c : Int)))
    (hlc : l ≤ c) (hc0 : c ≠ 0) (hc : c ≤ 1048576) (hb : bytes ≤ 1048576) (hzl : zs.length = 1) (hsz : sz = 1) (hd : Nat.blt d n = true)
    (kk : ∀ a' w' b, Has n a' ((d, .slice (some ⟨b, 0, none⟩) l c) :: F) → St B H (⟨b, (List.replicate c zs).flatten, E⟩ :: L) w' → K a' w') :
    (⟨some d, .makeSlice T x y, ty, pos, after, g⟩ : Oper).wp P a w K Q := by
  obtain ⟨dd, i, p1, hi, p3, p4⟩ := tyS_parts ht
  obtain ⟨i', zv, z1, z2, z3⟩ := zrS_parts hz
  obtain rfl := Option.some.inj (hi.symm.trans z1)
  have hbb : i.bytes = bytes := by simpa [byS, hi] using hby
  have w1 : IntKind.i64.wrap (l : Int) = l := wrap_i64 (by omega)
  have w2 : IntKind.i64.wrap (c : Int) = c := wrap_i64 (by omega)
  have hmul : bytes * c ≤ 1048576 * 1048576 := Nat.mul_le_mul hb hc
  match zs, hzl with
  | [z0], _ =>
  have hzc : zv.cells = #[z0] := by rw [← Array.toList_inj, z3]
  have hcs : ((Array.range (c * 1)).map (fun j => zv.cells[j % zv.cells.size]!)) = ((List.replicate c [z0]).flatten).toArray := by
    rw [hzc]
    apply Array.ext'
    simp
    apply List.ext_getElem
    · simp
    · intro j h1 h2
      simp [Nat.mod_one]
  unfold Oper.wp
  have : (execOp a.eval (⟨some d, .makeSlice T x y, ty, pos, after, g⟩ : Oper)).run P w = .ok (.value (.slice (some ⟨w.heap.size, 0, none⟩) l c)) (w.alloc (.cells ((List.replicate c [z0]).flatten).toArray E)) := by
    subst hsz
    have e1 : ¬ ((c : Int) < 0) := by omega
    have e2 : ¬ (281474976710656 < (bytes : Int) * (c : Int)) := by have : ((bytes * c : Nat) : Int) = (bytes : Int) * (c : Int) := by push_cast; rfl
                                                                    omega
    have e3 : ¬ ((l : Int) < 0) := by omega
    have e4 : ¬ ((c : Int) < (l : Int)) := by omega
    simp only [execOp, hF.eval hx, hF.eval hy, Instr.makeSlice, Sem.run_bind, run_underlying h1, Result.andThen_ok, asInt, asIntOf, Sem.run_pure, w1, w2]
    simp [typeInfo, hi, hbb, e1, e2, e3, e4, p4, sizeOf]
    have hcs' : Array.map (fun x => zv.cells[x % zv.cells.size]!) (Array.range c) = Array.replicate c z0 := by
      have := hcs
      simpa using this
    rw [if_neg hc0]
    simp [zeroValue, typeInfo, hi, z2, newRow, hcs']
  rw [this]
  exact kk _ _ _ (hF.put hd _) (hS.alloc _ E)
end
end Go.W

/-! Plain: SHA-256 as the code reckons it. -/
namespace Go.W
open Go Go.RowKit
/-- Words, as cells. -/
def wc (l : List Nat) : List Value := l.map fun (n : Nat) => Value.int .u32 (n : Int)
theorem wc_length (l : List Nat) : (wc l).length = l.length := by simp [wc]
abbrev M32 : Nat := 4294967296
def gt (l : List Nat) (i : Nat) : Nat := l.getD i 0
def Lt32 (l : List Nat) : Prop := ∀ x ∈ l, x < 4294967296
theorem gt_lt {l : List Nat} (h : Lt32 l) (i : Nat) : gt l i < 4294967296 := by
  unfold gt
  rw [List.getD_eq_getElem?_getD]
  cases hc : l[i]? with
  | none => simp
  | some v => exact h v (List.mem_of_getElem? hc)
theorem Lt32.set {l : List Nat} (h : Lt32 l) {i v : Nat} (hv : v < 4294967296) : Lt32 (l.set i v) := by
  intro x hx
  rcases List.mem_or_eq_of_mem_set hx with h1 | rfl
  · exact h x h1
  · exact hv
theorem wc_get {l : List Nat} {i : Nat} (h : i < l.length) : (wc l)[i]? = some (.int .u32 (gt l i : Int)) := by
  simp [wc, gt, List.getD_eq_getElem?_getD, h]
theorem wc_spl {l : List Nat} {i v : Nat} (h : i < l.length) : spl (wc l) (0 + i * 1) [.int .u32 (v : Int)] = wc (l.set i v) := by
  rw [Nat.zero_add, Nat.mul_one, spl_set _ _ _ (by rw [wc_length]; exact h)]
  simp [wc, List.map_set]
theorem wc_ld2 {l : List Nat} {i : Nat} (h : i < l.length) : ldv false 1 (wc l) i = some (.int .u32 (gt l i : Int)) := by
  simp only [ldv, cond_false]; exact wc_get h
theorem wc_spl2 {l : List Nat} {i v : Nat} (h : i < l.length) : spl (wc l) i [.int .u32 (v : Int)] = wc (l.set i v) := by
  have := wc_spl (v := v) h
  rwa [Nat.zero_add, Nat.mul_one] at this
/-- A word of four bytes. -/
def wordN (l : List Nat) (k : Nat) : Nat := (l.take k).foldl (fun n c => (n * 256 % 4294967296) ||| c) 0
theorem wordN_succ {l : List Nat} {k : Nat} (h : k < l.length) : wordN l (k + 1) = (wordN l k * 256 % 4294967296) ||| gt l k := by
  unfold wordN
  rw [List.take_succ_eq_append_getElem h, List.foldl_append]
  simp [gt, List.getD_eq_getElem?_getD, h]
theorem wordN_lt {l : List Nat} (hl : ∀ x ∈ l, x < 256) : ∀ k, wordN l k < 4294967296 := by
  intro k
  induction k with
  | zero => simp [wordN]
  | succ k ih =>
    rcases Nat.lt_or_ge k l.length with h | h
    · rw [wordN_succ h]
      refine Nat.or_lt_two_pow (n := 32) (Nat.mod_lt _ (by decide)) ?_
      have : gt l k < 256 := by unfold gt; rw [List.getD_eq_getElem?_getD]; simp [h]; exact hl _ (List.getElem_mem h)
      omega
    · unfold wordN at ih ⊢
      rw [List.take_of_length_le (by omega)] at ih ⊢
      exact ih
def bn (l : List UInt8) : List Nat := l.map UInt8.toNat
theorem bn_length (l : List UInt8) : (bn l).length = l.length := by simp [bn]
theorem bn_lt (l : List UInt8) : ∀ x ∈ bn l, x < 256 := by
  intro x hx
  obtain ⟨b, _, rfl⟩ := List.mem_map.1 hx
  exact b.toNat_lt
theorem bc_getn {l : List UInt8} {i : Nat} (h : i < l.length) : (bc l)[i]? = some (.int .u8 (gt (bn l) i : Int)) := by
  simp [bc, gt, bn, List.getD_eq_getElem?_getD, h]
theorem gt_bn_lt (l : List UInt8) (i : Nat) : gt (bn l) i < 256 := by
  unfold gt
  rw [List.getD_eq_getElem?_getD]
  cases hc : (bn l)[i]? with
  | none => simp
  | some v => exact bn_lt l v (List.mem_of_getElem? hc)
def word4 (l : List UInt8) : Nat := wordN (bn l) 4
/-- Bytes of a number, the most significant one first. -/
def beB (len n : Nat) : List UInt8 := (List.range len).map fun j => UInt8.ofNat (n / 2 ^ (8 * (len - 1 - j)))
theorem beB_length (len n : Nat) : (beB len n).length = len := by simp [beB]
/-- The schedule. -/
def sg0 (x : Nat) : Nat := rotr x 7 ^^^ rotr x 18 ^^^ x / 8
def sg1 (x : Nat) : Nat := rotr x 17 ^^^ rotr x 19 ^^^ x / 1024
def wAt (w : List Nat) (t : Nat) : Nat := (((gt w (t - 16) + sg0 (gt w (t - 15))) % M32 + gt w (t - 7)) % M32 + sg1 (gt w (t - 2))) % M32
def sch1 (b : List UInt8) : Nat → List Nat
  | 0 => List.replicate 64 0
  | k + 1 => (sch1 b k).set k (word4 (b.drop (4 * k)))
def sch2 (b : List UInt8) : Nat → List Nat
  | 0 => sch1 b 16
  | k + 1 => (sch2 b k).set (k + 16) (wAt (sch2 b k) (k + 16))
theorem sch1_length (b : List UInt8) : ∀ k, (sch1 b k).length = 64
  | 0 => by simp [sch1]
  | k + 1 => by simp [sch1, sch1_length b k]
theorem sch2_length (b : List UInt8) : ∀ k, (sch2 b k).length = 64
  | 0 => sch1_length b 16
  | k + 1 => by simp [sch2, sch2_length b k]
theorem sch1_lt (b : List UInt8) : ∀ k, Lt32 (sch1 b k)
  | 0 => by intro x hx; rw [sch1] at hx; rw [List.eq_of_mem_replicate hx]; decide
  | k + 1 => (sch1_lt b k).set (wordN_lt (bn_lt _) 4)
theorem sch2_lt (b : List UInt8) : ∀ k, Lt32 (sch2 b k)
  | 0 => sch1_lt b 16
  | k + 1 => (sch2_lt b k).set (Nat.mod_lt _ (by decide))
/-- The state. -/
structure V8 where
  a : Nat
  b : Nat
  c : Nat
  d : Nat
  e : Nat
  f : Nat
  g : Nat
  h : Nat
def V8.l (v : V8) : List Nat := [v.a, v.b, v.c, v.d, v.e, v.f, v.g, v.h]
theorem abs_first {v : V8} {j : Nat} {u : Value} (h : (wc [v.a, v.b, v.c, v.d, v.e, v.f, v.g])[j]? = some u) : (wc v.l)[0 + 0 * 1 + j]? = some u := by
  have e : wc v.l = wc [v.a, v.b, v.c, v.d, v.e, v.f, v.g] ++ [.int .u32 (v.h : Int)] := rfl
  have hj := (List.getElem?_eq_some_iff.1 h).1
  rw [e, Nat.zero_mul, Nat.zero_add, List.getElem?_append_left (by omega), h]
def V8.Ok (v : V8) : Prop := Lt32 v.l
def rot3 (x i j k : Nat) : Nat := rotr x i ^^^ rotr x j ^^^ rotr x k
theorem rotr_lt {x k : Nat} (h : x < M32) : rotr x k < M32 := Nat.or_lt_two_pow (n := 32) (Nat.mod_lt _ (by decide)) (Nat.lt_of_le_of_lt (Nat.div_le_self _ _) h)
def numsL : List Nat := [0x428a2f98, 0x71374491, 0xb5c0fbcf, 0xe9b5dba5, 0x3956c25b, 0x59f111f1, 0x923f82a4, 0xab1c5ed5,
  0xd807aa98, 0x12835b01, 0x243185be, 0x550c7dc3, 0x72be5d74, 0x80deb1fe, 0x9bdc06a7, 0xc19bf174,
  0xe49b69c1, 0xefbe4786, 0x0fc19dc6, 0x240ca1cc, 0x2de92c6f, 0x4a7484aa, 0x5cb0a9dc, 0x76f988da,
  0x983e5152, 0xa831c66d, 0xb00327c8, 0xbf597fc7, 0xc6e00bf3, 0xd5a79147, 0x06ca6351, 0x14292967,
  0x27b70a85, 0x2e1b2138, 0x4d2c6dfc, 0x53380d13, 0x650a7354, 0x766a0abb, 0x81c2c92e, 0x92722c85,
  0xa2bfe8a1, 0xa81a664b, 0xc24b8b70, 0xc76c51a3, 0xd192e819, 0xd6990624, 0xf40e3585, 0x106aa070,
  0x19a4c116, 0x1e376c08, 0x2748774c, 0x34b0bcb5, 0x391c0cb3, 0x4ed8aa4a, 0x5b9cca4f, 0x682e6ff3,
  0x748f82ee, 0x78a5636f, 0x84c87814, 0x8cc70208, 0x90befffa, 0xa4506ceb, 0xbef9a3f7, 0xc67178f2]
def startV : V8 := ⟨0x6a09e667, 0xbb67ae85, 0x3c6ef372, 0xa54ff53a, 0x510e527f, 0x9b05688c, 0x1f83d9ab, 0x5be0cd19⟩
def pOf (v : V8) (n w : Nat) : Nat := ((((v.h + rot3 v.e 6 11 25) % M32 + (v.g ^^^ (v.e &&& (v.f ^^^ v.g)))) % M32 + n) % M32 + w) % M32
def qOf (v : V8) : Nat := (rot3 v.a 2 13 22 + ((v.a &&& v.b) ||| (v.c &&& (v.a ||| v.b)))) % M32
def rnd (v : V8) (n w : Nat) : V8 := ⟨(pOf v n w + qOf v) % M32, v.a, v.b, v.c, (v.d + pOf v n w) % M32, v.e, v.f, v.g⟩
def rnds (w : List Nat) (v : V8) : Nat → V8
  | 0 => v
  | k + 1 => rnd (rnds w v k) (gt numsL k) (gt w k)
theorem Lt32.cons {x : Nat} {l : List Nat} (h : x < M32) (hl : Lt32 l) : Lt32 (x :: l) := by
  intro y hy
  rcases List.mem_cons.1 hy with rfl | hy
  · exact h
  · exact hl y hy
theorem Lt32.nil : Lt32 [] := fun _ h => by cases h
theorem rnd_ok {v : V8} (h : v.Ok) (n w : Nat) : (rnd v n w).Ok := by
  have e := fun i => gt_lt h i
  exact .cons (Nat.mod_lt _ (by decide)) (.cons (e 0) (.cons (e 1) (.cons (e 2) (.cons (Nat.mod_lt _ (by decide)) (.cons (e 4) (.cons (e 5) (.cons (e 6) .nil)))))))
theorem rnds_ok {v : V8} (h : v.Ok) (w : List Nat) : ∀ k, (rnds w v k).Ok
  | 0 => h
  | k + 1 => rnd_ok (rnds_ok h w k) _ _
/-- The sum of two states, i words of it. -/
def addK (s v : List Nat) (i : Nat) : List Nat := (List.range 8).map fun j => if j < i then (gt s j + gt v j) % M32 else gt s j
def addV (s v : V8) : V8 := ⟨(s.a + v.a) % M32, (s.b + v.b) % M32, (s.c + v.c) % M32, (s.d + v.d) % M32, (s.e + v.e) % M32, (s.f + v.f) % M32, (s.g + v.g) % M32, (s.h + v.h) % M32⟩
theorem addK_zero (s : V8) (v : List Nat) : addK s.l v 0 = s.l := rfl
theorem addK_length (s v : List Nat) (i : Nat) : (addK s v i).length = 8 := by simp [addK]
theorem addK_succ (s v : List Nat) (i : Nat) (h : i < 8) : (addK s v i).set i ((gt (addK s v i) i + gt v i) % M32) = addK s v (i + 1) := by
  have hgi : gt (addK s v i) i = gt s i := by simp [gt, addK, List.getD_eq_getElem?_getD, h]
  rw [hgi]
  apply List.ext_getElem
  · simp [addK]
  · intro j h1 h2
    simp only [addK_length] at h2
    simp only [addK, List.getElem_set, List.getElem_map, List.getElem_range]
    by_cases e : i = j
    · subst e; simp
    · rw [if_neg e]
      by_cases e2 : j < i
      · rw [if_pos e2, if_pos (by omega)]
      · rw [if_neg e2, if_neg (by omega)]
theorem addK_eight (s v : V8) : addK s.l v.l 8 = (addV s v).l := rfl
def absorbV (s : V8) (b : List UInt8) : V8 := addV s (rnds (sch2 b 48) s 64)
theorem addV_ok (s v : V8) : (addV s v).Ok := by
  intro x hx
  simp only [V8.l, addV, List.mem_cons, List.not_mem_nil, or_false] at hx
  rcases hx with rfl | rfl | rfl | rfl | rfl | rfl | rfl | rfl <;> exact Nat.mod_lt _ (by decide)
/-- Blocks of 64. -/
def absorbs (s : V8) (b : List UInt8) : Nat → V8
  | 0 => s
  | k + 1 => absorbV (absorbs s b k) ((b.drop (64 * k)).take 64)
def padded (b : List UInt8) : List UInt8 :=
  let r := b.drop (64 * (b.length / 64))
  let n := if 55 < r.length then 120 else 56
  r ++ [0x80] ++ List.replicate (n - r.length - 1) 0 ++ beB 8 (b.length * 8)
def digV (s : V8) : List UInt8 := s.l.flatMap (beB 4)
def sha (b : List UInt8) : List UInt8 :=
  let s := absorbs startV b (b.length / 64)
  digV (absorbs s (padded b) ((padded b).length / 64))
theorem sha_length (b : List UInt8) : (sha b).length = 32 := by simp [sha, digV, V8.l, beB_length]
end Go.W

/-! Places in owned slices and arrays, reckoned. -/
namespace Go.W
open Go Go.RowKit
section
variable {P : Program} {S : World → Prop} {F : Fr} {ty : TypeId} {v u : Value} {x y z : Operand}
theorem q_indexAddrAj {T E : TypeId} {len b o sz j : Nat} {agg : Bool} {k : IntKind} {i : Int} (h1 : P.underlying T = some (.array len E)) (h2 : tyS P E = some (agg, sz)) (hx : oev F x = some (.pointer (some ⟨b, o, none⟩)))
    (hy : oev F y = some (.int k i)) (hi : 0 ≤ i ∧ i < (len : Int)) (hj : o + i.toNat * sz = j) : Qt P S F (.indexAddr T x y) ty (.pointer (some ⟨b, j, none⟩)) := by
  subst hj; exact q_indexAddrA h1 h2 hx hy hi
theorem q_indexAddrSO {T E : TypeId} {n c sz b o j : Nat} {agg : Bool} {k : IntKind} {i : Int} (h1 : P.underlying T = some (.slice E)) (h2 : tyS P E = some (agg, sz)) (hx : oev F x = some (.slice (some ⟨b, o, none⟩) n c))
    (hy : oev F y = some (.int k i)) (hi : 0 ≤ i ∧ i < (n : Int)) (hj : o + i.toNat * sz = j) : Qt P S F (.indexAddr T x y) ty (.pointer (some ⟨b, j, none⟩)) := by
  have := q_indexAddrS (P := P) (S := S) (ty := ty) h1 h2 hx hy hi (by simp)
  rw [adr_some, hj] at this
  exact this
end
structure HC (H : Froz) (b o : Nat) (v : Value) : Prop where
  h : hcell H b o = some v
theorem HC.mono {H H' : Froz} {b o : Nat} {v : Value} (h : HC H b o v) (hle : Le H H') : HC H' b o v := ⟨hcell_le hle h.h⟩
theorem ex_then {K : Act → World → Prop} {Q : Exit → Act → World → Prop} {a : Act} {w : World} {id : Nat} (h : Q (.exit id) a w) : Exit.then K Q (.exit id) a w := h
theorem ex_blk {Q : Exit → Act → World → Prop} {a : Act} {w : World} {id : Nat} (h : Q .normal a w) : Exit.inBlock id Q (.exit id) a w := by simpa [Exit.inBlock] using h
theorem St.down {w0 w : World} {H H' : Froz} {M : List Nat} {L : List Blk} (h : St ⟨w0, H, M⟩ H' L w) : St ⟨w0, H, M⟩ H L w := h.forget (Le.refl H) h.sub
theorem St.freeze' {B : Base} {H : Froz} {L : List Blk} {w : World} (h : St B H L w) {i : Nat} {x : Blk} (hi : L[i]? = some x) : ∃ H', H' = frz H x ∧ Le H H' ∧ St B H' (L.eraseIdx i) w := ⟨_, rfl, h.le_freeze hi, h.freeze hi⟩
theorem spl_nil (cs : List Value) (o : Nat) : spl cs o [] = cs := by simp [spl]
theorem spl_cons {cs X : List Value} {p : Nat} {v : Value} (h : p + 1 + X.length ≤ cs.length) : spl (spl cs (p + 1) X) p [v] = spl cs p (v :: X) := by
  unfold spl
  have h1 : (cs.take (p + 1)).length = p + 1 := by simp; omega
  rw [List.append_assoc (cs.take (p + 1)), List.take_append_of_le_length (by omega), List.take_take, Nat.min_eq_left (by omega)]
  rw [List.drop_append, h1, List.drop_eq_nil_of_le (by rw [h1]; simp)]
  simp [Nat.add_assoc, Nat.add_comm 1]
theorem spl_length {cs X : List Value} {p : Nat} (h : p + X.length ≤ cs.length) : (spl cs p X).length = cs.length := by
  unfold spl; simp; omega
/-- Bytes read, cut. -/
theorem RdS.cutB {H : Froz} {a : Option Addr} {n c : Nat} {bs : List UInt8} (hr : RdS H a n 1 (bc bs)) {l h : Nat} (hlh : l ≤ h) (hn : h ≤ n) (hc : h ≤ c) : RdS H (cutA a c l 1) (h - l) 1 (bc ((bs.take h).drop l)) := by
  have := hr.cut hlh hn hc
  rw [Nat.mul_one, Nat.mul_one] at this
  have e : ((bc bs).drop l).take (h - l) = bc ((bs.take h).drop l) := by simp [bc, List.map_drop, List.map_take, List.drop_take]
  rwa [e] at this
/-- The two tables. -/
structure Gl (g0 g1 : Nat) (H : Froz) : Prop where
  st : ∀ j v, (wc startV.l)[j]? = some v → hcell H g0 j = some v
  nu : ∀ j v, (wc numsL)[j]? = some v → hcell H g1 j = some v
theorem Gl.mono {g0 g1 : Nat} {H H' : Froz} (h : Gl g0 g1 H) (hle : Le H H') : Gl g0 g1 H' := ⟨fun j v hv => hcell_le hle (h.st j v hv), fun j v hv => hcell_le hle (h.nu j v hv)⟩
/-- A load from what is frozen, at a plain address. -/
theorem q_loadG {P : Program} {B : Base} {H : Froz} {L : List Blk} {F : Fr} {ty T : TypeId} {v : Value} {x : Operand} {agg : Bool} {sz : Nat} {b o : Nat} {cs : List Value} (ht : tyS P T = some (agg, sz)) (hx : oev F x = some (.pointer (some ⟨b, o, none⟩))) (hr : ∀ j v, cs[j]? = some v → hcell H b j = some v)
    (hb : o + sz ≤ cs.length) (h0 : Nat.blt 0 sz = true) (hv : ldv agg sz cs o = some v) : Qt P (St B H L) F (.load T x) ty v := by
  intro ρ hρ w hS d pos after g
  have h0' : 0 < sz := by simpa [Nat.blt_eq] using h0
  have := run_loadVar_cells (P := P) (w := w) ht ⟨b, o, none⟩ cs o v (fun i u hi hu => by
    rw [Addr.add_lit]; exact hS.hcell (hr _ _ hu)) hb h0' hv
  simp [execOp, hρ x _ hx, Instr.loadAt, Instr.sureAddr, this]
section
variable {P : Program} {ops : Array Oper} {Q : Exit → Act → World → Prop} {n d : Nat} {a : Act} {F : Fr} {w : World} {B : Base} {H : Froz} {L : List Blk}
  {ty T : TypeId} {pos : String} {after : Array Edge} {v : Value} {x y : Operand} {K : Act → World → Prop} {g : Option (Nat × Bool)} {agg : Bool} {sz : Nat}
theorem l_boxA {cs : List Value} (hF : Has n a F) (hS : St B H L w) (hx : oev F x = some (.agg cs.toArray)) (hd : Nat.blt d n = true)
    (k : ∀ a' w' b, Has n a' ((d, .pointer (some ⟨b, 0, none⟩)) :: F) → St B H (⟨b, cs, T⟩ :: L) w' → K a' w') : (⟨some d, .box T x, ty, pos, after, g⟩ : Oper).wp P a w K Q :=
  l_box hF hS hx rfl hd k
theorem l_storeA {i b o : Nat} {cs vs : List Value} {T' : TypeId} (ht : tyS P T = some (agg, sz)) (hF : Has n a F) (hS : St B H L w) (hx : oev F x = some (.pointer (some ⟨b, o, none⟩))) (hy : oev F y = some (.agg vs.toArray))
    (hi : L[i]? = some ⟨b, cs, T'⟩) (hl : vs.length = sz) (hb : o + sz ≤ cs.length) (h1 : all1 vs = true)
    (k : ∀ a' w', Has n a' F → St B H (L.set i ⟨b, spl cs o vs, T'⟩) w' → K a' w') : (⟨none, .store T x y, ty, pos, after, g⟩ : Oper).wp P a w K Q :=
  l_store (vs := vs) ht hF hS hx hy hi rfl (by rw [hl]; exact nbeq_self _) (by rw [Nat.ble_eq]; exact hb) h1 k
theorem l_store0A {i b : Nat} {cs vs : List Value} {T' : TypeId} (ht : tyS P T = some (agg, sz)) (hF : Has n a F) (hS : St B H L w) (hx : oev F x = some (.pointer (some ⟨b, 0, none⟩))) (hy : oev F y = some (.agg vs.toArray))
    (hi : L[i]? = some ⟨b, cs, T'⟩) (hl : vs.length = sz) (hb : cs.length = sz) (h1 : all1 vs = true)
    (k : ∀ a' w', Has n a' F → St B H (L.set i ⟨b, vs, T'⟩) w' → K a' w') : (⟨none, .store T x y, ty, pos, after, g⟩ : Oper).wp P a w K Q :=
  l_store0 (vs := vs) ht hF hS hx hy hi rfl hl hb h1 k
end
end Go.W

/-! Digests; padding; zeros appended. -/
namespace Go.W
open Go Go.RowKit
structure Dg where
  l : List UInt8
  h : l.length = 32
theorem Dg.ext' {a b : Dg} (h : a.l = b.l) : a = b := by cases a; cases b; simp only at h; subst h; rfl
instance : DecidableEq Dg := fun a b => if h : a.l = b.l then isTrue (Dg.ext' h) else isFalse (fun e => h (by rw [e]))
def Dg.zero : Dg := ⟨List.replicate 32 0, by simp⟩
def dc (d : Dg) : List Value := bc d.l
theorem dc_length (d : Dg) : (dc d).length = 32 := by rw [dc, bc_length, d.h]
theorem dc_all1 (d : Dg) : all1 (dc d) = true := bc_all1 _
theorem bc_ints (l : List UInt8) : bc l = (l.map fun b => (b.toNat : Int)).map (Value.int .u8) := by simp [bc]
noncomputable def shaD (b : List UInt8) : Dg := (kept ⟨sha b, sha_length b⟩).1
theorem shaD_l (b : List UInt8) : (shaD b).l = sha b := by rw [shaD, (kept _).2]
theorem dc_sha (b : List UInt8) : dc (shaD b) = bc (sha b) := by rw [dc, shaD_l]
theorem q_eqDg {P : Program} {S : World → Prop} {F : Fr} {ty T E t' : TypeId} {x y : Operand} {k' : IntKind} {a b : Dg} (hg : guS P T = true) (h : P.underlying T = some (.array 32 E)) (he : P.underlying E = some (.int k')) (ht : tyS P E = some (false, 1))
    (hx : oev F x = some (.agg (dc a).toArray)) (hy : oev F y = some (.agg (dc b).toArray)) : Qt P S F (.binOp .eql T x y t') ty (.bool (decide (a = b))) := by
  have e : decide (a = b) = decide (a.l.map (fun b => (b.toNat : Int)) = b.l.map (fun b => (b.toNat : Int))) := by
    refine decide_eq_decide.2 ⟨fun h => by rw [h], fun h => Dg.ext' ?_⟩
    have := congrArg (List.map (Value.int .u8)) h
    rw [← bc_ints, ← bc_ints] at this
    exact bc_inj this
  rw [e]
  refine q_eqArrI (k := .u8) hg h he ht (by rw [List.length_map, a.h]) (by rw [List.length_map, b.h]) ?_ ?_
  · rw [← bc_ints]; exact hx
  · rw [← bc_ints]; exact hy
theorem q_neDg {P : Program} {S : World → Prop} {F : Fr} {ty T E t' : TypeId} {x y : Operand} {k' : IntKind} {a b : Dg} (hg : guS P T = true) (h : P.underlying T = some (.array 32 E)) (he : P.underlying E = some (.int k')) (ht : tyS P E = some (false, 1))
    (hx : oev F x = some (.agg (dc a).toArray)) (hy : oev F y = some (.agg (dc b).toArray)) : Qt P S F (.binOp .neq T x y t') ty (.bool (!decide (a = b))) := by
  have e : decide (a = b) = decide (a.l.map (fun b => (b.toNat : Int)) = b.l.map (fun b => (b.toNat : Int))) := by
    refine decide_eq_decide.2 ⟨fun h => by rw [h], fun h => Dg.ext' ?_⟩
    have := congrArg (List.map (Value.int .u8)) h
    rw [← bc_ints, ← bc_ints] at this
    exact bc_inj this
  rw [e]
  refine q_neArrI (k := .u8) hg h he ht (by rw [List.length_map, a.h]) (by rw [List.length_map, b.h]) ?_ ?_
  · rw [← bc_ints]; exact hx
  · rw [← bc_ints]; exact hy
theorem St.hand1 {B : Base} {H : Froz} {L : List Blk} {w : World} (h : St B H L w) {i : Nat} {x : Blk} (hi : L[i]? = some x) : Hand w H [x] :=
  ⟨h.froz, fun y hy => by obtain rfl := List.mem_singleton.1 hy; exact h.own _ (List.mem_of_getElem? hi), fun y hy => by obtain rfl := List.mem_singleton.1 hy; exact (h.mine _ (List.mem_of_getElem? hi)).2, List.pairwise_singleton _ _⟩
/-! bytes put over bytes -/
def splU (a : List UInt8) (o : Nat) (b : List UInt8) : List UInt8 := a.take o ++ b ++ a.drop (o + b.length)
theorem spl_bc (a b : List UInt8) (o : Nat) : spl (bc a) o (bc b) = bc (splU a o b) := by
  simp [spl, splU, bc, List.map_take, List.map_drop]
theorem bc_zeros (n : Nat) : (List.replicate n [Value.int .u8 0]).flatten = bc (List.replicate n 0) := by
  simp [bc]
theorem pad_eq (r X : List UInt8) (m : Nat) (hX : X.length = 8) (h1 : r.length + 9 ≤ m) (h2 : m ≤ 128) :
    (splU (splU (splU (List.replicate 128 0) 0 r) r.length [0x80]) (m - 8) X).take m = r ++ [0x80] ++ List.replicate (m - 8 - r.length - 1) 0 ++ X := by
  have e1 : splU (List.replicate 128 (0 : UInt8)) 0 r = r ++ List.replicate (128 - r.length) 0 := by
    unfold splU
    rw [List.take_zero, List.nil_append, Nat.zero_add, List.drop_replicate]
  have e2 : splU (r ++ List.replicate (128 - r.length) (0 : UInt8)) r.length [0x80] = r ++ [0x80] ++ List.replicate (128 - r.length - 1) 0 := by
    unfold splU
    rw [List.take_left, List.drop_append, List.drop_eq_nil_of_le (by simp)]
    simp
  rw [e1, e2]
  unfold splU
  have hl : (r ++ [0x80]).length = r.length + 1 := by simp
  have e3 : (r ++ [0x80] ++ List.replicate (128 - r.length - 1) (0 : UInt8)).take (m - 8) = r ++ [0x80] ++ List.replicate (m - 8 - r.length - 1) 0 := by
    rw [List.take_append, List.take_of_length_le (by omega), hl, List.take_replicate]
    congr 2
    omega
  rw [e3, List.take_append, List.take_of_length_le (by simp; omega)]
  have h3 : m - (r ++ [0x80] ++ List.replicate (m - 8 - r.length - 1) (0 : UInt8) ++ X).length = 0 := by simp; omega
  rw [h3]
  simp
/-- The digest, i words of it. -/
def dK (l : List Nat) (i : Nat) : List UInt8 := ((l.take i).map (beB 4)).flatten ++ List.replicate (32 - 4 * i) 0
theorem dK_len0 (l : List Nat) (i : Nat) (hi : i ≤ l.length) : (((l.take i).map (beB 4)).flatten).length = 4 * i := by
  rw [List.length_flatten, List.map_map]
  have : List.map (List.length ∘ beB 4) (l.take i) = List.replicate i 4 := by
    rw [List.eq_replicate_iff]
    refine ⟨by simp; omega, fun x hx => ?_⟩
    obtain ⟨y, _, rfl⟩ := List.mem_map.1 hx
    simp [beB_length]
  rw [this]
  simp [Nat.mul_comm]
theorem dK_length (l : List Nat) (i : Nat) (hl : l.length = 8) (hi : i ≤ 8) : (dK l i).length = 32 := by
  rw [dK, List.length_append, dK_len0 l i (by omega), List.length_replicate]; omega
theorem dK_zero (l : List Nat) : dK l 0 = List.replicate 32 0 := by simp [dK]
theorem dK_succ (l : List Nat) (i : Nat) (hl : l.length = 8) (hi : i < 8) : splU (dK l i) (4 * i) (beB 4 (gt l i)) = dK l (i + 1) := by
  have hlen := dK_len0 l i (by omega)
  unfold splU dK
  rw [← hlen, List.take_left, hlen, beB_length, List.drop_append, List.drop_eq_nil_of_le (by omega), hlen]
  have e : l.take (i + 1) = l.take i ++ [gt l i] := by
    rw [List.take_succ_eq_append_getElem (by omega)]
    simp [gt, List.getD_eq_getElem?_getD, show i < l.length by omega]
  rw [e]
  simp
  omega
theorem dK_eight (s : V8) : dK s.l 8 = digV s := by
  simp [dK, digV, V8.l, List.flatMap]
theorem gt_lt_u64 {l : List Nat} (h : Lt32 l) (i : Nat) : gt l i < 18446744073709551616 := Nat.lt_trans (gt_lt h i) (by decide)
section
variable {P : Program} {ops : Array Oper} {Q : Exit → Act → World → Prop} {n d : Nat} {a : Act} {F : Fr} {w : World} {B : Base} {H : Froz} {L Lx : List Blk}
  {ty T tx E : TypeId} {pos : String} {after : Array Edge} {v u : Value} {x y : Operand} {K : Act → World → Prop} {g : Option (Nat × Bool)} {agg : Bool} {sz bytes : Nat}
/-- Zeros appended to nothing. -/
theorem l_appendZ {m : Nat} {zs : List Value} {k0 : IntKind} (h1 : P.underlying T = some (.slice E)) (h2 : P.underlying tx = some (.int k0)) (ht : tyS P E = some (agg, sz)) (hz : zrS P E = some zs) (hby : byS P E = some bytes) (hF : Has n a F) (hS : St B H L w)
    (hx : oev F x = some (.slice none 0 0)) (hy : oev F y = some (.int .i64 (m : Int))) (hm : 0 < m) (hb : m * bytes ≤ 140737488355328) (hmm : m ≤ maxLen) (hzl : zs.length = sz) (hsz : sz = 1) (hd : Nat.blt d n = true)
    (kk : ∀ a' w' b' c' tail, tail.length = c' → m ≤ c' → c' ≤ maxLen → Has n a' ((d, .slice (some ⟨b', 0, none⟩) m c') :: F) → St B H (⟨b', tail, E⟩ :: L) w' → K a' w') :
    (⟨some d, .call ⟨.builtin .append, #[x, y], #[T, tx]⟩, ty, pos, after, g⟩ : Oper).wp P a w K Q := by
  obtain ⟨dd, i, p1, hi, p3, p4⟩ := tyS_parts ht
  obtain ⟨i', zv, z1, z2, z3⟩ := zrS_parts hz
  obtain rfl := Option.some.inj (hi.symm.trans z1)
  have hbb : i.bytes = bytes := by simpa [byS, hi] using hby
  have hzs : zv.cells.size = sz := by rw [← hzl, ← z3]; simp
  subst hsz
  have hmx : m ≤ 9223372036854775807 := by simp only [maxLen] at hmm; omega
  have w1 : IntKind.i64.wrap (m : Int) = m := wrap_i64 (by omega)
  have hge := grownCap_ge w m 0 E
  have hle := grownCap_le_maxLen w m 0 E hmm
  obtain ⟨cs, hcs⟩ : ∃ cs : Array Value, cs = (Builtin.zeroCells zv.cells m) ++ Builtin.zeroCells zv.cells (grownCap w m 0 E - m) := ⟨_, rfl⟩
  have hrun : (Builtin.append_ #[T, tx] ty #[.slice none 0 0, .int .i64 (m : Int)]).run P w = .ok (.slice (some ⟨w.heap.size, 0, none⟩) m (grownCap w m 0 E)) (w.drew.alloc (.cells cs E)) := by
    have hn : ¬ (m = 0) := by omega
    have e3 : ¬ ((m : Int) < 0) := by omega
    have h63' : ¬ (9223372036854775807 < (m : Int)) := by omega
    have h48' : ¬ (281474976710656 < Builtin.nextslicecap m 0 * i.bytes) := by rw [nextslicecap_zero hm, hbb]; omega
    have h49 : ¬ (281474976710656 < (m : Int) * (i.bytes : Int)) := by
      have : ((m * i.bytes : Nat) : Int) = (m : Int) * (i.bytes : Int) := by push_cast; rfl
      rw [hbb] at this ⊢
      omega
    subst hcs
    simp [Builtin.append_, run_underlying h1, run_underlying h2, sizeOf, typeInfo, zeroValue, hi, z2, asInt, asIntOf, w1, hn, e3, h63', h48', h49, Question.forced, run_firstCells_none, newRow, grownCap, p4]
  unfold Oper.wp
  rw [append_exec (hF.eval hx) (hF.eval hy) hrun]
  refine kk _ _ _ _ cs.toList ?_ hge hle (hF.put hd _) ?_
  · rw [hcs]
    simp [size_zeroCells, hzs]
    omega
  · have := hS.drawAlloc cs.toList E
    rwa [Array.toArray_toList] at this
end
end Go.W

/-! Cuts, said shortly; lists of byte slices. -/
namespace Go.W
open Go Go.RowKit
theorem add_zero' (p : Addr) : p.add 0 = p := by simp [Addr.add]
theorem cutA_zero (a : Option Addr) (m k : Nat) : cutA a m 0 k = a := by
  unfold cutA
  split
  · rfl
  · cases a with
    | none => rfl
    | some p => simp [add_zero']
theorem cutA_own (b o m l k : Nat) (h : l < m) : cutA (some ⟨b, o, none⟩) m l k = some ⟨b, o + l * k, none⟩ := by
  rw [cutA, if_neg (by omega)]
  simp [Addr.add_lit]
section
variable {P : Program} {B : Base} {H : Froz} {L : List Blk} {F : Fr} {ty T : TypeId} {v u : Value} {x y z : Operand} {agg : Bool} {sz : Nat}
/-- x[:h] -/
theorem q_sliceP {E : TypeId} {a : Option Addr} {n c h : Nat} {oh : Operand} {k : IntKind} (h1 : P.underlying T = some (.slice E)) (h2 : tyS P E = some (agg, sz)) (hx : oev F x = some (.slice a n c)) (hh : oev F oh = some (.int k (h : Int))) (hc : h ≤ c) :
    Qt P (St B H L) F (.slice T x none (some oh) none) ty (.slice a h c) := by
  have := q_slice (P := P) (B := B) (H := H) (L := L) (ty := ty) (ol := none) (oh := some oh) (om := none) (m := c) (h := h) (l := 0) h1 h2 hx rfl ⟨k, hh, hc⟩ rfl
  rwa [cutA_zero] at this
/-- x[l:] -/
theorem q_sliceF {E : TypeId} {a : Option Addr} {n c l : Nat} {ol : Operand} {k : IntKind} (h1 : P.underlying T = some (.slice E)) (h2 : tyS P E = some (agg, sz)) (hx : oev F x = some (.slice a n c)) (hl : oev F ol = some (.int k (l : Int))) (hc : l ≤ n) :
    Qt P (St B H L) F (.slice T x (some ol) none none) ty (.slice (cutA a c l sz) (n - l) (c - l)) :=
  q_slice (P := P) (B := B) (H := H) (L := L) (ty := ty) (ol := some ol) (oh := none) (om := none) (m := c) (h := n) (l := l) h1 h2 hx rfl ⟨rfl, rfl⟩ ⟨k, hl, hc⟩
/-- x[:] of an array -/
theorem q_sliceAll {E : TypeId} {b n : Nat} (h1 : P.underlying T = some (.array n E)) (h3 : tyS P E = some (agg, sz)) (hx : oev F x = some (.pointer (some ⟨b, 0, none⟩))) (hn : 0 < n) :
    Qt P (St B H L) F (.slice T x none none none) ty (.slice (some ⟨b, 0, none⟩) n n) := by
  have := q_sliceA (P := P) (S := St B H L) (ty := ty) (ol := none) (oh := none) (h := n) (l := 0) h1 h3 hx rfl rfl hn
  rwa [Nat.zero_mul, Nat.add_zero] at this
end
theorem RdS.pre {H : Froz} {a : Option Addr} {n k : Nat} {cs : List Value} (hr : RdS H a n k cs) {h : Nat} (hn : h ≤ n) : RdS H a h k (cs.take (h * k)) := by
  have := hr.cut (c := h) (Nat.zero_le h) hn (Nat.le_refl h)
  rwa [cutA_zero, Nat.zero_mul, List.drop_zero, Nat.sub_zero] at this
theorem RdS.preB {H : Froz} {a : Option Addr} {n : Nat} {bs : List UInt8} (hr : RdS H a n 1 (bc bs)) {h : Nat} (hn : h ≤ n) : RdS H a h 1 (bc (bs.take h)) := by
  have := hr.pre hn
  rw [Nat.mul_one] at this
  rwa [show (bc bs).take h = bc (bs.take h) by simp [bc, List.map_take]] at this
theorem RdS.fromB {H : Froz} {a : Option Addr} {n c : Nat} {bs : List UInt8} (hr : RdS H a n 1 (bc bs)) {l : Nat} (hn : l ≤ n) (hc : n ≤ c) : RdS H (cutA a c l 1) (n - l) 1 (bc (bs.drop l)) := by
  have := hr.cutB (c := c) hn (Nat.le_refl n) hc
  rwa [List.take_of_length_le (by rw [hr.bytes]; exact Nat.le_refl _)] at this
/-- A slice of bytes. -/
structure Sl where
  a : Option Addr
  n : Nat
  c : Nat
  bs : List UInt8
def slE (xs : List Sl) : List (List Value) := xs.map fun s => [Value.slice s.a s.n s.c]
theorem slE_length (xs : List Sl) : (slE xs).length = xs.length := by simp [slE]
def sumN (xs : List Sl) (k : Nat) : Nat := ((xs.take k).map Sl.n).sum
theorem sumN_succ {xs : List Sl} {k : Nat} (h : k < xs.length) : sumN xs (k + 1) = sumN xs k + xs[k].n := by
  unfold sumN
  rw [List.take_succ_eq_append_getElem h, List.map_append, List.sum_append]
  rfl
theorem sumN_le (xs : List Sl) (k : Nat) : sumN xs k ≤ (xs.map Sl.n).sum := by
  unfold sumN
  have := congrArg (fun l => (List.map Sl.n l).sum) (List.take_append_drop k xs)
  simp only [List.map_append, List.sum_append] at this
  omega
theorem sumN_all {xs : List Sl} {k : Nat} (h : xs.length ≤ k) : sumN xs k = (xs.map Sl.n).sum := by
  unfold sumN; rw [List.take_of_length_le h]
def AllSl (H : Froz) (xs : List Sl) : Prop := ∀ s ∈ xs, RdS H s.a s.n 1 (bc s.bs)
theorem AllSl.mono {H H' : Froz} {xs : List Sl} (h : AllSl H xs) (hle : Le H H') : AllSl H' xs := fun s hs => (h s hs).mono hle
def catN (xs : List Sl) (k : Nat) : List UInt8 := (xs.take k).flatMap Sl.bs
theorem catN_succ {xs : List Sl} {k : Nat} (h : k < xs.length) : catN xs (k + 1) = catN xs k ++ xs[k].bs := by
  unfold catN
  rw [List.take_succ_eq_append_getElem h, List.flatMap_append]
  simp
theorem frz_rd {H : Froz} {b : Nat} {cs : List Value} {T : TypeId} {n : Nat} {bs : List UInt8} (h : cs.take n = bc bs) (hn : bs.length = n) : RdS (frz H ⟨b, cs, T⟩) (some ⟨b, 0, none⟩) n 1 (bc bs) := by
  refine ⟨by rw [bc_length, hn, Nat.mul_one], fun _ => ⟨b, 0, rfl, fun j v hv => ?_⟩⟩
  have hj := (List.getElem?_eq_some_iff.1 hv).1
  rw [bc_length, hn] at hj
  rw [← h, List.getElem?_take, if_pos hj] at hv
  have := frz_self H ⟨b, cs, T⟩
  simp only [] at this
  simp only [hcell, this, Nat.zero_add]
  simpa using hv
end Go.W

/-! Plain: the blocks of a hash. -/
namespace Go.W
open Go Go.RowKit
theorem bc_take (l : List UInt8) (k : Nat) : bc (l.take k) = (bc l).take k := by simp [bc, List.map_take]
theorem OwS.le {T : TypeId} {sz n c : Nat} {a : Option Addr} {xs : List Value} {Lx : List Blk} (h : OwS T sz (.slice a n c) n xs Lx) : n ≤ c := by
  generalize hv : Value.slice a n c = v at h
  cases h with
  | nil => simp only [Value.slice.injEq, true_and] at hv; omega
  | row h1 h2 h3 => simp only [Value.slice.injEq, true_and] at hv; omega
theorem OwS.sz1 {T : TypeId} {n : Nat} {v : Value} {xs : List Value} {Lx : List Blk} (h : OwS T 1 v n xs Lx) : n = xs.length := by have := h.len; omega
noncomputable def tagged (t b : List UInt8) : Dg := shaD ((shaD t).l ++ b)
theorem frz_dc {H : Froz} {b : Nat} {T : TypeId} (d : Dg) : RdS (frz H ⟨b, dc d, T⟩) (some ⟨b, 0, none⟩) 32 1 (bc d.l) := frz_rd (by rw [List.take_of_length_le (by rw [dc_length]; exact Nat.le_refl _)]; rfl) d.h
theorem startV_ok : startV.Ok := by
  intro x hx
  simp only [V8.l, startV, List.mem_cons, List.not_mem_nil, or_false] at hx
  rcases hx with rfl | rfl | rfl | rfl | rfl | rfl | rfl | rfl <;> decide
theorem absorbs_ok {s : V8} (h : s.Ok) (b : List UInt8) : ∀ k, (absorbs s b k).Ok
  | 0 => h
  | _ + 1 => addV_ok _ _
theorem padded_eq {bs r : List UInt8} {m : Nat} (hr : r = bs.drop (64 * (bs.length / 64))) (hm : m = if 55 < r.length then 128 else 64) : padded bs = r ++ [0x80] ++ List.replicate (m - 8 - r.length - 1) 0 ++ beB 8 (bs.length * 8) := by
  unfold padded
  simp only [← hr]
  have e : (if 55 < r.length then 120 else 56) = m - 8 := by subst hm; split <;> rfl
  rw [e]
theorem padded_length {bs r : List UInt8} {m : Nat} (hr : r = bs.drop (64 * (bs.length / 64))) (hm : m = if 55 < r.length then 128 else 64) (hl : r.length < 64) : (padded bs).length = m := by
  rw [padded_eq hr hm]
  simp [beB_length]
  split at hm <;> omega
theorem sha_eq {bs : List UInt8} {m q k : Nat} (hm : (padded bs).length = m) (hq : m / 64 = q) (hk : bs.length / 64 = k) : digV (absorbs (absorbs startV bs k) (padded bs) q) = sha bs := by
  subst hk hq hm
  rfl
theorem one80 : [Value.int .u8 128] = bc [0x80] := rfl
theorem splU_length {a b : List UInt8} {o : Nat} (h : o + b.length ≤ a.length) : (splU a o b).length = a.length := by unfold splU; simp; omega
end Go.W

/-! Plain: the group. -/
namespace Go.W
open Go Go.RowKit
abbrev PN : Nat := 4611686018427377339
abbrev QN : Nat := 2305843009213688669
def pwA (a : Nat) : Nat → Nat → Nat
  | 0, _ => 1
  | f + 1, k => if k = 0 then 1 else if k % 2 = 1 then (pwA a f (k / 2) * pwA a f (k / 2) % PN) * a % PN else pwA a f (k / 2) * pwA a f (k / 2) % PN
/-- The same, reckoned once a step. -/
def pwB (a : Nat) : Nat → Nat → Nat
  | 0, _ => 1
  | f + 1, k => if k = 0 then 1 else (fun c => if k % 2 = 1 then (c * c % PN) * a % PN else c * c % PN) (pwB a f (k / 2))
theorem pwB_eq (a : Nat) : ∀ f k, pwB a f k = pwA a f k
  | 0, _ => rfl
  | f + 1, k => by simp only [pwB, pwA, pwB_eq a f]
noncomputable def pw (a k : Nat) : Nat := (kept (pwB a 64 k)).1
theorem pw_def (a k : Nat) : pw a k = pwB a 64 k := (kept _).2
theorem pwA_lt (a : Nat) : ∀ f k, pwA a f k < PN
  | 0, _ => by show 1 < PN; decide
  | f + 1, k => by
    simp only [pwA]
    split
    · decide
    · split <;> exact Nat.mod_lt _ (by decide)
theorem pw_lt (a k : Nat) : pw a k < PN := by rw [pw_def, pwB_eq]; exact pwA_lt a 64 k
theorem pwA_spec (a : Nat) : ∀ f k, k < 2 ^ f → pwA a f k = a ^ k % PN
  | 0, k, h => by
    have : k = 0 := by omega
    subst this; simp [pwA]
  | f + 1, k, h => by
    simp only [pwA]
    split
    · rename_i h0; subst h0; simp
    · have ih := pwA_spec a f (k / 2) (by rw [Nat.pow_succ] at h; omega)
      rw [ih]
      have e2 : a ^ (k / 2) * a ^ (k / 2) = a ^ (2 * (k / 2)) := by rw [← Nat.pow_add]; congr 1; omega
      split
      · rename_i h1
        rw [← Nat.mul_mod, e2, Nat.mod_mul_mod, ← Nat.pow_succ]
        congr 2
        omega
      · rename_i h1
        rw [← Nat.mul_mod, e2]
        congr 2
        omega
theorem pw_spec {a k : Nat} (h : k < 2 ^ 64) : pw a k = a ^ k % PN := by rw [pw_def, pwB_eq]; exact pwA_spec a 64 k h
/-- One more digit. -/
theorem pw_step {a k : Nat} (hk : k < 2 ^ 64) : pw a k = if k = 0 then 1 else if k % 2 = 1 then (pw a (k / 2) * pw a (k / 2) % PN) * a % PN else pw a (k / 2) * pw a (k / 2) % PN := by
  have h2 : k / 2 < 2 ^ 64 := by omega
  split
  · rename_i h0; subst h0; rw [pw_def]; rfl
  · rw [pw_spec hk, pw_spec h2]
    have e2 : a ^ (k / 2) * a ^ (k / 2) = a ^ (2 * (k / 2)) := by rw [← Nat.pow_add]; congr 1; omega
    split
    · rename_i h1
      rw [← Nat.mul_mod, e2, Nat.mod_mul_mod, ← Nat.pow_succ]
      congr 2
      omega
    · rename_i h1
      rw [← Nat.mul_mod, e2]
      congr 2
      omega
noncomputable def inG (x : Int) : Bool := (kept (decide (1 ≤ x ∧ x < 4611686018427377339) && decide (pw x.toNat QN = 1))).1
theorem inG_def (x : Int) : inG x = (decide (1 ≤ x ∧ x < 4611686018427377339) && decide (pw x.toNat QN = 1)) := (kept _).2
theorem inG4 : inG 4 = true := by
  have : pw (4 : Int).toNat QN = 1 := by rw [pw_def]; decide +kernel
  simp only [inG_def, this]
  decide
theorem inG_range {x : Int} (h : inG x = true) : 1 ≤ x ∧ x < 4611686018427377339 := by
  simp only [inG_def, Bool.and_eq_true, decide_eq_true_eq] at h; exact h.1
theorem inG_lo {x : Int} (h : x < 1) : inG x = false := by rw [inG_def, decide_eq_false (by omega)]; rfl
theorem inG_hi {x : Int} (h : 4611686018427377339 ≤ x) : inG x = false := by rw [inG_def, decide_eq_false (by omega)]; rfl
theorem inG_mid {x : Int} (h1 : 1 ≤ x) (h : x < 4611686018427377339) : inG x = decide (pw x.toNat QN = 1) := by rw [inG_def, decide_eq_true ⟨h1, h⟩]; rfl
/-- The remainder of the number that bytes are. -/
def restN (l : List UInt8) (m k : Nat) : Nat := ((bn l).take k).foldl (fun n b => (n * 256 + b) % m) 0
theorem restN_succ {l : List UInt8} {m k : Nat} (h : k < l.length) : restN l m (k + 1) = (restN l m k * 256 + gt (bn l) k) % m := by
  unfold restN
  rw [List.take_succ_eq_append_getElem (by rw [bn_length]; exact h), List.foldl_append]
  simp [gt, List.getD_eq_getElem?_getD, bn_length, h]
theorem restN_lt {l : List UInt8} {m k : Nat} (hm : 0 < m) : restN l m k < m := by
  unfold restN
  rcases List.eq_nil_or_concat ((bn l).take k) with h | ⟨t, x, h⟩
  · rw [h]; exact hm
  · rw [h]
    rw [List.concat_eq_append, List.foldl_append]
    exact Nat.mod_lt _ hm
noncomputable def scalarN (tag bs : List UInt8) : Nat := 1 + restN (tagged tag bs).l 2305843009213688668 32
theorem scalarN_range (tag bs : List UInt8) : 1 ≤ scalarN tag bs ∧ scalarN tag bs < QN := by
  have := restN_lt (l := (tagged tag bs).l) (m := 2305843009213688668) (k := 32) (by decide)
  unfold scalarN
  exact ⟨by omega, by show 1 + _ < 2305843009213688669; omega⟩
theorem fold_words {n b : Nat} (hb : b < 256) : n / 2 ^ 56 * 18446744073709551616 + ((n * 2 ^ 8 % 18446744073709551616) ||| b) = n * 256 + b := by
  have e : n * 2 ^ 8 % 18446744073709551616 = (n % 2 ^ 56) * 2 ^ 8 := by omega
  rw [e]
  have h2 : (n % 2 ^ 56) * 2 ^ 8 ||| b = (n % 2 ^ 56) * 2 ^ 8 + b := by
    rw [Nat.mul_comm]
    exact (Nat.two_pow_add_eq_or_of_lt (i := 8) hb _).symm
  rw [h2]
  omega
end Go.W

/-! Arrays put together. -/
namespace Go.W
open Go Go.RowKit
def bldA (sz : Nat) : List Value → List (Nat × Value) → Option (List Value)
  | cs, [] => some cs
  | cs, p :: t => if p.2.cells.toList.length = sz ∧ p.1 * sz + sz ≤ cs.length then bldA sz (spl cs (p.1 * sz) p.2.cells.toList) t else none
theorem fill_bldA (sz : Nat) : ∀ (parts : List (Nat × Value)) (cs out : List Value), bldA sz cs parts = some out → Instr.fill (fun i => some (i * sz, sz)) cs.toArray parts = some out.toArray := by
  intro parts
  induction parts with
  | nil => intro cs out h; simp only [bldA, Option.some.injEq] at h; subst h; rfl
  | cons p t ih =>
    intro cs out h
    simp only [bldA] at h
    split at h
    · rename_i hc
      obtain ⟨h1, h2⟩ := hc
      obtain ⟨i, v⟩ := p
      simp only [] at h1 h2 h
      have h3 : v.cells.size = sz := by simpa using h1
      simp only [Instr.fill]
      rw [if_neg (by simp; omega)]
      have hf := fold_set v.cells.toList cs (i * sz) 0 (by rw [h1]; omega)
      rw [← ih _ _ h]
      congr 1
      have : v.cells.zipIdx.foldl (fun (cs : Array Value) (x : Value × Nat) => match x with | (c, j) => cs.setIfInBounds (i * sz + j) c) cs.toArray = (v.cells.toList.zipIdx 0).foldl (fun (c : Array Value) (p : Value × Nat) => c.setIfInBounds (i * sz + p.2) p.1) cs.toArray := by
        rw [← Array.foldl_toList]
        simp [Array.toList_zipIdx]
      rw [this, hf]
      simp [spl]
    · cases h
theorem q_buildA {P : Program} {S : World → Prop} {F : Fr} {ty T E : TypeId} {len sz : Nat} {agg : Bool} {zs cs : List Value} {ps : List (Nat × Operand)} {vs : List (Nat × Value)} (hu : P.underlying T = some (.array len E)) (ht : tyS P E = some (agg, sz)) (hz : zrS P T = some zs) (hv : oevp F ps = some vs) (hb : bldA sz zs vs = some cs) :
    Qt P S F (.build T ps.toArray) ty (.agg cs.toArray) := by
  intro ρ hρ w _ d pos after g
  obtain ⟨i, zv, h1, h2, h3⟩ := zrS_parts hz
  have key : ∀ (ps : List (Nat × Operand)) (vs : List (Nat × Value)), oevp F ps = some vs → ps.map (fun (i, x) => (i, ρ x)) = vs := by
    intro ps
    induction ps with
    | nil => intro vs hv; simp [oevp] at hv; simp [hv]
    | cons p t ih =>
      intro vs hv
      simp only [oevp] at hv
      split at hv
      · rename_i v vs' e1 e2
        simp only [Option.some.injEq] at hv
        subst hv
        simp [hρ _ _ e1, ih _ e2]
      · cases hv
  have hzc : zv.cells = zs.toArray := by rw [← h3]
  have hfill := fill_bldA sz vs zs cs hb
  have hrun : (Instr.build T (ps.map (fun (i, x) => (i, ρ x))).toArray).run P w = .ok (.agg cs.toArray) w := by
    unfold Instr.build
    have hzv : (zeroValue T).run P w = .ok zv w := by simp [zeroValue, typeInfo, h1, h2]
    simp only [Sem.run_bind, hzv, Result.andThen_ok, run_underlying hu, run_sizeOf' ht, hzc]
    rw [key _ _ hv]
    simp only [hfill, Sem.run_pure]
  simp only [execOp, Sem.run_bind, List.map_toArray]
  rw [hrun]
  rfl
end Go.W

/-! Plain: scalars. -/
namespace Go.W
noncomputable def badQ (x : Int) : Bool := (kept (decide (x < 0 ∨ 2305843009213688669 ≤ x))).1
theorem badQ_def (x : Int) : badQ x = decide (x < 0 ∨ 2305843009213688669 ≤ x) := (kept _).2
noncomputable def idxQ (xs : List Int) : Int := match xs.findIdx? badQ with | some i => i | none => -1
theorem idxQ_yes {xs : List Int} {k : Nat} (h : k < xs.length) (hb : badQ xs[k] = true) (hno : ∀ j (h : j < k) (h2 : j < xs.length), badQ xs[j] = false) : idxQ xs = k := by
  have : xs.findIdx? badQ = some k := List.findIdx?_eq_some_iff_getElem.2 ⟨h, hb, fun j hj => by rw [hno j hj (Nat.lt_trans hj h)]; simp⟩
  simp [idxQ, this]
theorem idxQ_no {xs : List Int} (hno : ∀ j (h2 : j < xs.length), badQ xs[j] = false) : idxQ xs = -1 := by
  have : xs.findIdx? badQ = none := List.findIdx?_eq_none_iff.2 fun x hx => by obtain ⟨j, hj, rfl⟩ := List.mem_iff_getElem.1 hx; exact hno j hj
  simp [idxQ, this]
theorem idxQ_any (xs : List Int) : decide (0 ≤ idxQ xs) = xs.any badQ := by
  cases h : xs.findIdx? badQ with
  | none =>
    have h1 := List.findIdx?_eq_none_iff.1 h
    have h2 : xs.any badQ = false := by rw [List.any_eq_false]; intro x hx; simp [h1 x hx]
    simp [idxQ, h, h2]
  | some i =>
    obtain ⟨hi, hb, _⟩ := List.findIdx?_eq_some_iff_getElem.1 h
    have h2 : xs.any badQ = true := List.any_eq_true.2 ⟨xs[i], List.getElem_mem hi, hb⟩
    simp [idxQ, h, h2]
end Go.W

/-! Plain: what the layers 3 to 5 reckon. -/
namespace Go.W
open Go Go.RowKit
noncomputable def expP (x k : Int) : Int × Int := (kept (if inG x then (if 0 ≤ k ∧ k < 2305843009213688669 then ((pw x.toNat k.toNat : Int), 0) else (0, 1)) else (0, 40))).1
theorem expP_def (x k : Int) : expP x k = (if inG x then (if 0 ≤ k ∧ k < 2305843009213688669 then ((pw x.toNat k.toNat : Int), 0) else (0, 1)) else (0, 40)) := (kept _).2
noncomputable def baseP (k : Int) : Int × Int := (kept (if 0 ≤ k ∧ k < 2305843009213688669 then ((pw 4 k.toNat : Int), 0) else (0, 1))).1
theorem baseP_def (k : Int) : baseP k = (if 0 ≤ k ∧ k < 2305843009213688669 then ((pw 4 k.toNat : Int), 0) else (0, 1)) := (kept _).2
theorem expP_base (k : Int) : expP 4 k = baseP k := by simp [expP_def, baseP_def, inG4]
noncomputable def mulP (x y : Int) : Int × Int := (kept (if inG x ∧ inG y then (((x.toNat * y.toNat % 4611686018427377339 : Nat) : Int), 0) else (0, 40))).1
theorem mulP_def (x y : Int) : mulP x y = (if inG x ∧ inG y then (((x.toNat * y.toNat % 4611686018427377339 : Nat) : Int), 0) else (0, 40)) := (kept _).2
noncomputable def fMulP (x y : Int) : Int × Int := (kept (if badQ x ∨ badQ y then (0, 1) else (x * y % 2305843009213688669, 0))).1
theorem fMulP_def (x y : Int) : fMulP x y = (if badQ x ∨ badQ y then (0, 1) else (x * y % 2305843009213688669, 0)) := (kept _).2
noncomputable def fAddP (x y : Int) : Int × Int := (kept (if badQ x ∨ badQ y then (0, 1) else ((x + y) % 2305843009213688669, 0))).1
theorem fAddP_def (x y : Int) : fAddP x y = (if badQ x ∨ badQ y then (0, 1) else ((x + y) % 2305843009213688669, 0)) := (kept _).2
/-- An int's bytes. -/
def u64N (n : Int) : Nat := (n % 18446744073709551616).toNat
theorem u64N_lt (n : Int) : u64N n < 18446744073709551616 := by unfold u64N; omega
theorem wrap_u64N (n : Int) : IntKind.u64.wrap n = (u64N n : Int) := by
  unfold IntKind.wrap u64N
  simp only [show IntKind.u64.signed = false from rfl, Bool.false_and]
  have : (2 : Int) ^ IntKind.u64.bits = 18446744073709551616 := by decide
  rw [this]
  simp
  omega
def be8 (n : Int) : List UInt8 := beB 8 (u64N n)
def bes (ns : List Int) (k : Nat) : List UInt8 := (ns.take k).flatMap be8
theorem bes_succ {ns : List Int} {k : Nat} (h : k < ns.length) : bes ns (k + 1) = bes ns k ++ be8 ns[k] := by
  unfold bes
  rw [List.take_succ_eq_append_getElem h, List.flatMap_append]
  simp
theorem beB_take_succ (n j : Nat) (h : j < 8) : (beB 8 n).take (j + 1) = (beB 8 n).take j ++ [UInt8.ofNat (n / 2 ^ (56 - 8 * j))] := by
  rw [List.take_succ_eq_append_getElem (by rw [beB_length]; exact h)]
  congr 2
  simp only [beB, List.getElem_map, List.getElem_range]
  rw [show 8 * (8 - 1 - j) = 56 - 8 * j by omega]
noncomputable def hashN (tag msg : List UInt8) (ns : List Int) : Nat := (kept (scalarN tag (bes ns ns.length ++ msg))).1
theorem hashN_def (tag msg : List UInt8) (ns : List Int) : hashN tag msg ns = scalarN tag (bes ns ns.length ++ msg) := (kept _).2
theorem hashN_range (tag msg : List UInt8) (ns : List Int) : 1 ≤ hashN tag msg ns ∧ hashN tag msg ns < 2305843009213688669 := by rw [hashN_def]; exact scalarN_range _ _
abbrev tNonce : List UInt8 := [110, 111, 110, 99, 101]
abbrev tSign : List UInt8 := [115, 105, 103, 110]
noncomputable def keyOk (x : Int) : Bool := (kept (decide (1 ≤ x ∧ x < 2305843009213688669))).1
theorem keyOk_def (x : Int) : keyOk x = decide (1 ≤ x ∧ x < 2305843009213688669) := (kept _).2
noncomputable def pubP (x : Int) : Int × Int := if keyOk x then ((baseP x).1, 0) else (0, 50)
theorem pubP_no {x : Int} (h : ¬ (1 ≤ x ∧ x < 2305843009213688669)) : pubP x = (0, 50) := by rw [pubP, keyOk_def, decide_eq_false h]; rfl
theorem pubP_yes {x : Int} (h : 1 ≤ x ∧ x < 2305843009213688669) : pubP x = ((baseP x).1, 0) := by rw [pubP, keyOk_def, decide_eq_true h]; rfl
/-- The signature: R, S, the error. -/
noncomputable def sigR (x : Int) (msg : List UInt8) : Int := (baseP (hashN tNonce msg [x])).1
noncomputable def sigM (x : Int) (msg : List UInt8) : Int := (fMulP (hashN tSign msg [sigR x msg, (baseP x).1]) x).1
noncomputable def sigP (x : Int) (msg : List UInt8) : (Int × Int) × Int := if keyOk x then ((sigR x msg, (fAddP (hashN tNonce msg [x]) (sigM x msg)).1), (fAddP (hashN tNonce msg [x]) (sigM x msg)).2) else ((0, 0), 50)
noncomputable def verP (pub : Int) (msg : List UInt8) (R S : Int) : Bool :=
  inG pub && inG R && !badQ S && decide ((baseP S).1 = (mulP R (expP pub (hashN tSign msg [R, pub])).1).1)
theorem verP_no {pub : Int} {msg : List UInt8} {R S : Int} (h : ¬ ([if inG pub then 0 else 40, if inG R then 0 else 40, if badQ S then 1 else 0] : List Int) = [0, 0, 0]) : verP pub msg R S = false := by
  unfold verP
  cases h1 : inG pub <;> cases h2 : inG R <;> cases h3 : badQ S <;> simp_all
theorem verP_yes {pub : Int} {msg : List UInt8} {R S : Int} (h : ([if inG pub then 0 else 40, if inG R then 0 else 40, if badQ S then 1 else 0] : List Int) = [0, 0, 0]) :
    verP pub msg R S = decide ((baseP S).1 = (mulP R (expP pub (hashN tSign msg [R, pub])).1).1) := by
  unfold verP
  cases h1 : inG pub <;> cases h2 : inG R <;> cases h3 : badQ S <;> simp_all
theorem sigP_no {x : Int} {msg : List UInt8} (h : ¬ (1 ≤ x ∧ x < 2305843009213688669)) : sigP x msg = ((0, 0), 50) := by
  unfold sigP
  rw [show keyOk x = false by rw [keyOk_def]; exact decide_eq_false h]
  rfl
theorem sigR_eq {x : Int} {msg : List UInt8} {k : Nat} {R : Int} (hk : hashN tNonce msg [x] = k) (hR : (baseP k).1 = R) : sigR x msg = R := by
  rw [sigR, hk]; exact hR
theorem sigM_eq {x : Int} {msg : List UInt8} {R c m : Int} (hR : sigR x msg = R) (hc : (hashN tSign msg [R, (baseP x).1] : Int) = c) (hm : (fMulP c x).1 = m) : sigM x msg = m := by
  rw [sigM, hR, hc]; exact hm
theorem sigP_yes {x : Int} {msg : List UInt8} (h : 1 ≤ x ∧ x < 2305843009213688669) {k : Nat} {R c m : Int} (hk : hashN tNonce msg [x] = k) (hR : (baseP k).1 = R) (hc : (hashN tSign msg [R, (baseP x).1] : Int) = c) (hm : (fMulP c x).1 = m) :
    sigP x msg = ((R, (fAddP k m).1), (fAddP k m).2) := by
  have h1 := sigR_eq hk hR
  have h2 := sigM_eq h1 hc hm
  have h3 : keyOk x = true := by rw [keyOk_def]; exact decide_eq_true h
  rw [sigP, if_pos h3, h1, h2, hk]
end Go.W

/-! A mark: texts that import it do not unfold what is reckoned. -/
namespace Go.W
end Go.W

/-! Codec: plain and pieces. -/
namespace Go.W
open Go Go.RowKit
theorem q_shrI {P : Program} {S : World → Prop} {F : Fr} {ty : TypeId} {x y : Operand} {t t' : TypeId} {yk : IntKind} {a : Int} {s : Nat} (hx : oev F x = some (.int .i64 a)) (hy : oev F y = some (.int yk (s : Int))) (hs : s ≤ 64) : Qt P S F (.binOp .shr t x y t') ty (.int .i64 (a / 2 ^ s)) := by
  intro ρ hρ w _ d pos after g
  have he : (eqGuard .shr t x y (.int .i64 a) (.int yk (s : Int))).run P w = .ok () w := by unfold eqGuard; simp
  have hb : (Go.binOp .shr t (.int .i64 a) (.int yk (s : Int))).run P w = .ok (.int .i64 (a / 2 ^ s)) w := by
    have : (Op.shift .shr .i64 a yk (s : Int)).run P w = .ok (.int .i64 (a / 2 ^ s)) w := by
      simp only [Op.shift]
      rw [if_neg (by omega)]
      simp only [Int.toNat_natCast, Nat.min_eq_left (show s ≤ IntKind.i64.bits from hs), Sem.run_pure]
      congr 2
      exact Int.fdiv_eq_ediv_of_nonneg _ (by exact_mod_cast Nat.zero_le (2 ^ s))
    exact this
  simp only [execOp, hρ x _ hx, hρ y _ hy, Sem.run_bind, he, hb, Result.andThen_ok, Sem.run_pure]
theorem St.nilR {B : Base} {H : Froz} {w : World} {L : List Blk} (h : St B H L w) : St B H (L ++ []) w := by rw [List.append_nil]; exact h
section
variable {P : Program} {ops : Array Oper} {Q : Exit → Act → World → Prop} {n i fuel : Nat} {a : Act} {F : Fr} {w : World} {listed : Array Bool} {S : World → Prop} {Ls : List Nat}
/-- A loud operation under a guard that says yes. -/
theorem r_lig {o : Oper} {gb : Nat × Bool} (hi : ops[i]? = some o) (hg : o.guard = some gb) (hF : Has n a F) (hv : gval ops F gb.1 = some (.bool gb.2))
    (h : ∀ K : Act → World → Prop, (∀ (S' : World → Prop) a' w', S' w' → (∀ w, S' w → S w) → wpAnyL P .any ops Q S' Ls fuel (listed.setIfInBounds i true) a' w' → K a' w') → o.wp P a w K Q) :
    wpOp P ops Q i (fun a' w' => (Ls.contains i = false → S w') ∧ wpAnyL P .any ops Q S Ls fuel (listed.setIfInBounds i true) a' w') a w := by
  unfold wpOp
  simp only [hi]
  rw [if_pos (by rw [wanted_of hg hF hv]; simp)]
  exact .inl (h _ fun S' a' w' h1 hss h3 => ⟨fun _ => hss _ h1, r_hold hss _ _ _ _ h3⟩)
end
def unsN (n : Int) : Nat := (u64N n * 2 % 18446744073709551616) ^^^ u64N (n / 2 ^ 63)
theorem unsN_lt (n : Int) : unsN n < 18446744073709551616 := Nat.xor_lt_two_pow (n := 64) (Nat.mod_lt _ (by decide)) (u64N_lt _)
def numB : Nat → Nat → List UInt8
  | 0, u => [UInt8.ofNat u]
  | f + 1, u => if u < 128 then [UInt8.ofNat u] else UInt8.ofNat ((u % 256) ||| 128) :: numB f (u / 128)
def numL (u : Nat) : List UInt8 := numB 9 u
theorem numB_small {f u : Nat} (h : u < 128) : numB f u = [UInt8.ofNat u] := by
  cases f with
  | zero => rfl
  | succ f => rw [numB, if_pos h]
theorem numB_big {f u : Nat} (h : 128 ≤ u) : numB (f + 1) u = UInt8.ofNat ((u % 256) ||| 128) :: numB f (u / 128) := by rw [numB, if_neg (by omega)]
theorem pow_step {f u : Nat} (h : u < 128 ^ (f + 2)) : u / 128 < 128 ^ (f + 1) := by
  rw [Nat.div_lt_iff_lt_mul (by decide)]; rw [Nat.pow_succ] at h; exact h
/-- The message's encoding. -/
def encI (n : Int) : List UInt8 := 1 :: numL (unsN n)
def encT (s : List UInt8) : List UInt8 := 2 :: (numL s.length ++ s)
def encM (a b c : Int) (s : List UInt8) : List UInt8 := 3 :: (numL 4 ++ (encI a ++ encI b ++ encI c ++ encT s))
/-- Cells of a row, frozen. -/
structure HR (H : Froz) (b : Nat) (cs : List Value) : Prop where
  h : ∀ j v, cs[j]? = some v → hcell H b j = some v
theorem HR.mono {H H' : Froz} {b : Nat} {cs : List Value} (h : HR H b cs) (hle : Le H H') : HR H' b cs := ⟨fun j v hv => hcell_le hle (h.h j v hv)⟩
theorem frz_hr {H : Froz} {b : Nat} {cs : List Value} {T : TypeId} : HR (frz H ⟨b, cs, T⟩) b cs := ⟨fun j v hv => by
  have := frz_self H ⟨b, cs, T⟩
  simp only [] at this
  simp only [hcell, this]
  simpa using hv⟩
end Go.W

/-! Plain: the values of a message. -/
namespace Go.W
open Go Go.RowKit
inductive Lf where
  | i (n : Int)
  | t (s : ByteArray)
def Lf.c : Lf → List Value
  | .i n => [.int .i64 1, .int .i64 n, .string ⟨#[]⟩, .slice none 0 0]
  | .t s => [.int .i64 2, .int .i64 0, .string s, .slice none 0 0]
def Lf.k : Lf → Nat
  | .i _ => 1
  | .t _ => 2
def Lf.e : Lf → List UInt8
  | .i n => encI n
  | .t s => encT s.data.toList
def Lf.z : Lf → Nat
  | .i _ => 0
  | .t s => s.size
theorem Lf.c_len (l : Lf) : l.c.length = 4 := by cases l <;> rfl
theorem Lf.c_all1 (l : Lf) : all1 l.c = true := by cases l <;> rfl
theorem Lf.k_le (l : Lf) : 1 ≤ l.k ∧ l.k ≤ 2 := by cases l <;> simp [Lf.k]
theorem numB_len : ∀ f u, (numB f u).length ≤ f + 1
  | 0, _ => by simp [numB]
  | f + 1, u => by
    rw [numB]
    split
    · simp
    · have := numB_len f (u / 128)
      simp only [List.length_cons]
      omega
theorem numL_len (u : Nat) : (numL u).length ≤ 10 := numB_len 9 u
theorem Lf.e_len (l : Lf) : l.e.length ≤ 11 + l.z := by
  cases l with
  | i n => have := numL_len (unsN n); simp only [Lf.e, encI, List.length_cons, Lf.z]; omega
  | t s =>
    have := numL_len s.data.toList.length
    have h2 : s.size = s.data.toList.length := by simp
    simp only [Lf.e, encT, List.length_cons, List.length_append, Lf.z]
    omega
def encLs (ls : List Lf) (j : Nat) : List UInt8 := 3 :: (numL ls.length ++ (ls.take j).flatMap Lf.e)
theorem encLs_succ {ls : List Lf} {j : Nat} (h : j < ls.length) : encLs ls (j + 1) = encLs ls j ++ ls[j].e := by
  unfold encLs
  rw [List.take_succ_eq_append_getElem h, List.flatMap_append]
  simp
def encL (ls : List Lf) : List UInt8 := encLs ls ls.length
def lfE (ls : List Lf) : List (List Value) := ls.map Lf.c
end Go.W

/-! Plain: entries, heads, stores. -/
namespace Go.W
open Go Go.RowKit
structure Hd where
  st : Int
  fo : Int
  no : Int
  ch : Dg
  R : Int
  S : Int
def Hd.c (h : Hd) : List Value := .int .i64 h.st :: .int .i64 h.fo :: .int .i64 h.no :: (dc h.ch ++ [.int .i64 h.R, .int .i64 h.S])
theorem Hd.c_len (h : Hd) : h.c.length = 37 := by simp [Hd.c, dc_length]
theorem Hd.c_all1 (h : Hd) : all1 h.c = true := by
  have := dc_all1 h.ch
  simp only [all1, List.all_eq_true] at this
  simp only [Hd.c, all1, List.all_cons, List.all_append, Bool.and_eq_true, List.all_eq_true]
  exact ⟨rfl, rfl, rfl, this, by simp; exact ⟨rfl, rfl⟩⟩
theorem Hd.ld_ch (h : Hd) : ldv true 32 h.c 3 = some (.agg (dc h.ch).toArray) := by
  simp only [ldv, cond_true, Hd.c, List.drop_succ_cons, List.drop_zero]
  rw [List.take_append_of_le_length (by rw [dc_length]; exact Nat.le_refl _), List.take_of_length_le (by rw [dc_length]; exact Nat.le_refl _)]
theorem Hd.ld_sig (h : Hd) : ldv true 2 h.c 35 = some (.agg #[.int .i64 h.R, .int .i64 h.S]) := by
  simp only [ldv, cond_true, Hd.c]
  rw [show (35 : Nat) = 32 + 1 + 1 + 1 from rfl, List.drop_succ_cons, List.drop_succ_cons, List.drop_succ_cons, List.drop_append, List.drop_eq_nil_of_le (by rw [dc_length]; exact Nat.le_refl _), dc_length]
  rfl
/-- An entry: the data is a slice. -/
structure En where
  kind : Int
  dg : Dg
  da : Option Addr
  dn : Nat
  dp : Nat
  bs : List UInt8
  gone : Bool
def En.c (e : En) : List Value := .int .i64 e.kind :: (dc e.dg ++ [.slice e.da e.dn e.dp, .bool e.gone])
theorem En.c_len (e : En) : e.c.length = 35 := by simp [En.c, dc_length]
theorem En.c_all1 (e : En) : all1 e.c = true := by
  have := dc_all1 e.dg
  simp only [all1, List.all_eq_true] at this
  simp only [En.c, all1, List.all_cons, List.all_append, Bool.and_eq_true, List.all_eq_true]
  exact ⟨rfl, this, by simp; exact ⟨rfl, rfl⟩⟩
theorem En.ld_dg (e : En) : ldv true 32 e.c 1 = some (.agg (dc e.dg).toArray) := by
  simp only [ldv, cond_true, En.c, List.drop_succ_cons, List.drop_zero]
  rw [List.take_append_of_le_length (by rw [dc_length]; exact Nat.le_refl _), List.take_of_length_le (by rw [dc_length]; exact Nat.le_refl _)]
theorem En.ld_da (e : En) : ldv false 1 e.c 33 = some (.slice e.da e.dn e.dp) := by
  simp only [ldv, cond_false, En.c]
  rw [List.getElem?_cons_succ, List.getElem?_append_right (by rw [dc_length]; exact Nat.le_refl _), dc_length]
  rfl
theorem En.ld_go (e : En) : ldv false 1 e.c 34 = some (.bool e.gone) := by
  simp only [ldv, cond_false, En.c]
  rw [List.getElem?_cons_succ, List.getElem?_append_right (by rw [dc_length]; decide), dc_length]
  rfl
theorem En.ld_all (e : En) : ldv true 35 e.c 0 = some (.agg e.c.toArray) := by
  simp only [ldv, cond_true, List.drop_zero]
  rw [List.take_of_length_le (by rw [En.c_len]; exact Nat.le_refl _)]
def u8N (n : Int) : Nat := (n % 256).toNat
theorem u8N_lt (n : Int) : u8N n < 256 := by unfold u8N; omega
theorem wrap_u8N (n : Int) : IntKind.u8.wrap n = (u8N n : Int) := by
  unfold IntKind.wrap u8N
  simp only [show IntKind.u8.signed = false from rfl, Bool.false_and]
  have : (2 : Int) ^ IntKind.u8.bits = 256 := by decide
  rw [this]
  simp
  omega
theorem bc_u8 (n : Int) : [Value.int .u8 (u8N n : Int)] = bc [UInt8.ofNat (u8N n)] := by
  have := u8N_lt n
  simp [bc]
  omega
theorem RdL.u8 {H : Froz} {a : Option Addr} {n : Int} (h : RdL H a 1 [[Value.int .u8 (u8N n : Int)]]) : RdS H a 1 1 (bc [UInt8.ofNat (u8N n)]) := by rw [← bc_u8]; exact h.rd
abbrev tEntry : List UInt8 := [101, 110, 116, 114, 121]
abbrev tLog : List UInt8 := [108, 111, 103]
abbrev tHead : List UInt8 := [104, 101, 97, 100]
abbrev tChain : List UInt8 := [99, 104, 97, 105, 110]
noncomputable def digE (kind : Int) (bs : List UInt8) : Dg := tagged tEntry (UInt8.ofNat (u8N kind) :: bs)
noncomputable def chainK (folder : Int) (ds : List Dg) (k : Nat) : Dg := (ds.take k).foldl (fun e d => tagged tChain (e.l ++ d.l)) (tagged tLog [UInt8.ofNat (u8N folder)])
theorem chainK_succ {folder : Int} {ds : List Dg} {k : Nat} (h : k < ds.length) : chainK folder ds (k + 1) = tagged tChain ((chainK folder ds k).l ++ ds[k].l) := by
  unfold chainK
  rw [List.take_succ_eq_append_getElem h, List.foldl_append]
  rfl
noncomputable def chainN (folder : Int) (ds : List Dg) : Dg := chainK folder ds ds.length
def dgE (ds : List Dg) : List (List Value) := ds.map dc
noncomputable def msgN (h : Hd) : Dg := tagged tHead (encL [.i h.st, .i h.fo, .i h.no, .t (bstr h.ch.l)])
noncomputable def verS (pub : Int) (h : Hd) : Bool := decide (0 ≤ h.st ∧ h.st < 4) && decide (0 ≤ h.fo ∧ h.fo < 16) && decide (0 ≤ h.no ∧ h.no ≤ 65536) && verP pub (msgN h).l h.R h.S
/-- New: number, key, error. -/
noncomputable def newP (id priv : Int) : Int × Int × Int := (kept (if id < 0 ∨ 4 ≤ id then (0, 0, 300) else if keyOk priv then (id, priv, 0) else (0, 0, 50))).1
theorem newP_def (id priv : Int) : newP id priv = (if id < 0 ∨ 4 ≤ id then (0, 0, 300) else if keyOk priv then (id, priv, 0) else (0, 0, 50)) := (kept _).2
theorem pubP2 (x : Int) : (pubP x).2 = if keyOk x then 0 else 50 := by unfold pubP; split <;> rfl
theorem newP_a {id priv : Int} (h : id < 0 ∨ 4 ≤ id) : newP id priv = (0, 0, 300) := by rw [newP_def, if_pos h]
theorem newP_b {id priv : Int} (h : ¬ (id < 0 ∨ 4 ≤ id)) (hk : ¬ (pubP priv).2 = 0) : newP id priv = (0, 0, 50) ∧ (pubP priv).2 = 50 := by
  rw [newP_def, if_neg h, pubP2] at *
  cases h2 : keyOk priv <;> simp_all
theorem newP_c {id priv : Int} (h : ¬ (id < 0 ∨ 4 ≤ id)) (hk : (pubP priv).2 = 0) : newP id priv = (id, priv, 0) := by
  rw [newP_def, if_neg h]
  rw [pubP2] at hk
  cases h2 : keyOk priv <;> simp_all
theorem verS_no {pub : Int} {h : Hd} (hn : ¬ ((0 ≤ h.st ∧ h.st < 4) ∧ (0 ≤ h.fo ∧ h.fo < 16) ∧ (0 ≤ h.no ∧ h.no ≤ 65536))) : verS pub h = false := by
  unfold verS
  simp only [Bool.and_eq_false_iff, decide_eq_false_iff_not]
  omega
theorem verS_yes {pub : Int} {h : Hd} (h1 : 0 ≤ h.st ∧ h.st < 4) (h2 : 0 ≤ h.fo ∧ h.fo < 16) (h3 : 0 ≤ h.no ∧ h.no ≤ 65536) : verS pub h = verP pub (msgN h).l h.R h.S := by
  unfold verS
  rw [decide_eq_true h1, decide_eq_true h2, decide_eq_true h3]
  simp
theorem Hd.ld_all (h : Hd) : ldv true 37 h.c 0 = some (.agg h.c.toArray) := by
  simp only [ldv, cond_true, List.drop_zero]
  rw [List.take_of_length_le (by rw [Hd.c_len]; exact Nat.le_refl _)]
theorem Hd.rd_ch {H : Froz} {b : Nat} {h : Hd} (hr : HR H b h.c) : RdS H (some ⟨b, 3, none⟩) 32 1 (bc h.ch.l) := by
  refine ⟨by rw [bc_length, h.ch.h], fun _ => ⟨b, 3, rfl, fun j v hv => hr.h _ _ ?_⟩⟩
  have hj := (List.getElem?_eq_some_iff.1 hv).1
  rw [Nat.add_comm]
  simp only [Hd.c, List.getElem?_cons_succ]
  rw [List.getElem?_append_left (by rw [dc]; exact hj)]
  exact hv
theorem q_convBSn {P : Program} {B : Base} {H : Froz} {L : List Blk} {F : Fr} {ty T : TypeId} {x : Operand} {S0 : TypeId} {E : TypeId} {a : Option Addr} {n c : Nat} {l : List UInt8} (hs : P.underlying S0 = some (.slice E)) (he : P.underlying E = some (.int .u8)) (hd : P.underlying T = some .string) (hx : oev F x = some (.slice a n c)) (hr : RdS H a n 1 (bc l)) :
    Qt P (St B H L) F (.convert S0 T x) ty (.string (bstr l)) := by
  have hn := hr.bytes
  subst hn
  exact q_convBS hs he hd hx hr
theorem encL_len4 (h : Hd) : (encL [.i h.st, .i h.fo, .i h.no, .t (bstr h.ch.l)]).length ≤ 1000 := by
  have e1 := Lf.e_len (.i h.st)
  have e2 := Lf.e_len (.i h.fo)
  have e3 := Lf.e_len (.i h.no)
  have e4 := Lf.e_len (.t (bstr h.ch.l))
  have e5 := numL_len 4
  have e6 : (bstr h.ch.l).size = 32 := by rw [← h.ch.h]; simp [bstr]; rfl
  simp only [Lf.z, e6] at e1 e2 e3 e4
  have e7 : encL [.i h.st, .i h.fo, .i h.no, .t (bstr h.ch.l)] = 3 :: (numL 4 ++ ((Lf.i h.st).e ++ ((Lf.i h.fo).e ++ ((Lf.i h.no).e ++ (Lf.t (bstr h.ch.l)).e)))) := by
    simp [encL, encLs]
  rw [e7]
  simp only [List.length_cons, List.length_append]
  omega
end Go.W

/-! Maps whose keys are digests. -/
namespace Go.W
open Go Go.RowKit
def kd (d : Dg) : Value := .agg (dc d).toArray
/-- The map at b holds the digests ds, each as true. -/
structure MP (H : Froz) (b : Nat) (ds : List Dg) : Prop where
  h : ∃ es clock, H b = some (.map es clock) ∧ es.toList.map (·.key) = ds.map kd ∧ ∀ e ∈ es.toList, e.val = .bool true
section
variable {P : Program} {T E : TypeId} {k' : IntKind} {w : World}
theorem run_equal_dg (h : P.underlying T = some (.array 32 E)) (he : P.underlying E = some (.int k')) (ht : tyS P E = some (false, 1)) (a b : Dg) : (Op.equal T (kd a) (kd b)).run P w = .ok (decide (a = b)) w := by
  have e : decide (a = b) = decide (a.l.map (fun b => (b.toNat : Int)) = b.l.map (fun b => (b.toNat : Int))) := by
    refine decide_eq_decide.2 ⟨fun h => by rw [h], fun h => Dg.ext' ?_⟩
    have := congrArg (List.map (Value.int .u8)) h
    rw [← bc_ints, ← bc_ints] at this
    exact bc_inj this
  rw [e]
  have := run_eqArrI (P := P) (k := .u8) (dd := 9998) h he ht w (xs := a.l.map (fun b => (b.toNat : Int))) (ys := b.l.map (fun b => (b.toNat : Int))) (by rw [List.length_map, a.h]) (by rw [List.length_map, b.h])
  rw [← bc_ints, ← bc_ints] at this
  exact this
theorem run_checkKey_dg (h : P.underlying T = some (.array 32 E)) (he : P.underlying E = some (.int k')) (ht : tyS P E = some (false, 1)) (em : Bool) (d : Dg) : (Instr.checkKey em 10000 T (kd d)).run P w = .ok () w := by
  have one : ∀ (i : Nat), i < 32 → (part E (dc d).toArray (i * 1)).run P w = .ok (.int .u8 (gt (bn d.l) i : Int)) w := fun i hi => run_part' ht (by
    rw [Nat.mul_one]; simp only [ldv, cond_false]; exact bc_getn (by rw [d.h]; exact hi))
  have ck : ∀ v, (Instr.checkKey em 9999 E (.int .u8 v)).run P w = .ok () w := fun v => by
    show (Instr.checkKey em (9998 + 1) E (.int .u8 v)).run P w = .ok () w
    unfold Instr.checkKey
    rw [Sem.run_bind, run_underlying he]
    rfl
  show (Instr.checkKey em (9999 + 1) T (.agg (dc d).toArray)).run P w = .ok () w
  unfold Instr.checkKey
  rw [Sem.run_bind, run_underlying h, Result.andThen_ok]
  simp only [Std.Legacy.Range.forIn_eq_forIn_range', Std.Legacy.Range.size, Nat.sub_zero, Nat.add_one_sub_one, Nat.div_one]
  have key : ∀ (l : List Nat), (∀ i ∈ l, i < 32) → (forIn (m := Sem) l PUnit.unit fun i _ => do
      let s ← sizeOf E
      let v ← part E (dc d).toArray (i * s)
      Instr.checkKey em 9999 E v
      pure (ForInStep.yield PUnit.unit)).run P w = .ok PUnit.unit w := by
    intro l
    induction l with
    | nil => intro _; simp
    | cons i t ih =>
      intro hl
      have h1 := one i (hl i (by simp))
      rw [Nat.mul_one] at h1
      simp only [List.forIn_cons, Sem.run_bind, run_sizeOf' ht, Result.andThen_ok, Nat.mul_one, h1, ck, Sem.run_pure]
      exact ih (fun j hj => hl j (by simp [hj]))
  have := key (List.range' 0 32) (fun i hi => by simp at hi; omega)
  simpa using this
theorem run_findAsking_no (h : P.underlying T = some (.array 32 E)) (he : P.underlying E = some (.int k')) (ht : tyS P E = some (false, 1)) (d : Dg) : ∀ (es : List MapEntry) (ds : List Dg) (i : Nat), es.map (·.key) = ds.map kd → d ∉ ds → (Instr.findAsking T (kd d) es i).run P w = .ok none w
  | [], ds, i, _, _ => by simp [Instr.findAsking]
  | e :: es, [], i, hk, _ => by simp at hk
  | e :: es, d' :: ds, i, hk, hn => by
    simp only [List.map_cons, List.cons.injEq] at hk
    have h1 := run_equal_dg (P := P) (w := w) h he ht d d'
    rw [decide_eq_false (by rintro rfl; exact hn (by simp))] at h1
    rw [Instr.findAsking]
    simp only [Sem.run_bind, hk.1, h1, Result.andThen_ok, Bool.false_eq_true, if_false]
    exact run_findAsking_no h he ht d es ds (i + 1) hk.2 (fun hm => hn (by simp [hm]))
theorem run_findAsking_yes (h : P.underlying T = some (.array 32 E)) (he : P.underlying E = some (.int k')) (ht : tyS P E = some (false, 1)) (d : Dg) : ∀ (es : List MapEntry) (ds : List Dg) (i : Nat), es.map (·.key) = ds.map kd → (∀ e ∈ es, e.val = .bool true) → d ∈ ds → ∃ j, (Instr.findAsking T (kd d) es i).run P w = .ok (some (j, .bool true)) w
  | [], ds, i, hk, _, hm => by
    cases ds with
    | nil => cases hm
    | cons a t => simp at hk
  | e :: es, [], i, hk, _, _ => by simp at hk
  | e :: es, d' :: ds, i, hk, hv, hm => by
    simp only [List.map_cons, List.cons.injEq] at hk
    have h1 := run_equal_dg (P := P) (w := w) h he ht d d'
    rw [Instr.findAsking]
    by_cases hd : d = d'
    · rw [decide_eq_true hd] at h1
      exact ⟨i, by simp only [Sem.run_bind, hk.1, h1, Result.andThen_ok, if_true, Sem.run_pure, hv e (by simp)]⟩
    · rw [decide_eq_false hd] at h1
      obtain ⟨j, hj⟩ := run_findAsking_yes h he ht d es ds (i + 1) hk.2 (fun x hx => hv x (by simp [hx])) (by
        rcases List.mem_cons.1 hm with rfl | hm
        · exact absurd rfl hd
        · exact hm)
      exact ⟨j, by simp only [Sem.run_bind, hk.1, h1, Result.andThen_ok, Bool.false_eq_true, if_false]; exact hj⟩
theorem run_findKey_dg (h : P.underlying T = some (.array 32 E)) (d : Dg) (es : List MapEntry) : (Instr.findKey T (kd d) es).run P w = (Instr.findAsking T (kd d) es 0).run P w := by
  unfold Instr.findKey
  simp only [Sem.run_bind, run_underlying h, Result.andThen_ok]
  cases es with
  | nil => simp [Instr.findNow, Instr.findAsking]
  | cons e t => simp [Instr.findNow, Instr.sameNow]
end
section
variable {P : Program} {ops : Array Oper} {Q : Exit → Act → World → Prop} {n d : Nat} {a : Act} {F : Fr} {w : World} {B : Base} {H : Froz} {L : List Blk}
  {ty T KT E VT : TypeId} {pos : String} {after : Array Edge} {v u : Value} {x y z : Operand} {K : Act → World → Prop} {g : Option (Nat × Bool)} {k' : IntKind}
theorem q_lookupDg {b : Nat} {ds : List Dg} {dg : Dg} (hm : P.underlying T = some (.map KT VT)) (h : P.underlying KT = some (.array 32 E)) (he : P.underlying E = some (.int k')) (ht : tyS P E = some (false, 1)) (hz : (P.info? VT).bind (·.zero) = some (.bool false))
    (hx : oev F x = some (.map (some b))) (hy : oev F y = some (.agg (dc dg).toArray)) (hp : MP H b ds) : Qt P (St B H L) F (.lookup T x y false) ty (.bool (decide (dg ∈ ds))) := by
  intro ρ hρ w hS d pos after g
  obtain ⟨es, clock, hb, hk, hv⟩ := hp.h
  have hb' := hS.froz _ _ hb
  have hzv : (zeroValue VT).run P w = .ok (.bool false) w := by
    obtain ⟨i, z1, z2⟩ := Option.bind_eq_some_iff.1 hz
    simp [zeroValue, typeInfo, z1, z2]
  have hck := fun em => run_checkKey_dg (P := P) (w := w) h he ht em dg
  have hfk := run_findKey_dg (P := P) (w := w) h dg es.toList
  by_cases hmem : dg ∈ ds
  · obtain ⟨j, hj⟩ := run_findAsking_yes (P := P) (w := w) h he ht dg es.toList ds 0 hk hv hmem
    simp only [execOp, hρ x _ hx, hρ y _ hy, Instr.lookup, Sem.run_bind, run_underlying hm, Result.andThen_ok, MapKept.run_getObj_map hb', Sem.run_pure]
    simp only [kd] at hck hfk hj
    simp [hck, hfk, hj, hmem]
  · have hj := run_findAsking_no (P := P) (w := w) h he ht dg es.toList ds 0 hk hmem
    simp only [execOp, hρ x _ hx, hρ y _ hy, Instr.lookup, Sem.run_bind, run_underlying hm, Result.andThen_ok, MapKept.run_getObj_map hb', Sem.run_pure]
    simp only [kd] at hck hfk hj
    simp [hck, hfk, hj, hmem, hzv]
theorem l_makeMap (hF : Has n a F) (hS : St B H L w) (hd : Nat.blt d n = true)
    (kk : ∀ a' w' H' b, Le H H' → B.H0 b = none → MP H' b [] → Has n a' ((d, .map (some b)) :: F) → St B H' L w' → K a' w') : (⟨some d, .makeMap T none, ty, pos, after, g⟩ : Oper).wp P a w K Q := by
  unfold Oper.wp
  have : (execOp a.eval (⟨some d, .makeMap T none, ty, pos, after, g⟩ : Oper)).run P w = .ok (.value (.map (some w.heap.size))) (w.alloc (.map #[] 0)) := by
    simp [execOp, Instr.makeMap]
  rw [this]
  obtain ⟨h1, h2⟩ := hS.addF (.map #[] 0)
  have hno : B.H0 w.heap.size = none := by
    cases hh : B.H0 w.heap.size with
    | none => rfl
    | some o => exact absurd (hS.hlt (hS.sub _ _ hh)) (Nat.lt_irrefl _)
  exact kk _ _ _ _ h1 hno ⟨⟨#[], 0, by simp, by simp, by simp⟩⟩ (hF.put hd _) h2
/-- What is frozen besides what the call was handed may be turned by the call itself. -/
theorem St.turn (h : St B H L w) {b : Nat} {o o' : Obj} (hb : H b = some o) (hn : B.H0 b = none) (hm : b ∉ B.M0) {w' : World} (ho : Only b o' w w') : St B (fun k => if k = b then some o' else H k) L w' where
  os := ho.os.trans h.os
  tape := ho.tape.trans h.tape
  output := ho.output.trans h.output
  size := by rw [ho.size]; exact h.size
  old k hk hkm := by
    refine (ho.other k ?_).trans (h.old k hk hkm)
    rintro rfl
    rcases h.fresh _ _ hb with h1 | h1 | h1
    · rw [hn] at h1; cases h1
    · omega
    · exact hkm h1
  froz k q hk := by
    by_cases e : k = b
    · simp only [e, if_true] at hk; rw [e, ← Option.some.inj hk]; exact ho.at_
    · simp only [e, if_false] at hk; exact (ho.other k e).trans (h.froz k q hk)
  sub k q hk := by
    by_cases e : k = b
    · rw [e, hn] at hk; cases hk
    · simpa [e] using h.sub k q hk
  fresh k q hk := by
    by_cases e : k = b
    · rcases h.fresh _ _ hb with h1 | h1 | h1
      · rw [hn] at h1; cases h1
      · rw [e]; exact .inr (.inl h1)
      · exact absurd h1 hm
    · simp only [e, if_false] at hk; exact h.fresh k q hk
  own x hx := by
    have hne : x.b ≠ b := fun e => by
      have := (h.mine x hx).2
      rw [e, hb] at this; cases this
    exact (ho.other x.b hne).trans (h.own x hx)
  mine x hx := by
    refine ⟨(h.mine x hx).1, ?_⟩
    have hne : x.b ≠ b := fun e => by
      have := (h.mine x hx).2
      rw [e, hb] at this; cases this
    simp only [hne, if_false]
    exact (h.mine x hx).2
  nodup := h.nodup
theorem l_mapUpdateDg {b : Nat} {ds : List Dg} {dg : Dg} {Hb : Froz} (hm : P.underlying T = some (.map KT VT)) (h : P.underlying KT = some (.array 32 E)) (he : P.underlying E = some (.int k')) (ht : tyS P E = some (false, 1)) (hF : Has n a F) (hS : St B H L w)
    (hx : oev F x = some (.map (some b))) (hy : oev F y = some (.agg (dc dg).toArray)) (hz : oev F z = some (.bool true)) (hp : MP H b ds) (hn : B.H0 b = none) (hM : b ∉ B.M0) (hno : dg ∉ ds) (hle : Le Hb H) (hnb : Hb b = none)
    (kk : ∀ a' w' H', Le Hb H' → MP H' b (ds ++ [dg]) → Has n a' F → St B H' L w' → K a' w') : (⟨none, .mapUpdate T x y z, ty, pos, after, g⟩ : Oper).wp P a w K Q := by
  obtain ⟨es, clock, hb, hk, hv⟩ := hp.h
  have hb' := hS.froz _ _ hb
  have hck := run_checkKey_dg (P := P) (w := w) h he ht false dg
  have hfk := run_findKey_dg (P := P) (w := w) h dg es.toList
  have hj := run_findAsking_no (P := P) (w := w) h he ht dg es.toList ds 0 hk hno
  obtain ⟨o', ho'⟩ : ∃ o' : Obj, o' = .map (es.push { key := kd dg, val := .bool true, born := clock }) (clock + 1) := ⟨_, rfl⟩
  obtain ⟨w', hw', honly⟩ : ∃ w', (execOp a.eval (⟨none, .mapUpdate T x y z, ty, pos, after, g⟩ : Oper)).run P w = .ok .skip w' ∧ Only b o' w w' := by
    refine ⟨{ w with heap := w.heap.setIfInBounds b o' }, ?_, rfl, rfl, rfl, by simp, ?_, fun k hk => by simp [Array.getElem?_setIfInBounds_ne (Ne.symm hk)]⟩
    · subst ho'
      simp only [kd] at hck hfk hj
      simp only [execOp, hF.eval hx, hF.eval hy, hF.eval hz, Instr.mapUpdate, Sem.run_bind, run_underlying hm, Result.andThen_ok, MapKept.run_getObj_map hb', hck, hfk, hj, MapKept.run_setObj_map _ hb', kd]
      rfl
    · have := lt_of_some hb'
      simp [this]
  unfold Oper.wp
  rw [hw']
  have hS2 := hS.turn hb hn hM honly
  refine kk _ _ _ (fun k q hq => ?_) ⟨⟨es.push { key := kd dg, val := .bool true, born := clock }, clock + 1, by simp [ho'], by simp [hk, kd], ?_⟩⟩ hF hS2
  · by_cases e : k = b
    · rw [e, hnb] at hq; cases hq
    · simpa [e] using hle k q hq
  · intro e he'
    rw [Array.toList_push, List.mem_append] at he'
    rcases he' with h1 | h1
    · exact hv e h1
    · rw [List.mem_singleton.1 h1]
end
section
variable {P : Program} {Q : Exit → Act → World → Prop} {n d : Nat} {a : Act} {F : Fr} {w : World} {B : Base} {H : Froz} {L : List Blk}
/-- A loop that keeps what is frozen in Hb; the rest may turn. -/
theorem c_loopB {γ : Type} {c : Code} (Hb : Froz) (hF : Has n a F) (W : List Nat) (X : γ → Fr) (Lf : γ → List Blk) (J : γ → Froz → Prop) (μ : γ → Nat) (g : γ)
    (h0 : AllIn F (X g)) (hL : St B H (Lf g) w) (hJ : J g H) (hle : Le Hb H)
    (hr : ∀ g a w H', Le Hb H' → Has n a (X g ++ rem W F) → St B H' (Lf g) w → J g H' →
      c.wp P (Exit.then (fun a' w' => ∃ g' H'', μ g' < μ g ∧ Le Hb H'' ∧ Has n a' (X g' ++ rem W F) ∧ St B H'' (Lf g') w' ∧ J g' H'') Q) a w) : (Code.loop c).wp P Q a w := by
  refine c_loop (fun a w m => ∃ g H', m = μ g ∧ Le Hb H' ∧ Has n a (X g ++ rem W F) ∧ St B H' (Lf g) w ∧ J g H') (μ g) ⟨g, H, rfl, hle, hF.head h0, hL, hJ⟩ ?_
  rintro a w m ⟨g, H', rfl, hle, hF', hS', hJ'⟩
  refine Code.wp_mono ?_ (hr g a w H' hle hF' hS' hJ')
  intro e a' w' hq
  cases e with
  | normal =>
    obtain ⟨g', H'', h1, h2, h3, h4, h5⟩ := hq
    exact ⟨μ g', h1, g', H'', rfl, h2, h3, h4, h5⟩
  | _ => exact hq
end
end Go.W

/-! Plain: logs. -/
namespace Go.W
open Go Go.RowKit
def enE (es : List En) : List (List Value) := es.map En.c
/-- The data of entries can be read, and are not long. -/
def EnsOK (H : Froz) (es : List En) : Prop := ∀ e ∈ es, RdS H e.da e.dn 1 (bc e.bs) ∧ e.dn ≤ e.dp ∧ e.dn ≤ 1000000
theorem EnsOK.mono {H H' : Froz} {es : List En} (h : EnsOK H es) (hle : Le H H') : EnsOK H' es := fun e he => ⟨(h e he).1.mono hle, (h e he).2⟩
noncomputable def okE (e : En) : Bool := if e.gone then decide (e.kind = 4 ∧ e.dn = 0) else (decide (1 ≤ e.kind ∧ e.kind ≤ 7) && decide (e.dg = digE e.kind e.bs))
theorem okE_gone {e : En} (h : e.gone = true) (h1 : e.kind = 4) (h2 : e.dn = 0) : okE e = true := by rw [okE, if_pos h]; exact decide_eq_true ⟨h1, h2⟩
theorem okE_live {e : En} (h : e.gone = false) (h1 : 1 ≤ e.kind ∧ e.kind ≤ 7) (h2 : e.dg = digE e.kind e.bs) : okE e = true := by rw [okE, if_neg (by simp [h]), decide_eq_true h1, decide_eq_true h2]; rfl
theorem okE_gone_no {e : En} (h : e.gone = true) (h1 : ¬ (e.kind = 4 ∧ e.dn = 0)) : okE e = false := by rw [okE, if_pos h]; exact decide_eq_false h1
theorem okE_live_no {e : En} (h : e.gone = false) (h1 : ¬ (1 ≤ e.kind ∧ e.kind ≤ 7)) : okE e = false := by rw [okE, if_neg (by simp [h]), decide_eq_false h1]; rfl
theorem okE_live_no2 {e : En} (h : e.gone = false) (h1 : ¬ e.dg = digE e.kind e.bs) : okE e = false := by rw [okE, if_neg (by simp [h]), decide_eq_false h1, Bool.and_false]
noncomputable def fineN (es : List En) : Bool := es.all okE && decide ((es.map En.dg).Nodup) && decide (0 < es.length ∧ es.length ≤ 65536)
theorem fineN_bad {es : List En} {k : Nat} (h : k < es.length) (hb : okE es[k] = false) : fineN es = false := by
  have : es.all okE = false := by
    rw [List.all_eq_false]
    exact ⟨es[k], List.getElem_mem h, by simp [hb]⟩
  simp [fineN, this]
theorem take_dg {es : List En} {k : Nat} (h : k < es.length) : (es.take (k + 1)).map En.dg = (es.take k).map En.dg ++ [es[k].dg] := by
  rw [List.take_succ_eq_append_getElem h, List.map_append]; rfl
theorem fineN_dup {es : List En} {k : Nat} (h : k < es.length) (hm : es[k].dg ∈ (es.take k).map En.dg) : fineN es = false := by
  have : ¬ (es.map En.dg).Nodup := by
    intro hn
    have h1 : ((es.take (k + 1)).map En.dg).Nodup := by
      rw [List.map_take]
      exact hn.sublist (List.take_sublist _ _)
    rw [take_dg h, List.nodup_append] at h1
    exact h1.2.2 _ hm _ (by simp) rfl
  simp [fineN, this]
theorem fineN_all {es : List En} (h1 : ∀ e ∈ es, okE e = true) (h2 : (es.map En.dg).Nodup) : fineN es = decide (0 < es.length ∧ es.length ≤ 65536) := by
  have : es.all okE = true := List.all_eq_true.2 h1
  simp [fineN, this, h2]
theorem nodup_step {es : List En} {k : Nat} (h : k < es.length) (hn : ((es.take k).map En.dg).Nodup) (hm : es[k].dg ∉ (es.take k).map En.dg) : ((es.take (k + 1)).map En.dg).Nodup := by
  rw [take_dg h, List.nodup_append]
  refine ⟨hn, by simp, fun a ha b hb => ?_⟩
  rw [List.mem_singleton.1 hb]
  rintro rfl
  exact hm ha
theorem ok_step {es : List En} {k : Nat} (h : k < es.length) (ho : ∀ e ∈ es.take k, okE e = true) (he : okE es[k] = true) : ∀ e ∈ es.take (k + 1), okE e = true := by
  rw [List.take_succ_eq_append_getElem h]
  intro e hm
  rcases List.mem_append.1 hm with hm | hm
  · exact ho e hm
  · rw [List.mem_singleton.1 hm]; exact he
end Go.W

/-! Plain: logs of a store. -/
namespace Go.W
open Go Go.RowKit
structure Lg where
  fo : Int
  ea : Option Addr
  ec : Nat
  es : List En
def Lg.c (l : Lg) : List Value := [.int .i64 l.fo, .slice l.ea l.es.length l.ec]
def lgE (ls : List Lg) : List (List Value) := ls.map Lg.c
structure Sto where
  id : Int
  priv : Int
  la : Option Addr
  lc : Nat
  logs : List Lg
def Sto.c (s : Sto) : List Value := [.int .i64 s.id, .int .i64 s.priv, .slice s.la s.logs.length s.lc]
/-- A log's memory. -/
structure LgOK (H : Froz) (l : Lg) : Prop where
  rd : RdL H l.ea 35 (enE l.es)
  en : EnsOK H l.es
  len : l.es.length ≤ 1000000
  cap : l.es.length ≤ l.ec
structure StOK (H : Froz) (s : Sto) : Prop where
  rd : RdL H s.la 2 (lgE s.logs)
  lg : ∀ l ∈ s.logs, LgOK H l
  len : s.logs.length ≤ 1000000
  cap : s.logs.length ≤ s.lc
theorem LgOK.mono {H H' : Froz} {l : Lg} (h : LgOK H l) (hle : Le H H') : LgOK H' l := ⟨h.rd.mono hle, h.en.mono hle, h.len, h.cap⟩
theorem StOK.mono {H H' : Froz} {s : Sto} (h : StOK H s) (hle : Le H H') : StOK H' s := ⟨h.rd.mono hle, fun l hl => (h.lg l hl).mono hle, h.len, h.cap⟩
def cmpI (a b : Int) : Int := if a < b then -1 else if b < a then 1 else 0
/-- The log number j is as it should be. -/
noncomputable def lgB (ls : List Lg) (j : Nat) : Bool := match ls[j]? with
  | some l => decide (0 ≤ l.fo ∧ l.fo < 16) && (decide (j = 0) || decide ((ls[j - 1]?.map Lg.fo).getD 0 < l.fo)) && fineN l.es
  | none => true
noncomputable def logsN (ls : List Lg) : Bool := (List.range ls.length).all (lgB ls)
noncomputable def checkN (s : Sto) : Int := (kept (if (newP s.id s.priv).2.2 = 0 ∧ logsN s.logs = true then 0 else 300)).1
theorem checkN_def (s : Sto) : checkN s = (if (newP s.id s.priv).2.2 = 0 ∧ logsN s.logs = true then 0 else 300) := (kept _).2
theorem logsN_no {ls : List Lg} {j : Nat} (h : j < ls.length) (hb : lgB ls j = false) : logsN ls = false := by
  unfold logsN
  rw [List.all_eq_false]
  exact ⟨j, List.mem_range.2 h, by simp [hb]⟩
theorem logsN_yes {ls : List Lg} (h : ∀ j, j < ls.length → lgB ls j = true) : logsN ls = true := by
  unfold logsN
  rw [List.all_eq_true]
  exact fun j hj => h j (List.mem_range.1 hj)
theorem lgB_eq {ls : List Lg} {j : Nat} {l : Lg} (h : ls[j]? = some l) : lgB ls j = (decide (0 ≤ l.fo ∧ l.fo < 16) && (decide (j = 0) || decide ((ls[j - 1]?.map Lg.fo).getD 0 < l.fo)) && fineN l.es) := by
  unfold lgB; rw [h]
theorem lgB_bad1 {ls : List Lg} {j : Nat} {l : Lg} (h : ls[j]? = some l) (h1 : ¬ (0 ≤ l.fo ∧ l.fo < 16)) : lgB ls j = false := by rw [lgB_eq h, decide_eq_false h1]; rfl
theorem lgB_bad2 {ls : List Lg} {j : Nat} {l : Lg} (h : ls[j]? = some l) (h0 : 0 < j) (h1 : l.fo ≤ (ls[j - 1]?.map Lg.fo).getD 0) : lgB ls j = false := by
  rw [lgB_eq h, decide_eq_false (show ¬ j = 0 by omega), decide_eq_false (show ¬ (ls[j - 1]?.map Lg.fo).getD 0 < l.fo by omega)]; simp
theorem lgB_bad3 {ls : List Lg} {j : Nat} {l : Lg} (h : ls[j]? = some l) (h1 : fineN l.es = false) : lgB ls j = false := by rw [lgB_eq h, h1, Bool.and_false]
theorem lgB_ok {ls : List Lg} {j : Nat} {l : Lg} (h : ls[j]? = some l) (h1 : 0 ≤ l.fo ∧ l.fo < 16) (h2 : j = 0 ∨ (ls[j - 1]?.map Lg.fo).getD 0 < l.fo) (h3 : fineN l.es = true) : lgB ls j = true := by
  rw [lgB_eq h, h3, decide_eq_true h1]
  rcases h2 with h2 | h2
  · rw [decide_eq_true h2]; rfl
  · rw [decide_eq_true h2]; simp
theorem checkN_new {s : Sto} (h : ¬ (newP s.id s.priv).2.2 = 0) : checkN s = 300 := by rw [checkN_def, if_neg (fun q => h q.1)]
theorem checkN_no {s : Sto} (h : logsN s.logs = false) : checkN s = 300 := by rw [checkN_def, if_neg (fun q => by rw [h] at q; cases q.2)]
theorem checkN_yes {s : Sto} (h1 : (newP s.id s.priv).2.2 = 0) (h : logsN s.logs = true) : checkN s = 0 := by rw [checkN_def, if_pos ⟨h1, h⟩]
noncomputable def openE (s : Sto) (f : Int) : Int := (kept (if checkN s = 0 then (if 0 ≤ f ∧ f < 16 then 0 else 1) else checkN s)).1
theorem openE_def (s : Sto) (f : Int) : openE s f = (if checkN s = 0 then (if 0 ≤ f ∧ f < 16 then 0 else 1) else checkN s) := (kept _).2
def Srt (ls : List Lg) : Prop := ∀ (i j : Nat) (li lj : Lg), i < j → ls[i]? = some li → ls[j]? = some lj → li.fo < lj.fo
/-- Where a folder's log lies, or belongs. -/
structure Pos (ls : List Lg) (f : Int) (p : Nat) : Prop where
  le : p ≤ ls.length
  lo : ∀ (j : Nat) (l : Lg), j < p → ls[j]? = some l → l.fo < f
  hi : ∀ (j : Nat) (l : Lg), p ≤ j → ls[j]? = some l → f ≤ l.fo
def atF (ls : List Lg) (f : Int) (p : Nat) : Bool := match ls[p]? with
  | some l => decide (l.fo = f)
  | none => false
theorem sorted_of {ls : List Lg} (h : logsN ls = true) : Srt ls := by
  have hall : ∀ j, j < ls.length → lgB ls j = true := fun j hj => by
    unfold logsN at h
    exact List.all_eq_true.1 h j (List.mem_range.2 hj)
  have step : ∀ j lj l0, ls[j + 1]? = some lj → ls[j]? = some l0 → l0.fo < lj.fo := fun j lj l0 h1 h0 => by
    have := hall (j + 1) (List.getElem?_eq_some_iff.1 h1).1
    rw [lgB_eq h1] at this
    simp only [Bool.and_eq_true, Bool.or_eq_true, decide_eq_true_eq] at this
    rcases this.1.2 with h2 | h2
    · omega
    · rw [Nat.add_sub_cancel, h0] at h2; exact h2
  intro i j li lj hij hi hj
  induction j generalizing lj with
  | zero => omega
  | succ j ih =>
    obtain ⟨l0, h0⟩ : ∃ l0, ls[j]? = some l0 := ⟨ls[j]'(by have := (List.getElem?_eq_some_iff.1 hj).1; omega), by simp⟩
    have := step j lj l0 hj h0
    rcases Nat.lt_succ_iff_lt_or_eq.1 hij with h2 | h2
    · have := ih l0 h2 h0; omega
    · subst h2; rw [hi] at h0; obtain rfl := Option.some.inj h0; exact this
end Go.W

/-! Plain: copies. -/
namespace Go.W
open Go Go.RowKit
theorem RdS.none_len {H : Froz} {n k : Nat} {cs : List Value} (h : RdS H none n k cs) : n = 0 := by
  rcases Nat.eq_zero_or_pos n with h0 | h0
  · exact h0
  · exact absurd rfl (h.some h0)
theorem isNone_some {α : Type} {a : Option α} (h : a.isNone = true) : a = none := by cases a <;> simp_all
theorem OwS_empty {T : TypeId} {sz n : Nat} {xs : List Value} (h0 : n = 0) (hx : xs.length = n * sz) : OwS T sz (.slice none n 0) n xs [] := by
  subst h0
  have : xs = [] := List.eq_nil_of_length_eq_zero (by omega)
  subst this
  exact .nil
theorem OwS.row0 (b : Nat) (T : TypeId) (sz : Nat) : OwS T sz (.slice (some ⟨b, 0, none⟩) 0 0) 0 [] [⟨b, [], T⟩] := .row (xs := []) (tail := []) (by simp) (by simp) (Nat.le_refl 0) (by decide)
def idxDg (es : List En) (d : Dg) : Int := match es.findIdx? (fun e => decide (e.dg = d)) with | some i => i | none => -1
end Go.W

/-! Plain: copies of entries. -/
namespace Go.W
open Go Go.RowKit
theorem RdL.of_en {H : Froz} {a : Option Addr} {es : List En} (h : RdS H a es.length 35 (enE es).flatten) : RdL H a 35 (enE es) :=
  ⟨by rw [show (enE es).length = es.length by simp [enE]]; exact h, fun x hx => by obtain ⟨e, _, rfl⟩ := List.mem_map.1 hx; exact En.c_len e⟩
/-- The entry with its data elsewhere. -/
def En.re (e : En) (a : Option Addr) (n c : Nat) : En := { e with da := a, dn := n, dp := c }
def En.key (e : En) : Int × Dg × List UInt8 × Bool := (e.kind, e.dg, e.bs, e.gone)
end Go.W

/-! Plain: what is fetched. -/
namespace Go.W
open Go Go.RowKit
def entF (ls : List Lg) (f : Int) : List En := match ls.find? (fun l => decide (l.fo = f)) with
  | some l => l.es
  | none => []
noncomputable def fetchE (s : Sto) (f from_ : Int) : Int := (kept (if openE s f = 0 then (if from_ < 1 ∨ ((entF s.logs f).length : Int) + 1 < from_ then 1 else 0) else openE s f)).1
theorem fetchE_def (s : Sto) (f from_ : Int) : fetchE s f from_ = (if openE s f = 0 then (if from_ < 1 ∨ ((entF s.logs f).length : Int) + 1 < from_ then 1 else 0) else openE s f) := (kept _).2
noncomputable def fetchL (s : Sto) (f from_ : Int) : List En := if fetchE s f from_ = 0 then (entF s.logs f).drop (from_ - 1).toNat else []
theorem LgOK.nil (H : Froz) (f : Int) : LgOK H ⟨f, none, 0, []⟩ := ⟨RdL.nil H none 35, (fun _ h => by cases h), by simp, by simp⟩
end Go.W

/-! Plain: copies of logs. -/
namespace Go.W
open Go Go.RowKit
theorem St.cast {B : Base} {H : Froz} {L L' : List Blk} {w : World} (h : St B H L w) (e : L = L') : St B H L' w := e ▸ h
def Lg.re (l : Lg) (a : Option Addr) (c : Nat) (es : List En) : Lg := ⟨l.fo, a, c, es⟩
def Lg.key (l : Lg) : Int × List (Int × Dg × List UInt8 × Bool) := (l.fo, l.es.map En.key)
theorem Lg.c_len (l : Lg) : l.c.length = 2 := rfl
end Go.W

/-! Plain: entries held against each other. -/
namespace Go.W
open Go Go.RowKit
def sameEs (es fs : List En) : Bool := decide (es.map En.key = fs.map En.key)
end Go.W
namespace Go.W
noncomputable def sameSt (s t : Sto) : Bool := @decide (s.id = t.id ∧ s.priv = t.priv ∧ s.logs.map Lg.key = t.logs.map Lg.key) (Classical.propDecidable _)
end Go.W

/-! Zeros appended to the beginning of what is owned. -/
namespace Go.W
open Go Go.RowKit
section
variable {P : Program} {ops : Array Oper} {Q : Exit → Act → World → Prop} {n d : Nat} {a : Act} {F : Fr} {w : World} {B : Base} {H : Froz} {L Lx : List Blk}
  {ty T tx E : TypeId} {pos : String} {after : Array Edge} {v u : Value} {x y : Operand} {K : Act → World → Prop} {g : Option (Nat × Bool)} {agg : Bool} {sz bytes : Nat}
theorem l_appendZO {m i j b c : Nat} {cs zs : List Value} {T' : TypeId} {k0 : IntKind} {mi : Int} (h1 : P.underlying T = some (.slice E)) (h2 : P.underlying tx = some (.int k0)) (ht : tyS P E = some (agg, sz)) (hz : zrS P E = some zs) (hby : byS P E = some bytes) (hF : Has n a F) (hS : St B H L w)
    (hx : oev F x = some (.slice (some ⟨b, 0, none⟩) i c)) (hy : oev F y = some (.int .i64 mi)) (hmi : mi = (m : Int)) (hj : L[j]? = some ⟨b, cs, T'⟩) (hcs : i * sz ≤ cs.length) (hm : 0 < m) (hc : c < i + m) (hb : (i + m) * bytes ≤ 140737488355328) (hmm : i + m ≤ maxLen) (hzl : zs.length = sz) (hsz : 0 < sz) (hd : Nat.blt d n = true)
    (kk : ∀ a' w' b' c' tail, (cs.take (i * sz) ++ tail).length = c' * sz → i + m ≤ c' → c' ≤ maxLen → Has n a' ((d, .slice (some ⟨b', 0, none⟩) (i + m) c') :: F) → St B H (⟨b', cs.take (i * sz) ++ tail, E⟩ :: L) w' → K a' w') :
    (⟨some d, .call ⟨.builtin .append, #[x, y], #[T, tx]⟩, ty, pos, after, g⟩ : Oper).wp P a w K Q := by
  subst hmi
  obtain ⟨dd, q, p1, hi, p3, p4⟩ := tyS_parts ht
  obtain ⟨q', zv, z1, z2, z3⟩ := zrS_parts hz
  obtain rfl := Option.some.inj (hi.symm.trans z1)
  have hbb : q.bytes = bytes := by simpa [byS, hi] using hby
  have hzs : zv.cells.size = sz := by rw [← hzl, ← z3]; simp
  have hmx : i + m ≤ 9223372036854775807 := by simp only [maxLen] at hmm; omega
  have w1 : IntKind.i64.wrap (m : Int) = m := wrap_i64 (by omega)
  have hge := grownCap_ge w (i + m) c E
  have hle := grownCap_le_maxLen w (i + m) c E hmm
  have hold : (Builtin.firstCells q.size i (.slice (some ⟨b, 0, none⟩) i c)).run P w.drew = .ok (cs.take (i * sz)).toArray w.drew :=
    run_firstCells_some (P := P) w.drew q.size i ⟨b, 0, none⟩ i c _ (by rw [List.length_take, p4]; omega) (fun k u hk => by
      rw [Addr.add_lit, Nat.zero_add]
      rw [List.getElem?_take] at hk
      split at hk
      · exact cell_of_own hS.drew hj hk
      · cases hk)
  obtain ⟨tail, htl⟩ : ∃ tail : Array Value, tail = (Builtin.zeroCells zv.cells m) ++ Builtin.zeroCells zv.cells (grownCap w (i + m) c E - (i + m)) := ⟨_, rfl⟩
  have hrun : (Builtin.append_ #[T, tx] ty #[.slice (some ⟨b, 0, none⟩) i c, .int .i64 (m : Int)]).run P w = .ok (.slice (some ⟨w.heap.size, 0, none⟩) (i + m) (grownCap w (i + m) c E)) (w.drew.alloc (.cells ((cs.take (i * sz)).toArray ++ tail) E)) := by
    have hn : ¬ (i + m ≤ c) := by omega
    have hne : ¬ (m * q.size = 0) := by rw [p4]; exact Nat.ne_of_gt (Nat.mul_pos hm hsz)
    have e3 : ¬ ((m : Int) < 0) := by omega
    have h63' : ¬ (9223372036854775807 < ((i : Int) + (m : Int))) := by omega
    have h48' : ¬ (281474976710656 < Builtin.nextslicecap (i + m) c * q.bytes) := by have := growslice_fits (need := i + m) (old := c) (bytes := q.bytes) hc (by rw [hbb]; exact hb); omega
    have h49 : ¬ (281474976710656 < (m : Int) * (q.bytes : Int)) := by
      have e1 : ((m * q.bytes : Nat) : Int) = (m : Int) * (q.bytes : Int) := by push_cast; rfl
      have e2 : m * q.bytes ≤ (i + m) * q.bytes := Nat.mul_le_mul_right _ (by omega)
      rw [hbb] at e1 e2 ⊢
      omega
    subst htl
    simp [Builtin.append_, run_underlying h1, run_underlying h2, sizeOf, typeInfo, zeroValue, hi, z2, asInt, asIntOf, w1, hn, e3, h63', h48', h49, Question.forced, hold, newRow, grownCap]
    intro h0
    exact absurd h0 hne
  unfold Oper.wp
  rw [append_exec (hF.eval hx) (hF.eval hy) hrun]
  refine kk _ _ _ _ tail.toList ?_ hge hle (hF.put hd _) ?_
  · rw [htl, List.length_append, List.length_take, Nat.min_eq_left hcs]
    simp only [Array.length_toList, Array.size_append, size_zeroCells, hzs, ← Nat.add_mul]
    congr 1
    omega
  · have := hS.drawAlloc (cs.take (i * sz) ++ tail.toList) E
    rw [← List.append_toArray, Array.toArray_toList] at this
    exact this
end
end Go.W

/-! slices.overlaps of two owned blocks. -/
namespace Go.W
open Go Go.RowKit
section
variable {P : Program} {B : Base} {H : Froz} {L : List Blk} {F : Fr} {ty tS tR E : TypeId} {x y : Operand} {agg : Bool} {sz : Nat}
theorem shape_own {w : World} (hS : St B H L w) {i b : Nat} {cs : List Value} {T : TypeId} (hi : L[i]? = some ⟨b, cs, T⟩) : w.shape? b = some (T, cs.length) := by
  have ho := hS.own _ (List.mem_of_getElem? hi)
  simp only [] at ho
  unfold World.shape?
  simp [ho]
/-- The first of them is read only, and plain. -/
theorem q_overlapsH {f : FuncId} {fn : Func} {ts : Array TypeId} {j b1 b2 o1 o2 n1 c1 n2 c2 : Nat} {cs1 cs2 : List Value} {T1 T2 : TypeId} (hf : P.funcs[f]? = some fn) (hname : (fn.name == "runtime.NumGoroutine") = false) (hbody : fn.body = none) (hnx : (Extern.findNext fn).isNone = true)
    (hfind : Extern.find fn = some (Extern.SlicesOverlaps.overlaps #[tS, tS] #[tR])) (hu : P.underlying tS = some (.slice E)) (ht : tyS P E = some (agg, sz))
    (hx : oev F x = some (.slice (some ⟨b1, o1, none⟩) n1 c1)) (hy : oev F y = some (.slice (some ⟨b2, o2, none⟩) n2 c2)) (hH : H b1 = some (.cells cs1.toArray T1 (0, 0))) (hj : L[j]? = some ⟨b2, cs2, T2⟩) (h2 : cs2.length ≠ 0) :
    Qt P (St B H L) F (.call ⟨.value (.func f), #[x, y], ts⟩) ty (.bool false) := by
  intro ρ hρ w hS d pos after g
  have hne : b1 ≠ b2 := fun e => by
    have := (hS.mine _ (List.mem_of_getElem? hj)).2
    simp only [] at this
    rw [← e, hH] at this; cases this
  have ho := hS.froz _ _ hH
  have hsh : w.shape? b1 = some (T1, cs1.length) := by unfold World.shape?; simp [ho]
  have hfr : ∀ o, w.frozen? ⟨b1, o, none⟩ = false := fun o => by simp [World.frozen?, ho]
  have hrun := Lib.run_overlaps_apart (P := P) w tS tR E hu sz (fun w => run_sizeOf' ht) ⟨b1, o1, none⟩ ⟨b2, o2, none⟩ n1 c1 n2 c2 hne T1 T2 cs1.length cs2.length hsh (shape_own hS hj) h2 (hfr _) (hfr _)
  have hnx' : Extern.findNext fn = none := by simpa using hnx
  have hcf := run_callFunc_extern (P := P) hf hname (by rw [hbody]; rfl) hnx' hfind #[.slice (some ⟨b1, o1, none⟩) n1 c1, .slice (some ⟨b2, o2, none⟩) n2 c2] w
  rw [hrun] at hcf
  have he : ρ (.func f) = .func (.func f) #[] #[] := hρ _ _ rfl
  simp only [execOp, resolve, Sem.run_bind, Deferred.ofValue]
  simp [invoke, he, hρ x _ hx, hρ y _ hy, hcf, Result.andThen]
end
end Go.W

/-! A walk within a round of a range over a function: what holds of the plain frame's operations holds of a round's. -/
namespace Go.W
open Go Go.RowKit
abbrev Fw (ro : Option Nat) : Fence := { fn := fun _ => True, depth := none, alive := false, round := ro }
theorem calls_in {ro : Option Nat} {m : Nat} {P : Program} {f : FuncId} {args : Array Value} {w : World} {R : Ending → World → Prop} (h : Calls P f args w R) : CallsIn (Fw ro) m P f args w R :=
  (callsIn_wide (n := m)).2 h
theorem in_calls {ro : Option Nat} {m : Nat} {P : Program} {f : FuncId} {args : Array Value} {w : World} {R : Ending → World → Prop} (h : CallsIn (Fw ro) m P f args w R) : Calls P f args w R :=
  (callsIn_wide (n := m)).1 h
section
variable {ro : Option Nat} {P : Program} {ops : Array Oper} {Q : Exit → Act → World → Prop} {o : Oper} {a : Act} {w : World} {K : Act → World → Prop} {md : Region.Mode}
theorem upon_in {r : Result Next} (h : o.upon P a K Q r) : o.uponIn (Fw ro) 0 P a K Q r := by
  cases r with
  | ok x w' =>
    cases x with
    | value v => exact h
    | skip => exact h
    | defer d => exact h
    | enter f args => exact ⟨fun h => (by cases h), calls_in h⟩
    | row row args =>
      refine ⟨fun h => (by cases h), fun c cs _ => ?_⟩
      obtain ⟨v, w'', r, s⟩ := h c cs
      exact ⟨v, w'', r, stepsIn_wide.2 s⟩
    | _ => exact h.elim
  | halt c w' => cases c <;> first | exact h | exact h.elim
def isDefer : Op → Bool
  | .defer _ => true
  | _ => false
theorem wp_in (hd : isDefer o.op = false) (h : o.wp P a w K Q) : o.wpIn (Fw ro) 0 P a w K Q := by
  refine ⟨fun _ _ => trivial, ?_⟩
  rw [Oper.semAt_eq _ _ _ (fun c e => by rw [e] at hd; cases hd)]
  exact upon_in h
def noDefer (l : List Oper) : Bool := l.all fun o => !isDefer o.op
theorem wpList_in (hq : ¬ LetsOut Q) : ∀ {l : List Oper} (hd : noDefer l = true) (a : Act) (w : World), wpList P ops Q l a w → wpListIn (Fw ro) 0 P ops Q l a w
  | [], _, _, _, h => h
  | o :: t, hd, a, w, h => by
    simp only [noDefer, List.all_cons, Bool.and_eq_true, Bool.not_eq_true'] at hd
    unfold wpList at h
    unfold wpListIn
    split
    · rename_i hw
      rw [if_pos hw] at h
      exact wp_in hd.1 (Oper.wp_mono (wpList_in hq (by simpa [noDefer] using hd.2)) (h.resolve_right fun h => hq h.2))
    · rename_i hw
      rw [if_neg hw] at h
      exact ⟨fun _ _ => trivial, wpList_in hq (by simpa [noDefer] using hd.2) _ _ h⟩
end
theorem nl_then {K : Act → World → Prop} {Q : Exit → Act → World → Prop} (h : ¬ LetsOut Q) : ¬ LetsOut (Exit.then K Q) := fun ⟨a, w, q⟩ => h ⟨a, w, q⟩
theorem nl_block {id : Nat} {Q : Exit → Act → World → Prop} (h : ¬ LetsOut Q) : ¬ LetsOut (Exit.inBlock id Q) := fun ⟨a, w, q⟩ => h ⟨a, w, q⟩
theorem nl_round {P : Program} {l : Nat} {R : Ending → World → Prop} : ¬ LetsOut (roundPost P l R) := fun ⟨_, _, q⟩ => q
theorem nl_false : ¬ LetsOut (fun _ _ _ => False) := fun ⟨_, _, q⟩ => q
/-! ### control in a round -/
section
variable {ro : Option Nat} {P : Program} {Q : Exit → Act → World → Prop} {n d : Nat} {a : Act} {F : Fr} {w : World} {B : Base} {H : Froz} {L : List Blk}
theorem k_seq {x y : Code} (h : ∀ K : Act → World → Prop, (∀ a w, y.wpIn (Fw ro) 0 P Q a w → K a w) → x.wpIn (Fw ro) 0 P (Exit.then K Q) a w) : (Code.seq x y).wpIn (Fw ro) 0 P Q a w := wpIn_seq_k h
theorem k_reg {id : Nat} {l : List Oper} (hq : ¬ LetsOut Q) (hd : noDefer l = true) (h : wpList P l.toArray Q l a w) : (Code.region id l.toArray false).wpIn (Fw ro) 0 P Q a w := wpIn_region_lit (wpList_in hq hd _ _ h)
theorem k_skipQ (h : Q .normal a w) : Code.skip.wpIn (Fw ro) 0 P Q a w := wpIn_skip h
theorem k_true {c : Operand} {x y : Code} (hF : Has n a F) (hc : oev F c = some (.bool true)) (h : x.wpIn (Fw ro) 0 P Q a w) : (Code.cond c x y).wpIn (Fw ro) 0 P Q a w := wpIn_cond_true (hF.eval hc) h
theorem k_false {c : Operand} {x y : Code} (hF : Has n a F) (hc : oev F c = some (.bool false)) (h : y.wpIn (Fw ro) 0 P Q a w) : (Code.cond c x y).wpIn (Fw ro) 0 P Q a w := wpIn_cond_false (hF.eval hc) h
theorem k_block {id : Nat} {c : Code} (h : c.wpIn (Fw ro) 0 P (Exit.inBlock id Q) a w) : (Code.block id c).wpIn (Fw ro) 0 P Q a w := wpIn_block h
theorem k_ret (h : Q .ret a w) : Code.ret.wpIn (Fw ro) 0 P Q a w := wpIn_ret h
end
end Go.W


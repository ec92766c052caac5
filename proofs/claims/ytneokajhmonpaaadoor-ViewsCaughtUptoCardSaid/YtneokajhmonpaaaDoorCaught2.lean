import Derived.Test.YtneokajhmonpaaaDoorCaught1
import Derived.RangeFuncSeq
import Derived.ReadAgain
import Derived.OpenShut
import Derived.MakeChecks
import Derived.ProofKit
import Derived.LaidMore
import Derived.ChangeSame
import Derived.Deep.Slices
import Derived.Laws.StructEq
import Derived.Test.YtneokajhmonpaaaDoorChecked
import Derived.Test.YtneokajhmonpaaaDoorRows
import Derived.Test.YtneokajhmonpaaaDoorTie
import Derived.Test.YtneokajhmonpaaaDoorCards
import Derived.SevenTiedAt
import Derived.Stop.Joined
import Derived.Deep.DeepHandedRow
import Derived.Lib.LaidTab
/- A part of the proofs of the statements about the chartroom program (YtneokajhmonpaaaDoor): the walk and the plain law. -/
set_option linter.unusedSimpArgs false
set_option linter.unusedVariables false
/-! A range over a function: the statement, the iterator, the rounds. -/
namespace Go.W
open Go Go.RowKit
/-- The record as it lies while no round is under way. -/
abbrev yv (l : Nat) : Value := .func (.yield l) #[] #[]
section
variable {P : Program} {Γ : Type}
/-- What is owed at a round's end. -/
def RoundR (l : Nat) (r0 : Loop) (Lc : Γ → List Blk) (C : Nat → Γ → Froz → Prop) (X : Nat → Code → Γ → Froz → Prop) (k : Nat) (w : World) (H : Froz) (bs : List Nat) (e : Ending) (w' : World) : Prop :=
  (e = .returned (.bool true) ∧ ∃ γ' H', C (k + 1) γ' H' ∧ St ⟨w, H, bs⟩ H' (Lc γ') w' ∧ w'.heap[l]? = some (.loop r0)) ∨
  (e = .returned (.bool false) ∧ ∃ γ' H' c, X k c γ' H' ∧ H' l = none ∧ St ⟨w, H, l :: bs⟩ H' (Lc γ') w' ∧ w'.heap[l]? = some (.loop { r0 with state := .done, pending := some c }))
/-- What a round does, of the rounds' number k: it goes on, the caller's blocks turned; or it leaves the loop by a jump. -/
def RoundsOK (P : Program) (l : Nat) (r0 : Loop) (N : Nat) (enc : Nat → List Value) (Lc : Γ → List Blk) (C : Nat → Γ → Froz → Prop) (X : Nat → Code → Γ → Froz → Prop) (H0 : Froz) : Prop :=
  ∀ k, k < N → ∀ (γ : Γ) (H : Froz) (w : World), C k γ H → Le H0 H → Hand w H (Lc γ) → H l = none → w.heap[l]? = some (.loop r0) →
    YieldAt (Fw none) 0 P l (enc k).toArray w (RoundR l r0 Lc C X k w H ((Lc γ).map (·.b)))
/-- What an iterator does. -/
def IterR (l : Nat) (r0 : Loop) (N : Nat) (Lc : Γ → List Blk) (C : Nat → Γ → Froz → Prop) (X : Nat → Code → Γ → Froz → Prop) (H : Froz) (bs : List Nat) (w : World) (w' : World) : Prop :=
  (∃ γ' H', C N γ' H' ∧ St ⟨w, H, bs⟩ H' (Lc γ') w' ∧ w'.heap[l]? = some (.loop r0)) ∨
  (∃ k γ' H' c, k < N ∧ X k c γ' H' ∧ H' l = none ∧ St ⟨w, H, l :: bs⟩ H' (Lc γ') w' ∧ w'.heap[l]? = some (.loop { r0 with state := .done, pending := some c }))
end
section
variable {P : Program} {ops : Array Oper} {Q : Exit → Act → World → Prop} {rest : List Oper} {n d : Nat} {a : Act} {F : Fr} {w : World} {B : Base} {H : Froz} {L : List Blk}
  {op : Op} {ty : TypeId} {pos : String} {after : Array Edge} {v : Value} {g : Option (Nat × Bool)}
/-- A call of yield. -/
theorem y_call {K : Act → World → Prop} {l : Nat} {fx : Operand} {xs : List Operand} {vs : List Value} {ts : Array TypeId} {R : Ending → World → Prop} (hF : Has n a F) (hf : oev F fx = some (yv l)) (hxs : oevs F xs = some vs) (hd : Nat.blt d n = true)
    (hy : YieldAt (Fw none) 0 P l vs.toArray w R) (k : ∀ v w', R (.returned v) w' → ∀ a', Has n a' ((d, v) :: F) → K a' w') (hR : ∀ e w', R e w' → ∃ v, e = .returned v) :
    (⟨some d, .call ⟨.value fx, xs.toArray, ts⟩, ty, pos, after, g⟩ : Oper).wpIn (Fw none) 0 P a w K Q := by
  obtain ⟨fn, tmps, assign, body, hy1, hy2⟩ := hy
  refine ⟨fun _ _ => trivial, ?_⟩
  rw [Oper.semAt_none]
  have hargs : (xs.toArray.map a.eval) = vs.toArray := by rw [List.map_toArray, oevs_map hF hxs]
  have : (execOp a.eval (⟨some d, .call ⟨.value fx, xs.toArray, ts⟩, ty, pos, after, g⟩ : Oper)).run P w = .ok (.round l fn tmps assign body) w := by
    simp only [execOp, resolve, Sem.run_bind, hargs, hF.eval hf, Deferred.ofValue]
    simp [invoke, hy1]
  rw [this, Oper.uponIn_round]
  refine ⟨fun h => (by cases h), hy2.mono fun e w' he => ?_⟩
  obtain ⟨v, rfl⟩ := hR e w' he
  exact k v w' he _ (hF.put hd v)
/-- Lists of operations, one of which calls yield. -/
theorem y_reg {id : Nat} {l : List Oper} (h : wpListIn (Fw none) 0 P l.toArray Q l a w) : (Code.region id l.toArray false).wp P Q a w := (wpIn_wide (n := 0)).1 (wpIn_region_lit h)
theorem y_l {o : Oper} (hg : o.guard = none) (hd : isDefer o.op = false) (h : ∀ K : Act → World → Prop, (∀ a w, wpListIn (Fw none) 0 P ops Q rest a w → K a w) → o.wp P a w K Q) : wpListIn (Fw none) 0 P ops Q (o :: rest) a w :=
  wpListIn_plain hg fun K hK => wp_in hd (h K hK)
theorem y_y {o : Oper} (hg : o.guard = none) (h : ∀ K : Act → World → Prop, (∀ a w, wpListIn (Fw none) 0 P ops Q rest a w → K a w) → o.wpIn (Fw none) 0 P a w K Q) : wpListIn (Fw none) 0 P ops Q (o :: rest) a w :=
  wpListIn_plain hg h
theorem y_q {S : World → Prop} (hF : Has n a F) (hS : S w) (q : Qt P S F op ty v) (hd : Nat.blt d n = true) (hdf : isDefer op = false) (k : ∀ a', Has n a' ((d, v) :: F) → wpListIn (Fw none) 0 P ops Q rest a' w) :
    wpListIn (Fw none) 0 P ops Q (⟨some d, op, ty, pos, after, none⟩ :: rest) a w := by
  refine y_l rfl hdf fun K hK => ?_
  unfold Oper.wp
  rw [q a.eval (fun x u h => hF.eval h) w hS]
  exact hK _ _ (k _ (hF.put hd v))
end
section
variable {B : Base} {H H' : Froz} {Lx L L' : List Blk} {w w' : World}
/-- A round has left the loop: all that the iterator held is forgotten. -/
theorem St.leave {H0 : Froz} {M : List Nat} {w0 : World} {l : Nat} (h : St ⟨w0, H0, M⟩ H (Lx ++ L) w) (hc : St ⟨w, H, l :: Lx.map (·.b)⟩ H' L' w') : St ⟨w0, H0, l :: M⟩ H' L' w' where
  os := hc.os.trans h.os
  tape := hc.tape.trans h.tape
  output := hc.output.trans h.output
  size := Nat.le_trans h.size hc.size
  old k hk hm := by
    have hk' : k < w0.heap.size := hk
    simp only [List.mem_cons, not_or] at hm
    refine (hc.old k (Nat.lt_of_lt_of_le hk h.size) ?_).trans (h.old k hk hm.2)
    simp only [List.mem_cons, not_or]
    refine ⟨hm.1, fun hx => ?_⟩
    obtain ⟨x, hx2, rfl⟩ := List.mem_map.1 hx
    rcases (h.mine x (List.mem_append_left _ hx2)).1 with h1 | h1
    · exact absurd hk' (Nat.not_lt.2 h1)
    · exact hm.2 h1
  froz := hc.froz
  sub k o hk := hc.sub k o (h.sub k o hk)
  fresh k o hk := by
    rcases hc.fresh k o hk with h1 | h1 | h1
    · rcases h.fresh k o h1 with h2 | h2 | h2
      · exact .inl h2
      · exact .inr (.inl h2)
      · exact .inr (.inr (List.mem_cons_of_mem _ h2))
    · exact .inr (.inl (Nat.le_trans h.size h1))
    · rcases List.mem_cons.1 h1 with h2 | h2
      · exact .inr (.inr (h2 ▸ List.mem_cons_self))
      · obtain ⟨x, hx2, rfl⟩ := List.mem_map.1 h2
        rcases (h.mine x (List.mem_append_left _ hx2)).1 with h3 | h3
        · exact .inr (.inl h3)
        · exact .inr (.inr (List.mem_cons_of_mem _ h3))
  own := hc.own
  mine x hx := by
    have hm := hc.mine x hx
    refine ⟨?_, hm.2⟩
    rcases hm.1 with h1 | h1
    · exact .inl (Nat.le_trans h.size h1)
    · rcases List.mem_cons.1 h1 with h2 | h2
      · exact .inr (h2 ▸ List.mem_cons_self)
      · obtain ⟨y, hy, e⟩ := List.mem_map.1 h2
        rcases (h.mine y (List.mem_append_left _ hy)).1 with h3 | h3
        · exact .inl (e ▸ h3)
        · exact .inr (e ▸ List.mem_cons_of_mem _ h3)
  nodup := hc.nodup

theorem heap_putObj_other {w : World} {l k : Nat} {o : Obj} (h : k ≠ l) : (w.putObj l o).heap[k]? = w.heap[k]? := World.putObj_heap_other h
/-- A block that nobody speaks of turns. -/
theorem St.putObj {l : Nat} {o : Obj} (h : St B H L w) (h1 : B.w0.heap.size ≤ l) (h2 : H l = none) (h3 : ∀ cs T, w.heap[l]? ≠ some (.cells cs T (0, 0))) : St B H L (w.putObj l o) where
  os := h.os
  tape := h.tape
  output := h.output
  size := by rw [World.putObj_size]; exact h.size
  old k hk hm := (heap_putObj_other (by omega)).trans (h.old k hk hm)
  froz k o hk := (heap_putObj_other (fun e => by rw [e, h2] at hk; cases hk)).trans (h.froz k o hk)
  sub := h.sub
  fresh := h.fresh
  own x hx := (heap_putObj_other (fun e => h3 _ _ (e ▸ h.own x hx))).trans (h.own x hx)
  mine := h.mine
  nodup := h.nodup
/-- The block for the rounds' deferred calls, empty. -/
structure DefB (B : Base) (H : Froz) (D : Nat) (w : World) : Prop where
  at_ : w.heap[D]? = some (.deferred (some []))
  ge : B.w0.heap.size ≤ D
  no : H D = none
theorem St.allocObj (h : St B H L w) (o : Obj) : St B H L (w.alloc o) where
  os := h.os
  tape := h.tape
  output := h.output
  size := by rw [World.size_alloc]; have := h.size; omega
  old k hk hm := (_root_.Go.heap_alloc_old w _ (by have := h.size; omega)).trans (h.old k hk hm)
  froz k o hk := (_root_.Go.heap_alloc_old w _ (h.hlt hk)).trans (h.froz k o hk)
  sub := h.sub
  fresh := h.fresh
  own x hx := (_root_.Go.heap_alloc_old w _ (lt_of_some (h.own x hx))).trans (h.own x hx)
  mine := h.mine
  nodup := h.nodup
end
/-- An act with deferred calls besides. -/
def wM (ms : List Deferred) (a : Act) : Act := { a with defers := a.defers ++ ms }
abbrev markD (D : Nat) : List Deferred := [{ target := .collected D, args := #[] }]
theorem St.callGl {B : Base} {H : Froz} {Lx L : List Blk} {w : World} {l : Nat} (h : St B H (Lx ++ L) w) (hl0 : B.w0.heap.size ≤ l) (hlc : ∀ x ∈ L, x.b ≠ l) {H' : Froz} {L' : List Blk} {w' : World} (hc : St ⟨w, H, l :: Lx.map (·.b)⟩ H' L' w') (hll : l < w.heap.size) : St B H' (L' ++ L) w' where
  os := hc.os.trans h.os
  tape := hc.tape.trans h.tape
  output := hc.output.trans h.output
  size := Nat.le_trans h.size hc.size
  old k hk hm := by
    refine (hc.old k (Nat.lt_of_lt_of_le hk h.size) ?_).trans (h.old k hk hm)
    intro hk2
    rcases List.mem_cons.1 hk2 with hk2 | hk2
    · omega
    obtain ⟨x, hx, rfl⟩ := List.mem_map.1 hk2
    rcases (h.mine x (List.mem_append_left _ hx)).1 with h1 | h1
    · omega
    · exact hm h1
  froz := hc.froz
  sub k o hk := hc.sub k o (h.sub k o hk)
  fresh k o hk := by
    rcases hc.fresh k o hk with h1 | h1 | h1
    · exact h.fresh k o h1
    · exact .inr (.inl (Nat.le_trans h.size h1))
    · rcases List.mem_cons.1 h1 with h1 | h1
      · exact .inr (.inl (h1 ▸ hl0))
      obtain ⟨x, hx, rfl⟩ := List.mem_map.1 h1
      rcases (h.mine x (List.mem_append_left _ hx)).1 with h2 | h2
      · exact .inr (.inl h2)
      · exact .inr (.inr h2)
  own x hx := by
    rcases List.mem_append.1 hx with hx | hx
    · exact hc.own x hx
    · have hm := h.own x (List.mem_append_right _ hx)
      refine (hc.old x.b (lt_of_some hm) ?_).trans hm
      intro hk2
      rcases List.mem_cons.1 hk2 with hk2 | hk2
      · exact hlc x hx hk2
      obtain ⟨y, hy, hyb⟩ := List.mem_map.1 hk2
      exact (List.pairwise_append.1 h.nodup).2.2 y hy x hx hyb
  mine x hx := by
    rcases List.mem_append.1 hx with hx | hx
    · have := hc.mine x hx
      refine ⟨?_, this.2⟩
      rcases this.1 with h1 | h1
      · exact .inl (Nat.le_trans h.size h1)
      · rcases List.mem_cons.1 h1 with h1 | h1
        · exact .inl (h1 ▸ hl0)
        obtain ⟨y, hy, hyb⟩ := List.mem_map.1 h1
        rw [← hyb]
        exact (h.mine y (List.mem_append_left _ hy)).1
    · have hm := h.mine x (List.mem_append_right _ hx)
      refine ⟨hm.1, ?_⟩
      cases hh : H' x.b with
      | none => rfl
      | some o =>
        rcases hc.fresh _ o hh with h1 | h1 | h1
        · simp only [] at h1; rw [hm.2] at h1; cases h1
        · exact absurd (lt_of_some (h.own x (List.mem_append_right _ hx))) (Nat.not_lt.2 h1)
        · rcases List.mem_cons.1 h1 with h1 | h1
          · exact absurd h1 (hlc x hx)
          obtain ⟨y, hy, hyb⟩ := List.mem_map.1 h1
          exact absurd hyb ((List.pairwise_append.1 h.nodup).2.2 y hy x hx)
  nodup := by
    refine List.pairwise_append.2 ⟨hc.nodup, (List.pairwise_append.1 h.nodup).2.1, fun x hx y hy => ?_⟩
    have h1 := lt_of_some (h.own y (List.mem_append_right _ hy))
    rcases (hc.mine x hx).1 with h2 | h2
    · simp only [] at h2; omega
    · rcases List.mem_cons.1 h2 with h2 | h2
      · rw [h2]; exact fun e => hlc y hy e.symm
      obtain ⟨z, hz, hzb⟩ := List.mem_map.1 h2
      intro e
      exact (List.pairwise_append.1 h.nodup).2.2 z hz y hy (hzb.trans e)
theorem c_rangeF {P : Program} {Γ : Type} {Q : Exit → Act → World → Prop} {n : Nat} {a : Act} {F : Fr} {w : World} {B : Base} {H : Froz} {Lr : List Blk} {g : Operand} {ps : Array Tmp} {assign body : Code} {f : FuncId} {fs us : List Value}
    {N : Nat} {Lc : Γ → List Blk} {C : Nat → Γ → Froz → Prop} {X : Nat → Code → Γ → Froz → Prop} {γ0 : Γ} (enc : Nat → List Value)
    (he : enS P f = true) (hF : Has n a F) (hS : St B H (Lc γ0 ++ Lr) w) (hg : oev F g = some (.func (.func f) fs.toArray us.toArray)) (hC : C 0 γ0 H)
    (hit : ∀ (l : Nat) (r0 : Loop) (w : World), r0.state = .ready → Hand w H (Lc γ0) → H l = none → w.heap[l]? = some (.loop r0) → RoundsOK P l r0 N enc Lc C X H → CallsR P f (fs ++ [yv l] ++ us) w fun _ w' => IterR l r0 N Lc C X H ((Lc γ0).map (·.b)) w w')
    (hround : ∀ (l : Nat) (r0 : Loop), r0.state = .ready → r0.pending = none → r0.params = ps → r0.assign = assign → r0.body = body → r0.tmps = a.tmps → RoundsOK P l r0 N enc Lc C X H)
    (kdone : ∀ γ' H' w' D, C N γ' H' → Le H H' → St B H' (Lc γ' ++ Lr) w' → DefB B H' D w' → Q .normal (wM (markD D) a) w')
    (kleave : ∀ k γ' H' w' D c, k < N → X k c γ' H' → Le H H' → St B H' (Lc γ' ++ Lr) w' → DefB B H' D w' → c.wp P Q (wM (markD D) a) w') :
    (Code.rangeFunc g ps assign body).wp P Q a w := by
  refine (wpIn_wide (n := 0)).1 (wpIn_rangeFunc (F := Fence.wide) fun fn _ => ?_)
  obtain ⟨r0, hr0⟩ : ∃ r0 : Loop, r0 = { state := .ready, pending := none, fn, tmps := a.tmps, params := ps, assign, body, defers := w.heap.size } := ⟨_, rfl⟩
  have hw2 : ∃ w2, w2 = (w.alloc (.deferred (some []))).alloc (.loop r0) := ⟨_, rfl⟩
  obtain ⟨w2, hw2⟩ := hw2
  have hS2 : St B H (Lc γ0 ++ Lr) w2 := hw2 ▸ (hS.allocObj _).allocObj _
  have hl2 : w2.heap[w.heap.size + 1]? = some (.loop r0) := by rw [hw2]; have := _root_.Go.heap_alloc_new (w.alloc (.deferred (some []))) (.loop r0); rwa [World.size_alloc] at this
  have hD2 : w2.heap[w.heap.size]? = some (.deferred (some [])) := by rw [hw2, _root_.Go.heap_alloc_old _ _ (by rw [World.size_alloc]; omega)]; exact _root_.Go.heap_alloc_new w _
  have hsz : w2.heap.size = w.heap.size + 2 := by rw [hw2, World.size_alloc, World.size_alloc]
  have hHl : ∀ k, w.heap.size ≤ k → H k = none := fun k hk => by
    cases hh : H k with
    | none => rfl
    | some o => exact absurd (hS.hlt hh) (by omega)
  have hbs : ∀ k, w.heap.size ≤ k → k ∉ (Lc γ0).map (·.b) := fun k hk hm => by
    obtain ⟨x, hx, rfl⟩ := List.mem_map.1 hm
    have := lt_of_some (hS.own x (List.mem_append_left _ hx))
    omega
  have h0 : B.w0.heap.size ≤ w.heap.size := hS.size
  have hact : wM (markD w.heap.size) a = { tmps := a.tmps, defers := markD w.heap.size ++ a.defers } := by simp [wM, hF.dfr]
  refine ⟨w.heap.size + 1, markD w.heap.size, w2, { target := .fn (.func f) us.toArray, args := fs.toArray ++ #[yv (w.heap.size + 1)] }, w2, f, (fs ++ [yv (w.heap.size + 1)] ++ us).toArray, w2, ?_, ?_, fun _ _ => trivial, ?_, fun h => (by cases h), ?_⟩
  · rw [hw2, hr0]; exact run_enterLoop_outer fn a.tmps ps assign body
  · simp only [resolve, rangeCall, hF.eval hg, Deferred.ofValue]
    simp [Act.eval]
  · simp [invoke, run_callFunc' he]
  · refine calls_in (ro := none) (Calls.mono (hit (w.heap.size + 1) r0 w2 (by rw [hr0]) hS2.hand (hHl _ (by omega)) hl2 (hround _ _ (by rw [hr0]) (by rw [hr0]) (by rw [hr0]) (by rw [hr0]) (by rw [hr0]) (by rw [hr0]))) ?_)
    rintro e w3 ⟨v, rfl, hI⟩
    have hrec : ∀ (H' : Froz) (L' : List Blk) (w3 : World) (r : Loop), H' (w.heap.size + 1) = none → St ⟨w2, H, (Lc γ0).map (·.b)⟩ H' L' w3 → w3.heap[w.heap.size + 1]? = some (.loop r) → (w3.heap[w.heap.size]? = some (.deferred (some [])) ∧ H' w.heap.size = none) →
        St B H' (L' ++ Lr) (w3.putObj (w.heap.size + 1) (.loop { r with state := .exhausted })) ∧ DefB B H' w.heap.size (w3.putObj (w.heap.size + 1) (.loop { r with state := .exhausted })) := by
      intro H' L' w3 r h1 h2 h3 h4
      refine ⟨(hS2.callG h2).putObj (by omega) h1 (fun cs T => by rw [h3]; intro e; cases e), ?_, h0, h4.2⟩
      rw [heap_putObj_other (by omega)]; exact h4.1
    have hHn : ∀ (H' : Froz) (L' : List Blk) (w3 : World) (M : List Nat) (k : Nat), w.heap.size ≤ k → k < w2.heap.size → k ∉ M → St ⟨w2, H, M⟩ H' L' w3 → H' k = none := by
      intro H' L' w3 M k hk hk2 hkM h
      cases hh : H' k with
      | none => rfl
      | some o =>
        rcases h.fresh k o hh with h1 | h1 | h1
        · have h1' : H k = some o := h1
          rw [hHl k hk] at h1'; cases h1'
        · have h1' : w2.heap.size ≤ k := h1
          omega
        · exact absurd h1 hkM
    rcases hI with ⟨γ', H', hC', hS3, hl3⟩ | ⟨k, γ', H', c, hk, hX, hHl3, hS3, hl3⟩
    · have hn1 := hHn H' _ w3 _ (w.heap.size + 1) (by omega) (by omega) (hbs _ (by omega)) hS3
      have hn0 := hHn H' _ w3 _ w.heap.size (by omega) (by omega) (hbs _ (by omega)) hS3
      have hD3 : w3.heap[w.heap.size]? = some (.deferred (some [])) := (hS3.old _ (show w.heap.size < w2.heap.size by omega) (hbs _ (by omega))).trans hD2
      obtain ⟨h1, h2⟩ := hrec H' _ w3 r0 hn1 hS3 hl3 ⟨hD3, hn0⟩
      refine ⟨none, _, ?_, hact ▸ kdone γ' H' _ _ hC' hS3.le h1 h2⟩
      rw [run_endLoop hl3 (by rw [hr0]; simp), hr0]
    · have hn0 := hHn H' _ w3 _ w.heap.size (by omega) (by omega) (by simp only [List.mem_cons, not_or]; exact ⟨by omega, hbs _ (by omega)⟩) hS3
      have hD3 : w3.heap[w.heap.size]? = some (.deferred (some [])) := (hS3.old _ (show w.heap.size < w2.heap.size by omega) (by simp only [List.mem_cons, not_or]; exact ⟨by omega, hbs _ (by omega)⟩)).trans hD2
      have hSb := hS2.callGl (l := w.heap.size + 1) (by omega) (fun x hx e => by have := lt_of_some (hS.own x (List.mem_append_right _ hx)); omega) hS3 (by omega)
      refine ⟨some c, _, ?_, hact ▸ (wpIn_wide (n := 0)).2 (kleave k γ' H' (w3.putObj (w.heap.size + 1) (.loop { r0 with state := .exhausted, pending := some c })) w.heap.size c hk hX hS3.le (hSb.putObj (by omega) hHl3 (fun cs T => by rw [hl3]; intro e; cases e)) ⟨by rw [heap_putObj_other (by omega)]; exact hD3, h0, hn0⟩)⟩
      rw [run_endLoop hl3 (by simp)]
/-! ### a round -/
abbrev bz (l : Nat) (r0 : Loop) (w : World) : World := w.putObj l (.loop { r0 with state := .busy })
section
variable {B : Base} {H H' H0 : Froz} {Lx L L' : List Blk} {w w0 w' : World} {l : Nat} {M : List Nat} {o : Obj}
/-- A block of the base that no one owns turns, in the base too. -/
theorem St.rebase (h : St ⟨w0, H0, M⟩ H L w) (hl : l < w0.heap.size) (h1 : H l = none) (h2 : ∀ x ∈ L, x.b ≠ l) : St ⟨w0.putObj l o, H0, M⟩ H L (w.putObj l o) where
  os := h.os
  tape := h.tape
  output := h.output
  size := by simp only [World.putObj_size]; exact h.size
  old k hk hm := by
    have hs : w0.heap.size ≤ w.heap.size := h.size
    simp only [World.putObj_size] at hk
    by_cases e : k = l
    · subst e
      rw [World.putObj_heap_same (by omega)]
      exact (World.putObj_heap_same hl).symm
    · rw [heap_putObj_other e]
      exact (h.old k hk hm).trans (heap_putObj_other e).symm
  froz k o hk := (heap_putObj_other (fun e => by rw [e, h1] at hk; cases hk)).trans (h.froz k o hk)
  sub := h.sub
  fresh k o hk := by simp only [World.putObj_size]; exact h.fresh k o hk
  own x hx := (heap_putObj_other (h2 x hx)).trans (h.own x hx)
  mine x hx := by simp only [World.putObj_size]; exact h.mine x hx
  nodup := h.nodup
theorem St.base_mark (h : St ⟨w0.putObj l o, H0, M⟩ H L w) : St ⟨w0, H0, l :: M⟩ H L w where
  os := h.os
  tape := h.tape
  output := h.output
  size := by have := h.size; simp only [World.putObj_size] at this; exact this
  old k hk hm := by
    simp only [List.mem_cons, not_or] at hm
    exact (h.old k (by simp only [World.putObj_size]; exact hk) hm.2).trans (heap_putObj_other hm.1)
  froz := h.froz
  sub := h.sub
  fresh k o hk := by
    rcases h.fresh k o hk with h1 | h1 | h1
    · exact .inl h1
    · simp only [World.putObj_size] at h1; exact .inr (.inl h1)
    · exact .inr (.inr (List.mem_cons_of_mem _ h1))
  own := h.own
  mine x hx := by
    refine ⟨?_, (h.mine x hx).2⟩
    rcases (h.mine x hx).1 with h1 | h1
    · simp only [World.putObj_size] at h1; exact .inl h1
    · exact .inr (List.mem_cons_of_mem _ h1)
  nodup := h.nodup
theorem putObj_putObj (w : World) (l : Nat) (o o' : Obj) : (w.putObj l o).putObj l o' = w.putObj l o' := by
  simp [World.putObj]
theorem putObj_same (h : w.heap[l]? = some o) : w.putObj l o = w := by
  obtain ⟨hl, he⟩ := Array.getElem?_eq_some_iff.1 h
  have : w.heap.setIfInBounds l o = w.heap := by
    apply Array.ext
    · simp
    · intro i h1 h2
      rw [Array.getElem_setIfInBounds (by simpa using h1)]
      split
      · rename_i e; subst e; exact he.symm
      · rfl
  simp [World.putObj, this]
theorem St.loop_no (h : St ⟨w0, H0, M⟩ H L w) {r : Loop} (hl : w0.heap[l]? = some (.loop r)) (h0 : H0 l = none) (hM : l ∉ M) : H l = none := by
  cases hh : H l with
  | none => rfl
  | some o =>
    rcases h.fresh l o hh with h1 | h1 | h1
    · have h1' : H0 l = some o := h1
      rw [h0] at h1'; cases h1'
    · have h1' : w0.heap.size ≤ l := h1
      have := lt_of_some hl
      omega
    · exact absurd h1 hM
theorem St.loop_at (h : St ⟨w0, H0, M⟩ H L w) {r : Loop} (hl : w0.heap[l]? = some (.loop r)) (hM : l ∉ M) : w.heap[l]? = some (.loop r) := (h.old l (lt_of_some hl) hM).trans hl
theorem St.loop_ne (h : St B H L w) {r : Loop} (hl : w.heap[l]? = some (.loop r)) : ∀ x ∈ L, x.b ≠ l := fun x hx e => by
  have := h.own x hx
  rw [e, hl] at this
  cases this
theorem Hand.loop_not (h : Hand w H Lx) {r : Loop} (hl : w.heap[l]? = some (.loop r)) : l ∉ Lx.map (·.b) := fun hm => by
  obtain ⟨x, hx, e⟩ := List.mem_map.1 hm
  have := h.own x hx
  rw [e, hl] at this
  cases this
end
section
variable {P : Program} {Γ : Type} {l : Nat} {r0 : Loop} {Lc : Γ → List Blk} {C : Nat → Γ → Froz → Prop} {X : Nat → Code → Γ → Froz → Prop} {k : Nat}
theorem round_norm {a : Act} {w w' : World} {H H' : Froz} {bs : List Nat} {γ' : Γ} (hs : r0.state = .ready) (hp : r0.pending = none) (hw : w.heap[l]? = some (.loop r0)) (h0 : H l = none) (hM : l ∉ bs) (hS : St ⟨bz l r0 w, H, bs⟩ H' (Lc γ') w') (hC : C (k + 1) γ' H') :
    roundPost P l (RoundR l r0 Lc C X k w H bs) .normal a w' := by
  have hlt := lt_of_some hw
  have hl : w'.heap[l]? = some (.loop { r0 with state := .busy }) := hS.loop_at (World.putObj_heap_same hlt) hM
  have hn := hS.loop_no (World.putObj_heap_same hlt) h0 hM
  refine ⟨_, _, run_endRound none hl, .inl ⟨rfl, γ', H', hC, ?_, ?_⟩⟩
  · have h1 := hS.rebase (o := .loop r0) (by rw [World.putObj_size]; exact hlt) hn (hS.loop_ne hl)
    rw [bz, putObj_putObj, putObj_same hw] at h1
    have e : ({ r0 with state := if (none : Option Code).isNone then .ready else .done, pending := none } : Loop) = r0 := by
      cases r0; simp only at hs hp; subst hs; subst hp; rfl
    rw [e]; exact h1
  · have e : ({ r0 with state := if (none : Option Code).isNone then .ready else .done, pending := none } : Loop) = r0 := by
      cases r0; simp only at hs hp; subst hs; subst hp; rfl
    rw [e]; exact World.putObj_heap_same (lt_of_some hl)
theorem round_jump {w w' : World} {H H' : Froz} {bs : List Nat} {γ' : Γ} (c : Code) (hw : w.heap[l]? = some (.loop r0)) (h0 : H l = none) (hM : l ∉ bs) (hS : St ⟨bz l r0 w, H, bs⟩ H' (Lc γ') w') (hX : X k c γ' H') :
    ∃ v w'', (Instr.endRound l (some c)).run P w' = .ok v w'' ∧ RoundR l r0 Lc C X k w H bs (.returned v) w'' := by
  have hlt := lt_of_some hw
  have hl : w'.heap[l]? = some (.loop { r0 with state := .busy }) := hS.loop_at (World.putObj_heap_same hlt) hM
  have hn := hS.loop_no (World.putObj_heap_same hlt) h0 hM
  refine ⟨_, _, run_endRound (some c) hl, .inr ⟨rfl, γ', H', c, hX, hn, ?_, World.putObj_heap_same (lt_of_some hl)⟩⟩
  have h1 := hS.rebase (o := .loop { r0 with state := .done, pending := some c }) (by rw [World.putObj_size]; exact hlt) hn (hS.loop_ne hl)
  rw [bz, putObj_putObj] at h1
  exact h1.base_mark
theorem round_ret {a : Act} {w w' : World} {H H' : Froz} {bs : List Nat} {γ' : Γ} (hw : w.heap[l]? = some (.loop r0)) (h0 : H l = none) (hM : l ∉ bs) (hS : St ⟨bz l r0 w, H, bs⟩ H' (Lc γ') w') (hX : X k .ret γ' H') :
    roundPost P l (RoundR l r0 Lc C X k w H bs) .ret a w' := round_jump .ret hw h0 hM hS hX
def parFr : List Nat → List Value → Fr → Fr
  | p :: ps, v :: vs, F => parFr ps vs ((p, v) :: F)
  | _, _, F => F
theorem Has.par {n : Nat} : ∀ {ps : List Nat} {vs : List Value} {a : Act} {F : Fr}, Has n a F → (ps.all fun p => Nat.blt p n) = true → Has n { a with tmps := (ps.zip vs).foldl (fun tmps (t, a) => tmps.setIfInBounds t a) a.tmps } (parFr ps vs F)
  | [], _, a, F, h, _ => by simpa [parFr] using h
  | p :: ps, [], a, F, h, _ => by simpa [parFr] using h
  | p :: ps, v :: vs, a, F, h, hp => by
    simp only [List.all_cons, Bool.and_eq_true] at hp
    have h1 := (h.put hp.1 v).par (ps := ps) (vs := vs) hp.2
    simpa [parFr, Act.put] using h1
/-- A round, out of the walks of the assignments and of the body. -/
theorem y_round {n : Nat} {a : Act} {F : Fr} {ps : List Nat} {assign body : Code} {vs : List Value} {w : World} {H : Froz} {L : List Blk} (hF : Has n a F) (hs : r0.state = .ready) (h1 : r0.params = ps.toArray) (h2 : r0.assign = assign) (h3 : r0.body = body) (h4 : r0.tmps = a.tmps)
    (hpl : ps.length = vs.length) (hpn : (ps.all fun p => Nat.blt p n) = true) (hH : Hand w H L) (h0 : H l = none) (hw : w.heap[l]? = some (.loop r0)) {R : Ending → World → Prop}
    (h : ∀ a1 (K : Act → World → Prop), Has n a1 (parFr ps vs F) → St ⟨w, H, L.map (·.b)⟩ H L w →
      (∀ a2 F2 H2 L2 w2, Has n a2 F2 → St ⟨w, H, L.map (·.b)⟩ H2 L2 w2 → (∀ w3, St ⟨bz l r0 w, H, L.map (·.b)⟩ H2 L2 w3 → body.wpIn (Fw (some l)) 0 P (roundPost P l R) a2 w3) → K a2 w2) →
      assign.wpIn (Fw (some l)) 0 P (Exit.then K fun _ _ _ => False) a1 w) : YieldAt (Fw none) 0 P l vs.toArray w R := by
  refine ⟨r0.fn, _, r0.assign, r0.body, run_yield hw (by simp [h1, hpl]), ?_⟩
  refine roundIn_of_wpIn (F := Fw none) trivial ?_
  rw [h1, h2, h3, h4]
  have hpar := hF.par (vs := vs) hpn
  refine h _ _ (by
    have e : a.defers = [] := hF.dfr
    have : ({ a with tmps := (ps.zip vs).foldl (fun tmps (t, a) => tmps.setIfInBounds t a) a.tmps } : Act) = { tmps := (ps.toArray.zip vs.toArray).foldl (fun tmps (t, a) => tmps.setIfInBounds t a) a.tmps, defers := [] } := by
      rw [← e]; simp
    exact this ▸ hpar) (St.startG hH) fun a2 F2 H2 L2 w2 hF2 hS2 hb => ?_
  have hM := hH.loop_not hw
  have hl2 := hS2.loop_at hw hM
  exact ⟨_, run_beginRound hl2 hs, hb _ (hS2.rebase (lt_of_some hw) (hS2.loop_no hw h0 hM) (hS2.loop_ne hl2))⟩
end
end Go.W

/-! Behind a range over a function: a mark stands among the deferred calls. -/
namespace Go.W
open Go Go.RowKit
section
variable {P : Program} {fn : Func} {n N : Nat} {a : Act} {F : Fr} {w : World} {B : Base} {H : Froz} {L : List Blk} {D : Nat}
theorem callsM_start {f : FuncId} {c : Code} {args : List Value} {R : Value → World → Prop} (hf : P.funcs[f]? = some fn) (hb : fn.body = some c) (hn : fn.ntmps = N) (hle : Nat.ble args.length N = true)
    (h : ∀ a, Has N a (initFr 0 args) → c.wp P (bodyPostM (Fw none) 0 P fn fun e w' => ∃ v, e = .returned v ∧ R v w') a w) : CallsR P f args w R := by
  refine in_calls (ro := none) (m := 0) (callsIn_of_wp_marks hf hb trivial ((wpIn_wide (n := 0)).2 (h _ ?_)))
  have hle' : args.length ≤ N := Nat.le_of_ble_eq_true hle
  have key : ∀ (l : List Value) (k s : Nat) (v : Value), fget (initFr k l) s = some v → k ≤ s ∧ l[s - k]? = some v := by
    intro l
    induction l with
    | nil => intro k s v h; simp [initFr, fget] at h
    | cons x t ih =>
      intro k s v h
      simp only [initFr, fget] at h
      by_cases e : k = s
      · subst e
        simp only [nbeq_self, cond_true, Option.some.injEq] at h
        subst h
        simp
      · rw [nbeq_ne e] at h
        simp only [cond_false] at h
        obtain ⟨h1, h2⟩ := ih _ _ _ h
        refine ⟨by omega, ?_⟩
        have : s - k = (s - (k + 1)) + 1 := by omega
        rw [this]
        simpa using h2
  refine ⟨by simp [hn]; omega, rfl, fun s v hs => ?_⟩
  obtain ⟨_, h2⟩ := key _ _ _ _ hs
  simp only [Nat.sub_zero] at h2
  have hlt := (List.getElem?_eq_some_iff.1 h2).1
  rw [Array.getElem?_append_left (by simpa using hlt)]
  simpa using h2
theorem ResV.results {rs : List ResultVar} {vs : List Value} (hrs : fn.results.toList = rs) (h : ResV P F L rs vs) (hF : Has n a F) (hS : St B H L w) : (results fn a.tmps).run P w = .ok (oneOf vs) w := by
  have hb := c_ret' (P := P) (fn := fn) (R := fun e w' => e = .returned (oneOf vs) ∧ w' = w) hrs hF hS h ⟨rfl, rfl⟩
  obtain ⟨_, v, h1, h2, _⟩ := hb
  cases h2
  exact h1
theorem m_out {R : Ending → World → Prop} {rs : List ResultVar} {vs : List Value} (hrs : fn.results.toList = rs) (hF : Has n a F) (hS : St B H L w) (hD : DefB B H D w) (hr : ResV P F L rs vs) (hR : ∀ w', St B H L w' → R (.returned (oneOf vs)) w') :
    LeavesInM (Fw none) 0 P fn (wM (markD D) a).tmps R (wM (markD D) a).defers .returning w := by
  have e : (wM (markD D) a).defers = markD D := by simp [wM, hF.dfr]
  rw [e]
  refine ⟨by simp, .inl ⟨D, _, rfl, run_takeDeferred hD.at_, ?_⟩⟩
  have hS' : St B H L (w.putObj D (.deferred none)) := hS.putObj hD.ge hD.no (fun cs T => by rw [hD.at_]; intro e; cases e)
  have h9 := hr.results hrs hF hS'
  exact ⟨_, h9, hR _ hS'⟩
theorem m_ret {R : Ending → World → Prop} {rs : List ResultVar} {vs : List Value} (hrs : fn.results.toList = rs) (hF : Has n a F) (hS : St B H L w) (hD : DefB B H D w) (hr : ResV P F L rs vs) (hR : ∀ w', St B H L w' → R (.returned (oneOf vs)) w') :
    bodyPostM (Fw none) 0 P fn R .ret (wM (markD D) a) w := m_out hrs hF hS hD hr hR
end
theorem wM_put (ms : List Deferred) (a : Act) (d : Option Tmp) (v : Value) : (wM ms a).put d v = wM ms (a.put d v) := by cases d <;> rfl
theorem wM_eval (ms : List Deferred) (a : Act) (x : Operand) : (wM ms a).eval x = a.eval x := by cases x <;> rfl
section
variable {P : Program} {ms : List Deferred} {ops : Array Oper} {Q : Exit → Act → World → Prop} {rest : List Oper} {n d : Nat} {a : Act} {F : Fr} {w : World} {S : World → Prop}
  {op : Op} {ty : TypeId} {pos : String} {after : Array Edge} {v : Value}
theorem m_q (hF : Has n a F) (hS : S w) (q : Qt P S F op ty v) (hd : Nat.blt d n = true) (k : ∀ a', Has n a' ((d, v) :: F) → wpList P ops Q rest (wM ms a') w) :
    wpList P ops Q (⟨some d, op, ty, pos, after, none⟩ :: rest) (wM ms a) w := by
  refine wpList_plain rfl fun K hK => ?_
  unfold Oper.wp
  rw [q (wM ms a).eval (fun x u h => (wM_eval ms a x).trans (hF.eval h)) w hS]
  have := k _ (hF.put hd v)
  rw [← wM_put] at this
  exact hK _ _ this
end
end Go.W

/-! Plain: the digits of an exponent, from the top. -/
namespace Go.W
open Go Go.RowKit
def bitE (k : Nat) (j : Nat) : List Value := [.bool (decide (((k / 2 ^ (bl k - 1 - j) % 2 : Nat) : Int) = 1))]
theorem pw_top (a k : Nat) : pw a (k / 2 ^ (bl k - 0)) = 1 := by
  rw [Nat.sub_zero, Nat.div_eq_of_lt (bl_lt k), pw_step (by decide), if_pos rfl]
theorem pw_end (a k : Nat) : pw a (k / 2 ^ (bl k - bl k)) = pw a k := by rw [Nat.sub_self, Nat.pow_zero, Nat.div_one]
theorem pw_half {k j : Nat} (hj : j < bl k) : k / 2 ^ (bl k - j) = k / 2 ^ (bl k - 1 - j) / 2 := by
  rw [Nat.div_div_eq_div_mul, ← Nat.pow_succ]
  congr 2
  omega
theorem pw_one {a k j : Nat} (hk : k < 18446744073709551616) (hj : j < bl k) (hb : (((k / 2 ^ (bl k - 1 - j) % 2 : Nat) : Int) = 1)) :
    pw a (k / 2 ^ (bl k - (j + 1))) = pw a (k / 2 ^ (bl k - j)) * pw a (k / 2 ^ (bl k - j)) % 4611686018427377339 * a % 4611686018427377339 := by
  have e : bl k - (j + 1) = bl k - 1 - j := by omega
  have h1 : k / 2 ^ (bl k - 1 - j) % 2 = 1 := by omega
  have h0 : ¬ k / 2 ^ (bl k - 1 - j) = 0 := by intro h; rw [h] at h1; cases h1
  rw [e, pw_half hj, pw_step (Nat.lt_of_le_of_lt (Nat.div_le_self _ _) hk), if_neg h0, if_pos h1]
theorem pw_zero_ {a k j : Nat} (hk : k < 18446744073709551616) (hj : j < bl k) (hb : ¬ (((k / 2 ^ (bl k - 1 - j) % 2 : Nat) : Int) = 1)) :
    pw a (k / 2 ^ (bl k - (j + 1))) = pw a (k / 2 ^ (bl k - j)) * pw a (k / 2 ^ (bl k - j)) % 4611686018427377339 := by
  have e : bl k - (j + 1) = bl k - 1 - j := by omega
  have h1 : ¬ k / 2 ^ (bl k - 1 - j) % 2 = 1 := by omega
  rw [e, pw_half hj, pw_step (Nat.lt_of_le_of_lt (Nat.div_le_self _ _) hk)]
  split
  · rename_i h0
    rw [h0, show 0 / 2 = 0 from rfl, pw_step (by decide), if_pos rfl]
  · first | rfl | rw [if_neg h1]
theorem bl_le64 {k : Nat} (hk : k < 18446744073709551616) : bl k ≤ 64 := by
  by_cases h : k = 0
  · subst h; decide
  · rcases Nat.lt_or_ge 64 (bl k) with h1 | h1
    · have h2 : 2 ^ 64 ≤ 2 ^ (bl k - 1) := Nat.pow_le_pow_right (by decide) (by omega)
      have := (bl_pos h).1
      omega
    · exact h1
end Go.W

/-! Plain: a log replaced; the keys of stores. -/
namespace Go.W
open Go Go.RowKit
def repL (ls : List Lg) (p : Nat) (found : Bool) (l : Lg) : List Lg := bif found then ls.set p l else ls.insertIdx p l
abbrev EK := Int × Dg × List UInt8 × Bool
abbrev LK := Int × List EK
def repK : List LK → Int → List EK → List LK
  | [], f, es => [(f, es)]
  | k :: t, f, es => if k.1 < f then k :: repK t f es else if k.1 = f then (f, es) :: t else (f, es) :: k :: t
theorem Pos.tail {a : Lg} {t : List Lg} {f : Int} {q : Nat} (h : Pos (a :: t) f (q + 1)) : Pos t f q :=
  ⟨by have := h.le; simpa using this, fun j l hj hl => h.lo (j + 1) l (by omega) (by simpa using hl), fun j l hj hl => h.hi (j + 1) l (by omega) (by simpa using hl)⟩
def entK (ks : List LK) (f : Int) : List EK := match ks.find? (fun k => decide (k.1 = f)) with
  | some k => k.2
  | none => []
theorem entF_key (ls : List Lg) (f : Int) : (entF ls f).map En.key = entK (ls.map Lg.key) f := by
  unfold entF entK
  rw [List.find?_map]
  show _ = match Option.map Lg.key (ls.find? (fun l => decide (l.key.1 = f))) with | some k => k.2 | none => []
  rw [show (fun l : Lg => decide (l.key.1 = f)) = fun l => decide (l.fo = f) from rfl]
  cases ls.find? (fun l => decide (l.fo = f)) <;> rfl
/-- Where a digest stands. -/
def idxK (es : List EK) (d : Dg) : Int := match es.findIdx? (fun e => decide (e.2.1 = d)) with | some i => i | none => -1
theorem idx_key (es : List En) (d : Dg) : idxDg es d = idxK (es.map En.key) d := by
  unfold idxDg idxK
  rw [List.findIdx?_map]
  rfl
end Go.W

/-! Plain: Put and Delete. -/
namespace Go.W
open Go Go.RowKit
theorem StOK.zero (H : Froz) : StOK H ⟨0, 0, none, 0, []⟩ := ⟨RdL.nil _ _ _, (fun _ h => (by cases h)), Nat.zero_le _, Nat.zero_le _⟩
noncomputable def putE (s : Sto) (f kind : Int) (bs : List UInt8) : Int := (kept (if openE s f = 0 then (if 1 ≤ kind ∧ kind ≤ 7 then (if 0 ≤ idxDg (entF s.logs f) (digE kind bs) then 0 else if (entF s.logs f).length = 65536 then 2 else 0) else 1) else openE s f)).1
theorem putE_def (s : Sto) (f kind : Int) (bs : List UInt8) : putE s f kind bs = (if openE s f = 0 then (if 1 ≤ kind ∧ kind ≤ 7 then (if 0 ≤ idxDg (entF s.logs f) (digE kind bs) then 0 else if (entF s.logs f).length = 65536 then 2 else 0) else 1) else openE s f) := (kept _).2
noncomputable def putNo (s : Sto) (f kind : Int) (bs : List UInt8) : Int := (kept (if putE s f kind bs = 0 then (if 0 ≤ idxDg (entF s.logs f) (digE kind bs) then idxDg (entF s.logs f) (digE kind bs) + 1 else ((entF s.logs f).length : Int) + 1) else 0)).1
theorem putNo_def (s : Sto) (f kind : Int) (bs : List UInt8) : putNo s f kind bs = (if putE s f kind bs = 0 then (if 0 ≤ idxDg (entF s.logs f) (digE kind bs) then idxDg (entF s.logs f) (digE kind bs) + 1 else ((entF s.logs f).length : Int) + 1) else 0) := (kept _).2
noncomputable def putK (s : Sto) (f kind : Int) (bs : List UInt8) : List LK := if 0 ≤ idxDg (entF s.logs f) (digE kind bs) then s.logs.map Lg.key else repK (s.logs.map Lg.key) f ((entF s.logs f).map En.key ++ [(kind, digE kind bs, bs, false)])
def zSto : Sto := ⟨0, 0, none, 0, []⟩
/-- What Put hands back. -/
def PutR (s : Sto) (f kind : Int) (bs : List UInt8) (s' : Sto) : Prop :=
  (putE s f kind bs = 0 → s'.id = s.id ∧ s'.priv = s.priv ∧ s'.logs.map Lg.key = putK s f kind bs) ∧ (¬ putE s f kind bs = 0 → s' = zSto)
/-- An entry deleted. -/
def En.del (e : En) : En := ⟨e.kind, e.dg, none, 0, 0, [], true⟩
noncomputable def delE (s : Sto) (f no : Int) : Int := (kept (if openE s f = 0 then (if no < 1 ∨ ((entF s.logs f).length : Int) < no then 1 else if (((entF s.logs f)[(no - 1).toNat]?).map En.kind).getD 0 = 4 then 0 else 300) else openE s f)).1
theorem delE_def (s : Sto) (f no : Int) : delE s f no = (if openE s f = 0 then (if no < 1 ∨ ((entF s.logs f).length : Int) < no then 1 else if (((entF s.logs f)[(no - 1).toNat]?).map En.kind).getD 0 = 4 then 0 else 300) else openE s f) := (kept _).2
def delKey (k : EK) : EK := (k.1, k.2.1, [], true)
noncomputable def delK (s : Sto) (f no : Int) : List LK := repK (s.logs.map Lg.key) f (((entF s.logs f).map En.key).modify (no - 1).toNat delKey)
def DelR (s : Sto) (f no : Int) (s' : Sto) : Prop :=
  (delE s f no = 0 → s'.id = s.id ∧ s'.priv = s.priv ∧ s'.logs.map Lg.key = delK s f no) ∧ (¬ delE s f no = 0 → s' = zSto)
theorem bld_en (kind : Int) (d : Dg) (da : Option Addr) (dn dp : Nat) (bs : List UInt8) : bld [(0, 1), (1, 32), (33, 1), (34, 1)] (.int .i64 0 :: (List.replicate 32 (.int .u8 0) ++ [.slice none 0 0, .bool false])) [(0, .int .i64 kind), (1, .agg (dc d).toArray), (2, .slice da dn dp)] = some (En.c ⟨kind, d, da, dn, dp, bs, false⟩) := by
  have h1 : (Value.agg (dc d).toArray).cells.toList = dc d := rfl
  have h2 : ∀ (x : Value) (y : List Value), spl (.int .i64 0 :: y) 0 [x] = x :: y := fun x y => rfl
  have h3 : ∀ (x a b : Value), spl (x :: (List.replicate 32 (Value.int .u8 0) ++ [a, b])) 1 (dc d) = x :: (dc d ++ [a, b]) := fun x a b => by
    unfold spl
    rw [dc_length]
    rfl
  have h4 : ∀ (x a b y : Value), spl (x :: (dc d ++ [a, b])) 33 [y] = x :: (dc d ++ [y, b]) := fun x a b y => by
    rw [spl_set _ _ _ (by simp [dc_length]), show (33 : Nat) = 32 + 1 from rfl, List.set_cons_succ, List.set_append_right _ _ (by rw [dc_length]; exact Nat.le_refl _), dc_length]
    rfl
  simp only [bld, List.getElem?_cons_zero, List.getElem?_cons_succ]
  rw [if_pos ⟨rfl, by simp⟩, show (Value.int IntKind.i64 kind).cells.toList = [.int .i64 kind] from rfl, h2, h1, if_pos ⟨dc_length d, by simp⟩, h3, if_pos ⟨rfl, by simp [dc_length]⟩, show (Value.slice da dn dp).cells.toList = [.slice da dn dp] from rfl, h4]
  rfl
theorem enE_snoc (es : List En) (e : En) : (enE (es ++ [e])).flatten = (enE es).flatten ++ [e.c].flatten := by simp [enE]
end Go.W

/-! Plain: Sign. -/
namespace Go.W
open Go Go.RowKit
/-- What the digests' iterator yields. -/
def dgY (ds : List Dg) (j : Nat) : List Value := match ds[j]? with
  | some d => [.agg (dc d).toArray]
  | none => []
theorem dgY_at {ds : List Dg} {j : Nat} {d : Dg} (h : ds[j]? = some d) : dgY ds j = [.agg (dc d).toArray] := by unfold dgY; rw [h]
theorem dgY_len {ds : List Dg} {j : Nat} (h : j < ds.length) : (dgY ds j).length = 1 := by rw [dgY_at (d := ds[j]) (by simp)]; rfl
theorem dgE_snoc {ds : List Dg} {j : Nat} {d : Dg} (h : ds[j]? = some d) : (dgE (ds.take (j + 1))).flatten = (dgE (ds.take j)).flatten ++ [dc d].flatten := by
  obtain ⟨hj, he⟩ := List.getElem?_eq_some_iff.1 h
  rw [List.take_succ_eq_append_getElem hj, he]
  simp [dgE]
theorem RdL.of_dg {H : Froz} {a : Option Addr} {ds : List Dg} (h : RdS H a ds.length 32 (dgE ds).flatten) : RdL H a 32 (dgE ds) :=
  ⟨by rw [show (dgE ds).length = ds.length by simp [dgE]]; exact h, fun x hx => by obtain ⟨e, _, rfl⟩ := List.mem_map.1 hx; exact dc_length e⟩
noncomputable def signE (s : Sto) (f : Int) (n : Nat) : Int := (kept (if openE s f = 0 then (if 65536 < n then 1 else 0) else openE s f)).1
theorem signE_def (s : Sto) (f : Int) (n : Nat) : signE s f n = (if openE s f = 0 then (if 65536 < n then 1 else 0) else openE s f) := (kept _).2
noncomputable def headU (s : Sto) (f : Int) (ds : List Dg) : Hd := ⟨s.id, f, (ds.length : Int), chainN f ds, 0, 0⟩
noncomputable def headN (s : Sto) (f : Int) (ds : List Dg) : Hd := { headU s f ds with R := (sigP s.priv (msgN (headU s f ds)).l).1.1, S := (sigP s.priv (msgN (headU s f ds)).l).1.2 }
def zDg : Dg := ⟨List.replicate 32 0, by simp⟩
def zHd : Hd := ⟨0, 0, 0, zDg, 0, 0⟩
noncomputable def signH (s : Sto) (f : Int) (ds : List Dg) : Hd := (kept (if signE s f ds.length = 0 then headN s f ds else zHd)).1
theorem signH_def (s : Sto) (f : Int) (ds : List Dg) : signH s f ds = (if signE s f ds.length = 0 then headN s f ds else zHd) := (kept _).2
theorem bld_hd (st fo no : Int) (d : Dg) : bld [(0, 1), (1, 1), (2, 1), (3, 32), (35, 2)] (.int .i64 0 :: .int .i64 0 :: .int .i64 0 :: (List.replicate 32 (.int .u8 0) ++ [.int .i64 0, .int .i64 0])) [(0, .int .i64 st), (1, .int .i64 fo), (2, .int .i64 no), (3, .agg (dc d).toArray)] = some (Hd.c ⟨st, fo, no, d, 0, 0⟩) := by
  have h1 : (Value.agg (dc d).toArray).cells.toList = dc d := rfl
  have hi : ∀ n : Int, (Value.int IntKind.i64 n).cells.toList = [.int .i64 n] := fun n => rfl
  have h2 : ∀ (a x : Value) (y : List Value), spl (a :: y) 0 [x] = x :: y := fun a x y => rfl
  have h3 : ∀ (a b x : Value) (y : List Value), spl (a :: b :: y) 1 [x] = a :: x :: y := fun a b x y => rfl
  have h4 : ∀ (a b c x : Value) (y : List Value), spl (a :: b :: c :: y) 2 [x] = a :: b :: x :: y := fun a b c x y => rfl
  have h5 : ∀ (x y z a b : Value), spl (x :: y :: z :: (List.replicate 32 (Value.int .u8 0) ++ [a, b])) 3 (dc d) = x :: y :: z :: (dc d ++ [a, b]) := fun x y z a b => by
    unfold spl
    rw [dc_length]
    rfl
  simp only [bld, List.getElem?_cons_zero, List.getElem?_cons_succ]
  rw [hi st, hi fo, hi no, h1, h2, h3, h4, h5, if_pos ⟨rfl, by simp⟩, if_pos ⟨rfl, by simp⟩, if_pos ⟨rfl, by simp⟩, if_pos ⟨dc_length d, by simp⟩]
  rfl
theorem Hd.set_sig (h : Hd) (R S : Int) : spl h.c 35 [.int .i64 R, .int .i64 S] = Hd.c ⟨h.st, h.fo, h.no, h.ch, R, S⟩ := by
  unfold spl Hd.c
  rw [show (35 : Nat) = 32 + 1 + 1 + 1 from rfl, List.take_succ_cons, List.take_succ_cons, List.take_succ_cons, List.take_append_of_le_length (by rw [dc_length]; exact Nat.le_refl _), List.take_of_length_le (by rw [dc_length]; exact Nat.le_refl _)]
  rw [List.drop_of_length_le (by simp [dc_length])]
  simp
end Go.W

/-! Plain: what is signed verifies. -/
namespace Go.W
open Go Go.RowKit
theorem pw4Q : pw 4 QN = 1 := by rw [pw_def]; decide +kernel
theorem pow4 (Q : Nat) (h : Q = 2305843009213688669) : 4 ^ Q % PN = 1 := by
  rw [← pw_spec (by omega), h]; exact pw4Q
theorem pow_ord {Q : Nat} (h : 4 ^ Q % PN = 1) (n : Nat) : 4 ^ (n % Q) % PN = 4 ^ n % PN := by
  have e : 4 ^ n = (4 ^ Q) ^ (n / Q) * 4 ^ (n % Q) := by rw [← Nat.pow_mul, ← Nat.pow_add, Nat.div_add_mod]
  rw [e, Nat.mul_mod, Nat.pow_mod (4 ^ Q), h, Nat.one_pow, show 1 % PN = 1 from rfl, Nat.one_mul, Nat.mod_mod]
theorem inG_pw {k : Nat} (hk : k < 2 ^ 64) : inG (pw 4 k : Int) = true := by
  obtain ⟨Q, hQ⟩ : ∃ Q, Q = 2305843009213688669 := ⟨_, rfl⟩
  have h4 := pow4 Q hQ
  have h1 : pw (pw 4 k) Q = 1 := by
    rw [pw_spec (by omega), pw_spec hk, ← Nat.pow_mod, ← Nat.pow_mul, Nat.mul_comm, Nat.pow_mul, Nat.pow_mod, h4, Nat.one_pow]; rfl
  have h2 : 1 ≤ pw 4 k := by
    rcases Nat.eq_zero_or_pos (pw 4 k) with h0 | h0
    · rw [h0, pw_spec (by omega), Nat.zero_pow (by omega)] at h1
      cases h1
    · exact h0
  have h3 := pw_lt 4 k
  rw [inG_mid (by omega) (by show (pw 4 k : Int) < ((PN : Nat) : Int); omega), Int.toNat_natCast]
  show decide (pw (pw 4 k) 2305843009213688669 = 1) = true
  rw [← hQ, h1]; rfl
theorem base_nat {k : Nat} (hk : k < 2305843009213688669) : baseP (k : Int) = ((pw 4 k : Int), 0) := by
  rw [baseP_def, if_pos (by omega), Int.toNat_natCast]
theorem badQ_nat {k : Nat} (hk : k < 2305843009213688669) : badQ (k : Int) = false := by
  unfold badQ
  rw [(kept _).2]
  exact decide_eq_false (by omega)
theorem sig_ok {x : Int} (hx : keyOk x = true) (msg : List UInt8) : verP (pubP x).1 msg (sigP x msg).1.1 (sigP x msg).1.2 = true ∧ (sigP x msg).2 = 0 := by
  rw [keyOk_def, decide_eq_true_eq] at hx
  obtain ⟨n, rfl⟩ : ∃ n : Nat, x = n := ⟨x.toNat, by omega⟩
  have hn : n < 2305843009213688669 := by omega
  obtain ⟨k, hk⟩ : ∃ k, k = hashN tNonce msg [(n : Int)] := ⟨_, rfl⟩
  have hkr := hashN_range tNonce msg [(n : Int)]
  rw [← hk] at hkr
  have hbn := base_nat hn
  have hbk := base_nat (k := k) hkr.2
  obtain ⟨c, hc⟩ : ∃ c, c = hashN tSign msg [(pw 4 k : Int), (pw 4 n : Int)] := ⟨_, rfl⟩
  have hcr := hashN_range tSign msg [(pw 4 k : Int), (pw 4 n : Int)]
  rw [← hc] at hcr
  obtain ⟨Q, hQ⟩ : ∃ Q, Q = 2305843009213688669 := ⟨_, rfl⟩
  have h4 : 4 ^ Q % PN = 1 := pow4 Q hQ
  have hR : sigR n msg = (pw 4 k : Int) := by unfold sigR; rw [← hk, hbk]
  have hM : sigM n msg = ((c * n % Q : Nat) : Int) := by
    unfold sigM
    rw [hR, hbn]
    show (fMulP (hashN tSign msg [(pw 4 k : Int), (pw 4 n : Int)]) n).1 = _
    rw [← hc, fMulP_def, badQ_nat hcr.2, badQ_nat hn, if_neg (by simp), hQ]
    show (c : Int) * n % 2305843009213688669 = _
    omega
  have hml : c * n % Q < 2305843009213688669 := by rw [hQ]; exact Nat.mod_lt _ (by decide)
  have hS : fAddP k (sigM n msg) = ((((k + c * n % Q) % Q : Nat) : Int), 0) := by
    rw [hM, fAddP_def, badQ_nat hkr.2, badQ_nat hml, if_neg (by simp)]
    generalize c * n % Q = m at *
    subst hQ
    rw [show ((k : Int) + (m : Int)) % 2305843009213688669 = (((k + m) % 2305843009213688669 : Nat) : Int) by omega]
  have hs : sigP n msg = (((pw 4 k : Int), (((k + c * n % Q) % Q : Nat) : Int)), 0) := by
    unfold sigP
    rw [keyOk_def, decide_eq_true hx, ← hk, hS, hR]
    rfl
  have hp : (pubP n).1 = (pw 4 n : Int) := by rw [pubP_yes hx, hbn]
  rw [hs, hp]
  refine ⟨?_, rfl⟩
  show verP (pw 4 n : Int) msg (pw 4 k : Int) (((k + c * n % Q) % Q : Nat) : Int) = true
  have hSl : (k + c * n % Q) % Q < 2305843009213688669 := by rw [hQ]; exact Nat.mod_lt _ (by decide)
  unfold verP
  rw [inG_pw (by omega), inG_pw (by omega), badQ_nat hSl, base_nat hSl, ← hc, expP_def, inG_pw (by omega)]
  simp only [Bool.true_and, Bool.not_false]
  rw [if_pos trivial, if_pos (by omega)]
  simp only [Int.toNat_natCast]
  have hi : inG ((pw (pw 4 n) c : Nat) : Int) = true := by
    have e : pw (pw 4 n) c = pw 4 (n * c % Q) := by
      rw [pw_spec (by omega), pw_spec (by omega), pw_spec (by have : n * c % Q < 2305843009213688669 := (by rw [hQ]; exact Nat.mod_lt _ (by decide)); omega), ← Nat.pow_mod, ← Nat.pow_mul, pow_ord h4]
    rw [e]
    exact inG_pw (by have : n * c % Q < 2305843009213688669 := (by rw [hQ]; exact Nat.mod_lt _ (by decide)); omega)
  apply decide_eq_true
  rw [mulP_def, inG_pw (by omega), hi, if_pos ⟨rfl, rfl⟩]
  simp only [Int.toNat_natCast]
  have e : pw 4 ((k + c * n % Q) % Q) = pw 4 k * pw (pw 4 n) c % 4611686018427377339 := by
    rw [pw_spec (by omega), pw_spec (k := k) (by omega), pw_spec (k := c) (by omega), pw_spec (k := n) (by omega), pow_ord h4]
    rw [← Nat.pow_mod, ← Nat.pow_mul]
    show _ = (4 ^ k % PN) * (4 ^ (n * c) % PN) % PN
    rw [← Nat.mul_mod, ← Nat.pow_add, ← pow_ord h4 (k + c * n % Q), ← pow_ord h4 (k + n * c), Nat.mul_comm n c]
    congr 2
    rw [Nat.add_mod, Nat.mod_mod, ← Nat.add_mod]
  rw [e]
end Go.W

/-! Plain: stores by their keys. -/
namespace Go.W
open Go Go.RowKit
def okK (e : EK) : Prop := (e.2.2.2 = true ∧ e.1 = 4 ∧ e.2.2.1 = []) ∨ (e.2.2.2 = false ∧ (1 ≤ e.1 ∧ e.1 ≤ 7) ∧ e.2.1 = digE e.1 e.2.2.1)
/-- The entries of a log, or of none. -/
structure VL (es : List EK) : Prop where
  ok : ∀ e ∈ es, okK e
  nd : (es.map (·.2.1)).Nodup
  le : es.length ≤ 65536
structure VK (ks : List LK) : Prop where
  srt : ks.Pairwise (fun a b => a.1 < b.1)
  rng : ∀ k ∈ ks, 0 ≤ k.1 ∧ k.1 < 16
  fine : ∀ k ∈ ks, VL k.2
  pos : ∀ k ∈ ks, 0 < k.2.length
theorem dn_bs {H : Froz} {e : En} (h : RdS H e.da e.dn 1 (bc e.bs)) : e.dn = e.bs.length := by have := h.len; rw [bc_length] at this; omega
theorem okE_key {H : Froz} {e : En} (h : RdS H e.da e.dn 1 (bc e.bs)) : okE e = true ↔ okK e.key := by
  have hd := dn_bs h
  unfold okE okK En.key
  cases hg : e.gone with
  | true =>
    simp only [if_true, decide_eq_true_eq, true_and, Bool.true_eq_false, false_and, or_false]
    rw [hd]
    exact ⟨fun q => ⟨q.1, List.eq_nil_of_length_eq_zero q.2⟩, fun q => ⟨q.1, by rw [q.2]; rfl⟩⟩
  | false => simp
theorem fineN_key {H : Froz} {es : List En} (ho : EnsOK H es) : fineN es = true ↔ VL (es.map En.key) ∧ 0 < es.length := by
  have h1 : es.all okE = true ↔ ∀ e ∈ es.map En.key, okK e := by
    rw [List.all_eq_true]
    constructor
    · intro h e he
      obtain ⟨x, hx, rfl⟩ := List.mem_map.1 he
      exact (okE_key (ho x hx).1).1 (h x hx)
    · intro h x hx
      exact (okE_key (ho x hx).1).2 (h _ (List.mem_map.2 ⟨x, hx, rfl⟩))
  have h2 : (es.map En.dg) = (es.map En.key).map (·.2.1) := by rw [List.map_map]; rfl
  unfold fineN
  rw [Bool.and_eq_true, Bool.and_eq_true, h1, decide_eq_true_eq, decide_eq_true_eq, h2]
  exact ⟨fun h => ⟨⟨h.1.1, h.1.2, by rw [List.length_map]; exact h.2.2⟩, h.2.1⟩, fun h => ⟨⟨h.1.ok, h.1.nd⟩, h.2, by have := h.1.le; rwa [List.length_map] at this⟩⟩
theorem logsN_key {H : Froz} {ls : List Lg} (ho : ∀ l ∈ ls, LgOK H l) : logsN ls = true ↔ VK (ls.map Lg.key) := by
  constructor
  · intro h
    have hs := sorted_of h
    have hb : ∀ l ∈ ls, (0 ≤ l.fo ∧ l.fo < 16) ∧ fineN l.es = true := fun l hl => by
      obtain ⟨j, hj⟩ := List.mem_iff_getElem?.1 hl
      have hjl := (List.getElem?_eq_some_iff.1 hj).1
      unfold logsN at h
      have h1 := List.all_eq_true.1 h j (List.mem_range.2 hjl)
      rw [lgB_eq hj] at h1
      simp only [Bool.and_eq_true, decide_eq_true_eq] at h1
      exact ⟨h1.1.1, h1.2⟩
    refine ⟨?_, fun k hk => ?_, fun k hk => ?_, fun k hk => ?_⟩
    · rw [List.pairwise_iff_getElem]
      intro i j hi hj hij
      rw [List.length_map] at hi hj
      rw [List.getElem_map, List.getElem_map]
      exact hs i j _ _ hij (List.getElem?_eq_getElem hi) (List.getElem?_eq_getElem hj)
    · obtain ⟨l, hl, rfl⟩ := List.mem_map.1 hk; exact (hb l hl).1
    · obtain ⟨l, hl, rfl⟩ := List.mem_map.1 hk; exact ((fineN_key (ho l hl).en).1 (hb l hl).2).1
    · obtain ⟨l, hl, rfl⟩ := List.mem_map.1 hk; have := ((fineN_key (ho l hl).en).1 (hb l hl).2).2; show 0 < (l.es.map En.key).length; rw [List.length_map]; exact this
  · intro h
    apply logsN_yes
    intro j hj
    have hjm : ls[j] ∈ ls := List.getElem_mem hj
    have hkm : ls[j].key ∈ ls.map Lg.key := List.mem_map.2 ⟨_, hjm, rfl⟩
    refine lgB_ok (List.getElem?_eq_getElem hj) (h.rng _ hkm) ?_ ((fineN_key (ho _ hjm).en).2 ⟨h.fine _ hkm, by have := h.pos _ hkm; simpa [Lg.key] using this⟩)
    rcases Nat.eq_zero_or_pos j with h0 | h0
    · exact .inl h0
    · refine .inr ?_
      have h1 : ls[j - 1]? = some (ls[j - 1]'(by omega)) := List.getElem?_eq_getElem _
      rw [h1]
      have := List.pairwise_iff_getElem.1 h.srt (j - 1) j (by rw [List.length_map]; omega) (by rw [List.length_map]; exact hj) (by omega)
      rw [List.getElem_map, List.getElem_map] at this
      exact this
theorem checkN_key {H : Froz} {s : Sto} (ho : StOK H s) : checkN s = 0 ↔ (newP s.id s.priv).2.2 = 0 ∧ VK (s.logs.map Lg.key) := by
  rw [checkN_def, ← logsN_key ho.lg]
  constructor
  · intro h
    split at h
    · rename_i h1; exact h1
    · cases h
  · intro h; rw [if_pos h]
theorem entK_cons (k : LK) (t : List LK) (f : Int) : entK (k :: t) f = if k.1 = f then k.2 else entK t f := by
  unfold entK
  rw [List.find?_cons]
  by_cases h : k.1 = f <;> simp [h]
theorem entK_rep (f : Int) (es : List EK) : ∀ ks : List LK, entK (repK ks f es) f = es
  | [] => by simp [repK, entK_cons]
  | k :: t => by
    simp only [repK]
    split
    · rename_i h; rw [entK_cons, if_neg (by omega)]; exact entK_rep f es t
    · split <;> rw [entK_cons, if_pos rfl]
theorem repK_mem (f : Int) (es : List EK) : ∀ (ks : List LK) (x : LK), x ∈ repK ks f es → x = (f, es) ∨ x ∈ ks
  | [], x, h => by simp only [repK, List.mem_singleton] at h; exact .inl h
  | k :: t, x, h => by
    simp only [repK] at h
    split at h
    · rcases List.mem_cons.1 h with h | h
      · exact .inr (h ▸ List.mem_cons_self)
      · rcases repK_mem f es t x h with h | h
        · exact .inl h
        · exact .inr (List.mem_cons_of_mem _ h)
    · split at h
      · rcases List.mem_cons.1 h with h | h
        · exact .inl h
        · exact .inr (List.mem_cons_of_mem _ h)
      · rcases List.mem_cons.1 h with h | h
        · exact .inl h
        · exact .inr h
theorem repK_srt (f : Int) (es : List EK) : ∀ (ks : List LK), ks.Pairwise (fun a b => a.1 < b.1) → (repK ks f es).Pairwise (fun a b => a.1 < b.1)
  | [], _ => by simp [repK]
  | k :: t, h => by
    have h1 := List.pairwise_cons.1 h
    simp only [repK]
    split
    · rename_i hk
      refine List.pairwise_cons.2 ⟨fun x hx => ?_, repK_srt f es t h1.2⟩
      rcases repK_mem f es t x hx with rfl | hx
      · exact hk
      · exact h1.1 x hx
    · split
      · rename_i hk he
        refine List.pairwise_cons.2 ⟨fun x hx => ?_, h1.2⟩
        have := h1.1 x hx
        show f < x.1
        omega
      · rename_i hk he
        refine List.pairwise_cons.2 ⟨fun x hx => ?_, h⟩
        show f < x.1
        rcases List.mem_cons.1 hx with rfl | hx
        · omega
        · have := h1.1 x hx; omega
theorem VK.rep {ks : List LK} {f : Int} {es : List EK} (h : VK ks) (hf : 0 ≤ f ∧ f < 16) (he : VL es) (hp : 0 < es.length) : VK (repK ks f es) where
  srt := repK_srt f es ks h.srt
  rng k hk := by rcases repK_mem f es ks k hk with rfl | hk; exact hf; exact h.rng k hk
  fine k hk := by rcases repK_mem f es ks k hk with rfl | hk; exact he; exact h.fine k hk
  pos k hk := by rcases repK_mem f es ks k hk with rfl | hk; exact hp; exact h.pos k hk
theorem VL.nil : VL [] := ⟨fun _ h => (by cases h), List.nodup_nil, Nat.zero_le _⟩
theorem VK.nil : VK [] := ⟨List.Pairwise.nil, fun _ h => (by cases h), fun _ h => (by cases h), fun _ h => (by cases h)⟩
theorem VK.ent {ks : List LK} (h : VK ks) (f : Int) : VL (entK ks f) := by
  unfold entK
  cases hf : ks.find? (fun k => decide (k.1 = f)) with
  | none => exact VL.nil
  | some k => exact h.fine k (List.mem_of_find?_eq_some hf)
theorem idxK_no {es : List EK} {d : Dg} (h : ¬ 0 ≤ idxK es d) : d ∉ es.map (·.2.1) := by
  unfold idxK at h
  cases hf : es.findIdx? (fun e => decide (e.2.1 = d)) with
  | some i => rw [hf] at h; exact absurd (Int.natCast_nonneg i) h
  | none =>
    intro hm
    obtain ⟨e, he, hd⟩ := List.mem_map.1 hm
    have := List.findIdx?_eq_none_iff.1 hf e he
    simp [hd] at this
theorem idxK_yes {es : List EK} {d : Dg} (h : 0 ≤ idxK es d) : ∃ (i : Nat) (e : EK), idxK es d = i ∧ es[i]? = some e ∧ e.2.1 = d := by
  unfold idxK at *
  cases hf : es.findIdx? (fun e => decide (e.2.1 = d)) with
  | none => rw [hf] at h; exact absurd h (by decide)
  | some i =>
    obtain ⟨h1, h2, _⟩ := List.findIdx?_eq_some_iff_getElem.1 hf
    exact ⟨i, es[i], rfl, List.getElem?_eq_getElem h1, by simpa using h2⟩
theorem idxK_snoc {es : List EK} {d : Dg} {e : EK} (h : ¬ 0 ≤ idxK es d) (he : e.2.1 = d) : idxK (es ++ [e]) d = es.length := by
  have hn := idxK_no h
  have : (es ++ [e]).findIdx? (fun e => decide (e.2.1 = d)) = some es.length := by
    rw [List.findIdx?_append]
    have : es.findIdx? (fun e => decide (e.2.1 = d)) = none := List.findIdx?_eq_none_iff.2 fun x hx => by
      have : ¬ x.2.1 = d := fun q => hn (List.mem_map.2 ⟨x, hx, q⟩)
      simp [this]
    rw [this]
    simp [he]
  unfold idxK
  rw [this]
theorem VL.put {es : List EK} {kind : Int} {bs : List UInt8} (h : VL es) (hk : 1 ≤ kind ∧ kind ≤ 7) (hi : ¬ 0 ≤ idxK es (digE kind bs)) (hl : ¬ es.length = 65536) : VL (es ++ [(kind, digE kind bs, bs, false)]) where
  ok e he := by
    rcases List.mem_append.1 he with he | he
    · exact h.ok e he
    · rw [List.mem_singleton.1 he]; exact .inr ⟨rfl, hk, rfl⟩
  nd := by
    rw [List.map_append, List.nodup_append]
    refine ⟨h.nd, by simp, fun a ha b hb => ?_⟩
    simp only [List.map_cons, List.map_nil, List.mem_singleton] at hb
    rw [hb]
    rintro rfl
    exact idxK_no hi ha
  le := by have := h.le; rw [List.length_append]; show es.length + 1 ≤ _; omega
theorem map_modify_dg (es : List EK) (i : Nat) : (es.modify i delKey).map (fun e : EK => e.2.1) = es.map (fun e : EK => e.2.1) := by
  apply List.ext_getElem?
  intro j
  rw [List.getElem?_map, List.getElem?_map, List.getElem?_modify]
  cases es[j]? with
  | none => rfl
  | some x => by_cases h : i = j <;> simp [h, delKey]
theorem VL.del {es : List EK} {i : Nat} {e : EK} (h : VL es) (hi : es[i]? = some e) (he : e.1 = 4) : VL (es.modify i delKey) where
  ok x hx := by
    obtain ⟨j, hj⟩ := List.mem_iff_getElem?.1 hx
    rw [List.getElem?_modify] at hj
    by_cases hij : i = j
    · subst hij
      rw [hi] at hj
      simp only [if_true, Option.map_eq_map, Option.map_some, Option.some.injEq] at hj
      rw [← hj]
      exact .inl ⟨rfl, he, rfl⟩
    · cases hx2 : es[j]? with
      | none => rw [hx2] at hj; cases hj
      | some y =>
        rw [hx2] at hj
        simp only [hij, if_false, Option.map_eq_map, Option.map_some, Option.some.injEq] at hj
        rw [← show y = x from hj]
        exact h.ok y (List.mem_of_getElem? hx2)
  nd := by rw [map_modify_dg]; exact h.nd
  le := by rw [List.length_modify]; exact h.le
end Go.W

/-! Plain: what the layer's functions do to a good store. -/
namespace Go.W
open Go Go.RowKit
structure GoodS (H : Froz) (s : Sto) (id priv : Int) (ks : List LK) : Prop where
  ok : StOK H s
  hid : s.id = id
  hpriv : s.priv = priv
  new : (newP id priv).2.2 = 0
  keys : s.logs.map Lg.key = ks
  vk : VK ks
theorem GoodS.mono {H H' : Froz} {s : Sto} {id priv : Int} {ks : List LK} (h : GoodS H s id priv ks) (hle : Le H H') : GoodS H' s id priv ks := ⟨h.ok.mono hle, h.hid, h.hpriv, h.new, h.keys, h.vk⟩
section
variable {H H' : Froz} {s s' : Sto} {id priv f kind no fr : Int} {ks : List LK} {bs : List UInt8}
theorem GoodS.check (h : GoodS H s id priv ks) : checkN s = 0 := (checkN_key h.ok).2 ⟨by rw [h.hid, h.hpriv]; exact h.new, by rw [h.keys]; exact h.vk⟩
theorem GoodS.open_ (h : GoodS H s id priv ks) (f : Int) : openE s f = if 0 ≤ f ∧ f < 16 then 0 else 1 := by rw [openE_def, if_pos h.check]
theorem GoodS.ent (h : GoodS H s id priv ks) (f : Int) : (entF s.logs f).map En.key = entK ks f := by rw [entF_key, h.keys]
theorem GoodS.entLen (h : GoodS H s id priv ks) (f : Int) : (entF s.logs f).length = (entK ks f).length := by rw [← h.ent, List.length_map]
theorem GoodS.idx (h : GoodS H s id priv ks) (f : Int) (d : Dg) : idxDg (entF s.logs f) d = idxK (entK ks f) d := by rw [idx_key, h.ent]
noncomputable def putEK (ks : List LK) (f kind : Int) (bs : List UInt8) : Int := if 0 ≤ f ∧ f < 16 then (if 1 ≤ kind ∧ kind ≤ 7 then (if 0 ≤ idxK (entK ks f) (digE kind bs) then 0 else if (entK ks f).length = 65536 then 2 else 0) else 1) else 1
noncomputable def putNK (ks : List LK) (f kind : Int) (bs : List UInt8) : Int := if putEK ks f kind bs = 0 then (if 0 ≤ idxK (entK ks f) (digE kind bs) then idxK (entK ks f) (digE kind bs) + 1 else ((entK ks f).length : Int) + 1) else 0
noncomputable def putKK (ks : List LK) (f kind : Int) (bs : List UInt8) : List LK := if 0 ≤ idxK (entK ks f) (digE kind bs) then ks else repK ks f (entK ks f ++ [(kind, digE kind bs, bs, false)])
theorem GoodS.putE (h : GoodS H s id priv ks) : putE s f kind bs = putEK ks f kind bs := by
  rw [putE_def, h.open_, h.idx, h.entLen]
  unfold putEK
  by_cases hf : 0 ≤ f ∧ f < 16
  · rw [if_pos hf, if_pos rfl, if_pos hf]
  · rw [if_neg hf, if_neg (by decide), if_neg hf]
theorem GoodS.putNo (h : GoodS H s id priv ks) : putNo s f kind bs = putNK ks f kind bs := by rw [putNo_def, h.putE, h.idx, h.entLen]; rfl
theorem GoodS.put (h : GoodS H s id priv ks) (hok : StOK H' s') (hR : PutR s f kind bs s') (he : putEK ks f kind bs = 0) : GoodS H' s' id priv (putKK ks f kind bs) := by
  obtain ⟨h1, h2, h3⟩ := hR.1 (h.putE.trans he)
  refine ⟨hok, h1.trans h.hid, h2.trans h.hpriv, h.new, ?_, ?_⟩
  · rw [h3]; unfold putK putKK; rw [h.idx, h.ent, h.keys]
  · unfold putEK at he
    split at he
    · rename_i hf
      split at he
      · rename_i hk
        unfold putKK
        split
        · exact h.vk
        · rename_i hi
          rw [if_neg hi] at he
          split at he
          · cases he
          · rename_i hl
            exact h.vk.rep hf ((h.vk.ent f).put hk hi hl) (by rw [List.length_append]; exact Nat.succ_pos _)
      · cases he
    · cases he
noncomputable def delEK (ks : List LK) (f no : Int) : Int := if 0 ≤ f ∧ f < 16 then (if no < 1 ∨ ((entK ks f).length : Int) < no then 1 else if (((entK ks f)[(no - 1).toNat]?).map (·.1)).getD 0 = 4 then 0 else 300) else 1
def delKK (ks : List LK) (f no : Int) : List LK := repK ks f ((entK ks f).modify (no - 1).toNat delKey)
theorem GoodS.delE (h : GoodS H s id priv ks) : delE s f no = delEK ks f no := by
  have e : (((entF s.logs f)[(no - 1).toNat]?).map En.kind) = ((entK ks f)[(no - 1).toNat]?).map (·.1) := by
    rw [← h.ent, List.getElem?_map, Option.map_map]; rfl
  rw [delE_def, h.open_, h.entLen, e]
  unfold delEK
  by_cases hf : 0 ≤ f ∧ f < 16
  · rw [if_pos hf, if_pos rfl, if_pos hf]
  · rw [if_neg hf, if_neg (by decide), if_neg hf]
theorem GoodS.del (h : GoodS H s id priv ks) (hok : StOK H' s') (hR : DelR s f no s') (he : delEK ks f no = 0) : GoodS H' s' id priv (delKK ks f no) := by
  obtain ⟨h1, h2, h3⟩ := hR.1 (h.delE.trans he)
  refine ⟨hok, h1.trans h.hid, h2.trans h.hpriv, h.new, ?_, ?_⟩
  · rw [h3]; unfold delK delKK; rw [h.ent, h.keys]
  · unfold delEK at he
    split at he
    · rename_i hf
      split at he
      · cases he
      · rename_i hn
        split at he
        · rename_i h4
          have hlt : (no - 1).toNat < (entK ks f).length := by omega
          have hg := List.getElem?_eq_getElem hlt
          rw [hg] at h4
          exact h.vk.rep hf ((h.vk.ent f).del hg h4) (by rw [List.length_modify]; omega)
        · cases he
    · cases he
noncomputable def fetchEK (ks : List LK) (f fr : Int) : Int := if 0 ≤ f ∧ f < 16 then (if fr < 1 ∨ ((entK ks f).length : Int) + 1 < fr then 1 else 0) else 1
noncomputable def fetchLK (ks : List LK) (f fr : Int) : List EK := if fetchEK ks f fr = 0 then (entK ks f).drop (fr - 1).toNat else []
theorem GoodS.fetchE (h : GoodS H s id priv ks) : fetchE s f fr = fetchEK ks f fr := by
  rw [fetchE_def, h.open_, h.entLen]
  unfold fetchEK
  by_cases hf : 0 ≤ f ∧ f < 16
  · rw [if_pos hf, if_pos rfl, if_pos hf]
  · rw [if_neg hf, if_neg (by decide), if_neg hf]
theorem GoodS.fetchL (h : GoodS H s id priv ks) : (W.fetchL s f fr).map En.key = fetchLK ks f fr := by
  unfold W.fetchL fetchLK
  rw [h.fetchE]
  split
  · rw [List.map_drop, h.ent]
  · rfl
theorem GoodS.signE (h : GoodS H s id priv ks) (n : Nat) : signE s f n = if 0 ≤ f ∧ f < 16 then (if 65536 < n then 1 else 0) else 1 := by
  rw [signE_def, h.open_]
  by_cases hf : 0 ≤ f ∧ f < 16
  · rw [if_pos hf, if_pos rfl, if_pos hf]
  · rw [if_neg hf, if_neg (by decide), if_neg hf]
theorem GoodS.same {H2 : Froz} {t : Sto} {id2 priv2 : Int} {ks2 : List LK} (h : GoodS H s id priv ks) (h2 : GoodS H2 t id2 priv2 ks2) (e1 : id = id2) (e2 : priv = priv2) (e3 : ks = ks2) : sameSt s t = true :=
  @decide_eq_true _ (Classical.propDecidable _) ⟨by rw [h.hid, h2.hid, e1], by rw [h.hpriv, h2.hpriv, e2], by rw [h.keys, h2.keys, e3]⟩
theorem GoodS.new_ {H : Froz} (id priv : Int) (hn : (newP id priv).2.2 = 0) : GoodS H ⟨id, priv, none, 0, []⟩ id priv [] := ⟨⟨RdL.nil _ _ _, (fun _ h => (by cases h)), Nat.zero_le _, Nat.zero_le _⟩, rfl, rfl, hn, rfl, VK.nil⟩
/-- A head that a good store signs verifies. -/
theorem GoodS.head {ds : List Dg} (h : GoodS H s id priv ks) (hp : keyOk priv = true) (hid : 0 ≤ id ∧ id < 4) (hf : 0 ≤ f ∧ f < 16) (hl : ds.length ≤ 65536) : verS (pubP priv).1 (signH s f ds) = true := by
  have he : W.signE s f ds.length = 0 := by rw [h.signE, if_pos hf, if_neg (by omega)]
  rw [signH_def, if_pos he]
  have h1 : (headN s f ds).st = s.id := rfl
  have h2 : (headN s f ds).fo = f := rfl
  have h3 : (headN s f ds).no = (ds.length : Int) := rfl
  rw [verS_yes (by rw [h1, h.hid]; exact hid) (by rw [h2]; exact hf) (by rw [h3]; omega)]
  have := (sig_ok hp (msgN (headU s f ds)).l).1
  rw [← h.hpriv] at this
  exact h.hpriv ▸ this
end
/-! ### the chapter's examples -/
theorem keyOk_mid {x : Int} (h : 1 ≤ x ∧ x < 2305843009213688669) : keyOk x = true := by rw [keyOk_def]; exact decide_eq_true h
noncomputable abbrev saneD : Dg := digE 4 [97]
noncomputable abbrev ks1 : List LK := [(3, [(4, saneD, [97], false)])]
noncomputable abbrev ks2 : List LK := [(3, [(4, saneD, [], true)])]
end Go.W

/-! From a row's reading to what a walk asks; from a walk's end to a row's post. -/
namespace Go.W
open Go Go.RowKit Go.ChangeShapes
/-- All that was there is frozen. -/
abbrev HW (w : World) : Froz := fun k => w.heap[k]?
theorem HW.fz (w : World) : Fz (HW w) w := fun _ _ h => h
theorem HW.cell {w : World} {b o : Nat} {v : Value} (h : w.cell? ⟨b, o, none⟩ = some v) : hcell (HW w) b o = some v := by
  unfold World.cell? at h
  unfold hcell
  cases hb : w.heap[b]? with
  | none => simp [hb] at h
  | some o' => cases o' <;> simp_all
theorem St.keptBut {W W' : World} {H' : Froz} {L : List Blk} (hS : St ⟨W, HW W, []⟩ H' L W') (may : MemPlace → Prop) : W.keptBut W' may := by
  refine ⟨hS.os, hS.output, fun i hi => ?_⟩
  have h := hS.old i hi (by simp)
  show match W.heap[i]?, W'.heap[i]? with
    | some (.cells c t fr), some (.cells c' t' fr') => t' = t ∧ fr' = fr ∧ c'.size = c.size ∧ ∀ j : Nat, ¬ may (.cell i j) → c'[j]? = c[j]?
    | some (.map es clock), some (.map es' clock') => may (.map i) ∨ (es' = es ∧ clock' = clock)
    | o, o' => o' = o
  rw [h]
  cases hw : W.heap[i]? with
  | none => rfl
  | some o => cases o <;> simp
theorem St.sameAt {W W' : World} {H' : Froz} {L : List Blk} (hS : St ⟨W, HW W, []⟩ H' L W') {p : MemPlace} (hp : p.block < W.heap.size) : W.sameAt W' p := by
  have h := hS.old p.block hp (by simp)
  cases p with
  | cell b off => show W'.cell? _ = W.cell? _; unfold World.cell?; rw [show W'.heap[b]? = W.heap[b]? from h]
  | map b => exact h
section
variable {H : Type} {enc : TypeId × Value → H} {P : Program}
theorem TrodAll.carry_ {W W' : World} {base : Nat} {sp : Nat → Bool} {held : Bool} : ∀ {ts : List TypeId} {vs : List Value} {ds : List (DataW H)} {ps : List MemPlace}, DataW.TrodAll enc P W base sp held ts vs ds ps → (∀ p ∈ ps, W.sameAt W' p) → DataW.TrodAll enc P W' base sp held ts vs ds ps
  | [], [], [], _, h, _ => h
  | _ :: _, _ :: _, _ :: _, _, ⟨p, q, ⟨n, h1⟩, h2, e⟩, hs => ⟨p, q, ⟨n, DataW.trod_carry n _ _ _ h1 (fun x hx => hs x (by rw [e]; exact List.mem_append_left _ hx))⟩, TrodAll.carry_ h2 (fun x hx => hs x (by rw [e]; exact List.mem_append_right _ hx)), e⟩
/-- A law's end: it has answered true; what was there is as it was. -/
theorem post_true {f : Func} {s : ChangeSpec} {apart handsOn : Bool} {W W' : World} {H' : Froz} {L : List Blk} {args : Array Value} {ds gs : List (DataW H)} {before : List MemPlace} {tb : TypeId}
    (K : Kids P (· < P.types.size)) (hz : ∀ t e, t < P.types.size → P.underlying t = some (.slice e) → 0 < P.cellsOf e) (hT : ∀ t ∈ f.params.toList, t < P.types.size) (ht : P.underlying tb = some .bool) (hrt : f.resultTypes = #[tb]) (hvars : s.vars = [])
    (hW : DataW.Whole enc P f.params.toList s.vars apart W args.toList ds gs before) (hfn : ∀ gs : List (DataW H), gs = [] → s.fn H (ds ++ gs) = { results := [.lit (.bool true)], args := ds })
    (hS : St ⟨W, HW W, []⟩ H' L W') : s.post enc P f apart true handsOn false W args (.bool true) W' := by
  have hlt := hW.lt
  obtain ⟨p, q, h1, h2, e, h3, h4⟩ := hW
  have hg : gs = [] ∧ q = [] := by
    rw [hvars] at h2
    cases gs with
    | nil => exact ⟨rfl, h2⟩
    | cons g t => exact absurd h2 (by intro h; cases h)
  obtain ⟨rfl, rfl⟩ := hg
  have e1 := hfn [] rfl
  refine ⟨ds, [], before, [], p, [], ⟨p, [], h1, h2, e, h3, h4⟩, ?_, ?_, ?_, hS.keptBut _, fun h => by cases h⟩
  · rw [e1, hrt]
    exact trodAll_mk1 (Go.RowKit.shut_bool ht true)
  · rw [e1]
    refine (TrodAll.carry_ (h1.respare K hz hT (spare' := fun b => decide (b < W.heap.size)) fun x hx => ?_) fun x hx => ?_)
    · exact decide_eq_true (hlt x (by rw [e]; exact List.mem_append_left _ hx))
    · exact hS.sameAt (hlt x (by rw [e]; exact List.mem_append_left _ hx))
  · rw [e1, hvars]; rfl
end
end Go.W

/-! Readings: cells out of what a row reads. -/
namespace Go.W
open Go Go.RowKit Go.ChangeShapes
section
variable {H : Type} {enc : TypeId × Value → H} {P : Program} {w : World} {base : Nat} {sp : Nat → Bool} {held : Bool} {fuel : Nat} {t e : TypeId} {cs : List Value} {x : DataW H × List MemPlace}
theorem trod_ints {k : IntKind} {n : Nat} (ht : P.underlying t = some (.array n e)) (he : P.underlying e = some (.int k)) (hc : P.cellsOf e = 1) (hct : P.cellsOf t = n) (h : DataW.trod enc P w base sp held fuel t cs = some x) :
    ∃ ns : List Int, ns.length = n ∧ cs = ns.map (Value.int k) ∧ x = (.agg (ns.map fun m => .lit (.int k m)), []) ∧ ∀ m ∈ ns, (Lit.int k m).wf = true := by
  obtain ⟨xs, m, rfl, rfl, hl, hx, hel⟩ := DataW.trod_array ht h
  rw [hct] at hl
  have key : ∀ i, i < n → ∃ a, cs[i]? = some (.int k a) ∧ xs[i]? = some (.lit (.int k a), []) ∧ (Lit.int k a).wf = true := fun i hi => by
    have h1 := hel i hi
    rw [hc, Nat.mul_one] at h1
    have h2 : xs[i]? = some (xs[i]'(by omega)) := by simp
    rw [h2] at h1
    obtain ⟨a, e1, e2, e3⟩ := DataW.trod_int he h1
    refine ⟨a, ?_, by rw [h2, e2], e3⟩
    have h3 : ((cs.drop i).take 1)[0]? = some (.int k a) := by rw [e1]; rfl
    rw [List.getElem?_take_of_lt (by decide), List.getElem?_drop, Nat.add_zero] at h3
    exact h3
  obtain ⟨f, hf⟩ : ∃ f : Nat → Int, ∀ i, i < n → cs[i]? = some (.int k (f i)) ∧ xs[i]? = some (.lit (.int k (f i)), []) ∧ (Lit.int k (f i)).wf = true := by
    refine ⟨fun i => if hi : i < n then Classical.choose (key i hi) else 0, fun i hi => ?_⟩
    simp only [hi, dif_pos]
    exact Classical.choose_spec (key i hi)
  refine ⟨(List.range n).map f, by simp, ?_, ?_, ?_⟩
  · apply List.ext_getElem?
    intro i
    by_cases hi : i < n
    · rw [(hf i hi).1]; simp [hi]
    · rw [List.getElem?_eq_none (by omega), List.getElem?_eq_none (by simp; omega)]
  · have hxs : xs = ((List.range n).map f).map fun a => (DataW.lit (.int k a), ([] : List MemPlace)) := by
      apply List.ext_getElem?
      intro i
      by_cases hi : i < n
      · rw [(hf i hi).2.1]; simp [hi]
      · rw [List.getElem?_eq_none (by omega), List.getElem?_eq_none (by simp; omega)]
    rw [hxs]
    simp only [List.map_map, List.flatMap_map, Prod.mk.injEq, DataW.agg.injEq]
    exact ⟨rfl, by simp⟩
  · intro a ha
    obtain ⟨i, hi, rfl⟩ := List.mem_map.1 ha
    exact (hf i (by simpa using hi)).2.2
end
end Go.W
namespace Go.W
open Go Go.RowKit
def unInt {H : Type} : DataW H → Int
  | .lit (.int _ m) => m
  | _ => 0
theorem ints_back {H : Type} {k : IntKind} {ns : List Int} {l : List (DataW H)} (h : l = ns.map fun m => .lit (.int k m)) : ns = l.map unInt := by
  subst h
  rw [List.map_map]
  have : (unInt ∘ fun m => (DataW.lit (.int k m) : DataW H)) = id := rfl
  rw [this, List.map_id]
/-- A table of ints that the row lists, as cells. -/
theorem laid_ints {P : Program} {w : World} {name : String} {g t e n : Nat} {k : IntKind} {cs : Array Value} {fuel : Nat} {l : List (DataW Unit)} {p : List MemPlace} (hg : P.globalNamed name = some g) (ht : P.underlying t = some (.array n e)) (he : P.underlying e = some (.int k)) (hc : P.cellsOf e = 1) (hct : P.cellsOf t = n)
    (hv : w.var? P name = some cs) (hd : DataW.trod (fun _ => ()) P w 0 (fun _ => true) false fuel t cs.toList = some (.agg l, p)) : ∀ j v, ((l.map unInt).map (Value.int k))[j]? = some v → hcell (HW w) g j = some v := by
  obtain ⟨ns, _, hcs, hx, _⟩ := trod_ints ht he hc hct hd
  simp only [Prod.mk.injEq, DataW.agg.injEq] at hx
  have hn := ints_back hx.1
  intro j v hj
  rw [← hn, ← hcs] at hj
  refine HW.cell ?_
  rw [World.var?_cell hg hv j]
  simpa using hj
end Go.W

/-! Plain: steps, played on a store. -/
namespace Go.W
open Go Go.RowKit
structure Sp where
  fo : Int
  kind : Int
  no : Int
  da : Option Addr
  dn : Nat
  dp : Nat
  bs : List UInt8
def Sp.c (x : Sp) : List Value := [.int .i64 x.fo, .int .i64 x.kind, .int .i64 x.no, .slice x.da x.dn x.dp]
def spE (xs : List Sp) : List (List Value) := xs.map Sp.c
/-- A step's data can be read. -/
def SpOK (H : Froz) (x : Sp) : Prop := RdS H x.da x.dn 1 (bc x.bs) ∧ x.dn ≤ x.dp
def SpsOK (H : Froz) (xs : List Sp) : Prop := ∀ x ∈ xs, SpOK H x
theorem SpsOK.mono {H H' : Froz} {xs : List Sp} (h : SpsOK H xs) (hle : Le H H') : SpsOK H' xs := fun x hx => ⟨(h x hx).1.mono hle, (h x hx).2⟩
theorem SpOK.len {H : Froz} {x : Sp} (h : SpOK H x) : x.dn = x.bs.length := by have := h.1.len; rw [bc_length] at this; omega
abbrev SK := Int × Int × Int × List UInt8
def Sp.key (x : Sp) : SK := (x.fo, x.kind, x.no, x.bs)
noncomputable def stepK (ks : List LK) (x : SK) : List LK := if x.2.1 = 0 then (if delEK ks x.1 x.2.2.1 = 0 then delKK ks x.1 x.2.2.1 else ks) else (if putEK ks x.1 x.2.1 x.2.2.2 = 0 then putKK ks x.1 x.2.1 x.2.2.2 else ks)
noncomputable def playKs (xs : List SK) : List LK := xs.foldl stepK []
def playOK (xs : List SK) : Bool := decide (xs.length ≤ 10 ∧ ∀ x ∈ xs, x.2.2.2.length ≤ 100)
end Go.W

/-! Plain: what is put twice. -/
namespace Go.W
open Go Go.RowKit
theorem putEK_zero {ks : List LK} {f kind : Int} {bs : List UInt8} (h : putEK ks f kind bs = 0) : (0 ≤ f ∧ f < 16) ∧ (1 ≤ kind ∧ kind ≤ 7) ∧ (0 ≤ idxK (entK ks f) (digE kind bs) ∨ ¬ (entK ks f).length = 65536) := by
  unfold putEK at h
  split at h
  · rename_i h1
    split at h
    · rename_i h2
      refine ⟨h1, h2, ?_⟩
      split at h
      · rename_i h3; exact .inl h3
      · split at h
        · cases h
        · rename_i h4; exact .inr h4
    · cases h
  · cases h
theorem once {ks : List LK} {f kind : Int} {bs : List UInt8} (hv : VK ks) (h : putEK ks f kind bs = 0) :
    putEK (putKK ks f kind bs) f kind bs = 0 ∧ putNK (putKK ks f kind bs) f kind bs = putNK ks f kind bs ∧ putKK (putKK ks f kind bs) f kind bs = putKK ks f kind bs ∧ fetchEK (putKK ks f kind bs) f (putNK ks f kind bs) = 0 ∧
    ∃ e t, fetchLK (putKK ks f kind bs) f (putNK ks f kind bs) = e :: t ∧ e.2.1 = digE kind bs ∧ okK e := by
  obtain ⟨hf, hk, hl⟩ := putEK_zero h
  obtain ⟨d, hd⟩ : ∃ d, d = digE kind bs := ⟨_, rfl⟩
  -- where the digest stands afterwards
  have key : ∃ (i : Nat) (e : EK), idxK (entK (putKK ks f kind bs) f) d = i ∧ (entK (putKK ks f kind bs) f)[i]? = some e ∧ e.2.1 = d ∧ okK e ∧ putNK ks f kind bs = (i : Int) + 1 := by
    unfold putNK putKK
    rw [if_pos h, ← hd]
    by_cases hi : 0 ≤ idxK (entK ks f) d
    · rw [if_pos hi, if_pos hi]
      obtain ⟨i, e, h1, h2, h3⟩ := idxK_yes hi
      exact ⟨i, e, h1, h2, h3, (hv.ent f).ok e (List.mem_of_getElem? h2), by rw [h1]⟩
    · rw [if_neg hi, if_neg hi]
      refine ⟨(entK ks f).length, (kind, d, bs, false), ?_, ?_, rfl, ?_, rfl⟩
      · rw [entK_rep]; exact idxK_snoc hi rfl
      · rw [entK_rep]; simp
      · exact .inr ⟨rfl, hk, hd⟩
  obtain ⟨i, e, k1, k2, k3, k4, k5⟩ := key
  rw [hd] at k1 k3
  have hi0 : 0 ≤ idxK (entK (putKK ks f kind bs) f) (digE kind bs) := by rw [k1]; omega
  have hil := (List.getElem?_eq_some_iff.1 k2).1
  have p1 : putEK (putKK ks f kind bs) f kind bs = 0 := by
    generalize putKK ks f kind bs = ks2 at *
    unfold putEK
    rw [if_pos hf, if_pos hk, if_pos hi0]
  have p4 : fetchEK (putKK ks f kind bs) f (putNK ks f kind bs) = 0 := by
    rw [k5]
    generalize putKK ks f kind bs = ks2 at *
    unfold fetchEK
    rw [if_pos hf, if_neg (by omega)]
  refine ⟨p1, ?_, ?_, p4, e, (entK (putKK ks f kind bs) f).drop (i + 1), ?_, k3, k4⟩
  · rw [k5]
    generalize putKK ks f kind bs = ks2 at *
    unfold putNK
    rw [if_pos p1, if_pos hi0, k1]
  · generalize putKK ks f kind bs = ks2 at *
    unfold putKK
    rw [if_pos hi0]
  · unfold fetchLK
    rw [p4, if_pos rfl, k5, show ((i : Int) + 1 - 1).toNat = i by omega, List.drop_eq_getElem_cons hil]
    congr 1
    rw [List.getElem?_eq_getElem hil] at k2
    exact Option.some.inj k2
end Go.W

/-! Readings: slices. -/
namespace Go.W
open Go Go.RowKit Go.ChangeShapes
section
variable {H : Type} {enc : TypeId × Value → H} {P : Program} {w : World} {sp : Nat → Bool} {held : Bool} {fuel : Nat} {t e : TypeId} {cs : List Value} {x : DataW H × List MemPlace}
theorem cell_spot {w : World} {a : Addr} {v : Value} (h : w.cell? a = some v) : a.spot = none := by
  unfold World.cell? at h
  cases hs : a.spot with
  | none => rfl
  | some s =>
    exfalso
    rw [hs] at h
    split at h
    · simp at h
    · cases h
theorem flat_at {k : Nat} {els : List (List Value)} (hk : 0 < k) (he : ∀ e ∈ els, e.length = k) {j : Nat} {v : Value} (h : els.flatten[j]? = some v) : ∃ e, els[j / k]? = some e ∧ e[j % k]? = some v := by
  have hj := (List.getElem?_eq_some_iff.1 h).1
  rw [flatten_len he] at hj
  have hi : j / k < els.length := Nat.div_lt_of_lt_mul (by rw [Nat.mul_comm]; exact hj)
  have hr : j % k < k := Nat.mod_lt _ hk
  have hel := he els[j / k] (List.getElem_mem hi)
  have h1 : els[j / k]? = some els[j / k] := List.getElem?_eq_getElem hi
  have h2 : (els[j / k])[j % k]? = some ((els[j / k])[j % k]'(by omega)) := List.getElem?_eq_getElem _
  have h3 := ldv_flatten (agg := false) (sz := 1) (off := j % k) (i := j / k) he h1 (by omega) (by decide) (show ldv false 1 els[j / k] (j % k) = some _ from h2)
  simp only [ldv, cond_false] at h3
  rw [Nat.mul_comm, Nat.div_add_mod] at h3
  rw [h] at h3
  exact ⟨_, h1, by rw [h2, ← Option.some.inj h3]⟩
end
theorem one_slice {v : Value} {a a' : Option Addr} {n c n' c' : Nat} (hv : v = .slice a' n' c') (h : v.cells.toList = [.slice a n c]) : v = .slice a n c := by
  subst hv
  simpa [Value.cells] using h
end Go.W

/-! Readings: a step; how long a slice's datum is. -/
namespace Go.W
open Go Go.RowKit Go.ChangeShapes
section
variable {H : Type} {enc : TypeId × Value → H} {P : Program} {w : World} {sp : Nat → Bool} {held : Bool} {fuel : Nat} {t e : TypeId} {cs : List Value} {x : DataW H × List MemPlace}
def dlen : DataW H → Nat
  | .slice el _ => el.length
  | _ => 0
end
end Go.W

/-! Plain: folders and entries are apart. -/
namespace Go.W
open Go Go.RowKit
theorem q_cast {P : Program} {S : World → Prop} {F : Fr} {op : Op} {ty : TypeId} {v u : Value} (q : Qt P S F op ty v) (h : v = u) : Qt P S F op ty u := h ▸ q
theorem rd_take {H : Froz} {a : Option Addr} {es : List En} (h : RdL H a 35 (enE es)) (n : Nat) : RdL H a 35 (enE (es.take n)) := by
  have he : ∀ x ∈ enE (es.take n), x.length = 35 := fun x hx => by obtain ⟨e, _, rfl⟩ := List.mem_map.1 hx; exact En.c_len e
  refine ⟨⟨flatten_len he, fun hn => ?_⟩, he⟩
  have hpos : (enE es).length ≠ 0 := by
    simp only [enE, List.length_map, List.length_take] at hn ⊢
    omega
  obtain ⟨b, o, e1, h2⟩ := h.rd.at_ hpos
  refine ⟨b, o, e1, fun j v hv => h2 j v ?_⟩
  have e2 : enE es = enE (es.take n) ++ enE (es.drop n) := by simp only [enE]; rw [← List.map_append, List.take_append_drop]
  rw [e2, List.flatten_append, List.getElem?_append_left (List.getElem?_eq_some_iff.1 hv).1]
  exact hv
theorem EnsOK.take {H : Froz} {es : List En} (h : EnsOK H es) (n : Nat) : EnsOK H (es.take n) := fun e he => h e (List.mem_of_mem_take he)
theorem EnsOK.one {H : Froz} {es : List En} {i : Nat} {e : En} (h : EnsOK H es) (hi : es[i]? = some e) : EnsOK H [e] := fun x hx => by
  rw [List.mem_singleton.1 hx]; exact h e (List.mem_of_getElem? hi)
end Go.W

/-! Plain: logs only become longer. -/
namespace Go.W
open Go Go.RowKit
structure Lon (l1 l2 : List EK) : Prop where
  le : l1.length ≤ l2.length
  at_ : ∀ (i : Nat) (e1 e2 : EK), l1[i]? = some e1 → l2[i]? = some e2 → e1.1 = e2.1 ∧ e1.2.1 = e2.2.1 ∧ (e1.2.2.2 = true → e2.2.2.2 = true)
theorem Lon.refl (l : List EK) : Lon l l := ⟨Nat.le_refl _, fun i e1 e2 h1 h2 => by rw [h1] at h2; obtain rfl := Option.some.inj h2; exact ⟨rfl, rfl, id⟩⟩
theorem Lon.trans {a b c : List EK} (h : Lon a b) (h' : Lon b c) : Lon a c := ⟨Nat.le_trans h.le h'.le, fun i e1 e3 h1 h3 => by
  have hi := (List.getElem?_eq_some_iff.1 h1).1
  have h2 : b[i]? = some (b[i]'(Nat.lt_of_lt_of_le hi h.le)) := List.getElem?_eq_getElem _
  obtain ⟨p1, p2, p3⟩ := h.at_ i _ _ h1 h2
  obtain ⟨q1, q2, q3⟩ := h'.at_ i _ _ h2 h3
  exact ⟨p1.trans q1, p2.trans q2, fun g => q3 (p3 g)⟩⟩
theorem Lon.append (a t : List EK) : Lon a (a ++ t) := ⟨by rw [List.length_append]; omega, fun i e1 e2 h1 h2 => by
  rw [List.getElem?_append_left (List.getElem?_eq_some_iff.1 h1).1, h1] at h2
  obtain rfl := Option.some.inj h2; exact ⟨rfl, rfl, id⟩⟩
theorem Lon.del (a : List EK) (p : Nat) : Lon a (a.modify p delKey) := ⟨by rw [List.length_modify]; exact Nat.le_refl _, fun i e1 e2 h1 h2 => by
  rw [List.getElem?_modify, h1] at h2
  simp only [Option.map_eq_map, Option.map_some, Option.some.injEq] at h2
  subst h2
  by_cases hp : p = i
  · rw [if_pos hp]; exact ⟨rfl, rfl, fun _ => rfl⟩
  · rw [if_neg hp]; exact ⟨rfl, rfl, id⟩⟩
theorem chainN_take {f : Int} {ds : List Dg} {n : Nat} (h : n ≤ ds.length) : chainN f (ds.take n) = chainK f ds n := by
  unfold chainN chainK
  rw [List.length_take, Nat.min_eq_left h, List.take_take, Nat.min_self]
end Go.W

/-! Plain: an element put in. -/
namespace Go.W
open Go Go.RowKit
theorem all1_drop {cs : List Value} (n : Nat) (h : all1 cs = true) : all1 (cs.drop n) = true := by
  unfold all1 at *
  rw [List.all_eq_true] at *
  exact fun x hx => h x (List.mem_of_mem_drop hx)
theorem OwS.row_len {T : TypeId} {sz b n c : Nat} {xs cs : List Value} (h : OwS T sz (.slice (some ⟨b, 0, none⟩) n c) n xs [⟨b, cs, T⟩]) : cs.length = c * sz ∧ c ≤ maxLen := by
  cases h with
  | row h1 h2 h3 h4 => exact ⟨h2, h4⟩
theorem src_mid {A T : List Value} {p j : Nat} {v : Value} (h : (A.drop p)[j]? = some v) : (A ++ T)[0 + p + j]? = some v := by
  rw [List.getElem?_drop] at h
  rw [Nat.zero_add, List.getElem?_append_left (by
    rcases Nat.lt_or_ge (p + j) A.length with h5 | h5
    · exact h5
    · rw [List.getElem?_eq_none h5] at h; cases h)]
  exact h
theorem spl_mid {X T v : List Value} {p : Nat} (hp : X.length = p) : spl (X ++ T) p v = X ++ v ++ T.drop v.length := by
  unfold spl
  subst hp
  rw [List.take_left, List.drop_append, List.drop_eq_nil_of_le (by omega), List.nil_append, Nat.add_sub_cancel_left]
theorem ins_grow {A v T : List Value} {p : Nat} (hp : p ≤ A.length) : spl (spl (A.take p ++ T) p v) (p + v.length) (A.drop p) = (A.take p ++ v ++ A.drop p) ++ (T.drop v.length).drop (A.drop p).length := by
  have hl : (A.take p).length = p := by rw [List.length_take]; omega
  rw [spl_mid hl, spl_mid (by rw [List.length_append, hl])]
theorem ins_place {A v T : List Value} {p : Nat} (hp : p ≤ A.length) (hT : v.length ≤ T.length) : spl (spl (A ++ T) (p + v.length) (A.drop p)) p v = (A.take p ++ v ++ A.drop p) ++ T.drop v.length := by
  have h1 : ((A ++ T).take (p + v.length)).length = p + v.length := by rw [List.length_take, List.length_append]; omega
  have h2 : (A ++ T).drop (p + v.length + (A.drop p).length) = T.drop v.length := by
    rw [List.length_drop, show p + v.length + (A.length - p) = A.length + v.length by omega, ← List.drop_drop, List.drop_left]
  have e1 : spl (A ++ T) (p + v.length) (A.drop p) = (A ++ T).take (p + v.length) ++ (A.drop p ++ T.drop v.length) := by
    unfold spl; rw [h2, List.append_assoc]
  rw [e1]
  unfold spl
  have e2 : ((A ++ T).take (p + v.length) ++ (A.drop p ++ T.drop v.length)).take p = A.take p := by
    rw [List.take_append_of_le_length (by omega), List.take_take, Nat.min_eq_left (by omega), List.take_append_of_le_length hp]
  have e3 : ((A ++ T).take (p + v.length) ++ (A.drop p ++ T.drop v.length)).drop (p + v.length) = A.drop p ++ T.drop v.length := by
    rw [List.drop_append, List.drop_eq_nil_of_le (by omega), h1, Nat.sub_self, List.drop_zero, List.nil_append]
  rw [e2, e3]
  simp
end Go.W

/-! Plain: views. -/
namespace Go.W
open Go Go.RowKit
def hdE (hs : List Hd) : List (List Value) := hs.map Hd.c
theorem hdE_each (hs : List Hd) : ∀ e ∈ hdE hs, e.length = 37 := fun e he => by
  obtain ⟨h, _, rfl⟩ := List.mem_map.1 he; exact h.c_len
theorem hdE_len (hs : List Hd) : (hdE hs).flatten.length = hs.length * 37 := by
  rw [flatten_len (hdE_each hs)]; simp [hdE]
theorem hdE_all1 (hs : List Hd) : all1 (hdE hs).flatten = true := by
  unfold all1
  rw [List.all_eq_true]
  intro x hx
  obtain ⟨e, he, hx⟩ := List.mem_flatten.1 hx
  obtain ⟨h, _, rfl⟩ := List.mem_map.1 he
  have := h.c_all1
  unfold all1 at this
  exact (List.all_eq_true.1 this) x hx
theorem hdE_insert (ls : List Hd) (l : Hd) {i : Nat} (hi : i ≤ ls.length) : (hdE (ls.insertIdx i l)).flatten = (hdE ls).flatten.take (i * 37) ++ l.c ++ (hdE ls).flatten.drop (i * 37) := by
  rw [flatten_take i (hdE_each ls), flatten_drop i (hdE_each ls)]
  have : hdE (ls.insertIdx i l) = (hdE ls).take i ++ l.c :: (hdE ls).drop i := by
    unfold hdE
    rw [← List.map_take, ← List.map_drop]
    have : ls.insertIdx i l = ls.take i ++ l :: ls.drop i := by
      induction ls generalizing i with
      | nil => have : i = 0 := by simpa using hi
               subst this; simp
      | cons a t ih =>
        cases i with
        | zero => simp
        | succ i => simp at hi; simp [List.insertIdx_succ_cons, ih hi]
    rw [this]
    simp
  rw [this]
  simp
theorem OwS.famH {T : TypeId} {n c : Nat} {a : Option Addr} {ls : List Hd} {Lx : List Blk} (h : OwS T 37 (.slice a n c) n (hdE ls).flatten Lx) : ∃ fL : List Hd → List Blk, fL ls = Lx ∧ (∀ ls', ls'.length = ls.length → OwS T 37 (.slice a n c) n (hdE ls').flatten (fL ls')) ∧
    (0 < n → ∃ b tail, a = some ⟨b, 0, none⟩ ∧ ∀ ls', fL ls' = [⟨b, (hdE ls').flatten ++ tail, T⟩]) := by
  have hl := h.len
  rw [hdE_len] at hl
  generalize hv : Value.slice a n c = v at h
  generalize hxs : (hdE ls).flatten = xs at h
  cases h with
  | nil =>
    simp only [Value.slice.injEq, true_and] at hv
    obtain ⟨rfl, rfl⟩ := hv
    refine ⟨fun _ => [], rfl, fun ls' he => ?_, fun h0 => absurd h0 (by omega)⟩
    have : (hdE ls').flatten = [] := List.eq_nil_of_length_eq_zero (by rw [hdE_len, he]; omega)
    rw [this]
    exact .nil
  | row h1 h2 h3 h4 =>
    simp only [Value.slice.injEq, true_and] at hv
    obtain ⟨rfl, rfl⟩ := hv
    rename_i b tail
    refine ⟨fun ls' => [⟨b, (hdE ls').flatten ++ tail, T⟩], by subst hxs; rfl, fun ls' he => ?_, fun _ => ⟨b, tail, rfl, fun _ => rfl⟩⟩
    refine .row (by rw [hdE_len, he, hl]) ?_ h3 h4
    rw [← h2, ← hxs]
    simp only [List.length_append, hdE_len, he]
theorem RdL.rd_h {H : Froz} {a : Option Addr} {ls : List Hd} (h : RdL H a 37 (hdE ls)) : RdS H a ls.length 37 (hdE ls).flatten := by
  have := h.rd
  rwa [show (hdE ls).length = ls.length by simp [hdE]] at this
theorem RdL.of_h {H : Froz} {a : Option Addr} {ls : List Hd} (h : RdS H a ls.length 37 (hdE ls).flatten) : RdL H a 37 (hdE ls) :=
  ⟨by rw [show (hdE ls).length = ls.length by simp [hdE]]; exact h, hdE_each ls⟩
theorem hd_el {hs : List Hd} {k : Nat} {h : Hd} (hk : hs[k]? = some h) : (hdE hs)[k]? = some h.c := by simp [hdE, hk]
structure Vw where
  st : Int
  fo : Int
  pub : Int
  da : Option Addr
  dp : Nat
  ds : List Dg
  ha : Option Addr
  hp : Nat
  hs : List Hd
def Vw.c (v : Vw) : List Value := [.int .i64 v.st, .int .i64 v.fo, .int .i64 v.pub, .slice v.da v.ds.length v.dp, .slice v.ha v.hs.length v.hp]
abbrev VwK := Int × Int × Int × List Dg × List Hd
def Vw.key (v : Vw) : VwK := (v.st, v.fo, v.pub, v.ds, v.hs)
structure VwOK (H : Froz) (v : Vw) : Prop where
  rdd : RdL H v.da 32 (dgE v.ds)
  rdh : RdL H v.ha 37 (hdE v.hs)
  dlen : v.ds.length ≤ 1000000
  hlen : v.hs.length ≤ 1000000
  dcap : v.ds.length ≤ v.dp
  hcap : v.hs.length ≤ v.hp
theorem VwOK.mono {H H' : Froz} {v : Vw} (h : VwOK H v) (hle : Le H H') : VwOK H' v := ⟨h.rdd.mono hle, h.rdh.mono hle, h.dlen, h.hlen, h.dcap, h.hcap⟩
def zVw : Vw := ⟨0, 0, 0, none, 0, [], none, 0, []⟩
theorem VwOK.zero (H : Froz) : VwOK H zVw := ⟨RdL.nil _ _ _, RdL.nil _ _ _, Nat.zero_le _, Nat.zero_le _, Nat.le_refl _, Nat.le_refl _⟩
structure Fk where
  A : Hd
  B : Hd
  da : Option Addr
  dp : Nat
  ds : List Dg
def Fk.c (f : Fk) : List Value := f.A.c ++ (f.B.c ++ [.slice f.da f.ds.length f.dp])
abbrev FK := Hd × Hd × List Dg
def Fk.key (f : Fk) : FK := (f.A, f.B, f.ds)
structure FkOK (H : Froz) (f : Fk) : Prop where
  rdd : RdL H f.da 32 (dgE f.ds)
  dlen : f.ds.length ≤ 1000000
  dcap : f.ds.length ≤ f.dp
theorem FkOK.mono {H H' : Froz} {f : Fk} (h : FkOK H f) (hle : Le H H') : FkOK H' f := ⟨h.rdd.mono hle, h.dlen, h.dcap⟩
def zFk : Fk := ⟨zHd, zHd, none, 0, []⟩
theorem FkOK.zero (H : Froz) : FkOK H zFk := ⟨RdL.nil _ _ _, Nat.zero_le _, Nat.le_refl _⟩
theorem Fk.c_len (f : Fk) : f.c.length = 75 := by simp [Fk.c, Hd.c_len]
theorem Fk.c_all1 (f : Fk) : all1 f.c = true := by
  have h1 := f.A.c_all1
  have h2 := f.B.c_all1
  unfold all1 at *
  simp only [Fk.c, List.all_append, Bool.and_eq_true]
  exact ⟨h1, h2, rfl⟩
/-- A proposition as a bool. -/
noncomputable def tb (p : Prop) : Bool := (kept (@decide p (Classical.propDecidable p))).1
theorem tb_def (p : Prop) : tb p = @decide p (Classical.propDecidable p) := (kept _).2
theorem tb_true {p : Prop} (h : p) : tb p = true := by rw [tb_def]; exact @decide_eq_true p (Classical.propDecidable p) h
theorem tb_false {p : Prop} (h : ¬ p) : tb p = false := by rw [tb_def]; exact @decide_eq_false p (Classical.propDecidable p) h
theorem tb_iff {p : Prop} : tb p = true ↔ p := by rw [tb_def]; exact @decide_eq_true_iff p (Classical.propDecidable p)
theorem tb_not {p : Prop} (h : tb p = false) : ¬ p := fun hp => by rw [tb_true hp] at h; cases h
theorem tb_congr {p q : Prop} (h : p ↔ q) : tb p = tb q := by rw [propext h]
theorem chainK_zero (f : Int) (ds : List Dg) : chainK f ds 0 = chainN f [] := by simp [chainN, chainK]
/-- What the ends of a chain yield. -/
noncomputable def endY (f : Int) (ds : List Dg) (j : Nat) : List Value := [.int .i64 (j : Int), .agg (dc (chainK f ds j)).toArray]
/-- A head fits digests. -/
def Fits (h : Hd) (l : List Dg) : Prop := ∃ n : Nat, h.no = (n : Int) ∧ n ≤ l.length ∧ chainK h.fo l n = h.ch
theorem fits_at {h : Hd} {l : List Dg} {n : Nat} (hn : h.no = (n : Int)) (hl : n ≤ l.length) : tb (Fits h l) = decide (chainK h.fo l n = h.ch) := by
  by_cases hc : chainK h.fo l n = h.ch
  · rw [decide_eq_true hc]; exact tb_true ⟨n, hn, hl, hc⟩
  · rw [decide_eq_false hc]
    refine tb_false fun ⟨m, hm, _, h3⟩ => hc ?_
    rw [← h3, show n = m by omega]
theorem fits_none {h : Hd} {l : List Dg} (hn : ∀ n : Nat, n ≤ l.length → ¬ (n : Int) = h.no) : tb (Fits h l) = false :=
  tb_false fun ⟨m, hm, hl, _⟩ => hn m hl hm.symm
/-- A head that is odd to digests. -/
def Odd (l : List Dg) (h : Hd) : Prop := h.no ≤ (l.length : Int) ∧ ¬ Fits h l
noncomputable def oddO (hs : List Hd) (l : List Dg) : Option Hd := hs.find? (fun h => tb (Odd l h))
noncomputable def oddI (hs : List Hd) (l : List Dg) : Int := (kept (match hs.findIdx? (fun h => tb (Odd l h)) with | some i => (i : Int) | none => -1)).1
theorem oddI_def (hs : List Hd) (l : List Dg) : oddI hs l = (match hs.findIdx? (fun h => tb (Odd l h)) with | some i => (i : Int) | none => -1) := (kept _).2
theorem oddI_yes {hs : List Hd} {l : List Dg} {k : Nat} {h : Hd} (hk : hs[k]? = some h) (hb : tb (Odd l h) = true) (hno : ∀ (j : Nat) (x : Hd), j < k → hs[j]? = some x → tb (Odd l x) = false) : oddI hs l = k := by
  have : hs.findIdx? (fun h => tb (Odd l h)) = some k := by
    rw [List.findIdx?_eq_some_iff_getElem]
    obtain ⟨h1, h2⟩ := List.getElem?_eq_some_iff.1 hk
    refine ⟨h1, by rw [h2]; exact hb, fun j hj => ?_⟩
    rw [hno j _ hj (List.getElem?_eq_getElem _)]
    simp
  rw [oddI_def, this]
theorem oddI_no {hs : List Hd} {l : List Dg} (hno : ∀ (j : Nat) (x : Hd), hs[j]? = some x → tb (Odd l x) = false) : oddI hs l = -1 := by
  have : hs.findIdx? (fun h => tb (Odd l h)) = none := by
    rw [List.findIdx?_eq_none_iff]
    intro x hx
    obtain ⟨j, hj⟩ := List.mem_iff_getElem?.1 hx
    exact hno j x hj
  rw [oddI_def, this]
theorem odd_cases (hs : List Hd) (l : List Dg) : (oddI hs l = -1 ∧ oddO hs l = none) ∨ ∃ (k : Nat) (h : Hd), oddI hs l = k ∧ hs[k]? = some h ∧ oddO hs l = some h := by
  rw [oddI_def]
  unfold oddO
  cases hf : hs.findIdx? (fun h => tb (Odd l h)) with
  | none =>
    refine .inl ⟨rfl, ?_⟩
    rw [List.find?_eq_none]
    rw [List.findIdx?_eq_none_iff] at hf
    intro x hx
    rw [hf x hx]; decide
  | some k =>
    rw [List.findIdx?_eq_some_iff_getElem] at hf
    obtain ⟨h1, h2, h3⟩ := hf
    refine .inr ⟨k, hs[k], rfl, List.getElem?_eq_getElem _, ?_⟩
    rw [List.find?_eq_some_iff_getElem]
    exact ⟨h2, k, h1, rfl, fun j hj => by have := h3 j hj; simpa using this⟩
def lastH (hs : List Hd) : Hd := (hs[hs.length - 1]?).getD zHd
def Owns (v : Vw) (h : Hd) : Prop := h.st = v.st ∧ h.fo = v.fo ∧ verS v.pub h = true
/-- The head number j of a view is as it should be. -/
def HdOK (v : Vw) (j : Nat) : Prop := ∀ h, v.hs[j]? = some h → Owns v h ∧ (0 < j → ((v.hs[j - 1]?).getD zHd).no < h.no) ∧ Fits h v.ds
def Valid (v : Vw) : Prop := (0 ≤ v.st ∧ v.st < 4) ∧ (0 ≤ v.fo ∧ v.fo < 16) ∧ (lastH v.hs).no = (v.ds.length : Int) ∧ ∀ j, j < v.hs.length → HdOK v j
theorem odd_yes {h : Hd} {l : List Dg} (h1 : h.no ≤ (l.length : Int)) : tb (Odd l h) = !tb (Fits h l) := by
  by_cases hf : Fits h l
  · rw [tb_true hf, tb_false (fun q : Odd l h => q.2 hf)]; rfl
  · rw [tb_false hf, tb_true (show Odd l h from ⟨h1, hf⟩)]; rfl
theorem odd_big {h : Hd} {l : List Dg} (h1 : ¬ h.no ≤ (l.length : Int)) : tb (Odd l h) = false := tb_false fun q => h1 q.1
theorem lastH_at {hs : List Hd} {h : Hd} (h1 : hs[hs.length - 1]? = some h) : lastH hs = h := by unfold lastH; rw [h1]; rfl
theorem lastH_nil {hs : List Hd} (h1 : hs.length = 0) : lastH hs = zHd := by unfold lastH; rw [List.getElem?_eq_none (by omega)]; rfl
theorem owns_yes {v : Vw} {h : Hd} (h1 : h.st = v.st) (h2 : h.fo = v.fo) : tb (Owns v h) = verS v.pub h := by
  cases hv : verS v.pub h with
  | true => exact tb_true ⟨h1, h2, hv⟩
  | false => exact tb_false fun q => absurd (q.2.2.symm.trans hv) (by decide)
theorem owns_no {v : Vw} {h : Hd} (h1 : ¬ (h.st = v.st ∧ h.fo = v.fo)) : tb (Owns v h) = false := tb_false fun q => h1 ⟨q.1, q.2.1⟩
theorem hdok_yes {v : Vw} {k : Nat} {h : Hd} (hk : v.hs[k]? = some h) (h1 : Owns v h) (h2 : 0 < k → ((v.hs[k - 1]?).getD zHd).no < h.no) (h3 : Fits h v.ds) : HdOK v k := fun x hx => by
  rw [hk] at hx; obtain rfl := Option.some.inj hx; exact ⟨h1, h2, h3⟩
theorem valid_bad {v : Vw} {k : Nat} (hk : k < v.hs.length) (h : ¬ HdOK v k) : tb (Valid v) = false := tb_false fun q => h (q.2.2.2 k hk)
theorem bld_fk {zs : List Value} (A B : Hd) (s : Value) (hs : s.cells.toList = [s]) (hz : zs.length = 75) : bld [(0, 37), (37, 37), (74, 1)] zs [(0, .agg A.c.toArray), (1, .agg B.c.toArray), (2, s)] = some (A.c ++ (B.c ++ [s])) := by
  have h1 : (Value.agg A.c.toArray).cells.toList = A.c := rfl
  have h2 : (Value.agg B.c.toArray).cells.toList = B.c := rfl
  have e1 : spl zs 0 A.c = A.c ++ zs.drop 37 := by
    have := spl_mid (X := []) (T := zs) (v := A.c) (p := 0) rfl
    rwa [List.nil_append, List.nil_append, A.c_len] at this
  have e2 : spl (A.c ++ zs.drop 37) 37 B.c = A.c ++ B.c ++ zs.drop 74 := by
    rw [spl_mid A.c_len, B.c_len, List.drop_drop]
  have e3 : spl (A.c ++ B.c ++ zs.drop 74) 74 [s] = A.c ++ (B.c ++ [s]) := by
    rw [spl_mid (by rw [List.length_append, A.c_len, B.c_len]), List.drop_eq_nil_of_le (by simp [hz]), List.append_nil, List.append_assoc]
  simp only [bld, List.getElem?_cons_zero, List.getElem?_cons_succ]
  rw [h1, h2, hs, e1, e2, e3]
  rw [if_pos ⟨A.c_len, by omega⟩, if_pos ⟨B.c_len, by rw [List.length_append, A.c_len, List.length_drop, hz]; decide⟩, if_pos ⟨rfl, by rw [List.length_append, List.length_append, A.c_len, B.c_len, List.length_drop, hz]; decide⟩]
theorem Fk.ld_A (f : Fk) : ldv true 37 f.c 0 = some (.agg f.A.c.toArray) := by
  simp only [ldv, cond_true, Fk.c, List.drop_zero]
  rw [List.take_append_of_le_length (by rw [f.A.c_len]; exact Nat.le_refl _), List.take_of_length_le (by rw [f.A.c_len]; exact Nat.le_refl _)]
theorem Fk.ld_B (f : Fk) : ldv true 37 f.c 37 = some (.agg f.B.c.toArray) := by
  simp only [ldv, cond_true, Fk.c]
  rw [show f.A.c ++ (f.B.c ++ [Value.slice f.da f.ds.length f.dp]) = (f.A.c ++ f.B.c) ++ [Value.slice f.da f.ds.length f.dp] by simp, List.append_assoc]
  have : (f.A.c ++ (f.B.c ++ [Value.slice f.da f.ds.length f.dp])).drop 37 = f.B.c ++ [Value.slice f.da f.ds.length f.dp] := List.drop_left' f.A.c_len
  rw [this, List.take_append_of_le_length (by rw [f.B.c_len]; exact Nat.le_refl _), List.take_of_length_le (by rw [f.B.c_len]; exact Nat.le_refl _)]
theorem Fk.ld_ds (f : Fk) : ldv false 1 f.c 74 = some (.slice f.da f.ds.length f.dp) := by
  simp only [ldv, cond_false, Fk.c]
  rw [← List.append_assoc, List.getElem?_append_right (by rw [List.length_append, f.A.c_len, f.B.c_len]; decide)]
  rw [List.length_append, f.A.c_len, f.B.c_len]
  rfl
theorem Fk.ld_all (f : Fk) : ldv true 75 f.c 0 = some (.agg f.c.toArray) := by
  simp only [ldv, cond_true, List.drop_zero]
  rw [List.take_of_length_le (by rw [f.c_len]; exact Nat.le_refl _)]
noncomputable def accO (v : Vw) (hs : List Hd) : Option Fk := (oddO hs v.ds).map fun h => ⟨h, lastH v.hs, v.da, v.dp, v.ds⟩
theorem accO_none {v : Vw} {hs : List Hd} (h : (oddO hs v.ds).isSome = false) : accO v hs = none := by
  unfold accO
  cases ho : oddO hs v.ds with
  | none => rfl
  | some x => rw [ho] at h; cases h
theorem accO_some {v : Vw} {hs : List Hd} (h : (oddO hs v.ds).isSome = true) : accO v hs = some ⟨(oddO hs v.ds).getD zHd, lastH v.hs, v.da, v.dp, v.ds⟩ := by
  unfold accO
  cases ho : oddO hs v.ds with
  | none => rw [ho] at h; cases h
  | some x => rfl
/-- An entry as it may be shown. -/
def IsE (e : En) : Prop := (1 ≤ e.kind ∧ e.kind ≤ 7) ∧ (e.gone = true → e.kind = 4 ∧ e.dn = 0) ∧ (e.gone = false → e.dg = digE e.kind e.bs)
def Proves (pub : Int) (A B : Hd) (ds : List Dg) : Prop := verS pub A = true ∧ verS pub B = true ∧ A.st = B.st ∧ A.fo = B.fo ∧ A.no ≤ B.no ∧ B.no = (ds.length : Int) ∧ Fits B ds ∧ ¬ Fits A ds
/-- Views of one log. -/
def CmpOK (a b : Vw) : Prop := Valid a ∧ Valid b ∧ a.st = b.st ∧ a.fo = b.fo ∧ a.pub = b.pub
noncomputable def cmpXY (x y : Vw) : Option Fk := match accO x y.hs with
  | some f => some f
  | none => accO y x.hs
noncomputable def cmpO (a b : Vw) : Option Fk := (kept (if tb (CmpOK a b) = true then (if a.ds.length < b.ds.length then cmpXY b a else cmpXY a b) else none)).1
theorem cmpO_def (a b : Vw) : cmpO a b = (if tb (CmpOK a b) = true then (if a.ds.length < b.ds.length then cmpXY b a else cmpXY a b) else none) := (kept _).2
theorem cmpO_no {a b : Vw} (h : ¬ CmpOK a b) : cmpO a b = none := by rw [cmpO_def, if_neg (by rw [tb_false h]; decide)]
theorem cmpO_ba {a b : Vw} (h : CmpOK a b) (hl : a.ds.length < b.ds.length) : cmpO a b = cmpXY b a := by rw [cmpO_def, if_pos (tb_true h), if_pos hl]
theorem cmpO_ab {a b : Vw} (h : CmpOK a b) (hl : ¬ a.ds.length < b.ds.length) : cmpO a b = cmpXY a b := by rw [cmpO_def, if_pos (tb_true h), if_neg hl]
theorem cmpXY_1 {x y : Vw} (h : (accO x y.hs).isSome = true) : cmpXY x y = accO x y.hs := by
  unfold cmpXY
  cases ho : accO x y.hs with
  | none => rw [ho] at h; cases h
  | some f => rfl
theorem cmpXY_2 {x y : Vw} (h : (accO x y.hs).isSome = false) : cmpXY x y = accO y x.hs := by
  unfold cmpXY
  cases ho : accO x y.hs with
  | none => rfl
  | some f => rw [ho] at h; cases h
end Go.W

/-! Plain: what is accepted. -/
namespace Go.W
open Go Go.RowKit
def SrtH (hs : List Hd) : Prop := ∀ (i j : Nat) (a b : Hd), i < j → hs[i]? = some a → hs[j]? = some b → a.no < b.no
structure PosH (hs : List Hd) (n : Int) (p : Nat) : Prop where
  le : p ≤ hs.length
  lo : ∀ (j : Nat) (h : Hd), j < p → hs[j]? = some h → h.no < n
  hi : ∀ (j : Nat) (h : Hd), p ≤ j → hs[j]? = some h → n ≤ h.no
def atH (hs : List Hd) (n : Int) (p : Nat) : Bool := match hs[p]? with
  | some h => decide (h.no = n)
  | none => false
theorem atH_some {hs : List Hd} {n : Int} {p : Nat} (h : atH hs n p = true) : ∃ x, hs[p]? = some x ∧ x.no = n := by
  unfold atH at h
  cases hl : hs[p]? with
  | none => rw [hl] at h; cases h
  | some l => rw [hl] at h; exact ⟨l, rfl, by simpa using h⟩
theorem atH_none {hs : List Hd} {n : Int} {p : Nat} (h : atH hs n p = false) {x : Hd} (hx : hs[p]? = some x) : ¬ x.no = n := by
  unfold atH at h
  rw [hx] at h
  simpa using h
theorem loH_step {hs : List Hd} (hsr : SrtH hs) {n : Int} {k : Nat} {h : Hd} (hl : hs[k]? = some h) (hc : h.no < n) : ∀ (j : Nat) (q : Hd), j < k + 1 → hs[j]? = some q → q.no < n := fun j q hj hq => by
  rcases Nat.lt_succ_iff_lt_or_eq.1 hj with h1 | h1
  · have := hsr j k q h h1 hq hl; omega
  · rw [h1, hl] at hq; obtain rfl := Option.some.inj hq; exact hc
theorem hiH_step {hs : List Hd} (hsr : SrtH hs) {n : Int} {k : Nat} {h : Hd} (hl : hs[k]? = some h) (hc : n ≤ h.no) : ∀ (j : Nat) (q : Hd), k ≤ j → hs[j]? = some q → n ≤ q.no := fun j q hj hq => by
  rcases Nat.eq_or_lt_of_le hj with h1 | h1
  · rw [← h1, hl] at hq; obtain rfl := Option.some.inj hq; exact hc
  · have := hsr k j h q h1 hl hq; omega
theorem verS_bounds {pub : Int} {h : Hd} (hv : verS pub h = true) : (0 ≤ h.st ∧ h.st < 4) ∧ (0 ≤ h.fo ∧ h.fo < 16) ∧ (0 ≤ h.no ∧ h.no ≤ 65536) := by
  by_cases hb : (0 ≤ h.st ∧ h.st < 4) ∧ (0 ≤ h.fo ∧ h.fo < 16) ∧ (0 ≤ h.no ∧ h.no ≤ 65536)
  · exact hb
  · rw [verS_no hb] at hv; cases hv
theorem valid_at {v : Vw} (hv : Valid v) {j : Nat} {h : Hd} (hj : v.hs[j]? = some h) : Owns v h ∧ (0 < j → ((v.hs[j - 1]?).getD zHd).no < h.no) ∧ Fits h v.ds :=
  hv.2.2.2 j (List.getElem?_eq_some_iff.1 hj).1 h hj
theorem srt_of {hs : List Hd} (h : ∀ (j : Nat) (x y : Hd), hs[j]? = some x → hs[j + 1]? = some y → x.no < y.no) : SrtH hs := by
  intro i j a b hij ha hb
  obtain ⟨d, rfl⟩ : ∃ d, j = i + 1 + d := ⟨j - (i + 1), by omega⟩
  clear hij
  induction d generalizing b with
  | zero => exact h i a b ha hb
  | succ d ih =>
    have hl := (List.getElem?_eq_some_iff.1 hb).1
    have h1 : hs[i + 1 + d]? = some (hs[i + 1 + d]'(by omega)) := List.getElem?_eq_getElem _
    have h2 := ih _ h1
    have h3 := h _ _ _ h1 hb
    omega
theorem valid_srt {v : Vw} (hv : Valid v) : SrtH v.hs := srt_of fun j x y hx hy => by
  have := (valid_at hv hy).2.1 (by omega)
  rw [show j + 1 - 1 = j by omega, hx] at this
  exact this
theorem valid_no {v : Vw} (hv : Valid v) {h : Hd} (hm : h ∈ v.hs) : 0 ≤ h.no ∧ h.no ≤ 65536 := by
  obtain ⟨j, hj⟩ := List.mem_iff_getElem?.1 hm
  exact (verS_bounds (valid_at hv hj).1.2.2).2.2
def InsH (hs : List Hd) (h : Hd) (hs' : List Hd) : Prop := ∃ p, PosH hs h.no p ∧ hs' = if atH hs h.no p = true then hs else hs.insertIdx p h
/-- What is good to be accepted. -/
def GoodA (v : Vw) (es : List En) (h : Hd) : Prop := Valid v ∧ Owns v h ∧ h.no = (es.length : Int) ∧ (∀ (j : Nat) (e : En), es[j]? = some e → IsE e) ∧ Fits h (es.map En.dg)
noncomputable def accF (v : Vw) (es : List En) (h : Hd) : Option FK := (kept (if v.ds.length ≤ es.length then (oddO v.hs (es.map En.dg)).map (fun a => (a, h, es.map En.dg)) else (if tb (Odd v.ds h) = true then some (h, lastH v.hs, v.ds) else none))).1
theorem accF_def (v : Vw) (es : List En) (h : Hd) : accF v es h = (if v.ds.length ≤ es.length then (oddO v.hs (es.map En.dg)).map (fun a => (a, h, es.map En.dg)) else (if tb (Odd v.ds h) = true then some (h, lastH v.hs, v.ds) else none)) := (kept _).2
theorem oddO_one (l : List Dg) (h : Hd) : oddO [h] l = if tb (Odd l h) = true then some h else none := by
  unfold oddO
  cases hb : tb (Odd l h) <;> simp [hb]
theorem accF_long {v n : Vw} {es : List En} {h : Hd} (hl : v.ds.length ≤ es.length) (h1 : n.ds = es.map En.dg) (h2 : n.hs = [h]) : (accO n v.hs).map Fk.key = accF v es h := by
  rw [accF_def, if_pos hl]
  unfold accO
  rw [h1]
  cases oddO v.hs (es.map En.dg) with
  | none => rfl
  | some a => simp [Fk.key, h1, h2, lastH]
theorem accF_short {v : Vw} {es : List En} {h : Hd} (hl : ¬ v.ds.length ≤ es.length) : (accO v [h]).map Fk.key = accF v es h := by
  rw [accF_def, if_neg hl]
  unfold accO
  rw [oddO_one]
  split <;> simp [Fk.key]
theorem accO_ok {H : Froz} {n : Vw} {hs : List Hd} (ho : VwOK H n) {f : Fk} (hf : accO n hs = some f) : FkOK H f := by
  unfold accO at hf
  cases hx : oddO hs n.ds with
  | none => rw [hx] at hf; cases hf
  | some a => rw [hx] at hf; obtain rfl := Option.some.inj hf; exact ⟨ho.rdd, ho.dlen, ho.dcap⟩
/-- What Accept returns. -/
def AccR (v : Vw) (es : List En) (h : Hd) (x : Vw) (f : FK) (e : Int) : Prop :=
  (¬ GoodA v es h ∧ x.key = zVw.key ∧ f = zFk.key ∧ e = 320) ∨
  (GoodA v es h ∧ ∃ r, accF v es h = some r ∧ x.key = v.key ∧ f = r ∧ e = 321) ∨
  (GoodA v es h ∧ accF v es h = none ∧ f = zFk.key ∧ e = 0 ∧ x.st = v.st ∧ x.fo = v.fo ∧ x.pub = v.pub ∧ x.ds = (if v.ds.length ≤ es.length then es.map En.dg else v.ds) ∧ InsH v.hs h x.hs)
theorem srt_ge {hs : List Hd} (h : SrtH hs) (h0 : ∀ x ∈ hs, 0 ≤ x.no) : ∀ (j : Nat) (x : Hd), hs[j]? = some x → (j : Int) ≤ x.no
  | 0, x, hx => h0 x (List.mem_of_getElem? hx)
  | j + 1, x, hx => by
    have hl := (List.getElem?_eq_some_iff.1 hx).1
    have h1 : hs[j]? = some (hs[j]'(by omega)) := List.getElem?_eq_getElem _
    have h2 := srt_ge h h0 j _ h1
    have h3 := h j (j + 1) _ _ (by omega) h1 hx
    omega
theorem valid_len {v : Vw} (hv : Valid v) : v.hs.length ≤ 65537 := by
  rcases Nat.eq_zero_or_pos v.hs.length with h0 | h0
  · omega
  have h1 : v.hs[v.hs.length - 1]? = some (v.hs[v.hs.length - 1]'(by omega)) := List.getElem?_eq_getElem _
  have h2 := srt_ge (valid_srt hv) (fun x hx => (valid_no hv hx).1) _ _ h1
  have h3 := (valid_no hv (List.mem_of_getElem? h1)).2
  omega
end Go.W

/-! Heads, held against each other. -/
namespace Go.W
open Go Go.RowKit
theorem Hd.ext' {a b : Hd} (h1 : a.st = b.st) (h2 : a.fo = b.fo) (h3 : a.no = b.no) (h4 : a.ch = b.ch) (h5 : a.R = b.R) (h6 : a.S = b.S) : a = b := by
  cases a; cases b; simp only at *; subst h1 h2 h3 h4 h5 h6; rfl
section
variable {P : Program}
theorem fieldsOf_of {T : TypeId} {fs : Array Field} (h : P.underlying T = some (.struct fs)) : P.fieldsOf T = fs := by simp [Program.fieldsOf, h]
theorem run_eqDg' {tD E : TypeId} {k' : IntKind} {dd : Nat} (hD : P.underlying tD = some (.array 32 E)) (hE : P.underlying E = some (.int k')) (htE : tyS P E = some (false, 1)) (w : World) (a b : Dg) :
    (Op.equalIn (dd + 2) tD (.agg (dc a).toArray) (.agg (dc b).toArray)).run P w = .ok (decide (a = b)) w := by
  have e : decide (a = b) = decide (a.l.map (fun b => (b.toNat : Int)) = b.l.map (fun b => (b.toNat : Int))) := by
    refine decide_eq_decide.2 ⟨fun h => by rw [h], fun h => Dg.ext' ?_⟩
    have := congrArg (List.map (Value.int .u8)) h
    rw [← bc_ints, ← bc_ints] at this
    exact bc_inj this
  rw [e, dc, dc, bc_ints, bc_ints]
  exact run_eqArrI hD hE htE w (by rw [List.length_map, a.h]) (by rw [List.length_map, b.h])
theorem run_eqSig {tS tI : TypeId} {g0 g1 : Field} {k' : IntKind} {dd : Nat} (hS : P.underlying tS = some (.struct #[g0, g1])) (hp : P.stoodInHeld tS = false) (hn : g0.name ≠ "_" ∧ g1.name ≠ "_") (ht : g0.type = tI ∧ g1.type = tI) (ho : g0.offset = 0 ∧ g1.offset = 1) (hI : P.underlying tI = some (.int k')) (htI : tyS P tI = some (false, 1)) (w : World) (R S R' S' : Int) :
    (Op.equalIn (dd + 2) tS (.agg #[.int .i64 R, .int .i64 S]) (.agg #[.int .i64 R', .int .i64 S'])).run P w = .ok (decide (R = R' ∧ S = S')) w := by
  rw [run_equalIn_struct w (dd + 1) tS _ _ (by rw [fieldsOf_of hS]; exact hS) hp, fieldsOf_of hS]
  have p : ∀ (x y : Int), (part tI #[Value.int .i64 x, .int .i64 y] 0).run P w = .ok (.int .i64 x) w := fun x y => run_part' (cs := [.int .i64 x, .int .i64 y]) htI rfl
  have q : ∀ (x y : Int), (part tI #[Value.int .i64 x, .int .i64 y] 1).run P w = .ok (.int .i64 y) w := fun x y => run_part' (cs := [.int .i64 x, .int .i64 y]) htI rfl
  have i : ∀ (x y : Int), (Op.equalIn (dd + 1) tI (.int .i64 x) (.int .i64 y)).run P w = .ok (x == y) w := fun x y => run_equalIn_int (P := P) w dd tI .i64 k' x y hI
  simp only [Op.eqFields, hn.1, hn.2, ht.1, ht.2, ho.1, ho.2, ne_eq, not_false_eq_true, if_true, Sem.run_bind, p, q, i, Result.andThen_ok, Sem.run_ite]
  by_cases h1 : R = R' <;> by_cases h2 : S = S' <;> simp [h1, h2]
theorem run_eqHd {T tI tD tS E : TypeId} {f0 f1 f2 f3 f4 g0 g1 : Field} {k' kE : IntKind} (h : P.underlying T = some (.struct #[f0, f1, f2, f3, f4])) (hp : P.stoodInHeld T = false) (hn : f0.name ≠ "_" ∧ f1.name ≠ "_" ∧ f2.name ≠ "_" ∧ f3.name ≠ "_" ∧ f4.name ≠ "_")
    (ht : f0.type = tI ∧ f1.type = tI ∧ f2.type = tI ∧ f3.type = tD ∧ f4.type = tS) (ho : f0.offset = 0 ∧ f1.offset = 1 ∧ f2.offset = 2 ∧ f3.offset = 3 ∧ f4.offset = 35)
    (hI : P.underlying tI = some (.int k')) (htI : tyS P tI = some (false, 1)) (hD : P.underlying tD = some (.array 32 E)) (htD : tyS P tD = some (true, 32)) (hE : P.underlying E = some (.int kE)) (htE : tyS P E = some (false, 1))
    (hS : P.underlying tS = some (.struct #[g0, g1])) (hpS : P.stoodInHeld tS = false) (htS : tyS P tS = some (true, 2)) (hnS : g0.name ≠ "_" ∧ g1.name ≠ "_") (htS2 : g0.type = tI ∧ g1.type = tI) (hoS : g0.offset = 0 ∧ g1.offset = 1) (w : World) (a b : Hd) :
    (Op.equalIn 10000 T (.agg a.c.toArray) (.agg b.c.toArray)).run P w = .ok (tb (a = b)) w := by
  rw [show (10000 : Nat) = 9999 + 1 from rfl, run_equalIn_struct w 9999 T _ _ (by rw [fieldsOf_of h]; exact h) hp, fieldsOf_of h]
  have p0 : ∀ x : Hd, (part tI x.c.toArray 0).run P w = .ok (.int .i64 x.st) w := fun x => run_part' htI rfl
  have p1 : ∀ x : Hd, (part tI x.c.toArray 1).run P w = .ok (.int .i64 x.fo) w := fun x => run_part' htI rfl
  have p2 : ∀ x : Hd, (part tI x.c.toArray 2).run P w = .ok (.int .i64 x.no) w := fun x => run_part' htI rfl
  have p3 : ∀ x : Hd, (part tD x.c.toArray 3).run P w = .ok (.agg (dc x.ch).toArray) w := fun x => run_part' htD x.ld_ch
  have p4 : ∀ x : Hd, (part tS x.c.toArray 35).run P w = .ok (.agg #[.int .i64 x.R, .int .i64 x.S]) w := fun x => run_part' htS x.ld_sig
  have i : ∀ (x y : Int), (Op.equalIn 9999 tI (.int .i64 x) (.int .i64 y)).run P w = .ok (x == y) w := fun x y => run_equalIn_int (P := P) w 9998 tI .i64 k' x y hI
  have d : ∀ x y : Dg, (Op.equalIn 9999 tD (.agg (dc x).toArray) (.agg (dc y).toArray)).run P w = .ok (decide (x = y)) w := fun x y => run_eqDg' (dd := 9997) hD hE htE w x y
  have s : ∀ R S R' S' : Int, (Op.equalIn 9999 tS (.agg #[.int .i64 R, .int .i64 S]) (.agg #[.int .i64 R', .int .i64 S'])).run P w = .ok (decide (R = R' ∧ S = S')) w := fun R S R' S' => run_eqSig (dd := 9997) hS hpS hnS htS2 hoS hI htI w R S R' S'
  simp only [Op.eqFields, hn, ht, ho, ne_eq, not_false_eq_true, if_true, Sem.run_bind, p0, p1, p2, p3, p4, i, d, s, Result.andThen_ok, Sem.run_ite, Sem.run_pure]
  by_cases h1 : a.st = b.st
  · by_cases h2 : a.fo = b.fo
    · by_cases h3 : a.no = b.no
      · by_cases h4 : a.ch = b.ch
        · by_cases h5 : a.R = b.R ∧ a.S = b.S
          · rw [tb_true (Hd.ext' h1 h2 h3 h4 h5.1 h5.2)]; simp [h1, h2, h3, h4, h5]
          · rw [tb_false (fun q : a = b => h5 (by rw [q]; exact ⟨rfl, rfl⟩))]; simp [h1, h2, h3, h4]; intro q; exact fun q2 => h5 ⟨q, q2⟩
        · rw [tb_false (fun q : a = b => h4 (by rw [q]))]; simp [h1, h2, h3, h4]
      · rw [tb_false (fun q : a = b => h3 (by rw [q]))]; simp [h1, h2, h3]
    · rw [tb_false (fun q : a = b => h2 (by rw [q]))]; simp [h1, h2]
  · rw [tb_false (fun q : a = b => h1 (by rw [q]))]; simp [h1]
variable {S : World → Prop} {F : Fr} {ty T t' : TypeId} {x y : Operand}
theorem q_neHd {a b : Hd} (hg : guS P T = true) (he : ∀ w, (Op.equalIn 10000 T (.agg a.c.toArray) (.agg b.c.toArray)).run P w = .ok (tb (a = b)) w) (hx : oev F x = some (.agg a.c.toArray)) (hy : oev F y = some (.agg b.c.toArray)) : Qt P S F (.binOp .neq T x y t') ty (.bool (!tb (a = b))) := by
  intro ρ hρ w _ d pos after g
  have e2 : (eqGuard .neq T x y (.agg a.c.toArray) (.agg b.c.toArray)).run P w = .ok () w := run_eqGuard_agg w .neq T x y _ _ (by simpa [guS] using hg)
  have e3 := run_neq_struct (P := P) w T a.c.toArray b.c.toArray
  rw [he w] at e3
  simp only [execOp, hρ x _ hx, hρ y _ hy, Sem.run_bind, e3, e2, Result.andThen_ok, Sem.run_pure]
end
end Go.W

/-! Plain: the helpers of the statements about views. -/
namespace Go.W
open Go Go.RowKit
theorem eq_lists {α : Type} {a b : List α} (hl : a.length = b.length) (h : ∀ (j : Nat) (x y : α), a[j]? = some x → b[j]? = some y → x = y) : a = b := by
  apply List.ext_getElem hl
  intro i h1 h2
  exact h i _ _ (List.getElem?_eq_getElem h1) (List.getElem?_eq_getElem h2)
theorem ne_lists {α : Type} {a b : List α} {j : Nat} {x y : α} (h1 : a[j]? = some x) (h2 : b[j]? = some y) (hn : ¬ x = y) : ¬ a = b := fun q => by
  subst q; rw [h1] at h2; exact hn (Option.some.inj h2)
def OpenOK (id priv f : Int) : Prop := (0 ≤ id ∧ id < 4) ∧ keyOk priv = true ∧ 0 ≤ f ∧ f < 16
theorem newP_iff {id priv : Int} : (newP id priv).2.2 = 0 ↔ (0 ≤ id ∧ id < 4) ∧ keyOk priv = true := by
  rw [newP_def]
  split
  · rename_i h; exact ⟨fun q => absurd q (by decide), fun q => by omega⟩
  · rename_i h
    split
    · rename_i h2; exact ⟨fun _ => ⟨by omega, h2⟩, fun _ => rfl⟩
    · rename_i h2; exact ⟨fun q => absurd q (by decide), fun q => absurd q.2 h2⟩
theorem pub_ok {priv : Int} (h : keyOk priv = true) : (pubP priv).2 = 0 := by rw [pubP2, h]; rfl
theorem newP_st {id priv : Int} (h : (newP id priv).2.2 = 0) : newP id priv = (id, priv, 0) := by
  obtain ⟨h1, h2⟩ := newP_iff.1 h
  rw [newP_def, if_neg (by omega), if_pos h2]
/-- Strings of an input, and the entries made of them. -/
def srE (data : List ByteArray) : List (List Value) := data.map fun s => [.string s]
def totK (data : List ByteArray) (k : Nat) : Nat := ((data.take k).map ByteArray.size).sum
def totL (data : List ByteArray) : Nat := totK data data.length
theorem totK_succ {data : List ByteArray} {k : Nat} {s : ByteArray} (h : data[k]? = some s) : totK data (k + 1) = totK data k + s.size := by
  unfold totK
  rw [List.take_add_one, h]
  simp
theorem totK_le {data : List ByteArray} (k : Nat) (h : k ≤ data.length) : totK data k ≤ totL data := by
  unfold totL
  obtain ⟨d, hd⟩ : ∃ d, data.length = k + d := ⟨data.length - k, by omega⟩
  rw [hd]
  clear hd h
  induction d with
  | zero => exact Nat.le_refl _
  | succ d ih =>
    refine Nat.le_trans ih ?_
    rw [← Nat.add_assoc]
    cases hs : data[k + d]? with
    | some s => rw [totK_succ hs]; exact Nat.le_add_right _ _
    | none =>
      have hl := List.getElem?_eq_none_iff.1 hs
      unfold totK
      rw [List.take_of_length_le hl, List.take_of_length_le (by omega)]
      exact Nat.le_refl _
theorem tot_one {data : List ByteArray} {k : Nat} {s : ByteArray} (h : data[k]? = some s) : s.size ≤ totL data := by
  have hk := (List.getElem?_eq_some_iff.1 h).1
  have h1 := totK_le (data := data) (k + 1) hk
  rw [totK_succ h] at h1
  omega
noncomputable def comK (s : ByteArray) : EK := (1, digE 1 s.data.toList, s.data.toList, false)
noncomputable def comE (data : List ByteArray) : List EK := data.map comK
theorem com_snoc {data : List ByteArray} {k : Nat} {s : ByteArray} {es : List En} {e : En} (h : data[k]? = some s) (h1 : es.map En.key = (comE data).take k) (h2 : e.key = comK s) : (es ++ [e]).map En.key = (comE data).take (k + 1) := by
  rw [List.take_add_one, List.map_append, h1]
  simp [comE, h, h2]
theorem com_len {data : List ByteArray} {k : Nat} {es : List En} (hk : k ≤ data.length) (h1 : es.map En.key = (comE data).take k) : es.length = k := by
  have := congrArg List.length h1
  rw [List.length_map, List.length_take, comE, List.length_map, Nat.min_eq_left hk] at this
  exact this
end Go.W

/-! The chapter's examples: two chains that differ, by reckoning. -/
namespace Go.W
open Go Go.RowKit
theorem tagged_l (t b : List UInt8) : (tagged t b).l = sha (sha t ++ b) := by unfold tagged; rw [shaD_l, shaD_l]
theorem s_entry : sha tEntry = [146, 63, 229, 57, 102, 198, 205, 147, 67, 225, 26, 247, 118, 205, 75, 5, 190, 49, 94, 164, 178, 0, 176, 46, 77, 93, 251, 15, 146, 155, 115, 191] := by decide +kernel
theorem s_log : sha tLog = [131, 111, 241, 132, 231, 180, 27, 30, 19, 203, 95, 216, 159, 161, 222, 152, 219, 186, 185, 158, 157, 41, 24, 145, 63, 244, 59, 134, 165, 199, 194, 19] := by decide +kernel
theorem s_chain : sha tChain = [148, 20, 136, 107, 30, 191, 2, 93, 176, 103, 164, 203, 209, 58, 9, 3, 251, 217, 115, 58, 83, 114, 187, 161, 181, 139, 215, 44, 22, 153, 183, 152] := by decide +kernel
theorem s_da : sha ([146, 63, 229, 57, 102, 198, 205, 147, 67, 225, 26, 247, 118, 205, 75, 5, 190, 49, 94, 164, 178, 0, 176, 46, 77, 93, 251, 15, 146, 155, 115, 191] ++ (1 :: [97])) = [176, 216, 68, 83, 25, 100, 161, 205, 28, 228, 205, 254, 233, 36, 190, 171, 115, 214, 165, 97, 106, 182, 125, 112, 38, 227, 34, 100, 62, 54, 65, 43] := by decide +kernel
theorem dig_a : (digE 1 [97]).l = [176, 216, 68, 83, 25, 100, 161, 205, 28, 228, 205, 254, 233, 36, 190, 171, 115, 214, 165, 97, 106, 182, 125, 112, 38, 227, 34, 100, 62, 54, 65, 43] := by
  unfold digE
  rw [tagged_l, s_entry]
  exact s_da
theorem s_db : sha ([146, 63, 229, 57, 102, 198, 205, 147, 67, 225, 26, 247, 118, 205, 75, 5, 190, 49, 94, 164, 178, 0, 176, 46, 77, 93, 251, 15, 146, 155, 115, 191] ++ (1 :: [98])) = [49, 35, 15, 49, 16, 105, 101, 148, 213, 10, 134, 234, 47, 211, 233, 220, 181, 198, 116, 156, 211, 97, 195, 202, 22, 31, 22, 93, 164, 170, 146, 48] := by decide +kernel
theorem dig_b : (digE 1 [98]).l = [49, 35, 15, 49, 16, 105, 101, 148, 213, 10, 134, 234, 47, 211, 233, 220, 181, 198, 116, 156, 211, 97, 195, 202, 22, 31, 22, 93, 164, 170, 146, 48] := by
  unfold digE
  rw [tagged_l, s_entry]
  exact s_db
theorem s_dc : sha ([146, 63, 229, 57, 102, 198, 205, 147, 67, 225, 26, 247, 118, 205, 75, 5, 190, 49, 94, 164, 178, 0, 176, 46, 77, 93, 251, 15, 146, 155, 115, 191] ++ (1 :: [99])) = [253, 134, 228, 223, 176, 4, 75, 244, 74, 109, 141, 39, 192, 246, 109, 100, 83, 237, 219, 229, 193, 18, 184, 30, 231, 201, 208, 135, 125, 224, 221, 160] := by decide +kernel
theorem dig_c : (digE 1 [99]).l = [253, 134, 228, 223, 176, 4, 75, 244, 74, 109, 141, 39, 192, 246, 109, 100, 83, 237, 219, 229, 193, 18, 184, 30, 231, 201, 208, 135, 125, 224, 221, 160] := by
  unfold digE
  rw [tagged_l, s_entry]
  exact s_dc
theorem s_base : sha ([131, 111, 241, 132, 231, 180, 27, 30, 19, 203, 95, 216, 159, 161, 222, 152, 219, 186, 185, 158, 157, 41, 24, 145, 63, 244, 59, 134, 165, 199, 194, 19] ++ [3]) = [125, 70, 122, 98, 12, 73, 119, 122, 49, 240, 24, 19, 185, 105, 249, 83, 165, 198, 161, 7, 132, 68, 24, 21, 224, 245, 181, 97, 97, 68, 93, 255] := by decide +kernel
theorem base_3 (ds : List Dg) : (chainK 3 ds 0).l = [125, 70, 122, 98, 12, 73, 119, 122, 49, 240, 24, 19, 185, 105, 249, 83, 165, 198, 161, 7, 132, 68, 24, 21, 224, 245, 181, 97, 97, 68, 93, 255] := by
  unfold chainK
  rw [List.take_zero, List.foldl_nil, tagged_l, s_log]
  exact s_base
theorem s_ca : sha ([148, 20, 136, 107, 30, 191, 2, 93, 176, 103, 164, 203, 209, 58, 9, 3, 251, 217, 115, 58, 83, 114, 187, 161, 181, 139, 215, 44, 22, 153, 183, 152] ++ ([125, 70, 122, 98, 12, 73, 119, 122, 49, 240, 24, 19, 185, 105, 249, 83, 165, 198, 161, 7, 132, 68, 24, 21, 224, 245, 181, 97, 97, 68, 93, 255] ++ [176, 216, 68, 83, 25, 100, 161, 205, 28, 228, 205, 254, 233, 36, 190, 171, 115, 214, 165, 97, 106, 182, 125, 112, 38, 227, 34, 100, 62, 54, 65, 43])) = [193, 94, 215, 91, 167, 244, 244, 94, 73, 13, 91, 81, 238, 56, 128, 71, 119, 206, 168, 241, 144, 32, 38, 237, 122, 111, 98, 221, 218, 161, 218, 104] := by decide +kernel
theorem s_cab : sha ([148, 20, 136, 107, 30, 191, 2, 93, 176, 103, 164, 203, 209, 58, 9, 3, 251, 217, 115, 58, 83, 114, 187, 161, 181, 139, 215, 44, 22, 153, 183, 152] ++ ([193, 94, 215, 91, 167, 244, 244, 94, 73, 13, 91, 81, 238, 56, 128, 71, 119, 206, 168, 241, 144, 32, 38, 237, 122, 111, 98, 221, 218, 161, 218, 104] ++ [49, 35, 15, 49, 16, 105, 101, 148, 213, 10, 134, 234, 47, 211, 233, 220, 181, 198, 116, 156, 211, 97, 195, 202, 22, 31, 22, 93, 164, 170, 146, 48])) = [36, 151, 38, 101, 172, 146, 4, 229, 31, 254, 157, 139, 111, 215, 101, 130, 253, 37, 13, 211, 103, 72, 30, 173, 39, 24, 54, 163, 237, 198, 84, 169] := by decide +kernel
theorem s_cac : sha ([148, 20, 136, 107, 30, 191, 2, 93, 176, 103, 164, 203, 209, 58, 9, 3, 251, 217, 115, 58, 83, 114, 187, 161, 181, 139, 215, 44, 22, 153, 183, 152] ++ ([193, 94, 215, 91, 167, 244, 244, 94, 73, 13, 91, 81, 238, 56, 128, 71, 119, 206, 168, 241, 144, 32, 38, 237, 122, 111, 98, 221, 218, 161, 218, 104] ++ [253, 134, 228, 223, 176, 4, 75, 244, 74, 109, 141, 39, 192, 246, 109, 100, 83, 237, 219, 229, 193, 18, 184, 30, 231, 201, 208, 135, 125, 224, 221, 160])) = [205, 201, 193, 175, 9, 102, 240, 133, 60, 171, 5, 168, 139, 93, 109, 74, 3, 139, 188, 3, 73, 249, 210, 74, 132, 111, 38, 129, 189, 9, 110, 39] := by decide +kernel
theorem chain_ab : (chainK 3 [digE 1 [97], digE 1 [98]] 2).l = [36, 151, 38, 101, 172, 146, 4, 229, 31, 254, 157, 139, 111, 215, 101, 130, 253, 37, 13, 211, 103, 72, 30, 173, 39, 24, 54, 163, 237, 198, 84, 169] := by
  rw [chainK_succ (show 1 < 2 by decide), tagged_l, s_chain, chainK_succ (show 0 < 2 by decide), tagged_l, s_chain, base_3]
  show sha (_ ++ (sha (_ ++ (_ ++ (digE 1 [97]).l)) ++ (digE 1 [98]).l)) = _
  rw [dig_a, dig_b, s_ca]
  exact s_cab
theorem chain_ac : (chainK 3 [digE 1 [97], digE 1 [99]] 2).l = [205, 201, 193, 175, 9, 102, 240, 133, 60, 171, 5, 168, 139, 93, 109, 74, 3, 139, 188, 3, 73, 249, 210, 74, 132, 111, 38, 129, 189, 9, 110, 39] := by
  rw [chainK_succ (show 1 < 2 by decide), tagged_l, s_chain, chainK_succ (show 0 < 2 by decide), tagged_l, s_chain, base_3]
  show sha (_ ++ (sha (_ ++ (_ ++ (digE 1 [97]).l)) ++ (digE 1 [99]).l)) = _
  rw [dig_a, dig_c, s_ca]
  exact s_cac
theorem chains_ne : ¬ chainK 3 [digE 1 [97], digE 1 [99]] 2 = chainK 3 [digE 1 [97], digE 1 [98]] 2 := fun h => by
  have := congrArg Dg.l h
  rw [chain_ab, chain_ac] at this
  exact absurd this (by decide)
end Go.W

/-! Plain: what Accept keeps; the heads that a new store signs. -/
namespace Go.W
open Go Go.RowKit
theorem fits_le {h : Hd} {l : List Dg} (hf : Fits h l) : 0 ≤ h.no ∧ h.no ≤ (l.length : Int) := by
  obtain ⟨n, h1, h2, _⟩ := hf; omega
theorem odd_none {hs : List Hd} {l : List Dg} (h : oddO hs l = none) {a : Hd} (ha : a ∈ hs) (hl : a.no ≤ (l.length : Int)) : Fits a l := by
  unfold oddO at h
  rw [List.find?_eq_none] at h
  have h9 := h a ha
  rw [odd_yes hl] at h9
  cases hb : tb (Fits a l) with
  | true => exact tb_iff.1 hb
  | false => rw [hb] at h9; exact absurd rfl h9
theorem ins_at {hs : List Hd} {h : Hd} {p : Nat} (hp : p ≤ hs.length) (j : Nat) : (hs.insertIdx p h)[j]? = if j < p then hs[j]? else if j = p then some h else hs[j - 1]? := by
  rw [List.getElem?_insertIdx]
  split
  · rfl
  · split
    · rename_i h1 h2; subst h2; rw [if_pos hp]
    · rfl
theorem valid_of {x : Vw} (h1 : 0 ≤ x.st ∧ x.st < 4) (h2 : 0 ≤ x.fo ∧ x.fo < 16) (h3 : (lastH x.hs).no = (x.ds.length : Int)) (h4 : ∀ a ∈ x.hs, Owns x a ∧ Fits a x.ds) (h5 : SrtH x.hs) : Valid x :=
  ⟨h1, h2, h3, fun j _ h hh => ⟨(h4 h (List.mem_of_getElem? hh)).1, fun h0 => by
    have hj := (List.getElem?_eq_some_iff.1 hh).1
    have h9 : x.hs[j - 1]? = some (x.hs[j - 1]'(by omega)) := List.getElem?_eq_getElem _
    rw [h9]
    exact h5 (j - 1) j _ _ (by omega) h9 hh, (h4 h (List.mem_of_getElem? hh)).2⟩⟩
theorem valid_le {v : Vw} (hv : Valid v) {a : Hd} (ha : a ∈ v.hs) : a.no ≤ (v.ds.length : Int) := by
  obtain ⟨j, hj⟩ := List.mem_iff_getElem?.1 ha
  exact (fits_le (valid_at hv hj).2.2).2
theorem ins_srt {hs : List Hd} {h : Hd} {p : Nat} (hs1 : SrtH hs) (hp : PosH hs h.no p) (ha : atH hs h.no p = false) : SrtH (hs.insertIdx p h) := by
  have hgt : ∀ (j : Nat) (a : Hd), p ≤ j → hs[j]? = some a → h.no < a.no := fun j a hj hja => by
    have h1 := hp.hi j a hj hja
    rcases Nat.eq_or_lt_of_le hj with h2 | h2
    · subst h2; have := atH_none ha hja; omega
    · have hl := (List.getElem?_eq_some_iff.1 hja).1
      have h3 : hs[p]? = some (hs[p]'(by omega)) := List.getElem?_eq_getElem _
      have h4 := hp.hi p _ (Nat.le_refl _) h3
      have h5 := hs1 p j _ _ h2 h3 hja
      omega
  intro i j a b hij hia hjb
  rw [ins_at hp.le] at hia hjb
  by_cases h1 : i < p
  · rw [if_pos h1] at hia
    by_cases h2 : j < p
    · rw [if_pos h2] at hjb; exact hs1 i j a b hij hia hjb
    · rw [if_neg h2] at hjb
      by_cases h3 : j = p
      · rw [if_pos h3] at hjb; obtain rfl := Option.some.inj hjb; exact hp.lo i a h1 hia
      · rw [if_neg h3] at hjb; exact hs1 i (j - 1) a b (by omega) hia hjb
  · rw [if_neg h1] at hia
    rw [if_neg (show ¬ j < p by omega), if_neg (show ¬ j = p by omega)] at hjb
    by_cases h3 : i = p
    · rw [if_pos h3] at hia; obtain rfl := Option.some.inj hia; exact hgt (j - 1) b (by omega) hjb
    · rw [if_neg h3] at hia; exact hs1 (i - 1) (j - 1) a b (by omega) hia hjb
theorem ins_mem {hs : List Hd} {h : Hd} {p : Nat} (hp : p ≤ hs.length) {a : Hd} (ha : a ∈ hs.insertIdx p h) : a = h ∨ a ∈ hs := (List.mem_insertIdx hp).1 ha
structure Kept (v : Vw) (h : Hd) (x : Vw) : Prop where
  val : Valid x
  sub : ∀ a ∈ v.hs, a ∈ x.hs
  new : h ∈ x.hs ∨ ∃ a ∈ v.hs, a.no = h.no
  mem : ∀ a ∈ x.hs, a = h ∨ a ∈ v.hs
theorem acc_kept {v x : Vw} {es : List En} {h : Hd} (hg : GoodA v es h) (hf : accF v es h = none) (h1 : x.st = v.st) (h2 : x.fo = v.fo) (h3 : x.pub = v.pub) (h4 : x.ds = (if v.ds.length ≤ es.length then es.map En.dg else v.ds)) (h5 : InsH v.hs h x.hs) : Kept v h x := by
  obtain ⟨hv, how, hno, hie, hft⟩ := hg
  obtain ⟨p, hp, hx⟩ := h5
  have hsr := valid_srt hv
  have hmem : ∀ a ∈ x.hs, a = h ∨ a ∈ v.hs := fun a ha => by
    rw [hx] at ha
    split at ha
    · exact .inr ha
    · exact ins_mem hp.le ha
  have hfit : ∀ a ∈ x.hs, Fits a x.ds := fun a ha => by
    rw [accF_def] at hf
    rw [h4]
    by_cases hl : v.ds.length ≤ es.length
    · rw [if_pos hl] at hf ⊢
      have hodd : oddO v.hs (es.map En.dg) = none := by
        cases ho : oddO v.hs (es.map En.dg) with
        | none => rfl
        | some q => rw [ho] at hf; cases hf
      rcases hmem a ha with rfl | hm
      · exact hft
      · exact odd_none hodd hm (by have := valid_le hv hm; rw [List.length_map]; omega)
    · rw [if_neg hl] at hf ⊢
      rcases hmem a ha with rfl | hm
      · by_cases hb : tb (Odd v.ds a) = true
        · rw [if_pos hb] at hf; cases hf
        · have h9 := odd_yes (h := a) (l := v.ds) (by omega)
          rw [h9] at hb
          cases hc : tb (Fits a v.ds) with
          | true => exact tb_iff.1 hc
          | false => rw [hc] at hb; exact absurd rfl hb
      · obtain ⟨j, hj⟩ := List.mem_iff_getElem?.1 hm
        exact (valid_at hv hj).2.2
  have hown : ∀ a ∈ x.hs, Owns x a := fun a ha => by
    have : Owns v a := by
      rcases hmem a ha with rfl | hm
      · exact how
      · obtain ⟨j, hj⟩ := List.mem_iff_getElem?.1 hm
        exact (valid_at hv hj).1
    exact ⟨this.1.trans h1.symm, this.2.1.trans h2.symm, by rw [h3]; exact this.2.2⟩
  have hsub : ∀ a ∈ v.hs, a ∈ x.hs := fun a ha => by
    rw [hx]
    split
    · exact ha
    · exact (List.mem_insertIdx hp.le).2 (.inr ha)
  have hnew : h ∈ x.hs ∨ ∃ a ∈ v.hs, a.no = h.no := by
    cases hat : atH v.hs h.no p with
    | true => obtain ⟨y, hy, hyn⟩ := atH_some hat; exact .inr ⟨y, List.mem_of_getElem? hy, hyn⟩
    | false => left; rw [hx, if_neg (by rw [hat]; decide)]; exact (List.mem_insertIdx hp.le).2 (.inl rfl)
  have hsrt : SrtH x.hs := by
    rw [hx]
    cases hat : atH v.hs h.no p with
    | true => rw [if_pos rfl]; exact hsr
    | false => rw [if_neg (by decide)]; exact ins_srt hsr hp hat
  have hlast : (lastH x.hs).no = (x.ds.length : Int) := by
    have hvl := hv.2.2.1
    rw [hx, h4]
    by_cases hl : v.ds.length ≤ es.length
    · rw [if_pos hl, List.length_map]
      cases hat : atH v.hs h.no p with
      | true =>
        rw [if_pos rfl]
        obtain ⟨y, hy, hyn⟩ := atH_some hat
        have := valid_le hv (List.mem_of_getElem? hy)
        omega
      | false =>
        rw [if_neg (by decide)]
        have hpe : p = v.hs.length := by
          rcases Nat.lt_or_ge p v.hs.length with hlt | hge
          · have h6 : v.hs[p]? = some v.hs[p] := List.getElem?_eq_getElem _
            have h7 := hp.hi p _ (Nat.le_refl _) h6
            have h8 := valid_le hv (List.mem_of_getElem? h6)
            exact absurd (show v.hs[p].no = h.no by omega) (atH_none hat h6)
          · have := hp.le; omega
        have : lastH (v.hs.insertIdx p h) = h := lastH_at (by rw [ins_at hp.le, List.length_insertIdx_of_le_length hp.le, if_neg (by omega), if_pos (by omega)])
        rw [this, hno]
    · rw [if_neg hl]
      cases hat : atH v.hs h.no p with
      | true => rw [if_pos rfl]; exact hvl
      | false =>
        rw [if_neg (by decide)]
        have hpos : 0 < v.hs.length := by
          rcases Nat.eq_zero_or_pos v.hs.length with h0 | h0
          · rw [lastH_nil h0] at hvl
            have : (zHd.no : Int) = 0 := rfl
            omega
          · exact h0
        have h6 : v.hs[v.hs.length - 1]? = some (v.hs[v.hs.length - 1]'(by omega)) := List.getElem?_eq_getElem _
        have h7 := lastH_at h6
        have hplt : p ≤ v.hs.length - 1 := by
          rcases Nat.lt_or_ge (v.hs.length - 1) p with hlt | hge
          · have h8 := hp.lo _ _ hlt h6
            rw [← h7] at h8
            omega
          · exact hge
        have : lastH (v.hs.insertIdx p h) = v.hs[v.hs.length - 1]'(by omega) := lastH_at (by
          rw [ins_at hp.le, List.length_insertIdx_of_le_length hp.le, if_neg (by omega), if_neg (by omega), show v.hs.length + 1 - 1 - 1 = v.hs.length - 1 by omega]; exact h6)
        rw [this, ← h7]
        exact hvl
  exact ⟨valid_of (by rw [h1]; exact hv.1) (by rw [h2]; exact hv.2.1) hlast (fun a ha => ⟨hown a ha, hfit a ha⟩) hsrt, hsub, hnew, hmem⟩
end Go.W

/-! Plain: heads that a new store signs; views of one log. -/
namespace Go.W
open Go Go.RowKit
def newS (id priv : Int) : Sto := ⟨id, priv, none, 0, []⟩
noncomputable def mkH (id priv f : Int) (ds : List Dg) : Hd := signH (newS id priv) f ds
structure MkH (id priv f : Int) (ds : List Dg) (h : Hd) : Prop where
  st : h.st = id
  fo : h.fo = f
  no : h.no = (ds.length : Int)
  ch : h.ch = chainK f ds ds.length
  ver : verS (pubP priv).1 h = true
theorem newS_good {id priv f : Int} (ho : OpenOK id priv f) (H : Froz) : GoodS H (newS id priv) id priv [] := GoodS.new_ id priv (newP_iff.2 ⟨ho.1, ho.2.1⟩)
theorem newS_sign {id priv f : Int} (ho : OpenOK id priv f) {n : Nat} (hn : n ≤ 65536) : signE (newS id priv) f n = 0 := by
  rw [(newS_good ho (fun _ => none)).signE, if_pos ho.2.2, if_neg (by omega)]
theorem mk_facts {id priv f : Int} (ho : OpenOK id priv f) {ds : List Dg} (hl : ds.length ≤ 65536) : MkH id priv f ds (mkH id priv f ds) := by
  have hd : mkH id priv f ds = headN (newS id priv) f ds := by unfold mkH; rw [signH_def, if_pos (newS_sign ho hl)]
  exact ⟨by rw [hd]; rfl, by rw [hd]; rfl, by rw [hd]; rfl, by rw [hd]; rfl, (newS_good ho (fun _ => none)).head ho.2.1 ho.1 ho.2.2 hl⟩
theorem chainK_pre {f : Int} {D : List Dg} {m n : Nat} (h : m ≤ n) : chainK f (D.take n) m = chainK f D m := by
  unfold chainK
  rw [List.take_take, Nat.min_eq_left h]
theorem chainK_self {f : Int} {D : List Dg} {m : Nat} (hm : m ≤ D.length) : chainK f (D.take m) (D.take m).length = chainK f D m := by
  rw [List.length_take, Nat.min_eq_left hm, chainK_pre (Nat.le_refl _)]
theorem fits_mk {id priv f : Int} {ds l : List Dg} {h : Hd} (hh : MkH id priv f ds h) : Fits h l ↔ ds.length ≤ l.length ∧ chainK f l ds.length = chainK f ds ds.length := by
  constructor
  · rintro ⟨n, h1, h2, h3⟩
    have hn : n = ds.length := by have := hh.no; omega
    subst hn
    rw [hh.fo, hh.ch] at h3
    exact ⟨h2, h3⟩
  · rintro ⟨h1, h2⟩
    exact ⟨ds.length, hh.no, h1, by rw [hh.fo, hh.ch]; exact h2⟩
theorem fits_pre {id priv f : Int} {D : List Dg} {m n : Nat} {h : Hd} (hm : m ≤ n) (hn : n ≤ D.length) (hh : MkH id priv f (D.take m) h) : Fits h (D.take n) := by
  rw [fits_mk hh]
  have h1 : (D.take m).length = m := by rw [List.length_take]; omega
  have h2 : (D.take n).length = n := by rw [List.length_take]; omega
  exact ⟨by omega, by rw [chainK_self (Nat.le_trans hm hn), h1, chainK_pre hm]⟩
/-- A view of a log of which it was shown beginnings, the longest N long. -/
structure VOf (id priv f : Int) (D : List Dg) (N : Nat) (v : Vw) : Prop where
  st : v.st = id
  fo : v.fo = f
  pub : v.pub = (pubP priv).1
  le : N ≤ D.length
  ds : v.ds = D.take N
  val : Valid v
  hs : ∀ a ∈ v.hs, ∃ m, m ≤ N ∧ MkH id priv f (D.take m) a
theorem VOf.len {id priv f : Int} {D : List Dg} {N : Nat} {v : Vw} (h : VOf id priv f D N v) : v.ds.length = N := by rw [h.ds, List.length_take]; have := h.le; omega
theorem VOf.new {id priv f : Int} (ho : OpenOK id priv f) (D : List Dg) : VOf id priv f D 0 ⟨id, f, (pubP priv).1, none, 0, [], none, 0, []⟩ :=
  ⟨rfl, rfl, rfl, Nat.zero_le _, rfl, ⟨ho.1, ho.2.2, rfl, fun j hj => absurd hj (Nat.not_lt_zero _)⟩, fun a ha => (by cases ha)⟩
theorem isE_com {e : En} {s : ByteArray} (h : e.key = comK s) : IsE e := by
  have h1 : e.kind = 1 := congrArg (·.1) h
  have h2 : e.dg = digE 1 s.data.toList := congrArg (·.2.1) h
  have h3 : e.bs = s.data.toList := congrArg (·.2.2.1) h
  have h4 : e.gone = false := congrArg (·.2.2.2) h
  exact ⟨by omega, fun q => (by rw [h4] at q; cases q), fun _ => by rw [h1, h2, h3]⟩
theorem com_at {data : List ByteArray} {es : List En} (h : es.map En.key = comE data) {j : Nat} {e : En} (he : es[j]? = some e) : IsE e := by
  have h1 := congrArg (·[j]?) h
  simp only [List.getElem?_map, he, comE, Option.map_some] at h1
  cases hd : data[j]? with
  | none => rw [hd] at h1; cases h1
  | some s => rw [hd] at h1; exact isE_com (Option.some.inj h1)
theorem good_of {id priv f : Int} {D ds : List Dg} {N : Nat} {v : Vw} {es : List En} {h : Hd} (hv : VOf id priv f D N v) (hh : MkH id priv f ds h) (hes : es.map En.dg = ds) (hie : ∀ (j : Nat) (e : En), es[j]? = some e → IsE e) : GoodA v es h := by
  have hl : ds.length = es.length := by rw [← hes, List.length_map]
  refine ⟨hv.val, ⟨by rw [hh.st, hv.st], by rw [hh.fo, hv.fo], by rw [hv.pub]; exact hh.ver⟩, by rw [hh.no, hl], hie, ?_⟩
  rw [hes, fits_mk hh]
  exact ⟨Nat.le_refl _, rfl⟩
theorem VOf.acc_none {id priv f : Int} {D : List Dg} {N M : Nat} {v w : Vw} (hv : VOf id priv f D N v) (hw : VOf id priv f D M w) : accO v w.hs = none := by
  unfold accO
  have : oddO w.hs v.ds = none := by
    unfold oddO
    rw [List.find?_eq_none]
    intro a ha
    obtain ⟨m, hm, hma⟩ := hw.hs a ha
    rw [tb_false (fun q : Odd v.ds a => by
      have h1 := q.1
      rw [hv.len, hma.no, List.length_take] at h1
      have := hw.le
      exact q.2 (by rw [hv.ds]; exact fits_pre (by omega) hv.le hma))]
    decide
  rw [this]; rfl
theorem VOf.cmp {id priv f : Int} {D : List Dg} {N M : Nat} {v w : Vw} (hv : VOf id priv f D N v) (hw : VOf id priv f D M w) : cmpO v w = none := by
  rw [cmpO_def]
  split
  · split
    · unfold cmpXY; rw [hw.acc_none hv, hv.acc_none hw]
    · unfold cmpXY; rw [hv.acc_none hw, hw.acc_none hv]
  · rfl
theorem ins_nil {h : Hd} {hs' : List Hd} (hi : InsH [] h hs') : hs' = [h] := by
  obtain ⟨p, hp, hx⟩ := hi
  have hp0 : p = 0 := by have := hp.le; simpa using this
  subst hp0
  rw [hx]
  rfl
theorem VwOK.new (H : Froz) (st fo pub : Int) : VwOK H ⟨st, fo, pub, none, 0, [], none, 0, []⟩ := ⟨RdL.nil _ _ _, RdL.nil _ _ _, Nat.zero_le _, Nat.zero_le _, Nat.le_refl _, Nat.le_refl _⟩
theorem valid_new {st fo pub : Int} (h1 : 0 ≤ st ∧ st < 4) (h2 : 0 ≤ fo ∧ fo < 16) : Valid ⟨st, fo, pub, none, 0, [], none, 0, []⟩ := ⟨h1, h2, rfl, fun _ hj => absurd hj (Nat.not_lt_zero _)⟩
theorem com_dgs {data : List ByteArray} {es : List En} (h : es.map En.key = comE data) : es.map En.dg = data.map (fun s => digE 1 s.data.toList) := by
  have := congrArg (List.map (fun k : EK => k.2.1)) h
  simp only [List.map_map, comE] at this
  exact this
/-- A view that has one head. -/
structure V1 (id priv f : Int) (D : List Dg) (h : Hd) (v : Vw) : Prop where
  st : v.st = id
  fo : v.fo = f
  pub : v.pub = (pubP priv).1
  ds : v.ds = D
  hs : v.hs = [h]
  mkd : MkH id priv f D h
  val : Valid v
theorem acc_new {id priv f : Int} {D ds : List Dg} {v x : Vw} {es : List En} {h : Hd} {fk : FK} {e : Int} (hv : VOf id priv f D 0 v) (hv2 : v.hs = []) (hh : MkH id priv f ds h) (hes : es.map En.dg = ds) (hie : ∀ (j : Nat) (e : En), es[j]? = some e → IsE e) (hr : AccR v es h x fk e) : fk = zFk.key ∧ e = 0 ∧ V1 id priv f ds h x := by
  have hg := good_of hv hh hes hie
  have haf : accF v es h = none := by rw [accF_def, if_pos (by rw [hv.len]; exact Nat.zero_le _), hv2]; rfl
  rcases hr with ⟨hb, _⟩ | ⟨_, r, hr, _⟩ | ⟨_, _, h1, h2, h3, h4, h5, h6, h7⟩
  · exact absurd hg hb
  · rw [haf] at hr; cases hr
  · have hk := acc_kept hg haf h3 h4 h5 h6 h7
    rw [hv2] at h7
    exact ⟨h1, h2, ⟨h3.trans hv.st, h4.trans hv.fo, h5.trans hv.pub, by rw [h6, if_pos (by rw [hv.len]; exact Nat.zero_le _), hes], ins_nil h7, hh, hk.val⟩⟩
/-- Where two lists' chains come apart. -/
def Differ (f : Int) (D E : List Dg) : Prop := ¬ chainK f D (min D.length E.length) = chainK f E (min D.length E.length)
theorem Differ.symm {f : Int} {D E : List Dg} (h : Differ f D E) : Differ f E D := fun q => h (by rw [Nat.min_comm]; exact q.symm)
theorem differ_fits {id priv f : Int} {D E : List Dg} {h : Hd} (hh : MkH id priv f D h) (hl : D.length ≤ E.length) : Fits h E ↔ ¬ Differ f D E := by
  rw [fits_mk hh]
  unfold Differ
  rw [Nat.min_eq_left hl]
  exact ⟨fun q r => r q.2.symm, fun q => ⟨hl, (Classical.not_not.1 q).symm⟩⟩
theorem proves_of {id priv f : Int} {D E : List Dg} {h k : Hd} (hh : MkH id priv f D h) (hk : MkH id priv f E k) (hl : D.length ≤ E.length) (hd : Differ f D E) : Proves (pubP priv).1 h k E :=
  ⟨hh.ver, hk.ver, by rw [hh.st, hk.st], by rw [hh.fo, hk.fo], by rw [hh.no, hk.no]; exact_mod_cast hl, hk.no, (fits_mk hk).2 ⟨Nat.le_refl _, rfl⟩, fun q => (differ_fits hh hl).1 q hd⟩
theorem odd_mk {id priv f : Int} {D E : List Dg} {h : Hd} (hh : MkH id priv f D h) : oddO [h] E = if D.length ≤ E.length ∧ tb (Differ f D E) = true then some h else none := by
  rw [oddO_one]
  by_cases hl : D.length ≤ E.length
  · rw [odd_yes (by rw [hh.no]; exact_mod_cast hl)]
    by_cases hd : Differ f D E
    · rw [tb_false (fun q => (differ_fits hh hl).1 q hd), if_pos (by decide), if_pos ⟨hl, tb_true hd⟩]
    · rw [tb_true ((differ_fits hh hl).2 hd), if_neg (by decide), if_neg (fun q => hd (tb_iff.1 q.2))]
  · rw [odd_big (by rw [hh.no]; intro q; exact hl (by exact_mod_cast q)), if_neg (by decide), if_neg (fun q => hl q.1)]
theorem lastH_one (h : Hd) : lastH [h] = h := rfl
/-- A view that holds one head is shown another list. -/
theorem acc_other {id priv f : Int} {D E : List Dg} {v x : Vw} {es : List En} {h k : Hd} {fk : FK} {e : Int} (hv : V1 id priv f D h v) (hk : MkH id priv f E k) (hes : es.map En.dg = E) (hie : ∀ (j : Nat) (e : En), es[j]? = some e → IsE e) (hr : AccR v es k x fk e) :
    (Differ f D E ∧ e = 321 ∧ x.key = v.key ∧ Proves (pubP priv).1 fk.1 fk.2.1 fk.2.2 ∧ (D.length ≤ E.length → fk = (h, k, E))) ∨ (¬ Differ f D E ∧ e = 0) := by
  have hel : es.length = E.length := by rw [← hes, List.length_map]
  have hg : GoodA v es k := ⟨hv.val, ⟨by rw [hk.st, hv.st], by rw [hk.fo, hv.fo], by rw [hv.pub]; exact hk.ver⟩, by rw [hk.no, hel], hie, by rw [hes, fits_mk hk]; exact ⟨Nat.le_refl _, rfl⟩⟩
  have haf : accF v es k = if tb (Differ f D E) = true then (if D.length ≤ E.length then some (h, k, E) else some (k, h, D)) else none := by
    rw [accF_def, hv.ds, hv.hs, hes, hel]
    by_cases hl : D.length ≤ E.length
    · rw [if_pos hl, odd_mk hv.mkd]
      by_cases hd : tb (Differ f D E) = true
      · rw [if_pos ⟨hl, hd⟩, if_pos hd, if_pos hl]; rfl
      · rw [if_neg (fun q => hd q.2), if_neg hd]; rfl
    · rw [if_neg hl]
      have h9 := odd_mk (E := D) hk
      rw [oddO_one] at h9
      by_cases hd : tb (Differ f D E) = true
      · have h8 : (if E.length ≤ D.length ∧ tb (Differ f E D) = true then some k else none) = some k := if_pos ⟨by omega, tb_true (tb_iff.1 hd).symm⟩
        rw [h8] at h9
        rw [if_pos hd, if_neg hl]
        cases hb : tb (Odd D k) with
        | true => rw [if_pos rfl, lastH_one]
        | false => rw [hb] at h9; cases h9
      · have h8 : (if E.length ≤ D.length ∧ tb (Differ f E D) = true then some k else none) = none := if_neg (fun q => hd (tb_true (tb_iff.1 q.2).symm))
        rw [h8] at h9
        rw [if_neg hd]
        cases hb : tb (Odd D k) with
        | true => rw [hb] at h9; cases h9
        | false => rw [if_neg (by decide)]
  rcases hr with ⟨hb, _⟩ | ⟨_, r, hr, h1, h2, h3⟩ | ⟨_, hn, _, h2, _⟩
  · exact absurd hg hb
  · left
    rw [haf] at hr
    by_cases hd : tb (Differ f D E) = true
    · rw [if_pos hd] at hr
      refine ⟨tb_iff.1 hd, h3, h1, ?_, fun hl => ?_⟩
      · by_cases hl : D.length ≤ E.length
        · rw [if_pos hl] at hr
          rw [h2, ← Option.some.inj hr]
          exact proves_of hv.mkd hk hl (tb_iff.1 hd)
        · rw [if_neg hl] at hr
          rw [h2, ← Option.some.inj hr]
          exact proves_of hk hv.mkd (Nat.le_of_lt (Nat.lt_of_not_le hl)) (tb_iff.1 hd).symm
      · rw [if_pos hl] at hr
        rw [h2, ← Option.some.inj hr]
    · rw [if_neg hd] at hr; cases hr
  · right
    refine ⟨fun hd => ?_, h2⟩
    rw [haf, if_pos (tb_true hd)] at hn
    split at hn <;> cases hn
/-- Two views that hold one head each, held against each other. -/
theorem cmp_two {id priv f : Int} {D E : List Dg} {v w : Vw} {h k : Hd} (hv : V1 id priv f D h v) (hw : V1 id priv f E k w) : (cmpO v w).isSome = tb (Differ f D E) ∧ ∀ fk, cmpO v w = some fk → Proves (pubP priv).1 fk.A fk.B fk.ds := by
  have key : ∀ {D E : List Dg} {x y : Vw} {h k : Hd}, V1 id priv f D h x → V1 id priv f E k y → E.length ≤ D.length → (cmpXY x y).isSome = tb (Differ f D E) ∧ ∀ fk, cmpXY x y = some fk → Proves (pubP priv).1 fk.A fk.B fk.ds := by
    intro D E x y h k hx hy hl
    have a1 : accO x y.hs = if tb (Differ f D E) = true then some ⟨k, h, x.da, x.dp, x.ds⟩ else none := by
      unfold accO
      rw [hx.ds, hy.hs, odd_mk hy.mkd, hx.hs, lastH_one]
      by_cases hd : tb (Differ f D E) = true
      · rw [if_pos ⟨hl, tb_true (tb_iff.1 hd).symm⟩, if_pos hd]; rfl
      · rw [if_neg (fun q => hd (tb_true (tb_iff.1 q.2).symm)), if_neg hd]; rfl
    by_cases hd : tb (Differ f D E) = true
    · rw [if_pos hd] at a1
      have : cmpXY x y = some ⟨k, h, x.da, x.dp, x.ds⟩ := by unfold cmpXY; rw [a1]
      rw [this, hd]
      refine ⟨rfl, fun fk hfk => ?_⟩
      obtain rfl := Option.some.inj hfk
      show Proves _ k h x.ds
      rw [hx.ds]
      exact proves_of hy.mkd hx.mkd hl (tb_iff.1 hd).symm
    · rw [if_neg hd] at a1
      have a2 : accO y x.hs = none := by
        unfold accO
        rw [hy.ds, hx.hs, odd_mk hx.mkd, if_neg (fun q => hd q.2)]; rfl
      have : cmpXY x y = none := by unfold cmpXY; rw [a1, a2]
      rw [this]
      have hd' : tb (Differ f D E) = false := by simpa using hd
      rw [hd']
      exact ⟨rfl, fun fk hfk => by cases hfk⟩
  have hok : CmpOK v w := ⟨hv.val, hw.val, by rw [hv.st, hw.st], by rw [hv.fo, hw.fo], by rw [hv.pub, hw.pub]⟩
  by_cases hl : v.ds.length < w.ds.length
  · rw [cmpO_ba hok hl]
    have h9 := key hw hv (by rw [← hv.ds, ← hw.ds]; omega)
    rw [show tb (Differ f D E) = tb (Differ f E D) from tb_congr ⟨Differ.symm, Differ.symm⟩]
    exact h9
  · rw [cmpO_ab hok hl]
    exact key hv hw (by rw [← hv.ds, ← hw.ds]; omega)
theorem V1.of {id priv f : Int} {D : List Dg} {h : Hd} {v : Vw} (hv : V1 id priv f D h v) : VOf id priv f D D.length v :=
  ⟨hv.st, hv.fo, hv.pub, Nat.le_refl _, by rw [hv.ds, List.take_length], hv.val, fun a ha => by
    rw [hv.hs, List.mem_singleton] at ha; subst ha; exact ⟨D.length, Nat.le_refl _, by rw [List.take_length]; exact hv.mkd⟩⟩
theorem sane_open : OpenOK 0 5 3 := ⟨by decide, keyOk_mid (by decide), by decide, by decide⟩
theorem ver_bad0 (h : Hd) : verS 0 h = false := by
  by_cases hb : (0 ≤ h.st ∧ h.st < 4) ∧ (0 ≤ h.fo ∧ h.fo < 16) ∧ (0 ≤ h.no ∧ h.no ≤ 65536)
  · rw [verS_yes hb.1 hb.2.1 hb.2.2]
    exact verP_no (by rw [inG_lo (show (0 : Int) < 1 by decide)]; intro q; cases q)
  · exact verS_no hb
theorem sane_differ : Differ 3 [digE 1 [97], digE 1 [98]] [digE 1 [97], digE 1 [99]] := fun q => chains_ne q.symm
theorem sane_pre {h k : Hd} {a b : Dg} (hh : MkH 0 5 3 [a] h) (_hk : MkH 0 5 3 [a, b] k) : ¬ Proves (pubP 5).1 h k [a, b] := fun q => q.2.2.2.2.2.2.2 (fits_pre (D := [a, b]) (m := 1) (n := 2) (by decide) (Nat.le_refl 2) hh)
end Go.W

/-! Plain: the statements about views, put together. -/
namespace Go.W
open Go Go.RowKit
theorem differ_val {f : Int} {D E : List Dg} {n : Nat} (hn : n = min D.length E.length) : (!decide (chainN f (D.take n) = chainN f (E.take n))) = tb (Differ f D E) := by
  rw [chainN_take (by omega), chainN_take (by omega)]
  unfold Differ
  rw [← hn]
  by_cases h : chainK f D n = chainK f E n
  · rw [decide_eq_true h, tb_false (fun q => q h)]; rfl
  · rw [decide_eq_false h, tb_true h]; rfl
theorem differ_comm {f : Int} {D E : List Dg} : tb (Differ f D E) = tb (Differ f E D) := tb_congr ⟨Differ.symm, Differ.symm⟩
theorem isSome_getD {o : Option Fk} (h : o.isSome = true) : o = some (o.getD zFk) := by cases o with | none => cases h | some f => rfl
theorem cmp_ok {H : Froz} {v w : Vw} (hv : VwOK H v) (hw : VwOK H w) : FkOK H ((cmpO v w).getD zFk) := by
  have key : ∀ x y : Vw, VwOK H x → VwOK H y → ∀ f, cmpXY x y = some f → FkOK H f := by
    intro x y hx hy f hf
    unfold cmpXY at hf
    cases h1 : accO x y.hs with
    | some g => rw [h1] at hf; obtain rfl := Option.some.inj hf; exact accO_ok hx h1
    | none => rw [h1] at hf; exact accO_ok hy hf
  cases hc : cmpO v w with
  | none => exact FkOK.zero _
  | some f =>
    rw [cmpO_def] at hc
    split at hc
    · split at hc
      · exact key w v hw hv f hc
      · exact key v w hv hw f hc
    · cases hc
theorem dg_take_map (es : List En) (n : Nat) : (es.take n).map En.dg = (es.map En.dg).take n := List.map_take
end Go.W

/-! Plain: what is returned as a proof is one. -/
namespace Go.W
open Go Go.RowKit
/-- The number that cuts come to. -/
def cutK (n : Nat) (cs : List Nat) (k : Nat) : Nat := (cs.take k).foldl (fun m c => max m (c % (n + 1))) 0
end Go.W

/-! Plain: what a view remembers. -/
namespace Go.W
open Go Go.RowKit
/-- Among the first k heads. -/
def memK (hs : List Hd) (k : Nat) (h : Hd) : Prop := ∃ j, j < k ∧ hs[j]? = some h
def noK (hs : List Hd) (k : Nat) (n : Int) : Prop := ∃ j a, j < k ∧ hs[j]? = some a ∧ a.no = n
/-- Bytes of an input, one by one. -/
def u8E (bs : List UInt8) : List (List Value) := bs.map fun b => [.int .u8 (b.toNat : Int)]
/-- Views of an input. -/
structure VwR (H : Froz) (v : Vw) : Prop where
  rdd : RdL H v.da 32 (dgE v.ds)
  rdh : RdL H v.ha 37 (hdE v.hs)
  dcap : v.ds.length ≤ v.dp
  hcap : v.hs.length ≤ v.hp
theorem VwR.mono {H H' : Froz} {v : Vw} (h : VwR H v) (hle : Le H H') : VwR H' v := ⟨h.rdd.mono hle, h.rdh.mono hle, h.dcap, h.hcap⟩
theorem VwR.ok {H : Froz} {v : Vw} (h : VwR H v) (hd : v.ds.length ≤ 1000000) (hh : v.hs.length ≤ 1000000) : VwOK H v := ⟨h.rdd, h.rdh, hd, hh, h.dcap, h.hcap⟩
/-- Entries of an input. -/
def EnsR (H : Froz) (es : List En) : Prop := ∀ e ∈ es, RdS H e.da e.dn 1 (bc e.bs) ∧ e.dn ≤ e.dp
theorem EnsR.mono {H H' : Froz} {es : List En} (h : EnsR H es) (hle : Le H H') : EnsR H' es := fun e he => ⟨(h e he).1.mono hle, (h e he).2⟩
theorem EnsR.ok {H : Froz} {es : List En} (h : EnsR H es) (hd : ∀ e ∈ es, e.dn ≤ 9000) : EnsOK H es := fun e he => ⟨(h e he).1, (h e he).2, by have := hd e he; omega⟩
end Go.W

/-! Readings: strings, entries, digests, heads, views, proofs. -/
namespace Go.W
open Go Go.RowKit Go.ChangeShapes
section
variable {H : Type} {enc : TypeId × Value → H} {P : Program} {w : World} {sp : Nat → Bool} {held : Bool} {fuel : Nat} {t e : TypeId} {cs : List Value} {x : DataW H × List MemPlace}
/-- A slice whose elements are read, with what the row reads of them. -/
theorem trod_slD {α : Type} (ce : α → List Value) (dd : α → DataW H) (hce : ∀ a, (ce a).length = P.cellsOf e) (hpos : 0 < P.cellsOf e) (ht : P.underlying t = some (.slice e)) (hel : ∀ fuel cs x, DataW.trod enc P w 0 sp held fuel e cs = some x → ∃ a : α, cs = ce a ∧ x.1 = dd a)
    (h : DataW.trod enc P w 0 sp held fuel t cs = some x) : ∃ (a : Option Addr) (xs : List α) (cap : Nat), cs = [.slice a xs.length cap] ∧ xs.length ≤ cap ∧ cap ≤ maxLen ∧ RdL (HW w) a (P.cellsOf e) (xs.map ce) ∧ ((xs = [] ∧ x.1 = .nil) ∨ ∃ spare, x.1 = .slice (xs.map dd) spare) := by
  rcases Go.Deep.open_slice ht h with ⟨rfl, rfl⟩ | ⟨a, len, cap, m, n, D, Pl, rfl, _, hl, hm, hmm, rfl, hx⟩
  · exact ⟨none, [], 0, rfl, Nat.le_refl _, Nat.zero_le _, RdL.nil _ _ _, .inl ⟨rfl, rfl⟩⟩
  have hlm : len ≤ m := by rw [hmm]; split <;> omega
  have key : ∀ i, i < len → ∃ y : α, D i = dd y ∧ ∀ r v, (ce y)[r]? = some v → w.cell? (a.add (i * P.cellsOf e + r)) = some v := fun i hi => by
    obtain ⟨cs', h1, h2⟩ := hx i (by omega)
    obtain ⟨y, rfl, hq⟩ := hel _ _ _ h2
    obtain ⟨_, h3, h4⟩ := World.cells?_some h1
    refine ⟨y, hq, fun r v hv => ?_⟩
    have hr := (List.getElem?_eq_some_iff.1 hv).1
    rw [← Go.Deep.add_add, h4 r (by rw [hce] at hr; exact hr), hv]
  rcases Nat.eq_zero_or_pos len with rfl | hlen
  · exact ⟨some a, [], cap, rfl, Nat.zero_le _, hm, RdL.nil _ _ _, .inr ⟨_, rfl⟩⟩
  obtain ⟨y0, _, _⟩ := key 0 hlen
  have : Nonempty α := ⟨y0⟩
  obtain ⟨f, hf⟩ : ∃ f : Nat → α, ∀ i, i < len → D i = dd (f i) ∧ ∀ r v, (ce (f i))[r]? = some v → w.cell? (a.add (i * P.cellsOf e + r)) = some v := by
    refine ⟨fun i => if hi : i < len then Classical.choose (key i hi) else y0, fun i hi => ?_⟩
    simp only [hi, dif_pos]
    exact Classical.choose_spec (key i hi)
  obtain ⟨xs, hxs⟩ : ∃ xs, xs = (List.range len).map f := ⟨_, rfl⟩
  have hxl : xs.length = len := by rw [hxs]; simp
  have hxi : ∀ i, i < len → (xs.map ce)[i]? = some (ce (f i)) := fun i hi => by rw [hxs]; simp [hi]
  have heach : ∀ y ∈ xs.map ce, y.length = P.cellsOf e := fun y hy => by obtain ⟨z, _, rfl⟩ := List.mem_map.1 hy; exact hce z
  refine ⟨some a, xs, cap, by rw [hxl], by omega, hm, ⟨⟨?_, fun _ => ?_⟩, heach⟩, .inr ⟨(List.range (m - len)).map fun j => D (len + j), ?_⟩⟩
  · exact flatten_len heach
  · have hspot : a.spot = none := by
      have hc0 := (hf 0 hlen).2 0 ((ce (f 0))[0]'(by rw [hce]; exact hpos)) (List.getElem?_eq_getElem _)
      have := cell_spot hc0
      simpa [Addr.add] using this
    obtain ⟨b, o, s⟩ := a
    simp only at hspot
    subst hspot
    refine ⟨b, o, rfl, fun j v hv => ?_⟩
    obtain ⟨el, h1, h2⟩ := flat_at hpos heach hv
    have hji : j / P.cellsOf e < len := by have := (List.getElem?_eq_some_iff.1 h1).1; rw [List.length_map, hxl] at this; exact this
    rw [hxi _ hji] at h1
    obtain rfl := Option.some.inj h1
    have := (hf _ hji).2 _ v h2
    rw [Nat.mul_comm, Nat.div_add_mod, Addr.add_lit] at this
    exact HW.cell this
  · show DataW.slice ((List.range len).map D) _ = _
    congr 1
    rw [hxs, List.map_map]
    exact List.map_congr_left fun i hi => (hf i (by simpa using hi)).1
/-- Strings. -/
theorem trod_strs (ht : P.underlying t = some (.slice e)) (he : P.underlying e = some .string) (hc : P.cellsOf e = 1) (h : DataW.trod enc P w 0 sp held fuel t cs = some x) :
    ∃ (a : Option Addr) (xs : List ByteArray) (cap : Nat), cs = [.slice a xs.length cap] ∧ xs.length ≤ cap ∧ RdL (HW w) a 1 (srE xs) ∧ ((xs = [] ∧ x.1 = .nil) ∨ ∃ spare, x.1 = .slice (xs.map fun s => .lit (.string s.data.toList)) spare) := by
  obtain ⟨a, xs, cap, rfl, h1, _, h3, h4⟩ := trod_slD (α := ByteArray) (fun s => [Value.string s]) (fun s => .lit (.string s.data.toList)) (fun _ => hc.symm) (by rw [hc]; decide) ht (fun fuel cs x h => by
    obtain ⟨s, rfl, hx, _⟩ := DataW.trod_string he h
    exact ⟨s, rfl, by rw [hx]⟩) h
  exact ⟨a, xs, cap, rfl, h1, by rw [hc] at h3; exact h3, h4⟩
end
section
variable {H : Type} {enc : TypeId × Value → H} {P : Program} {w : World} {base : Nat} {spare : Nat → Bool} {held : Bool}
theorem trodAll_five {t0 t1 t2 t3 t4 : TypeId} {args : Array Value} {ds : List (DataW H)} {ps : List MemPlace} (h : DataW.TrodAll enc P w base spare held [t0, t1, t2, t3, t4] args.toList ds ps) :
    ∃ v0 v1 v2 v3 v4 d0 d1 d2 d3 d4 p0 p1 p2 p3 p4, args = #[v0, v1, v2, v3, v4] ∧ ds = [d0, d1, d2, d3, d4] ∧ ps = p0 ++ p1 ++ p2 ++ p3 ++ p4 ∧ DataW.Trod enc P w base spare held t0 v0 d0 p0 ∧ DataW.Trod enc P w base spare held t1 v1 d1 p1 ∧ DataW.Trod enc P w base spare held t2 v2 d2 p2 ∧ DataW.Trod enc P w base spare held t3 v3 d3 p3 ∧ DataW.Trod enc P w base spare held t4 v4 d4 p4 := by
  obtain ⟨v0, vs0, d0, ds0, p0, q0, hargs, rfl, rfl, hd0, r0⟩ := trodAll_cons h
  obtain ⟨v1, vs1, d1, ds1, p1, q1, rfl, rfl, rfl, hd1, r1⟩ := trodAll_cons r0
  obtain ⟨v2, vs2, d2, ds2, p2, q2, rfl, rfl, rfl, hd2, r2⟩ := trodAll_cons r1
  obtain ⟨v3, vs3, d3, ds3, p3, q3, rfl, rfl, rfl, hd3, r3⟩ := trodAll_cons r2
  obtain ⟨v4, vs4, d4, ds4, p4, q4, rfl, rfl, rfl, hd4, r4⟩ := trodAll_cons r3
  obtain ⟨rfl, rfl, rfl⟩ := trodAll_nil r4
  exact ⟨v0, v1, v2, v3, v4, d0, d1, d2, d3, d4, p0, p1, p2, p3, p4, by cases args; simp_all, rfl, by simp, hd0, hd1, hd2, hd3, hd4⟩
end
end Go.W

namespace Go.Proofs.YtneokajhmonpaaaDoor
open Go Go.RowKit Go.W Go.ChangeShapes Go.WideShapes
set_option maxRecDepth 100000
namespace Fin
theorem own : ownKnob Tryd.prog.godebug = none := by kernel_rfl
theorem kids : Kids Tryd.prog (· < Tryd.prog.types.size) := kids_rows (by kernel_rfl) (by kernel_rfl)
theorem full : ∀ t e, t < Tryd.prog.types.size → Tryd.prog.underlying t = some (.slice e) → 0 < Tryd.prog.cellsOf e := slices_full_of Tryd.prog (by kernel_rfl)
theorem gS : Tryd.prog.globalNamed "chartroom/digest.start" = some 0 := by kernel_rfl
theorem gN : Tryd.prog.globalNamed "chartroom/digest.numbers" = some 1 := by kernel_rfl
abbrev laid2 : List (String × DataW Unit) := [("chartroom/digest.start", Rows.laid_chartroom_digest_start), ("chartroom/digest.numbers", Rows.laid_chartroom_digest_numbers)]
theorem tS : (Tryd.prog.globals[0]?).map (·.type) = some 163 := by kernel_rfl
theorem tN : (Tryd.prog.globals[1]?).map (·.type) = some 188 := by kernel_rfl
theorem cS : Tryd.prog.cellsOf 163 = 8 := by kernel_rfl
theorem cN : Tryd.prog.cellsOf 188 = 64 := by kernel_rfl
theorem cU : Tryd.prog.cellsOf 162 = 1 := by kernel_rfl
theorem gl {W : World} (h : laidMetH Tryd.prog laid2 W) : Gl 0 1 (HW W) := by
  rw [MakeChecks.laidMetH_plain _ _ _ (by kernel_rfl)] at h
  obtain ⟨ps, ⟨g0, t0, cs0, f0, p0, q0, hg0, ht0, hv0, hd0, ⟨g1, t1, cs1, f1, p1, q1, hg1, ht1, hv1, hd1, _, _⟩, _⟩, _, _⟩ := h
  obtain rfl := Option.some.inj (gS.symm.trans hg0)
  obtain rfl := Option.some.inj (gN.symm.trans hg1)
  obtain rfl := Option.some.inj (tS.symm.trans ht0)
  obtain rfl := Option.some.inj (tN.symm.trans ht1)
  exact ⟨laid_ints hg0 Tryd.underlying163 Tryd.underlying162 cU cS hv0 hd0, laid_ints hg1 Tryd.underlying188 Tryd.underlying162 cU cN hv1 hd1⟩
theorem door_met (os : Os) (args : Array Value) : laidMetH Tryd.prog laid2 ((World.doorLaid Tryd.prog 4000 os).forCall (fun _ _ => 0) ⟨#[], args, []⟩).memory :=
  laidMetH_of_parts3 (fuel := 8) (laidMet_of_run' 8 (by kernel_rfl) (by kernel_rfl)) (by kernel_rfl) (by kernel_rfl)
theorem c9 : Tryd.prog.cellsOf 9 = 1 := by kernel_rfl
end Fin
namespace Bulk
theorem strs_le {H : Type} (xs : List ByteArray) : xs.length + totL xs ≤ Rows.uptoBulkAll (xs.map fun s => (DataW.lit (.string s.data.toList) : DataW H)) := by
  induction xs with
  | nil => exact Nat.zero_le _
  | cons s r ih =>
    have h1 : totL (s :: r) = s.size + totL r := by simp [totL, totK]
    have h2 : s.data.toList.length = s.size := by simp
    simp only [List.map_cons, Rows.uptoBulkAll, Rows.uptoBulk, List.length_cons, h1, h2]
    omega
theorem strs {H : Type} {xs : List ByteArray} {d : DataW H} (h : (xs = [] ∧ d = .nil) ∨ ∃ spare, d = .slice (xs.map fun s => .lit (.string s.data.toList)) spare) : xs.length + totL xs ≤ Rows.uptoBulk d := by
  rcases h with ⟨rfl, _⟩ | ⟨sp, rfl⟩
  · exact Nat.zero_le _
  · have := strs_le (H := H) xs
    simp only [Rows.uptoBulk]
    omega
end Bulk
end Go.Proofs.YtneokajhmonpaaaDoor

namespace Go.Proofs.YtneokajhmonpaaaDoor
open Go Go.RowKit Go.W
set_option maxRecDepth 10000
namespace Fx
theorem bt5 : byS Tryd.prog 5 = some 1 := by kernel_rfl
theorem en95 : enS Tryd.prog 95 = true := by kernel_rfl
theorem en96 : enS Tryd.prog 96 = true := by kernel_rfl
theorem fl67_1 : flS Tryd.prog 67 1 = some (1, 1) := by kernel_rfl
theorem fl67_2 : flS Tryd.prog 67 2 = some (2, 1) := by kernel_rfl
theorem ty3 : tyS Tryd.prog 3 = some (false, 1) := by kernel_rfl
theorem ty5 : tyS Tryd.prog 5 = some (false, 1) := by kernel_rfl
theorem ty9 : tyS Tryd.prog 9 = some (false, 1) := by kernel_rfl
theorem zr5 : zrS Tryd.prog 5 = some [.int .u8 0] := by kernel_rfl
theorem mo : Tryd.prog.follows .mixedOrders = true := by kernel_rfl
theorem fl67_0 : flS Tryd.prog 67 0 = some (0, 1) := by kernel_rfl
theorem fl67_3 : flS Tryd.prog 67 3 = some (3, 1) := by kernel_rfl
theorem fl124_0 : flS Tryd.prog 124 0 = some (0, 1) := by kernel_rfl
theorem ty65 : tyS Tryd.prog 65 = some (false, 1) := by kernel_rfl
theorem ty67 : tyS Tryd.prog 67 = some (true, 4) := by kernel_rfl
theorem ty122 : tyS Tryd.prog 122 = some (false, 1) := by kernel_rfl
theorem ty124 : tyS Tryd.prog 124 = some (true, 1) := by kernel_rfl
theorem ty125 : tyS Tryd.prog 125 = some (false, 1) := by kernel_rfl
theorem zr67 : zrS Tryd.prog 67 = some [.int .i64 0, .int .i64 0, .string ⟨#[]⟩, .slice none 0 0] := by kernel_rfl
theorem zr125 : zrS Tryd.prog 125 = some [.pointer none] := by kernel_rfl
theorem zr158 : zrS Tryd.prog 158 = some [.nilFunc, .nilFunc, .nilFunc, .nilFunc] := by kernel_rfl
theorem en63 : enS Tryd.prog 63 = true := by kernel_rfl
theorem en64 : enS Tryd.prog 64 = true := by kernel_rfl
theorem en93 : enS Tryd.prog 93 = true := by kernel_rfl
theorem en98 : enS Tryd.prog 98 = true := by kernel_rfl
theorem ty4 : tyS Tryd.prog 4 = some (false, 1) := by kernel_rfl
theorem ty186 : tyS Tryd.prog 186 = some (true, 4) := by kernel_rfl
theorem zr186 : zrS Tryd.prog 186 = some [.bool false, .bool false, .bool false, .bool false] := by kernel_rfl
theorem en132 : enS Tryd.prog 132 = true := by kernel_rfl
theorem en117 : enS Tryd.prog 117 = true := by kernel_rfl
theorem en116 : enS Tryd.prog 116 = true := by kernel_rfl
theorem en118 : enS Tryd.prog 118 = true := by kernel_rfl
theorem ty162 : tyS Tryd.prog 162 = some (false, 1) := by kernel_rfl
theorem ty164 : tyS Tryd.prog 164 = some (true, 8) := by kernel_rfl
theorem zr164 : zrS Tryd.prog 164 = some [.int .u32 0, .int .u32 0, .int .u32 0, .int .u32 0, .int .u32 0, .int .u32 0, .int .u32 0, .int .u32 0] := by kernel_rfl
theorem zr188 : zrS Tryd.prog 188 = some (List.replicate 64 (.int .u32 0)) := by kernel_rfl
theorem en90 : enS Tryd.prog 90 = true := by kernel_rfl
theorem ty46 : tyS Tryd.prog 46 = some (false, 1) := by kernel_rfl
theorem en99 : enS Tryd.prog 99 = true := by kernel_rfl
theorem en100 : enS Tryd.prog 100 = true := by kernel_rfl
theorem ty35 : tyS Tryd.prog 35 = some (true, 32) := by kernel_rfl
theorem ty163 : tyS Tryd.prog 163 = some (true, 8) := by kernel_rfl
theorem zr35 : zrS Tryd.prog 35 = some (List.replicate 32 (.int .u8 0)) := by kernel_rfl
theorem en26 : enS Tryd.prog 26 = true := by kernel_rfl
theorem en55 : enS Tryd.prog 55 = true := by kernel_rfl
theorem en65 : enS Tryd.prog 65 = true := by kernel_rfl
theorem zr46 : zrS Tryd.prog 46 = some [.slice none 0 0] := by kernel_rfl
theorem en135 : enS Tryd.prog 135 = true := by kernel_rfl
theorem en121 : enS Tryd.prog 121 = true := by kernel_rfl
theorem en123 : enS Tryd.prog 123 = true := by kernel_rfl
theorem en124 : enS Tryd.prog 124 = true := by kernel_rfl
theorem en102 : enS Tryd.prog 102 = true := by kernel_rfl
theorem en113 : enS Tryd.prog 113 = true := by kernel_rfl
theorem en120 : enS Tryd.prog 120 = true := by kernel_rfl
theorem en133 : enS Tryd.prog 133 = true := by kernel_rfl
theorem zr3 : zrS Tryd.prog 3 = some [.int .i64 0] := by kernel_rfl
theorem en104 : enS Tryd.prog 104 = true := by kernel_rfl
theorem en119 : enS Tryd.prog 119 = true := by kernel_rfl
theorem en131 : enS Tryd.prog 131 = true := by kernel_rfl
theorem ty160 : tyS Tryd.prog 160 = some (false, 1) := by kernel_rfl
theorem zr160 : zrS Tryd.prog 160 = some [.int .u64 0] := by kernel_rfl
theorem en66 : enS Tryd.prog 66 = true := by kernel_rfl
theorem en69 : enS Tryd.prog 69 = true := by kernel_rfl
theorem en101 : enS Tryd.prog 101 = true := by kernel_rfl
theorem en122 : enS Tryd.prog 122 = true := by kernel_rfl
theorem en134 : enS Tryd.prog 134 = true := by kernel_rfl
theorem zr171 : zrS Tryd.prog 171 = some [.int .i64 0, .int .i64 0] := by kernel_rfl
theorem en53 : enS Tryd.prog 53 = true := by kernel_rfl
theorem en54 : enS Tryd.prog 54 = true := by kernel_rfl
theorem en68 : enS Tryd.prog 68 = true := by kernel_rfl
theorem en103 : enS Tryd.prog 103 = true := by kernel_rfl
theorem en67 : enS Tryd.prog 67 = true := by kernel_rfl
theorem en70 : enS Tryd.prog 70 = true := by kernel_rfl
theorem en71 : enS Tryd.prog 71 = true := by kernel_rfl
theorem en87 : enS Tryd.prog 87 = true := by kernel_rfl
theorem en88 : enS Tryd.prog 88 = true := by kernel_rfl
theorem fl37_0 : flS Tryd.prog 37 0 = some (0, 1) := by kernel_rfl
theorem fl37_1 : flS Tryd.prog 37 1 = some (1, 1) := by kernel_rfl
theorem gu129 : guS Tryd.prog 129 = true := by kernel_rfl
theorem ty29 : tyS Tryd.prog 29 = some (false, 1) := by kernel_rfl
theorem ty37 : tyS Tryd.prog 37 = some (true, 2) := by kernel_rfl
theorem ty129 : tyS Tryd.prog 129 = some (true, 3) := by kernel_rfl
theorem zr37 : zrS Tryd.prog 37 = some [.int .i64 0, .int .i64 0] := by kernel_rfl
theorem zr129 : zrS Tryd.prog 129 = some [.int .i64 0, .int .i64 0, .int .i64 0] := by kernel_rfl
theorem en19 : enS Tryd.prog 19 = true := by kernel_rfl
theorem en16 : enS Tryd.prog 16 = true := by kernel_rfl
theorem en25 : enS Tryd.prog 25 = true := by kernel_rfl
theorem en27 : enS Tryd.prog 27 = true := by kernel_rfl
theorem en44 : enS Tryd.prog 44 = true := by kernel_rfl
theorem en52 : enS Tryd.prog 52 = true := by kernel_rfl
theorem en89 : enS Tryd.prog 89 = true := by kernel_rfl
theorem fl39_0 : flS Tryd.prog 39 0 = some (0, 1) := by kernel_rfl
theorem fl39_1 : flS Tryd.prog 39 1 = some (1, 1) := by kernel_rfl
theorem fl39_2 : flS Tryd.prog 39 2 = some (2, 1) := by kernel_rfl
theorem fl39_3 : flS Tryd.prog 39 3 = some (3, 32) := by kernel_rfl
theorem fl39_4 : flS Tryd.prog 39 4 = some (35, 2) := by kernel_rfl
theorem pl26 : plS Tryd.prog 26 = some [(0, 1), (1, 1), (2, 1)] := by kernel_rfl
theorem pl67 : plS Tryd.prog 67 = some [(0, 1), (1, 1), (2, 1), (3, 1)] := by kernel_rfl
theorem ty26 : tyS Tryd.prog 26 = some (true, 3) := by kernel_rfl
theorem ty39 : tyS Tryd.prog 39 = some (true, 37) := by kernel_rfl
theorem zr26 : zrS Tryd.prog 26 = some [.int .i64 0, .int .i64 0, .slice none 0 0] := by kernel_rfl
theorem en22 : enS Tryd.prog 22 = true := by kernel_rfl
theorem en56 : enS Tryd.prog 56 = true := by kernel_rfl
theorem fl48_0 : flS Tryd.prog 48 0 = some (0, 1) := by kernel_rfl
theorem fl48_1 : flS Tryd.prog 48 1 = some (1, 32) := by kernel_rfl
theorem fl48_2 : flS Tryd.prog 48 2 = some (33, 1) := by kernel_rfl
theorem fl48_3 : flS Tryd.prog 48 3 = some (34, 1) := by kernel_rfl
theorem gu35 : guS Tryd.prog 35 = true := by kernel_rfl
theorem ty48 : tyS Tryd.prog 48 = some (true, 35) := by kernel_rfl
theorem zr48 : zrS Tryd.prog 48 = some [.int .i64 0, .int .u8 0, .int .u8 0, .int .u8 0, .int .u8 0, .int .u8 0, .int .u8 0, .int .u8 0, .int .u8 0, .int .u8 0, .int .u8 0, .int .u8 0, .int .u8 0, .int .u8 0, .int .u8 0, .int .u8 0, .int .u8 0, .int .u8 0, .int .u8 0, .int .u8 0, .int .u8 0, .int .u8 0, .int .u8 0, .int .u8 0, .int .u8 0, .int .u8 0, .int .u8 0, .int .u8 0, .int .u8 0, .int .u8 0, .int .u8 0, .int .u8 0, .int .u8 0, .slice none 0 0, .bool false] := by kernel_rfl
theorem en43 : enS Tryd.prog 43 = true := by kernel_rfl
theorem en45 : enS Tryd.prog 45 = true := by kernel_rfl
theorem fl26_0 : flS Tryd.prog 26 0 = some (0, 1) := by kernel_rfl
theorem fl26_1 : flS Tryd.prog 26 1 = some (1, 1) := by kernel_rfl
theorem fl26_2 : flS Tryd.prog 26 2 = some (2, 1) := by kernel_rfl
theorem fl100_0 : flS Tryd.prog 100 0 = some (0, 1) := by kernel_rfl
theorem fl100_1 : flS Tryd.prog 100 1 = some (1, 1) := by kernel_rfl
theorem ty24 : tyS Tryd.prog 24 = some (false, 1) := by kernel_rfl
theorem ty31 : tyS Tryd.prog 31 = some (false, 1) := by kernel_rfl
theorem ty100 : tyS Tryd.prog 100 = some (true, 2) := by kernel_rfl
theorem zr100 : zrS Tryd.prog 100 = some [.int .i64 0, .slice none 0 0] := by kernel_rfl
theorem en13 : enS Tryd.prog 13 = true := by kernel_rfl
theorem pl145 : plS Tryd.prog 145 = some [(0, 3)] := by kernel_rfl
theorem zr145 : zrS Tryd.prog 145 = some [.int .i64 0, .int .i64 0, .slice none 0 0] := by kernel_rfl
theorem bt35 : byS Tryd.prog 35 = some 32 := by kernel_rfl
theorem en85 : enS Tryd.prog 85 = true := by kernel_rfl
theorem en86 : enS Tryd.prog 86 = true := by kernel_rfl
theorem ty45 : tyS Tryd.prog 45 = some (false, 1) := by kernel_rfl
theorem en18 : enS Tryd.prog 18 = true := by kernel_rfl
theorem en46 : enS Tryd.prog 46 = true := by kernel_rfl
theorem en49 : enS Tryd.prog 49 = true := by kernel_rfl
theorem en50 : enS Tryd.prog 50 = true := by kernel_rfl
theorem en51 : enS Tryd.prog 51 = true := by kernel_rfl
theorem pl39 : plS Tryd.prog 39 = some [(0, 1), (1, 1), (2, 1), (3, 32), (35, 2)] := by kernel_rfl
theorem zr39 : zrS Tryd.prog 39 = some [.int .i64 0, .int .i64 0, .int .i64 0, .int .u8 0, .int .u8 0, .int .u8 0, .int .u8 0, .int .u8 0, .int .u8 0, .int .u8 0, .int .u8 0, .int .u8 0, .int .u8 0, .int .u8 0, .int .u8 0, .int .u8 0, .int .u8 0, .int .u8 0, .int .u8 0, .int .u8 0, .int .u8 0, .int .u8 0, .int .u8 0, .int .u8 0, .int .u8 0, .int .u8 0, .int .u8 0, .int .u8 0, .int .u8 0, .int .u8 0, .int .u8 0, .int .u8 0, .int .u8 0, .int .u8 0, .int .u8 0, .int .i64 0, .int .i64 0] := by kernel_rfl
theorem en107 : enS Tryd.prog 107 = true := by kernel_rfl
theorem en127 : enS Tryd.prog 127 = true := by kernel_rfl
theorem zr4 : zrS Tryd.prog 4 = some [.bool false] := by kernel_rfl
theorem en17 : enS Tryd.prog 17 = true := by kernel_rfl
theorem en77 : enS Tryd.prog 77 = true := by kernel_rfl
theorem en125 : enS Tryd.prog 125 = true := by kernel_rfl
theorem en126 : enS Tryd.prog 126 = true := by kernel_rfl
theorem fl77_0 : flS Tryd.prog 77 0 = some (0, 1) := by kernel_rfl
theorem fl77_1 : flS Tryd.prog 77 1 = some (1, 1) := by kernel_rfl
theorem fl77_2 : flS Tryd.prog 77 2 = some (2, 1) := by kernel_rfl
theorem fl77_4 : flS Tryd.prog 77 4 = some (4, 1) := by kernel_rfl
theorem fl134_0 : flS Tryd.prog 134 0 = some (0, 5) := by kernel_rfl
theorem ty75 : tyS Tryd.prog 75 = some (false, 1) := by kernel_rfl
theorem en73 : enS Tryd.prog 73 = true := by kernel_rfl
theorem en75 : enS Tryd.prog 75 = true := by kernel_rfl
theorem en105 : enS Tryd.prog 105 = true := by kernel_rfl
theorem en106 : enS Tryd.prog 106 = true := by kernel_rfl
theorem fl77_3 : flS Tryd.prog 77 3 = some (3, 1) := by kernel_rfl
theorem pl77 : plS Tryd.prog 77 = some [(0, 1), (1, 1), (2, 1), (3, 1), (4, 1)] := by kernel_rfl
theorem pl82 : plS Tryd.prog 82 = some [(0, 37), (37, 37), (74, 1)] := by kernel_rfl
theorem pl134 : plS Tryd.prog 134 = some [(0, 5)] := by kernel_rfl
theorem ty77 : tyS Tryd.prog 77 = some (true, 5) := by kernel_rfl
theorem ty82 : tyS Tryd.prog 82 = some (true, 75) := by kernel_rfl
theorem ty134 : tyS Tryd.prog 134 = some (true, 5) := by kernel_rfl
theorem zr77 : zrS Tryd.prog 77 = some [.int .i64 0, .int .i64 0, .int .i64 0, .slice none 0 0, .slice none 0 0] := by kernel_rfl
theorem zr82 : zrS Tryd.prog 82 = some [.int .i64 0, .int .i64 0, .int .i64 0, .int .u8 0, .int .u8 0, .int .u8 0, .int .u8 0, .int .u8 0, .int .u8 0, .int .u8 0, .int .u8 0, .int .u8 0, .int .u8 0, .int .u8 0, .int .u8 0, .int .u8 0, .int .u8 0, .int .u8 0, .int .u8 0, .int .u8 0, .int .u8 0, .int .u8 0, .int .u8 0, .int .u8 0, .int .u8 0, .int .u8 0, .int .u8 0, .int .u8 0, .int .u8 0, .int .u8 0, .int .u8 0, .int .u8 0, .int .u8 0, .int .u8 0, .int .u8 0, .int .i64 0, .int .i64 0, .int .i64 0, .int .i64 0, .int .i64 0, .int .u8 0, .int .u8 0, .int .u8 0, .int .u8 0, .int .u8 0, .int .u8 0, .int .u8 0, .int .u8 0, .int .u8 0, .int .u8 0, .int .u8 0, .int .u8 0, .int .u8 0, .int .u8 0, .int .u8 0, .int .u8 0, .int .u8 0, .int .u8 0, .int .u8 0, .int .u8 0, .int .u8 0, .int .u8 0, .int .u8 0, .int .u8 0, .int .u8 0, .int .u8 0, .int .u8 0, .int .u8 0, .int .u8 0, .int .u8 0, .int .u8 0, .int .u8 0, .int .i64 0, .int .i64 0, .slice none 0 0] := by kernel_rfl
theorem zr134 : zrS Tryd.prog 134 = some [.int .i64 0, .int .i64 0, .int .i64 0, .slice none 0 0, .slice none 0 0] := by kernel_rfl
theorem en74 : enS Tryd.prog 74 = true := by kernel_rfl
theorem fl82_0 : flS Tryd.prog 82 0 = some (0, 37) := by kernel_rfl
theorem fl82_1 : flS Tryd.prog 82 1 = some (37, 37) := by kernel_rfl
theorem fl82_2 : flS Tryd.prog 82 2 = some (74, 1) := by kernel_rfl
theorem bt39 : byS Tryd.prog 39 = some 72 := by kernel_rfl
theorem en79 : enS Tryd.prog 79 = true := by kernel_rfl
theorem en76 : enS Tryd.prog 76 = true := by kernel_rfl
theorem en78 : enS Tryd.prog 78 = true := by kernel_rfl
theorem en80 : enS Tryd.prog 80 = true := by kernel_rfl
theorem en81 : enS Tryd.prog 81 = true := by kernel_rfl
theorem en35 : enS Tryd.prog 35 = true := by kernel_rfl
theorem gu39 : guS Tryd.prog 39 = true := by kernel_rfl
theorem bt48 : byS Tryd.prog 48 = some 72 := by kernel_rfl
theorem pl48 : plS Tryd.prog 48 = some [(0, 1), (1, 32), (33, 1), (34, 1)] := by kernel_rfl
theorem en15 : enS Tryd.prog 15 = true := by kernel_rfl
theorem en29 : enS Tryd.prog 29 = true := by kernel_rfl
theorem en31 : enS Tryd.prog 31 = true := by kernel_rfl
theorem en33 : enS Tryd.prog 33 = true := by kernel_rfl
theorem en34 : enS Tryd.prog 34 = true := by kernel_rfl
theorem en36 : enS Tryd.prog 36 = true := by kernel_rfl
theorem en37 : enS Tryd.prog 37 = true := by kernel_rfl
theorem en38 : enS Tryd.prog 38 = true := by kernel_rfl
theorem en39 : enS Tryd.prog 39 = true := by kernel_rfl
theorem en42 : enS Tryd.prog 42 = true := by kernel_rfl
theorem zr9 : zrS Tryd.prog 9 = some [.string ⟨#[]⟩] := by kernel_rfl
theorem en28 : enS Tryd.prog 28 = true := by kernel_rfl
theorem en30 : enS Tryd.prog 30 = true := by kernel_rfl
end Fx
open Fx

theorem unsigned_c (n : Int) (w : World) (H : Froz) (hz : Fz H w) : CallsR Tryd.prog 96 [.int .i64 n] w fun v w' => v = .int .u64 (unsN n : Int) ∧ St ⟨w, H, []⟩ H [] w' := by
  refine calls_start Tryd.func96 rfl Tryd.ntmps96 rfl (fun a hF => ?_)
  have hS := St.start w H hz
  have hS0 := hS
  refine c_seq (fun K1 hK1 => ?_)
  refine c_reg ?_
  refine n_q hF hS (q_assign rfl) rfl (fun a hF => ?_)
  refine hK1 _ _ ?_
  refine c_seq (fun K2 hK2 => ?_)
  refine c_reg ?_
  refine n_q hF hS (q_move rfl) rfl (fun a hF => ?_)
  refine n_q hF hS (q_cv (r := (u64N n : Int)) Tryd.underlying3 Tryd.underlying160 rfl (wrap_u64N _)) rfl (fun a hF => ?_)
  refine n_q hF hS (q_shl (m := 18446744073709551616) (s := 1) rfl rfl rfl rfl (by decide)) rfl (fun a hF => ?_)
  refine n_q hF hS (q_move rfl) rfl (fun a hF => ?_)
  refine n_q hF hS (q_shrI (s := 63) rfl rfl (by decide)) rfl (fun a hF => ?_)
  refine n_q hF hS (q_cv (r := (u64N (n / 2 ^ 63) : Int)) Tryd.underlying3 Tryd.underlying160 rfl (wrap_u64N _)) rfl (fun a hF => ?_)
  refine n_q hF hS (q_xor (m := 18446744073709551616) rfl rfl rfl rfl (Nat.mod_lt _ (by decide)) (u64N_lt _)) rfl (fun a hF => ?_)
  refine n_q hF hS (q_assign rfl) rfl (fun a hF => ?_)
  refine hK2 _ _ ?_
  refine c_ret ?_
  repeat (first | refine ret_then ?_ | refine ret_blk ?_)
  refine c_ret' (P := Tryd.prog) (fn := Tryd.f96) rfl hF hS (.tmp rfl .nil) ⟨_, rfl, ?_⟩
  exact ⟨rfl, hS.same⟩

theorem numeral_c (ad : Option Addr) (k cp : Nat) (xs : List UInt8) (Lx : List Blk) (ho : OwS 5 1 (.slice ad k cp) k (bc xs) Lx) (hk : k ≤ 4000000) (u : Nat) (hu : u < 18446744073709551616) (w : World) (H : Froz) (hh : Hand w H Lx) :
    CallsR Tryd.prog 95 [.slice ad k cp, .int .u64 (u : Int)] w fun v w' => ∃ ad' cp' Lx', v = .slice ad' (xs ++ numL u).length cp' ∧ OwS 5 1 (.slice ad' (xs ++ numL u).length cp') (xs ++ numL u).length (bc (xs ++ numL u)) Lx' ∧ St ⟨w, H, Lx.map (·.b)⟩ H Lx' w' := by
  refine calls_start Tryd.func95 rfl Tryd.ntmps95 rfl (fun a hF => ?_)
  have hS := St.startG hh
  refine c_seq (fun K1 hK1 => ?_)
  refine c_reg ?_
  refine n_q hF hS (q_assign rfl) rfl (fun a hF => ?_)
  refine hK1 _ _ ?_
  refine c_seq (fun K2 hK2 => ?_)
  refine c_block ?_
  refine c_loopL hF [0, 1, 5, 6, 7, 8, 9, 10, 11, 12, 13, 14]
    (fun g : Nat × Nat × Option Addr × Nat × Nat × List UInt8 × List Blk => [(0, .slice g.2.2.1 g.2.2.2.2.1 g.2.2.2.1), (1, .int .u64 (g.2.1 : Int))])
    (fun g => g.2.2.2.2.2.2 ++ [])
    (fun g _ => OwS 5 1 (.slice g.2.2.1 g.2.2.2.2.1 g.2.2.2.1) g.2.2.2.2.1 (bc g.2.2.2.2.2.1) g.2.2.2.2.2.2 ∧ g.2.1 < 128 ^ (g.1 + 1) ∧ g.2.1 < 18446744073709551616 ∧ g.1 ≤ 9 ∧ g.2.2.2.2.2.1 ++ numB g.1 g.2.1 = xs ++ numL u ∧ g.2.2.2.2.1 + g.1 = k + 9)
    (fun g => g.1) ((9, u, ad, cp, k, xs, Lx)) ⟨rfl, rfl, trivial⟩ ((by rw [List.append_nil]; exact hS)) (⟨ho, Nat.lt_trans hu (show 18446744073709551616 < 128 ^ (9 + 1) by decide), hu, Nat.le_refl _, rfl, rfl⟩) ?_
  clear hF hS
  intro g a w H hle hF hS hJ
  have hl0 := Le.refl H
  obtain ⟨f, u2, ad2, cp2, k2, ys, Ly⟩ := g
  obtain ⟨hO, hJu, hJ64, hJf, hJe, hJk⟩ := hJ
  try dsimp only at hF hS hO hJu hJ64 hJf hJe hJk
  refine c_seq (fun K3 hK3 => ?_)
  refine c_seq (fun K4 hK4 => ?_)
  refine c_reg ?_
  refine n_q hF hS (q_move rfl) rfl (fun a hF => ?_)
  refine n_q hF hS (q_geq rfl rfl) rfl (fun a hF => ?_)
  refine hK4 _ _ ?_
  refine spd hF (s := 6) rfl (fun hc6 hF => ?_) (fun hc6 hF => ?_)
  refine c_true hF rfl ?_
  refine wp_skip ?_
  refine hK3 _ _ ?_
  refine c_seq (fun K5 hK5 => ?_)
  refine c_block ?_
  refine c_reg ?_
  have hu2 : 128 ≤ u2 := by omega
  obtain ⟨f2, rfl⟩ : ∃ q, f = q + 1 := ⟨f - 1, by rcases f with _ | f; (simp at hJu; omega); rfl⟩
  rw [numB_big hu2] at hJe
  refine n_q hF hS (q_move rfl) rfl (fun a hF => ?_)
  refine n_q hF hS (q_move rfl) rfl (fun a hF => ?_)
  refine n_q hF hS (q_cv8 Tryd.underlying160 Tryd.underlying5 rfl) rfl (fun a hF => ?_)
  refine n_q hF hS (q_or (m := 256) rfl rfl rfl rfl (Nat.mod_lt _ (by decide)) (by decide)) rfl (fun a hF => ?_)
  refine n_l rfl (fun K6 hK6 => l_buildF (els := [[_]]) Tryd.underlying46 ty5 zr5 hF hS rfl rfl rfl (by simp [Value.cells, dc_length, List.length_replicate, List.length_cons, List.length_nil, List.length_append]) rfl rfl rfl (fun a w b1 hF hle hS r3_4 => ?_))
  replace hl0 := hl0.mono hle
  refine hK6 _ _ ?_
  refine n_l rfl (fun K7 hK7 => l_append (L := []) Tryd.underlying46 ty5 zr5 bt5 hF hS rfl rfl (hO) (.slice Tryd.underlying46 r3_4.rd rfl) (by omega) (by simp only [maxLen]; omega) rfl rfl (fun a w c3_5 ad3_5 Lx3_5 ho3_5 hF hS => hK7 _ _ ?_))
  rw [show [[Value.int .u8 (((u2 % 256) ||| 128 : Nat) : Int)]].flatten = bc [UInt8.ofNat ((u2 % 256) ||| 128)] by simp [bc], ← bc_append] at ho3_5
  refine n_q hF hS (q_assign rfl) rfl (fun a hF => ?_)
  refine hK5 _ _ ?_
  refine c_reg ?_
  refine n_q hF hS (q_move rfl) rfl (fun a hF => ?_)
  refine n_q hF hS (q_shrC (m := 128) rfl rfl (by decide) rfl) rfl (fun a hF => ?_)
  refine n_q hF hS (q_assign rfl) rfl (fun a hF => ?_)
  exact ⟨(f2, u2 / 128, ad3_5, c3_5, k2 + 1, ys ++ [UInt8.ofNat ((u2 % 256) ||| 128)], Lx3_5), _, (by show f2 < f2 + 1; omega), hl0, hF.back ⟨rfl, rfl, trivial⟩ rfl (by repeat first | exact Ext.refl _ _ | refine Ext.rem' rfl ?_ | refine Ext.push rfl ?_), hS.lose (.refl _), ⟨ho3_5, pow_step hJu, by show u2 / 128 < _; omega, by show f2 ≤ 9; omega, by show _ ++ _ = _; rw [List.append_assoc]; exact hJe, by show k2 + 1 + f2 = _; omega⟩⟩
  refine c_false hF rfl ?_
  refine c_exit ?_
  refine hK2 _ _ ?_
  refine c_seq (fun K8 hK8 => ?_)
  refine c_reg ?_
  have hu2 : u2 < 128 := by omega
  rw [numB_small hu2] at hJe
  refine n_q hF hS (q_move rfl) rfl (fun a hF => ?_)
  refine n_q hF hS (q_move rfl) rfl (fun a hF => ?_)
  refine n_q hF hS (q_cv8 Tryd.underlying160 Tryd.underlying5 rfl) rfl (fun a hF => ?_)
  refine n_l rfl (fun K9 hK9 => l_buildF (els := [[_]]) Tryd.underlying46 ty5 zr5 hF hS rfl rfl rfl (by simp [Value.cells, dc_length, List.length_replicate, List.length_cons, List.length_nil, List.length_append]) rfl rfl rfl (fun a w b2 hF hle hS r4_3 => ?_))
  refine hK9 _ _ ?_
  refine n_l rfl (fun K10 hK10 => l_append (L := []) Tryd.underlying46 ty5 zr5 bt5 hF hS rfl rfl (hO) (.slice Tryd.underlying46 r4_3.rd rfl) (by omega) (by simp only [maxLen]; omega) rfl rfl (fun a w c4_4 ad4_4 Lx4_4 ho4_4 hF hS => hK10 _ _ ?_))
  rw [show [[Value.int .u8 ((u2 % 256 : Nat) : Int)]].flatten = bc [UInt8.ofNat u2] by simp [bc], ← bc_append, hJe] at ho4_4
  refine n_q hF hS (q_assign rfl) rfl (fun a hF => ?_)
  refine hK8 _ _ ?_
  refine c_ret ?_
  repeat (first | refine ret_then ?_ | refine ret_blk ?_)
  refine c_ret' (P := Tryd.prog) (fn := Tryd.f95) rfl hF hS (.tmp rfl .nil) ⟨_, rfl, ?_⟩
  have hl := ho4_4.sz1
  rw [bc_length] at hl
  rw [hl] at ho4_4
  refine ⟨ad4_4, c4_4, Lx4_4, ?_, ho4_4, ?_⟩
  · show Value.slice _ _ _ = _
    rw [hl]
  · rw [List.append_nil] at hS
    exact hS.down

theorem write1_c (ad : Option Addr) (k cp : Nat) (xs : List UInt8) (Lx : List Blk) (ho : OwS 5 1 (.slice ad k cp) k (bc xs) Lx) (hk : k ≤ 3000000) (v0 v2 v3 : Value) (n : Int) (w : World) (H : Froz) (hh : Hand w H Lx) :
    CallsR Tryd.prog 94 [.slice ad k cp, .agg #[v0, .int .i64 n, v2, v3]] w fun v w' => ∃ ad' cp' Lx', v = .slice ad' (xs ++ encI n).length cp' ∧ OwS 5 1 (.slice ad' (xs ++ encI n).length cp') (xs ++ encI n).length (bc (xs ++ encI n)) Lx' ∧ St ⟨w, H, Lx.map (·.b)⟩ H Lx' w' := by
  refine calls_start Tryd.func94 rfl Tryd.ntmps94 rfl (fun a hF => ?_)
  have hS := St.startG hh
  refine c_seq (fun K1 hK1 => ?_)
  refine c_reg ?_
  refine n_l rfl (fun K2 hK2 => l_boxA hF hS rfl rfl (fun a w b1 hF hS => hK2 _ _ ?_))
  refine n_q hF hS (q_assign rfl) rfl (fun a hF => ?_)
  refine hK1 _ _ ?_
  refine c_seq (fun K3 hK3 => ?_)
  obtain ⟨H_hbx, hH_hbx, hle_hbx, hS_hbx⟩ := hS.freeze' (i := 0) rfl
  replace hS := hS_hbx
  have hbx : HR H_hbx b1 [v0, .int .i64 n, v2, v3] := by rw [hH_hbx]; exact frz_hr
  replace hS := St.nilR (L := Lx) hS
  refine r_start (fun _ => []) [] mo hS (fun w hS => ?_)
  refine r_q (i := 0) rfl rfl hF (hS.lose (List.nil_sublist _)) (q_move rfl) rfl (fun a hF => ?_)
  refine r_q (i := 3) rfl rfl hF (hS.lose (List.nil_sublist _)) (q_fieldAddr fl67_1 (by decide) rfl) rfl (fun a hF => ?_)
  refine r_q (i := 4) rfl rfl hF (hS.lose (List.nil_sublist _)) (q_loadG (o := 1) (v := .int .i64 n) ty3 rfl hbx.h (Nat.le_of_ble_eq_true rfl) rfl rfl) rfl (fun a hF => ?_)
  refine r_one (i := 1) (by kernel_rfl) ?_
  have hsub := hS.sub
  refine r_li rfl rfl (fun K4 hK4 => l_buildF (els := [[_]]) Tryd.underlying46 ty5 zr5 hF hS rfl rfl rfl (by simp [Value.cells, dc_length, List.length_replicate, List.length_cons, List.length_nil, List.length_append]) rfl rfl rfl (fun a w b2 hF hle hS r1_1 => ?_))
  replace hbx := hbx.mono hle
  refine hK4 _ _ _ (hS.lose (List.nil_sublist _)) (fun _ h => h.forget hsub hle) ?_
  refine r_one (i := 2) (by kernel_rfl) ?_
  refine r_li rfl rfl (fun K5 hK5 => l_append (L := []) Tryd.underlying46 ty5 zr5 bt5 hF hS rfl rfl (ho) (.slice Tryd.underlying46 r1_1.rd rfl) (by omega) (by simp only [maxLen]; omega) rfl rfl (fun a w c1_2 ad1_2 Lx1_2 ho1_2 hF hS => hK5 _ _ _ (hS.lose (List.nil_sublist _)) (fun _ h => h) ?_))
  rw [show [[Value.int .u8 1]].flatten = bc [1] from rfl, ← bc_append] at ho1_2
  refine r_one (i := 5) (by kernel_rfl) ?_
  have hsub := hS.sub
  refine r_li rfl rfl (fun K6 hK6 => l_call en96 hF rfl rfl (unsigned_c n _ _ hS.fz) (fun v6 w hR a hF => ?_))
  obtain ⟨rfl, hc⟩ := hR
  replace hS := hS.call0 hc
  refine hK6 _ _ _ (hS.lose (List.nil_sublist _)) (fun _ h => h) ?_
  refine r_one (i := 6) (by kernel_rfl) ?_
  have hsub := hS.sub
  refine r_li rfl rfl (fun K7 hK7 => l_call en95 hF rfl rfl (numeral_c _ _ _ _ _ ho1_2 (by omega) (unsN n) (unsN_lt n) _ _ hS.hand) (fun v7 w hR a hF => ?_))
  obtain ⟨adn, cpn, Lxn, rfl, hon, hc⟩ := hR
  replace hS : St _ _ (Lxn ++ []) _ := hS.callG (L := []) hc
  refine hK7 _ _ _ (hS.lose (List.nil_sublist _)) (fun _ h => h) ?_
  refine r_q (i := 7) rfl rfl hF (hS.lose (List.nil_sublist _)) (q_assign rfl) rfl (fun a hF => ?_)
  refine r_done (by kernel_rfl) ?_
  refine hK3 _ _ ?_
  refine c_ret ?_
  repeat (first | refine ret_then ?_ | refine ret_blk ?_)
  refine c_ret' (P := Tryd.prog) (fn := Tryd.f94) rfl hF hS (.tmp rfl .nil) ⟨_, rfl, ?_⟩
  rw [List.append_assoc] at hon
  refine ⟨adn, cpn, Lxn, ?_, hon, ?_⟩
  · show Value.slice _ _ _ = _
    rw [List.append_assoc]; rfl
  · rw [List.append_nil] at hS
    exact hS.down

theorem write2_c (ad : Option Addr) (k cp : Nat) (xs : List UInt8) (Lx : List Blk) (ho : OwS 5 1 (.slice ad k cp) k (bc xs) Lx) (hk : k ≤ 3000000) (v0 v1 v3 : Value) (s : ByteArray) (hs : s.size ≤ 100000) (w : World) (H : Froz) (hh : Hand w H Lx) :
    CallsR Tryd.prog 97 [.slice ad k cp, .agg #[v0, v1, .string s, v3]] w fun v w' => ∃ ad' cp' Lx', v = .slice ad' (xs ++ encT s.data.toList).length cp' ∧ OwS 5 1 (.slice ad' (xs ++ encT s.data.toList).length cp') (xs ++ encT s.data.toList).length (bc (xs ++ encT s.data.toList)) Lx' ∧ St ⟨w, H, Lx.map (·.b)⟩ H Lx' w' := by
  refine calls_start Tryd.func97 rfl Tryd.ntmps97 rfl (fun a hF => ?_)
  have hS := St.startG hh
  have hsz : s.size = s.data.toList.length := by simp
  have hnl := numL_len s.size
  refine c_seq (fun K1 hK1 => ?_)
  refine c_reg ?_
  refine n_l rfl (fun K2 hK2 => l_boxA hF hS rfl rfl (fun a w b1 hF hS => hK2 _ _ ?_))
  refine n_q hF hS (q_assign rfl) rfl (fun a hF => ?_)
  refine hK1 _ _ ?_
  refine c_seq (fun K3 hK3 => ?_)
  obtain ⟨H_hbx, hH_hbx, hle_hbx, hS_hbx⟩ := hS.freeze' (i := 0) rfl
  replace hS := hS_hbx
  have hbx : HR H_hbx b1 [v0, v1, .string s, v3] := by rw [hH_hbx]; exact frz_hr
  replace hS := St.nilR (L := Lx) hS
  refine r_start (fun _ => []) [] mo hS (fun w hS => ?_)
  refine r_q (i := 0) rfl rfl hF (hS.lose (List.nil_sublist _)) (q_move rfl) rfl (fun a hF => ?_)
  refine r_q (i := 3) rfl rfl hF (hS.lose (List.nil_sublist _)) (q_fieldAddr fl67_2 (by decide) rfl) rfl (fun a hF => ?_)
  refine r_q (i := 4) rfl rfl hF (hS.lose (List.nil_sublist _)) (q_loadG (o := 2) (v := .string s) ty9 rfl hbx.h (Nat.le_of_ble_eq_true rfl) rfl rfl) rfl (fun a hF => ?_)
  refine r_q (i := 5) rfl rfl hF (hS.lose (List.nil_sublist _)) (q_lenS Tryd.underlying9 rfl rfl) rfl (fun a hF => ?_)
  refine r_q (i := 6) rfl rfl hF (hS.lose (List.nil_sublist _)) (q_cv64 Tryd.underlying3 Tryd.underlying160 rfl (by omega)) rfl (fun a hF => ?_)
  refine r_q (i := 8) rfl rfl hF (hS.lose (List.nil_sublist _)) (q_fieldAddr fl67_2 (by decide) rfl) rfl (fun a hF => ?_)
  refine r_q (i := 9) rfl rfl hF (hS.lose (List.nil_sublist _)) (q_loadG (o := 2) (v := .string s) ty9 rfl hbx.h (Nat.le_of_ble_eq_true rfl) rfl rfl) rfl (fun a hF => ?_)
  refine r_one (i := 1) (by kernel_rfl) ?_
  have hsub := hS.sub
  refine r_li rfl rfl (fun K4 hK4 => l_buildF (els := [[_]]) Tryd.underlying46 ty5 zr5 hF hS rfl rfl rfl (by simp [Value.cells, dc_length, List.length_replicate, List.length_cons, List.length_nil, List.length_append]) rfl rfl rfl (fun a w b2 hF hle hS r1_1 => ?_))
  replace hbx := hbx.mono hle
  refine hK4 _ _ _ (hS.lose (List.nil_sublist _)) (fun _ h => h.forget hsub hle) ?_
  refine r_one (i := 2) (by kernel_rfl) ?_
  refine r_li rfl rfl (fun K5 hK5 => l_append (L := []) Tryd.underlying46 ty5 zr5 bt5 hF hS rfl rfl (ho) (.slice Tryd.underlying46 r1_1.rd rfl) (by omega) (by simp only [maxLen]; omega) rfl rfl (fun a w c1_2 ad1_2 Lx1_2 ho1_2 hF hS => hK5 _ _ _ (hS.lose (List.nil_sublist _)) (fun _ h => h) ?_))
  rw [show [[Value.int .u8 2]].flatten = bc [2] from rfl, ← bc_append] at ho1_2
  have hkl := ho.sz1
  rw [bc_length] at hkl
  refine r_one (i := 7) (by kernel_rfl) ?_
  have hsub := hS.sub
  refine r_li rfl rfl (fun K6 hK6 => l_call en95 hF rfl rfl (numeral_c _ _ _ _ _ ho1_2 (by omega) s.size (by omega) _ _ hS.hand) (fun v6 w hR a hF => ?_))
  obtain ⟨adn, cpn, Lxn, rfl, hon, hc⟩ := hR
  replace hS : St _ _ (Lxn ++ []) _ := hS.callG (L := []) hc
  refine hK6 _ _ _ (hS.lose (List.nil_sublist _)) (fun _ h => h) ?_
  refine r_one (i := 10) (by kernel_rfl) ?_
  refine r_li rfl rfl (fun K7 hK7 => l_append (L := []) Tryd.underlying46 ty5 zr5 bt5 hF hS rfl rfl (hon) (.str Tryd.underlying9 rfl) (by simp only [List.length_append, List.length_cons, List.length_nil]; omega) (by simp only [List.length_append, List.length_cons, List.length_nil, maxLen]; omega) rfl rfl (fun a w c1_10 ad1_10 Lx1_10 ho1_10 hF hS => hK7 _ _ _ (hS.lose (List.nil_sublist _)) (fun _ h => h) ?_))
  rw [byteCells_bc, ← bc_append] at ho1_10
  have hqe : xs ++ [2] ++ numL s.size ++ s.data.toList = xs ++ encT s.data.toList := by rw [hsz]; simp [encT]
  rw [hqe] at ho1_10
  refine r_q (i := 11) rfl rfl hF (hS.lose (List.nil_sublist _)) (q_assign rfl) rfl (fun a hF => ?_)
  refine r_done (by kernel_rfl) ?_
  refine hK3 _ _ ?_
  refine c_ret ?_
  repeat (first | refine ret_then ?_ | refine ret_blk ?_)
  refine c_ret' (P := Tryd.prog) (fn := Tryd.f97) rfl hF hS (.tmp rfl .nil) ⟨_, rfl, ?_⟩
  have hl := ho1_10.sz1
  rw [bc_length] at hl
  rw [hl] at ho1_10
  refine ⟨ad1_10, _, Lx1_10, ?_, ho1_10, ?_⟩
  · show Value.slice _ _ _ = _
    rw [hl]
  · rw [List.append_nil] at hS
    exact hS.down
end Go.Proofs.YtneokajhmonpaaaDoor

namespace Go.Proofs.YtneokajhmonpaaaDoor
open Go Go.RowKit Go.W
set_option maxRecDepth 10000
open Fx

def lfF : Lf → FuncId
  | .i _ => 94
  | .t _ => 97
theorem lfF_en (l : Lf) : enS Tryd.prog (lfF l) = true := by cases l <;> kernel_rfl
theorem writeLf_c (lf : Lf) (ad : Option Addr) (k cp : Nat) (xs : List UInt8) (Lx : List Blk) (ho : OwS 5 1 (.slice ad k cp) k (bc xs) Lx) (hk : k ≤ 3000000) (hz : lf.z ≤ 100000) (w : World) (H : Froz) (hh : Hand w H Lx) :
    CallsR Tryd.prog (lfF lf) [.slice ad k cp, .agg lf.c.toArray] w fun v w' => ∃ ad' cp' Lx', v = .slice ad' (xs ++ lf.e).length cp' ∧ OwS 5 1 (.slice ad' (xs ++ lf.e).length cp') (xs ++ lf.e).length (bc (xs ++ lf.e)) Lx' ∧ St ⟨w, H, Lx.map (·.b)⟩ H Lx' w' := by
  cases lf with
  | i n => exact write1_c _ _ _ _ _ ho hk _ _ _ n w H hh
  | t s => exact write2_c _ _ _ _ _ ho hk _ _ _ s hz w H hh



theorem write3_c (ad : Option Addr) (k cp : Nat) (xs : List UInt8) (Lx : List Blk) (ho : OwS 5 1 (.slice ad k cp) k (bc xs) Lx) (hk : k ≤ 1000) (ls : List Lf) (al : Option Addr) (cl : Nat) (v0 v1 v2 : Value) (bw bp : Nat) (hln : ls.length ≤ 8) (hlz : ∀ l ∈ ls, l.z ≤ 1000) (w : World) (H : Froz) (hh : Hand w H Lx) (hw : HR H bw [.nilFunc, .func (.func 94) #[] #[], .func (.func 97) #[] #[], .func (.func 98) #[] #[.pointer (some ⟨bp, 0, none⟩)]]) (hp : HR H bp [.pointer (some ⟨bw, 0, none⟩)]) (hr : RdL H al 4 (lfE ls)) :
    CallsR Tryd.prog 98 [.slice ad k cp, .agg #[v0, v1, v2, .slice al ls.length cl], .pointer (some ⟨bp, 0, none⟩)] w fun v w' => ∃ ad' cp' Lx', v = .slice ad' (xs ++ encL ls).length cp' ∧ OwS 5 1 (.slice ad' (xs ++ encL ls).length cp') (xs ++ encL ls).length (bc (xs ++ encL ls)) Lx' ∧ St ⟨w, H, Lx.map (·.b)⟩ H Lx' w' := by
  refine calls_start Tryd.func98 rfl Tryd.ntmps98 rfl (fun a hF => ?_)
  have hS := St.startG hh
  have hnl := numL_len ls.length
  refine c_seq (fun K1 hK1 => ?_)
  refine c_reg ?_
  refine n_l rfl (fun K2 hK2 => l_boxA hF hS rfl rfl (fun a w b1 hF hS => hK2 _ _ ?_))
  refine n_q hF hS (q_assign rfl) rfl (fun a hF => ?_)
  refine hK1 _ _ ?_
  refine c_seq (fun K3 hK3 => ?_)
  obtain ⟨H_hbx, hH_hbx, hle_hbx, hS_hbx⟩ := hS.freeze' (i := 0) rfl
  replace hS := hS_hbx
  replace hw := hw.mono hle_hbx
  replace hp := hp.mono hle_hbx
  replace hr := hr.mono hle_hbx
  have hbx : HR H_hbx b1 [v0, v1, v2, .slice al ls.length cl] := by rw [hH_hbx]; exact frz_hr
  replace hS := St.nilR (L := Lx) hS
  refine r_start (fun _ => []) [] mo hS (fun w hS => ?_)
  refine r_q (i := 0) rfl rfl hF (hS.lose (List.nil_sublist _)) (q_move rfl) rfl (fun a hF => ?_)
  refine r_q (i := 3) rfl rfl hF (hS.lose (List.nil_sublist _)) (q_fieldAddr fl67_3 (by decide) rfl) rfl (fun a hF => ?_)
  refine r_q (i := 4) rfl rfl hF (hS.lose (List.nil_sublist _)) (q_loadG (o := 3) (v := .slice al ls.length cl) ty65 rfl hbx.h (Nat.le_of_ble_eq_true rfl) rfl rfl) rfl (fun a hF => ?_)
  refine r_q (i := 5) rfl rfl hF (hS.lose (List.nil_sublist _)) (q_len Tryd.underlying65 rfl rfl) rfl (fun a hF => ?_)
  refine r_q (i := 6) rfl rfl hF (hS.lose (List.nil_sublist _)) (q_cv64 Tryd.underlying3 Tryd.underlying160 rfl (by omega)) rfl (fun a hF => ?_)
  refine r_one (i := 1) (by kernel_rfl) ?_
  have hsub := hS.sub
  refine r_li rfl rfl (fun K4 hK4 => l_buildF (els := [[_]]) Tryd.underlying46 ty5 zr5 hF hS rfl rfl rfl (by simp [Value.cells, dc_length, List.length_replicate, List.length_cons, List.length_nil, List.length_append]) rfl rfl rfl (fun a w b2 hF hle hS r1_1 => ?_))
  replace hw := hw.mono hle
  replace hp := hp.mono hle
  replace hr := hr.mono hle
  replace hbx := hbx.mono hle
  refine hK4 _ _ _ (hS.lose (List.nil_sublist _)) (fun _ h => h.forget hsub hle) ?_
  refine r_one (i := 2) (by kernel_rfl) ?_
  refine r_li rfl rfl (fun K5 hK5 => l_append (L := []) Tryd.underlying46 ty5 zr5 bt5 hF hS rfl rfl (ho) (.slice Tryd.underlying46 r1_1.rd rfl) (by omega) (by simp only [maxLen]; omega) rfl rfl (fun a w c1_2 ad1_2 Lx1_2 ho1_2 hF hS => hK5 _ _ _ (hS.lose (List.nil_sublist _)) (fun _ h => h) ?_))
  rw [show [[Value.int .u8 3]].flatten = bc [3] from rfl, ← bc_append] at ho1_2
  have hkl := ho.sz1
  rw [bc_length] at hkl
  refine r_one (i := 7) (by kernel_rfl) ?_
  have hsub := hS.sub
  refine r_li rfl rfl (fun K6 hK6 => l_call en95 hF rfl rfl (numeral_c _ _ _ _ _ ho1_2 (by omega) ls.length (by omega) _ _ hS.hand) (fun v6 w hR a hF => ?_))
  obtain ⟨adm, cpm, Lxm, rfl, hom, hc⟩ := hR
  replace hS : St _ _ (Lxm ++ []) _ := hS.callG (L := []) hc
  refine hK6 _ _ _ (hS.lose (List.nil_sublist _)) (fun _ h => h) ?_
  refine r_q (i := 8) rfl rfl hF (hS.lose (List.nil_sublist _)) (q_assign rfl) rfl (fun a hF => ?_)
  refine r_done (by kernel_rfl) ?_
  refine hK3 _ _ ?_
  refine c_seq (fun K7 hK7 => ?_)
  refine c_seq (fun K8 hK8 => ?_)
  refine c_reg ?_
  refine n_q hF hS (q_fieldAddr fl67_3 (by decide) rfl) rfl (fun a hF => ?_)
  refine n_q hF hS (q_loadG (o := 3) (v := .slice al ls.length cl) ty65 rfl hbx.h (Nat.le_of_ble_eq_true rfl) rfl rfl) rfl (fun a hF => ?_)
  refine n_q hF hS (q_len Tryd.underlying65 rfl rfl) rfl (fun a hF => ?_)
  refine n_q hF hS (q_move rfl) rfl (fun a hF => ?_)
  refine hK8 _ _ ?_
  refine c_block ?_
  refine c_loopL hF [0, 7, 19, 20, 21, 22, 23, 24, 25, 26, 27, 28, 29, 30, 31, 32, 33]
    (fun g : Nat × Option Addr × Nat × Nat × List Blk => [(0, .slice g.2.1 g.2.2.2.1 g.2.2.1), (19, .int .i64 (g.1 : Int))])
    (fun g => g.2.2.2.2 ++ [])
    (fun g _ => g.1 ≤ ls.length ∧ OwS 5 1 (.slice g.2.1 g.2.2.2.1 g.2.2.1) g.2.2.2.1 (bc (xs ++ encLs ls g.1)) g.2.2.2.2 ∧ g.2.2.2.1 ≤ 1011 + 1011 * g.1)
    (fun g => ls.length - g.1) ((0, adm, cpm, (xs ++ [3] ++ numL ls.length).length, Lxm)) ⟨rfl, rfl, trivial⟩ (hS) (⟨Nat.zero_le _, (show xs ++ [3] ++ numL ls.length = xs ++ encLs ls 0 by simp [encLs]) ▸ hom, by simp only [List.length_append, List.length_cons, List.length_nil]; omega⟩) ?_
  clear hF hS
  intro g a w H hle hF hS hJ
  replace hw := hw.mono hle
  replace hp := hp.mono hle
  replace hr := hr.mono hle
  replace hbx := hbx.mono hle
  replace r1_1 := r1_1.mono hle
  have hl0 := Le.refl H
  obtain ⟨j, ad2, cp2, k2, Ly⟩ := g
  obtain ⟨hj, hO, hkb⟩ := hJ
  try dsimp only at hF hS hj hO hkb
  refine c_seq (fun K9 hK9 => ?_)
  refine c_reg ?_
  refine n_q hF hS (q_lss rfl rfl) rfl (fun a hF => ?_)
  refine hK9 _ _ ?_
  refine c_seq (fun K10 hK10 => ?_)
  refine spd hF (s := 20) rfl (fun hc20 hF => ?_) (fun hc20 hF => ?_)
  refine c_true hF rfl ?_
  refine wp_skip ?_
  refine hK10 _ _ ?_
  refine c_seq (fun K11 hK11 => ?_)
  refine c_block ?_
  refine c_seq (fun K12 hK12 => ?_)
  refine c_reg ?_
  have hlt : j < ls.length := by omega
  obtain ⟨lf, hlf⟩ : ∃ l, l = ls[j] := ⟨_, rfl⟩
  have hel : (lfE ls)[j]? = some lf.c := by simp [lfE, hlt, hlf]
  have hz2 := hlz lf (by rw [hlf]; exact List.getElem_mem hlt)
  have hel2 := Lf.e_len lf
  refine n_q hF hS (q_indexAddrS Tryd.underlying65 ty67 rfl rfl (by omega) (hr.some (by simp [lfE]; omega))) rfl (fun a hF => ?_)
  refine n_q hF hS (q_loadL0 (v := .agg lf.c.toArray) ty67 rfl hr hel (by decide) rfl (by simp only [ldv, cond_true, List.drop_zero]; rw [List.take_of_length_le (by rw [Lf.c_len]; exact Nat.le_refl _)])) rfl (fun a hF => ?_)
  refine n_l rfl (fun K13 hK13 => l_alloc hF hS zr67 rfl (fun a w b3 hF hS => hK13 _ _ ?_))
  refine n_l rfl (fun K8 hK8 => l_store0A ty67 hF hS rfl rfl (i := 0) rfl (Lf.c_len _) rfl (Lf.c_all1 _) (fun a w hF hS => hK8 _ _ ?_))
  refine hK12 _ _ ?_
  obtain ⟨H_hlb, hH_hlb, hle_hlb, hS_hlb⟩ := hS.freeze' (i := 0) rfl
  replace hS := hS_hlb
  replace hw := hw.mono hle_hlb
  replace hp := hp.mono hle_hlb
  replace hr := hr.mono hle_hlb
  replace hbx := hbx.mono hle_hlb
  replace r1_1 := r1_1.mono hle_hlb
  replace hl0 := hl0.mono hle_hlb
  have hlb : HR H_hlb b3 lf.c := by rw [hH_hlb]; exact frz_hr
  replace hS : St _ _ (Ly ++ []) _ := hS
  refine r_start (fun _ => []) [] mo hS (fun w hS => ?_)
  refine r_q (i := 0) rfl rfl hF (hS.lose (List.nil_sublist _)) (q_loadG (o := 0) (v := .pointer (some ⟨bw, 0, none⟩)) ty125 rfl hp.h (Nat.le_of_ble_eq_true rfl) rfl rfl) rfl (fun a hF => ?_)
  refine r_q (i := 1) rfl rfl hF (hS.lose (List.nil_sublist _)) (q_fieldAddr fl67_0 (by decide) rfl) rfl (fun a hF => ?_)
  refine r_q (i := 2) rfl rfl hF (hS.lose (List.nil_sublist _)) (q_loadG (o := 0) (v := .int .i64 (lf.k : Int)) ty3 rfl hlb.h (by rw [Lf.c_len]; decide) rfl (by cases lf <;> rfl)) rfl (fun a hF => ?_)
  refine r_q (i := 3) rfl rfl hF (hS.lose (List.nil_sublist _)) (q_nilCheck rfl) rfl (fun a hF => ?_)
  refine r_q (i := 4) rfl rfl hF (hS.lose (List.nil_sublist _)) (q_indexAddrAj (j := lf.k) Tryd.underlying158 ty124 rfl rfl (by have := Lf.k_le lf; omega) (by omega)) rfl (fun a hF => ?_)
  refine r_q (i := 5) rfl rfl hF (hS.lose (List.nil_sublist _)) (q_fieldAddr fl124_0 (by decide) rfl) rfl (fun a hF => ?_)
  refine r_q (i := 6) rfl rfl hF (hS.lose (List.nil_sublist _)) (q_loadG (o := lf.k + 0) (v := .func (.func (lfF lf)) #[] #[]) ty122 rfl hw.h (by have := Lf.k_le lf; show lf.k + 0 + 1 ≤ 4; omega) rfl (by cases lf <;> rfl)) rfl (fun a hF => ?_)
  refine r_q (i := 7) rfl rfl hF (hS.lose (List.nil_sublist _)) (q_move rfl) rfl (fun a hF => ?_)
  refine r_q (i := 8) rfl rfl hF (hS.lose (List.nil_sublist _)) (q_loadG (o := 0) (v := .agg lf.c.toArray) ty67 rfl hlb.h (by rw [Lf.c_len]; decide) rfl (by simp only [ldv, cond_true, List.drop_zero]; rw [List.take_of_length_le (by rw [Lf.c_len]; exact Nat.le_refl _)])) rfl (fun a hF => ?_)
  refine r_one (i := 9) (by kernel_rfl) ?_
  have hsub := hS.sub
  refine r_li rfl rfl (fun K14 hK14 => l_callv (f := lfF lf) (fs := []) (us := []) (lfF_en lf) hF rfl rfl rfl (writeLf_c lf _ _ _ _ _ hO (by omega) (by omega) _ _ hS.hand) (fun vL w hR a hF => ?_))
  obtain ⟨adn, cpn, Lxn, rfl, hon, hc⟩ := hR
  replace hS : St _ _ (Lxn ++ []) _ := hS.callG (L := []) hc
  refine hK14 _ _ _ (hS.lose (List.nil_sublist _)) (fun _ h => h) ?_
  refine r_q (i := 10) rfl rfl hF (hS.lose (List.nil_sublist _)) (q_assign rfl) rfl (fun a hF => ?_)
  refine r_done (by kernel_rfl) ?_
  refine hK11 _ _ ?_
  refine c_reg ?_
  refine n_q hF hS (q_addI rfl rfl (by omega)) rfl (fun a hF => ?_)
  refine n_q hF hS (q_move rfl) rfl (fun a hF => ?_)
  exact ⟨(j + 1, adn, cpn, (xs ++ encLs ls j ++ lf.e).length, Lxn), _, (by show ls.length - (j + 1) < ls.length - j; omega), hl0, hF.back ⟨rfl, rfl, trivial⟩ rfl (by repeat first | exact Ext.refl _ _ | refine Ext.rem' rfl ?_ | refine Ext.push rfl ?_), hS.lose (.refl _), ⟨by show j + 1 ≤ ls.length; omega, by show OwS _ _ _ _ (bc (xs ++ encLs ls (j + 1))) _; rw [encLs_succ hlt, ← hlf, ← List.append_assoc]; exact hon, by have hl9 := hO.sz1; rw [bc_length] at hl9; show (xs ++ encLs ls j ++ lf.e).length ≤ _; rw [List.length_append, ← hl9]; omega⟩⟩
  refine c_false hF rfl ?_
  refine c_exit ?_
  refine hK7 _ _ ?_
  refine c_seq (fun K15 hK15 => ?_)
  refine c_reg ?_
  refine n_q hF hS (q_move rfl) rfl (fun a hF => ?_)
  refine n_q hF hS (q_assign rfl) rfl (fun a hF => ?_)
  refine hK15 _ _ ?_
  refine c_ret ?_
  repeat (first | refine ret_then ?_ | refine ret_blk ?_)
  refine c_ret' (P := Tryd.prog) (fn := Tryd.f98) rfl hF hS (.tmp rfl .nil) ⟨_, rfl, ?_⟩
  rw [show j = ls.length by omega] at hO
  have hl := hO.sz1
  rw [bc_length] at hl
  refine ⟨ad2, cp2, Ly, ?_, by rw [hl] at hO; exact hO, ?_⟩
  · show Value.slice _ _ _ = _
    rw [hl]; rfl
  · rw [List.append_nil] at hS
    exact hS.down

theorem newWriter_c (w : World) (H : Froz) (hz : Fz H w) :
    CallsR Tryd.prog 64 [] w fun v w' => ∃ bw bp H', v = .pointer (some ⟨bw, 0, none⟩) ∧ Le H H' ∧ HR H' bw [.nilFunc, .func (.func 94) #[] #[], .func (.func 97) #[] #[], .func (.func 98) #[] #[.pointer (some ⟨bp, 0, none⟩)]] ∧ HR H' bp [.pointer (some ⟨bw, 0, none⟩)] ∧ St ⟨w, H, []⟩ H' [] w' := by
  refine calls_start Tryd.func64 rfl Tryd.ntmps64 rfl (fun a hF => ?_)
  have hS := St.start w H hz
  refine c_seq (fun K1 hK1 => ?_)
  refine c_reg ?_
  refine n_q hF hS (q_assign rfl) rfl (fun a hF => ?_)
  refine hK1 _ _ ?_
  refine c_seq (fun K2 hK2 => ?_)
  refine c_reg ?_
  refine n_q hF hS (q_buildA (cs := [_, _, _, _]) Tryd.underlying158 ty124 zr158 rfl (by first | rfl | simp [bldA, spl, dc_length, List.length_replicate, List.length_cons, List.length_nil, List.length_append])) rfl (fun a hF => ?_)
  refine n_l rfl (fun K3 hK3 => l_boxA hF hS rfl rfl (fun a w b1 hF hS => hK3 _ _ ?_))
  refine n_l rfl (fun K4 hK4 => l_alloc hF hS zr125 rfl (fun a w b2 hF hS => hK4 _ _ ?_))
  refine n_l rfl (fun K5 hK5 => l_store (vs := [_]) ty125 hF hS rfl rfl (i := 0) rfl rfl rfl rfl rfl (fun a w hF hS => hK5 _ _ ?_))
  refine hK2 _ _ ?_
  refine c_seq (fun K6 hK6 => ?_)
  refine c_reg ?_
  refine n_q hF hS (q_load ty125 rfl (i := 0) rfl rfl rfl rfl) rfl (fun a hF => ?_)
  refine n_q hF hS (q_nilCheck rfl) rfl (fun a hF => ?_)
  refine n_q hF hS (q_indexAddrAj (j := 1) Tryd.underlying158 ty124 rfl rfl (by decide) (by decide)) rfl (fun a hF => ?_)
  refine n_q hF hS (q_fieldAddr fl124_0 (by decide) rfl) rfl (fun a hF => ?_)
  refine n_l rfl (fun K7 hK7 => l_store (vs := [_]) ty122 hF hS rfl rfl (i := 1) rfl rfl rfl rfl rfl (fun a w hF hS => hK7 _ _ ?_))
  refine hK6 _ _ ?_
  refine c_seq (fun K8 hK8 => ?_)
  refine c_reg ?_
  refine n_q hF hS (q_load ty125 rfl (i := 0) rfl rfl rfl rfl) rfl (fun a hF => ?_)
  refine n_q hF hS (q_nilCheck rfl) rfl (fun a hF => ?_)
  refine n_q hF hS (q_indexAddrAj (j := 2) Tryd.underlying158 ty124 rfl rfl (by decide) (by decide)) rfl (fun a hF => ?_)
  refine n_q hF hS (q_fieldAddr fl124_0 (by decide) rfl) rfl (fun a hF => ?_)
  refine n_l rfl (fun K9 hK9 => l_store (vs := [_]) ty122 hF hS rfl rfl (i := 1) rfl rfl rfl rfl rfl (fun a w hF hS => hK9 _ _ ?_))
  refine hK8 _ _ ?_
  refine c_seq (fun K10 hK10 => ?_)
  refine c_reg ?_
  refine n_q hF hS (q_load ty125 rfl (i := 0) rfl rfl rfl rfl) rfl (fun a hF => ?_)
  refine n_q hF hS (q_makeFunc rfl rfl) rfl (fun a hF => ?_)
  refine n_q hF hS (q_nilCheck rfl) rfl (fun a hF => ?_)
  refine n_q hF hS (q_indexAddrAj (j := 3) Tryd.underlying158 ty124 rfl rfl (by decide) (by decide)) rfl (fun a hF => ?_)
  refine n_q hF hS (q_fieldAddr fl124_0 (by decide) rfl) rfl (fun a hF => ?_)
  refine n_l rfl (fun K11 hK11 => l_store (vs := [_]) ty122 hF hS rfl rfl (i := 1) rfl rfl rfl rfl rfl (fun a w hF hS => hK11 _ _ ?_))
  refine hK10 _ _ ?_
  refine c_seq (fun K12 hK12 => ?_)
  refine c_reg ?_
  refine n_q hF hS (q_load ty125 rfl (i := 0) rfl rfl rfl rfl) rfl (fun a hF => ?_)
  refine n_q hF hS (q_assign rfl) rfl (fun a hF => ?_)
  refine hK12 _ _ ?_
  refine c_ret ?_
  repeat (first | refine ret_then ?_ | refine ret_blk ?_)
  refine c_ret' (P := Tryd.prog) (fn := Tryd.f64) rfl hF hS (.tmp rfl .nil) ⟨_, rfl, ?_⟩
  obtain ⟨H1, hH1, hle1, hS1⟩ := hS.freeze' (i := 1) rfl
  obtain ⟨H2, hH2, hle2, hS2⟩ := hS1.freeze' (i := 0) rfl
  refine ⟨_, _, H2, rfl, hle1.trans hle2, ?_, by rw [hH2]; exact frz_hr, hS2⟩
  refine HR.mono ?_ hle2
  rw [hH1]; exact frz_hr
end Go.Proofs.YtneokajhmonpaaaDoor

namespace Go.Proofs.YtneokajhmonpaaaDoor
open Go Go.RowKit Go.W
set_option maxRecDepth 10000
open Fx

theorem formedI_c (n : Int) (w : World) (H : Froz) (hz : Fz H w) : CallsR Tryd.prog 93 [.agg #[.int .i64 1, .int .i64 n, .string ⟨#[]⟩, .slice none 0 0]] w fun v w' => v = .tuple #[.int .i64 0, .bool true] ∧ St ⟨w, H, []⟩ H [] w' := by
  refine calls_start Tryd.func93 rfl Tryd.ntmps93 rfl (fun a hF => ?_)
  have hS := St.start w H hz
  refine c_seq (fun K1 hK1 => ?_)
  refine c_reg ?_
  refine n_l rfl (fun K2 hK2 => l_boxA hF hS rfl rfl (fun a w b1 hF hS => hK2 _ _ ?_))
  refine n_q hF hS (q_assign rfl) rfl (fun a hF => ?_)
  refine n_q hF hS (q_assign rfl) rfl (fun a hF => ?_)
  refine hK1 _ _ ?_
  refine c_seq (fun K3 hK3 => ?_)
  refine c_reg ?_
  refine n_q hF hS (q_fieldAddr fl67_2 (by decide) rfl) rfl (fun a hF => ?_)
  refine n_q hF hS (q_load ty9 rfl (i := 0) rfl rfl rfl rfl) rfl (fun a hF => ?_)
  refine n_q hF hS (q_eqStr rfl rfl) rfl (fun a hF => ?_)
  refine n_q hF hS (q_move rfl) rfl (fun a hF => ?_)
  refine rw_ hF (s := 12) (u := .bool true) rfl (by simp) (fun hF => ?_)
  refine n_yes hF rfl ?_
  refine n_q hF hS (q_fieldAddr fl67_3 (by decide) rfl) rfl (fun a hF => ?_)
  refine n_yes hF rfl ?_
  refine n_q hF hS (q_load ty65 rfl (i := 0) rfl rfl rfl rfl) rfl (fun a hF => ?_)
  refine n_yes hF rfl ?_
  refine n_q hF hS (q_len Tryd.underlying65 rfl rfl) rfl (fun a hF => ?_)
  refine n_yes hF rfl ?_
  refine n_q hF hS (q_eqI rfl rfl) rfl (fun a hF => ?_)
  refine n_q hF hS (q_pick (b := true) rfl rfl) rfl (fun a hF => ?_)
  refine n_q hF hS (q_fieldAddr fl67_1 (by decide) rfl) rfl (fun a hF => ?_)
  refine n_q hF hS (q_load ty3 rfl (i := 0) rfl rfl rfl rfl) rfl (fun a hF => ?_)
  refine n_q hF hS (q_eqI rfl rfl) rfl (fun a hF => ?_)
  refine n_q hF hS (q_move rfl) rfl (fun a hF => ?_)
  refine spd hF (s := 21) rfl (fun hc21 hF => ?_) (fun hc21 hF => ?_)
  refine n_yes hF rfl ?_
  refine n_q hF hS (q_fieldAddr fl67_3 (by decide) rfl) rfl (fun a hF => ?_)
  refine n_yes hF rfl ?_
  refine n_q hF hS (q_load ty65 rfl (i := 0) rfl rfl rfl rfl) rfl (fun a hF => ?_)
  refine n_yes hF rfl ?_
  refine n_q hF hS (q_len Tryd.underlying65 rfl rfl) rfl (fun a hF => ?_)
  refine n_yes hF rfl ?_
  refine n_q hF hS (q_eqI rfl rfl) rfl (fun a hF => ?_)
  refine n_q hF hS (q_pick (b := true) rfl rfl) rfl (fun a hF => ?_)
  refine n_q hF hS (q_fieldAddr fl67_1 (by decide) rfl) rfl (fun a hF => ?_)
  refine n_q hF hS (q_load ty3 rfl (i := 0) rfl rfl rfl rfl) rfl (fun a hF => ?_)
  refine n_q hF hS (q_eqI rfl rfl) rfl (fun a hF => ?_)
  refine n_q hF hS (q_move rfl) rfl (fun a hF => ?_)
  refine spd hF (s := 30) rfl (fun hc30 hF => ?_) (fun hc30 hF => ?_)
  refine n_yes hF rfl ?_
  refine n_q hF hS (q_fieldAddr fl67_2 (by decide) rfl) rfl (fun a hF => ?_)
  refine n_yes hF rfl ?_
  refine n_q hF hS (q_load ty9 rfl (i := 0) rfl rfl rfl rfl) rfl (fun a hF => ?_)
  refine n_yes hF rfl ?_
  refine n_q hF hS (q_eqStr rfl rfl) rfl (fun a hF => ?_)
  refine n_q hF hS (q_pick (b := true) rfl rfl) rfl (fun a hF => ?_)
  refine n_q hF hS (q_buildA (cs := [_, _, _, _]) Tryd.underlying186 ty4 zr186 rfl (by first | rfl | simp [bldA, spl, dc_length, List.length_replicate, List.length_cons, List.length_nil, List.length_append])) rfl (fun a hF => ?_)
  refine n_l rfl (fun K4 hK4 => l_alloc hF hS zr186 rfl (fun a w b2 hF hS => hK4 _ _ ?_))
  refine n_l rfl (fun K5 hK5 => l_store0A ty186 hF hS rfl rfl (i := 0) rfl rfl rfl rfl (fun a w hF hS => hK5 _ _ ?_))
  refine hK3 _ _ ?_
  refine c_seq (fun K6 hK6 => ?_)
  refine c_seq (fun K7 hK7 => ?_)
  refine c_reg ?_
  refine n_q hF hS (q_fieldAddr fl67_0 (by decide) rfl) rfl (fun a hF => ?_)
  refine n_q hF hS (q_load ty3 rfl (i := 1) rfl rfl rfl rfl) rfl (fun a hF => ?_)
  refine n_q hF hS (q_lss rfl rfl) rfl (fun a hF => ?_)
  refine n_q hF hS (q_move rfl) rfl (fun a hF => ?_)
  refine spF hF (s := 39) rfl (by decide) (fun hF => ?_)
  refine n_yes hF rfl ?_
  refine n_q hF hS (q_fieldAddr fl67_0 (by decide) rfl) rfl (fun a hF => ?_)
  refine n_yes hF rfl ?_
  refine n_q hF hS (q_load ty3 rfl (i := 1) rfl rfl rfl rfl) rfl (fun a hF => ?_)
  refine n_yes hF rfl ?_
  refine n_q hF hS (q_gtr rfl rfl) rfl (fun a hF => ?_)
  refine n_q hF hS (q_pick (b := false) rfl rfl) rfl (fun a hF => ?_)
  refine n_q hF hS (q_move rfl) rfl (fun a hF => ?_)
  refine spF hF (s := 44) rfl (by decide) (fun hF => ?_)
  refine n_yes hF rfl ?_
  refine n_q hF hS (q_fieldAddr fl67_0 (by decide) rfl) rfl (fun a hF => ?_)
  refine n_yes hF rfl ?_
  refine n_q hF hS (q_load ty3 rfl (i := 1) rfl rfl rfl rfl) rfl (fun a hF => ?_)
  refine n_yes hF rfl ?_
  refine n_q hF hS (q_indexAddrAj (j := 1) Tryd.underlying186 ty4 rfl rfl (by decide) (by decide)) rfl (fun a hF => ?_)
  refine n_yes hF rfl ?_
  refine n_q hF hS (q_load ty4 rfl (i := 0) rfl rfl rfl rfl) rfl (fun a hF => ?_)
  refine n_yes hF rfl ?_
  refine n_q hF hS (q_not rfl) rfl (fun a hF => ?_)
  refine n_q hF hS (q_pick (b := false) rfl rfl) rfl (fun a hF => ?_)
  refine hK7 _ _ ?_
  refine rw_ hF (s := 50) (u := .bool false) rfl (by simp) (fun hF => ?_)
  refine c_false hF rfl ?_
  refine wp_skip ?_
  refine hK6 _ _ ?_
  refine c_seq (fun K8 hK8 => ?_)
  refine c_seq (fun K9 hK9 => ?_)
  refine c_reg ?_
  refine n_q hF hS (q_fieldAddr fl67_0 (by decide) rfl) rfl (fun a hF => ?_)
  refine n_q hF hS (q_load ty3 rfl (i := 1) rfl rfl rfl rfl) rfl (fun a hF => ?_)
  refine n_q hF hS (q_lss rfl rfl) rfl (fun a hF => ?_)
  refine hK9 _ _ ?_
  refine spT hF (s := 53) rfl (by decide) (fun hF => ?_)
  refine c_true hF rfl ?_
  refine c_seq (fun K10 hK10 => ?_)
  refine c_reg ?_
  refine n_q hF hS (q_assign rfl) rfl (fun a hF => ?_)
  refine n_q hF hS (q_assign rfl) rfl (fun a hF => ?_)
  refine hK10 _ _ ?_
  refine c_ret ?_
  repeat (first | refine ret_then ?_ | refine ret_blk ?_)
  refine c_ret' (P := Tryd.prog) (fn := Tryd.f93) rfl hF hS (.tmp rfl (.tmp rfl .nil)) ⟨_, rfl, ?_⟩
  refine ⟨?_, hS.same⟩
  rfl
  refine n_no hF (b := false) rfl rfl rfl (fun a hF => ?_)
  refine n_no hF (b := false) rfl rfl rfl (fun a hF => ?_)
  refine n_no hF (b := false) rfl rfl rfl (fun a hF => ?_)
  refine n_q hF hS (q_pick (b := false) rfl rfl) rfl (fun a hF => ?_)
  refine n_q hF hS (q_buildA (cs := [_, _, _, _]) Tryd.underlying186 ty4 zr186 rfl (by first | rfl | simp [bldA, spl, dc_length, List.length_replicate, List.length_cons, List.length_nil, List.length_append])) rfl (fun a hF => ?_)
  refine n_l rfl (fun K11 hK11 => l_alloc hF hS zr186 rfl (fun a w b3 hF hS => hK11 _ _ ?_))
  refine n_l rfl (fun K12 hK12 => l_store0A ty186 hF hS rfl rfl (i := 0) rfl rfl rfl rfl (fun a w hF hS => hK12 _ _ ?_))
  refine hK3 _ _ ?_
  refine c_seq (fun K13 hK13 => ?_)
  refine c_seq (fun K14 hK14 => ?_)
  refine c_reg ?_
  refine n_q hF hS (q_fieldAddr fl67_0 (by decide) rfl) rfl (fun a hF => ?_)
  refine n_q hF hS (q_load ty3 rfl (i := 1) rfl rfl rfl rfl) rfl (fun a hF => ?_)
  refine n_q hF hS (q_lss rfl rfl) rfl (fun a hF => ?_)
  refine n_q hF hS (q_move rfl) rfl (fun a hF => ?_)
  refine spF hF (s := 39) rfl (by decide) (fun hF => ?_)
  refine n_yes hF rfl ?_
  refine n_q hF hS (q_fieldAddr fl67_0 (by decide) rfl) rfl (fun a hF => ?_)
  refine n_yes hF rfl ?_
  refine n_q hF hS (q_load ty3 rfl (i := 1) rfl rfl rfl rfl) rfl (fun a hF => ?_)
  refine n_yes hF rfl ?_
  refine n_q hF hS (q_gtr rfl rfl) rfl (fun a hF => ?_)
  refine n_q hF hS (q_pick (b := false) rfl rfl) rfl (fun a hF => ?_)
  refine n_q hF hS (q_move rfl) rfl (fun a hF => ?_)
  refine spF hF (s := 44) rfl (by decide) (fun hF => ?_)
  refine n_yes hF rfl ?_
  refine n_q hF hS (q_fieldAddr fl67_0 (by decide) rfl) rfl (fun a hF => ?_)
  refine n_yes hF rfl ?_
  refine n_q hF hS (q_load ty3 rfl (i := 1) rfl rfl rfl rfl) rfl (fun a hF => ?_)
  refine n_yes hF rfl ?_
  refine n_q hF hS (q_indexAddrAj (j := 1) Tryd.underlying186 ty4 rfl rfl (by decide) (by decide)) rfl (fun a hF => ?_)
  refine n_yes hF rfl ?_
  refine n_q hF hS (q_load ty4 rfl (i := 0) rfl rfl rfl rfl) rfl (fun a hF => ?_)
  refine n_yes hF rfl ?_
  refine n_q hF hS (q_not rfl) rfl (fun a hF => ?_)
  refine n_q hF hS (q_pick (b := false) rfl rfl) rfl (fun a hF => ?_)
  refine hK14 _ _ ?_
  refine rw_ hF (s := 50) (u := .bool false) rfl (by simp) (fun hF => ?_)
  refine c_false hF rfl ?_
  refine wp_skip ?_
  refine hK13 _ _ ?_
  refine c_seq (fun K15 hK15 => ?_)
  refine c_seq (fun K16 hK16 => ?_)
  refine c_reg ?_
  refine n_q hF hS (q_fieldAddr fl67_0 (by decide) rfl) rfl (fun a hF => ?_)
  refine n_q hF hS (q_load ty3 rfl (i := 1) rfl rfl rfl rfl) rfl (fun a hF => ?_)
  refine n_q hF hS (q_lss rfl rfl) rfl (fun a hF => ?_)
  refine hK16 _ _ ?_
  refine spT hF (s := 53) rfl (by decide) (fun hF => ?_)
  refine c_true hF rfl ?_
  refine c_seq (fun K17 hK17 => ?_)
  refine c_reg ?_
  refine n_q hF hS (q_assign rfl) rfl (fun a hF => ?_)
  refine n_q hF hS (q_assign rfl) rfl (fun a hF => ?_)
  refine hK17 _ _ ?_
  refine c_ret ?_
  repeat (first | refine ret_then ?_ | refine ret_blk ?_)
  refine c_ret' (P := Tryd.prog) (fn := Tryd.f93) rfl hF hS (.tmp rfl (.tmp rfl .nil)) ⟨_, rfl, ?_⟩
  refine ⟨?_, hS.same⟩
  rfl
  refine n_no hF (b := false) rfl rfl rfl (fun a hF => ?_)
  refine n_no hF (b := false) rfl rfl rfl (fun a hF => ?_)
  refine n_no hF (b := false) rfl rfl rfl (fun a hF => ?_)
  refine n_no hF (b := false) rfl rfl rfl (fun a hF => ?_)
  refine n_q hF hS (q_pick (b := false) rfl rfl) rfl (fun a hF => ?_)
  refine n_q hF hS (q_fieldAddr fl67_1 (by decide) rfl) rfl (fun a hF => ?_)
  refine n_q hF hS (q_load ty3 rfl (i := 0) rfl rfl rfl rfl) rfl (fun a hF => ?_)
  refine n_q hF hS (q_eqI rfl rfl) rfl (fun a hF => ?_)
  refine n_q hF hS (q_move rfl) rfl (fun a hF => ?_)
  refine spd hF (s := 30) rfl (fun hc30 hF => ?_) (fun hc30 hF => ?_)
  refine n_yes hF rfl ?_
  refine n_q hF hS (q_fieldAddr fl67_2 (by decide) rfl) rfl (fun a hF => ?_)
  refine n_yes hF rfl ?_
  refine n_q hF hS (q_load ty9 rfl (i := 0) rfl rfl rfl rfl) rfl (fun a hF => ?_)
  refine n_yes hF rfl ?_
  refine n_q hF hS (q_eqStr rfl rfl) rfl (fun a hF => ?_)
  refine n_q hF hS (q_pick (b := true) rfl rfl) rfl (fun a hF => ?_)
  refine n_q hF hS (q_buildA (cs := [_, _, _, _]) Tryd.underlying186 ty4 zr186 rfl (by first | rfl | simp [bldA, spl, dc_length, List.length_replicate, List.length_cons, List.length_nil, List.length_append])) rfl (fun a hF => ?_)
  refine n_l rfl (fun K18 hK18 => l_alloc hF hS zr186 rfl (fun a w b4 hF hS => hK18 _ _ ?_))
  refine n_l rfl (fun K19 hK19 => l_store0A ty186 hF hS rfl rfl (i := 0) rfl rfl rfl rfl (fun a w hF hS => hK19 _ _ ?_))
  refine hK3 _ _ ?_
  refine c_seq (fun K20 hK20 => ?_)
  refine c_seq (fun K21 hK21 => ?_)
  refine c_reg ?_
  refine n_q hF hS (q_fieldAddr fl67_0 (by decide) rfl) rfl (fun a hF => ?_)
  refine n_q hF hS (q_load ty3 rfl (i := 1) rfl rfl rfl rfl) rfl (fun a hF => ?_)
  refine n_q hF hS (q_lss rfl rfl) rfl (fun a hF => ?_)
  refine n_q hF hS (q_move rfl) rfl (fun a hF => ?_)
  refine spF hF (s := 39) rfl (by decide) (fun hF => ?_)
  refine n_yes hF rfl ?_
  refine n_q hF hS (q_fieldAddr fl67_0 (by decide) rfl) rfl (fun a hF => ?_)
  refine n_yes hF rfl ?_
  refine n_q hF hS (q_load ty3 rfl (i := 1) rfl rfl rfl rfl) rfl (fun a hF => ?_)
  refine n_yes hF rfl ?_
  refine n_q hF hS (q_gtr rfl rfl) rfl (fun a hF => ?_)
  refine n_q hF hS (q_pick (b := false) rfl rfl) rfl (fun a hF => ?_)
  refine n_q hF hS (q_move rfl) rfl (fun a hF => ?_)
  refine spF hF (s := 44) rfl (by decide) (fun hF => ?_)
  refine n_yes hF rfl ?_
  refine n_q hF hS (q_fieldAddr fl67_0 (by decide) rfl) rfl (fun a hF => ?_)
  refine n_yes hF rfl ?_
  refine n_q hF hS (q_load ty3 rfl (i := 1) rfl rfl rfl rfl) rfl (fun a hF => ?_)
  refine n_yes hF rfl ?_
  refine n_q hF hS (q_indexAddrAj (j := 1) Tryd.underlying186 ty4 rfl rfl (by decide) (by decide)) rfl (fun a hF => ?_)
  refine n_yes hF rfl ?_
  refine n_q hF hS (q_load ty4 rfl (i := 0) rfl rfl rfl rfl) rfl (fun a hF => ?_)
  refine n_yes hF rfl ?_
  refine n_q hF hS (q_not rfl) rfl (fun a hF => ?_)
  refine n_q hF hS (q_pick (b := false) rfl rfl) rfl (fun a hF => ?_)
  refine hK21 _ _ ?_
  refine rw_ hF (s := 50) (u := .bool false) rfl (by simp) (fun hF => ?_)
  refine c_false hF rfl ?_
  refine wp_skip ?_
  refine hK20 _ _ ?_
  refine c_seq (fun K22 hK22 => ?_)
  refine c_seq (fun K23 hK23 => ?_)
  refine c_reg ?_
  refine n_q hF hS (q_fieldAddr fl67_0 (by decide) rfl) rfl (fun a hF => ?_)
  refine n_q hF hS (q_load ty3 rfl (i := 1) rfl rfl rfl rfl) rfl (fun a hF => ?_)
  refine n_q hF hS (q_lss rfl rfl) rfl (fun a hF => ?_)
  refine hK23 _ _ ?_
  refine spT hF (s := 53) rfl (by decide) (fun hF => ?_)
  refine c_true hF rfl ?_
  refine c_seq (fun K24 hK24 => ?_)
  refine c_reg ?_
  refine n_q hF hS (q_assign rfl) rfl (fun a hF => ?_)
  refine n_q hF hS (q_assign rfl) rfl (fun a hF => ?_)
  refine hK24 _ _ ?_
  refine c_ret ?_
  repeat (first | refine ret_then ?_ | refine ret_blk ?_)
  refine c_ret' (P := Tryd.prog) (fn := Tryd.f93) rfl hF hS (.tmp rfl (.tmp rfl .nil)) ⟨_, rfl, ?_⟩
  refine ⟨?_, hS.same⟩
  rfl
  refine n_no hF (b := false) rfl rfl rfl (fun a hF => ?_)
  refine n_no hF (b := false) rfl rfl rfl (fun a hF => ?_)
  refine n_no hF (b := false) rfl rfl rfl (fun a hF => ?_)
  refine n_q hF hS (q_pick (b := false) rfl rfl) rfl (fun a hF => ?_)
  refine n_q hF hS (q_buildA (cs := [_, _, _, _]) Tryd.underlying186 ty4 zr186 rfl (by first | rfl | simp [bldA, spl, dc_length, List.length_replicate, List.length_cons, List.length_nil, List.length_append])) rfl (fun a hF => ?_)
  refine n_l rfl (fun K25 hK25 => l_alloc hF hS zr186 rfl (fun a w b5 hF hS => hK25 _ _ ?_))
  refine n_l rfl (fun K26 hK26 => l_store0A ty186 hF hS rfl rfl (i := 0) rfl rfl rfl rfl (fun a w hF hS => hK26 _ _ ?_))
  refine hK3 _ _ ?_
  refine c_seq (fun K27 hK27 => ?_)
  refine c_seq (fun K28 hK28 => ?_)
  refine c_reg ?_
  refine n_q hF hS (q_fieldAddr fl67_0 (by decide) rfl) rfl (fun a hF => ?_)
  refine n_q hF hS (q_load ty3 rfl (i := 1) rfl rfl rfl rfl) rfl (fun a hF => ?_)
  refine n_q hF hS (q_lss rfl rfl) rfl (fun a hF => ?_)
  refine n_q hF hS (q_move rfl) rfl (fun a hF => ?_)
  refine spF hF (s := 39) rfl (by decide) (fun hF => ?_)
  refine n_yes hF rfl ?_
  refine n_q hF hS (q_fieldAddr fl67_0 (by decide) rfl) rfl (fun a hF => ?_)
  refine n_yes hF rfl ?_
  refine n_q hF hS (q_load ty3 rfl (i := 1) rfl rfl rfl rfl) rfl (fun a hF => ?_)
  refine n_yes hF rfl ?_
  refine n_q hF hS (q_gtr rfl rfl) rfl (fun a hF => ?_)
  refine n_q hF hS (q_pick (b := false) rfl rfl) rfl (fun a hF => ?_)
  refine n_q hF hS (q_move rfl) rfl (fun a hF => ?_)
  refine spF hF (s := 44) rfl (by decide) (fun hF => ?_)
  refine n_yes hF rfl ?_
  refine n_q hF hS (q_fieldAddr fl67_0 (by decide) rfl) rfl (fun a hF => ?_)
  refine n_yes hF rfl ?_
  refine n_q hF hS (q_load ty3 rfl (i := 1) rfl rfl rfl rfl) rfl (fun a hF => ?_)
  refine n_yes hF rfl ?_
  refine n_q hF hS (q_indexAddrAj (j := 1) Tryd.underlying186 ty4 rfl rfl (by decide) (by decide)) rfl (fun a hF => ?_)
  refine n_yes hF rfl ?_
  refine n_q hF hS (q_load ty4 rfl (i := 0) rfl rfl rfl rfl) rfl (fun a hF => ?_)
  refine n_yes hF rfl ?_
  refine n_q hF hS (q_not rfl) rfl (fun a hF => ?_)
  refine n_q hF hS (q_pick (b := false) rfl rfl) rfl (fun a hF => ?_)
  refine hK28 _ _ ?_
  refine rw_ hF (s := 50) (u := .bool false) rfl (by simp) (fun hF => ?_)
  refine c_false hF rfl ?_
  refine wp_skip ?_
  refine hK27 _ _ ?_
  refine c_seq (fun K29 hK29 => ?_)
  refine c_seq (fun K30 hK30 => ?_)
  refine c_reg ?_
  refine n_q hF hS (q_fieldAddr fl67_0 (by decide) rfl) rfl (fun a hF => ?_)
  refine n_q hF hS (q_load ty3 rfl (i := 1) rfl rfl rfl rfl) rfl (fun a hF => ?_)
  refine n_q hF hS (q_lss rfl rfl) rfl (fun a hF => ?_)
  refine hK30 _ _ ?_
  refine spT hF (s := 53) rfl (by decide) (fun hF => ?_)
  refine c_true hF rfl ?_
  refine c_seq (fun K31 hK31 => ?_)
  refine c_reg ?_
  refine n_q hF hS (q_assign rfl) rfl (fun a hF => ?_)
  refine n_q hF hS (q_assign rfl) rfl (fun a hF => ?_)
  refine hK31 _ _ ?_
  refine c_ret ?_
  repeat (first | refine ret_then ?_ | refine ret_blk ?_)
  refine c_ret' (P := Tryd.prog) (fn := Tryd.f93) rfl hF hS (.tmp rfl (.tmp rfl .nil)) ⟨_, rfl, ?_⟩
  refine ⟨?_, hS.same⟩
  rfl

theorem formedT_c (s : ByteArray) (w : World) (H : Froz) (hz : Fz H w) : CallsR Tryd.prog 93 [.agg #[.int .i64 2, .int .i64 0, .string s, .slice none 0 0]] w fun v w' => v = .tuple #[.int .i64 0, .bool true] ∧ St ⟨w, H, []⟩ H [] w' := by
  refine calls_start Tryd.func93 rfl Tryd.ntmps93 rfl (fun a hF => ?_)
  have hS := St.start w H hz
  refine c_seq (fun K1 hK1 => ?_)
  refine c_reg ?_
  refine n_l rfl (fun K2 hK2 => l_boxA hF hS rfl rfl (fun a w b1 hF hS => hK2 _ _ ?_))
  refine n_q hF hS (q_assign rfl) rfl (fun a hF => ?_)
  refine n_q hF hS (q_assign rfl) rfl (fun a hF => ?_)
  refine hK1 _ _ ?_
  refine c_seq (fun K3 hK3 => ?_)
  refine c_reg ?_
  refine n_q hF hS (q_fieldAddr fl67_2 (by decide) rfl) rfl (fun a hF => ?_)
  refine n_q hF hS (q_load ty9 rfl (i := 0) rfl rfl rfl rfl) rfl (fun a hF => ?_)
  refine n_q hF hS (q_eqStr rfl rfl) rfl (fun a hF => ?_)
  refine n_q hF hS (q_move rfl) rfl (fun a hF => ?_)
  refine sp hF (s := 12) rfl (fun hc12 hF => ?_) (fun hc12 hF => ?_)
  refine n_yes hF rfl ?_
  refine n_q hF hS (q_fieldAddr fl67_3 (by decide) rfl) rfl (fun a hF => ?_)
  refine n_yes hF rfl ?_
  refine n_q hF hS (q_load ty65 rfl (i := 0) rfl rfl rfl rfl) rfl (fun a hF => ?_)
  refine n_yes hF rfl ?_
  refine n_q hF hS (q_len Tryd.underlying65 rfl rfl) rfl (fun a hF => ?_)
  refine n_yes hF rfl ?_
  refine n_q hF hS (q_eqI rfl rfl) rfl (fun a hF => ?_)
  refine n_q hF hS (q_pick (b := true) rfl rfl) rfl (fun a hF => ?_)
  refine n_q hF hS (q_fieldAddr fl67_1 (by decide) rfl) rfl (fun a hF => ?_)
  refine n_q hF hS (q_load ty3 rfl (i := 0) rfl rfl rfl rfl) rfl (fun a hF => ?_)
  refine n_q hF hS (q_eqI rfl rfl) rfl (fun a hF => ?_)
  refine n_q hF hS (q_move rfl) rfl (fun a hF => ?_)
  refine spT hF (s := 21) rfl (by decide) (fun hF => ?_)
  refine n_yes hF rfl ?_
  refine n_q hF hS (q_fieldAddr fl67_3 (by decide) rfl) rfl (fun a hF => ?_)
  refine n_yes hF rfl ?_
  refine n_q hF hS (q_load ty65 rfl (i := 0) rfl rfl rfl rfl) rfl (fun a hF => ?_)
  refine n_yes hF rfl ?_
  refine n_q hF hS (q_len Tryd.underlying65 rfl rfl) rfl (fun a hF => ?_)
  refine n_yes hF rfl ?_
  refine n_q hF hS (q_eqI rfl rfl) rfl (fun a hF => ?_)
  refine n_q hF hS (q_pick (b := true) rfl rfl) rfl (fun a hF => ?_)
  refine n_q hF hS (q_fieldAddr fl67_1 (by decide) rfl) rfl (fun a hF => ?_)
  refine n_q hF hS (q_load ty3 rfl (i := 0) rfl rfl rfl rfl) rfl (fun a hF => ?_)
  refine n_q hF hS (q_eqI rfl rfl) rfl (fun a hF => ?_)
  refine n_q hF hS (q_move rfl) rfl (fun a hF => ?_)
  refine spT hF (s := 30) rfl (by decide) (fun hF => ?_)
  refine n_yes hF rfl ?_
  refine n_q hF hS (q_fieldAddr fl67_2 (by decide) rfl) rfl (fun a hF => ?_)
  refine n_yes hF rfl ?_
  refine n_q hF hS (q_load ty9 rfl (i := 0) rfl rfl rfl rfl) rfl (fun a hF => ?_)
  refine n_yes hF rfl ?_
  refine n_q hF hS (q_eqStr rfl rfl) rfl (fun a hF => ?_)
  refine n_q hF hS (q_pick (b := true) rfl rfl) rfl (fun a hF => ?_)
  refine n_q hF hS (q_buildA (cs := [_, _, _, _]) Tryd.underlying186 ty4 zr186 rfl (by first | rfl | simp [bldA, spl, dc_length, List.length_replicate, List.length_cons, List.length_nil, List.length_append])) rfl (fun a hF => ?_)
  refine n_l rfl (fun K4 hK4 => l_alloc hF hS zr186 rfl (fun a w b2 hF hS => hK4 _ _ ?_))
  refine n_l rfl (fun K5 hK5 => l_store0A ty186 hF hS rfl rfl (i := 0) rfl rfl rfl rfl (fun a w hF hS => hK5 _ _ ?_))
  refine hK3 _ _ ?_
  refine c_seq (fun K6 hK6 => ?_)
  refine c_seq (fun K7 hK7 => ?_)
  refine c_reg ?_
  refine n_q hF hS (q_fieldAddr fl67_0 (by decide) rfl) rfl (fun a hF => ?_)
  refine n_q hF hS (q_load ty3 rfl (i := 1) rfl rfl rfl rfl) rfl (fun a hF => ?_)
  refine n_q hF hS (q_lss rfl rfl) rfl (fun a hF => ?_)
  refine n_q hF hS (q_move rfl) rfl (fun a hF => ?_)
  refine spF hF (s := 39) rfl (by decide) (fun hF => ?_)
  refine n_yes hF rfl ?_
  refine n_q hF hS (q_fieldAddr fl67_0 (by decide) rfl) rfl (fun a hF => ?_)
  refine n_yes hF rfl ?_
  refine n_q hF hS (q_load ty3 rfl (i := 1) rfl rfl rfl rfl) rfl (fun a hF => ?_)
  refine n_yes hF rfl ?_
  refine n_q hF hS (q_gtr rfl rfl) rfl (fun a hF => ?_)
  refine n_q hF hS (q_pick (b := false) rfl rfl) rfl (fun a hF => ?_)
  refine n_q hF hS (q_move rfl) rfl (fun a hF => ?_)
  refine spF hF (s := 44) rfl (by decide) (fun hF => ?_)
  refine n_yes hF rfl ?_
  refine n_q hF hS (q_fieldAddr fl67_0 (by decide) rfl) rfl (fun a hF => ?_)
  refine n_yes hF rfl ?_
  refine n_q hF hS (q_load ty3 rfl (i := 1) rfl rfl rfl rfl) rfl (fun a hF => ?_)
  refine n_yes hF rfl ?_
  refine n_q hF hS (q_indexAddrAj (j := 2) Tryd.underlying186 ty4 rfl rfl (by decide) (by decide)) rfl (fun a hF => ?_)
  refine n_yes hF rfl ?_
  refine n_q hF hS (q_load ty4 rfl (i := 0) rfl rfl rfl rfl) rfl (fun a hF => ?_)
  refine n_yes hF rfl ?_
  refine n_q hF hS (q_not rfl) rfl (fun a hF => ?_)
  refine n_q hF hS (q_pick (b := false) rfl rfl) rfl (fun a hF => ?_)
  refine hK7 _ _ ?_
  refine rw_ hF (s := 50) (u := .bool false) rfl (by simp) (fun hF => ?_)
  refine c_false hF rfl ?_
  refine wp_skip ?_
  refine hK6 _ _ ?_
  refine c_seq (fun K8 hK8 => ?_)
  refine c_seq (fun K9 hK9 => ?_)
  refine c_reg ?_
  refine n_q hF hS (q_fieldAddr fl67_0 (by decide) rfl) rfl (fun a hF => ?_)
  refine n_q hF hS (q_load ty3 rfl (i := 1) rfl rfl rfl rfl) rfl (fun a hF => ?_)
  refine n_q hF hS (q_lss rfl rfl) rfl (fun a hF => ?_)
  refine hK9 _ _ ?_
  refine spT hF (s := 53) rfl (by decide) (fun hF => ?_)
  refine c_true hF rfl ?_
  refine c_seq (fun K10 hK10 => ?_)
  refine c_reg ?_
  refine n_q hF hS (q_assign rfl) rfl (fun a hF => ?_)
  refine n_q hF hS (q_assign rfl) rfl (fun a hF => ?_)
  refine hK10 _ _ ?_
  refine c_ret ?_
  repeat (first | refine ret_then ?_ | refine ret_blk ?_)
  refine c_ret' (P := Tryd.prog) (fn := Tryd.f93) rfl hF hS (.tmp rfl (.tmp rfl .nil)) ⟨_, rfl, ?_⟩
  refine ⟨?_, hS.same⟩
  rfl
  refine n_no hF (b := false) rfl rfl rfl (fun a hF => ?_)
  refine n_no hF (b := false) rfl rfl rfl (fun a hF => ?_)
  refine n_no hF (b := false) rfl rfl rfl (fun a hF => ?_)
  refine n_no hF (b := false) rfl rfl rfl (fun a hF => ?_)
  refine n_q hF hS (q_pick (b := false) rfl rfl) rfl (fun a hF => ?_)
  refine n_q hF hS (q_fieldAddr fl67_1 (by decide) rfl) rfl (fun a hF => ?_)
  refine n_q hF hS (q_load ty3 rfl (i := 0) rfl rfl rfl rfl) rfl (fun a hF => ?_)
  refine n_q hF hS (q_eqI rfl rfl) rfl (fun a hF => ?_)
  refine n_q hF hS (q_move rfl) rfl (fun a hF => ?_)
  refine spT hF (s := 21) rfl (by decide) (fun hF => ?_)
  refine n_yes hF rfl ?_
  refine n_q hF hS (q_fieldAddr fl67_3 (by decide) rfl) rfl (fun a hF => ?_)
  refine n_yes hF rfl ?_
  refine n_q hF hS (q_load ty65 rfl (i := 0) rfl rfl rfl rfl) rfl (fun a hF => ?_)
  refine n_yes hF rfl ?_
  refine n_q hF hS (q_len Tryd.underlying65 rfl rfl) rfl (fun a hF => ?_)
  refine n_yes hF rfl ?_
  refine n_q hF hS (q_eqI rfl rfl) rfl (fun a hF => ?_)
  refine n_q hF hS (q_pick (b := true) rfl rfl) rfl (fun a hF => ?_)
  refine n_q hF hS (q_fieldAddr fl67_1 (by decide) rfl) rfl (fun a hF => ?_)
  refine n_q hF hS (q_load ty3 rfl (i := 0) rfl rfl rfl rfl) rfl (fun a hF => ?_)
  refine n_q hF hS (q_eqI rfl rfl) rfl (fun a hF => ?_)
  refine n_q hF hS (q_move rfl) rfl (fun a hF => ?_)
  refine spT hF (s := 30) rfl (by decide) (fun hF => ?_)
  refine n_yes hF rfl ?_
  refine n_q hF hS (q_fieldAddr fl67_2 (by decide) rfl) rfl (fun a hF => ?_)
  refine n_yes hF rfl ?_
  refine n_q hF hS (q_load ty9 rfl (i := 0) rfl rfl rfl rfl) rfl (fun a hF => ?_)
  refine n_yes hF rfl ?_
  refine n_q hF hS (q_eqStr rfl rfl) rfl (fun a hF => ?_)
  refine n_q hF hS (q_pick (b := true) rfl rfl) rfl (fun a hF => ?_)
  refine n_q hF hS (q_buildA (cs := [_, _, _, _]) Tryd.underlying186 ty4 zr186 rfl (by first | rfl | simp [bldA, spl, dc_length, List.length_replicate, List.length_cons, List.length_nil, List.length_append])) rfl (fun a hF => ?_)
  refine n_l rfl (fun K11 hK11 => l_alloc hF hS zr186 rfl (fun a w b3 hF hS => hK11 _ _ ?_))
  refine n_l rfl (fun K12 hK12 => l_store0A ty186 hF hS rfl rfl (i := 0) rfl rfl rfl rfl (fun a w hF hS => hK12 _ _ ?_))
  refine hK3 _ _ ?_
  refine c_seq (fun K13 hK13 => ?_)
  refine c_seq (fun K14 hK14 => ?_)
  refine c_reg ?_
  refine n_q hF hS (q_fieldAddr fl67_0 (by decide) rfl) rfl (fun a hF => ?_)
  refine n_q hF hS (q_load ty3 rfl (i := 1) rfl rfl rfl rfl) rfl (fun a hF => ?_)
  refine n_q hF hS (q_lss rfl rfl) rfl (fun a hF => ?_)
  refine n_q hF hS (q_move rfl) rfl (fun a hF => ?_)
  refine spF hF (s := 39) rfl (by decide) (fun hF => ?_)
  refine n_yes hF rfl ?_
  refine n_q hF hS (q_fieldAddr fl67_0 (by decide) rfl) rfl (fun a hF => ?_)
  refine n_yes hF rfl ?_
  refine n_q hF hS (q_load ty3 rfl (i := 1) rfl rfl rfl rfl) rfl (fun a hF => ?_)
  refine n_yes hF rfl ?_
  refine n_q hF hS (q_gtr rfl rfl) rfl (fun a hF => ?_)
  refine n_q hF hS (q_pick (b := false) rfl rfl) rfl (fun a hF => ?_)
  refine n_q hF hS (q_move rfl) rfl (fun a hF => ?_)
  refine spF hF (s := 44) rfl (by decide) (fun hF => ?_)
  refine n_yes hF rfl ?_
  refine n_q hF hS (q_fieldAddr fl67_0 (by decide) rfl) rfl (fun a hF => ?_)
  refine n_yes hF rfl ?_
  refine n_q hF hS (q_load ty3 rfl (i := 1) rfl rfl rfl rfl) rfl (fun a hF => ?_)
  refine n_yes hF rfl ?_
  refine n_q hF hS (q_indexAddrAj (j := 2) Tryd.underlying186 ty4 rfl rfl (by decide) (by decide)) rfl (fun a hF => ?_)
  refine n_yes hF rfl ?_
  refine n_q hF hS (q_load ty4 rfl (i := 0) rfl rfl rfl rfl) rfl (fun a hF => ?_)
  refine n_yes hF rfl ?_
  refine n_q hF hS (q_not rfl) rfl (fun a hF => ?_)
  refine n_q hF hS (q_pick (b := false) rfl rfl) rfl (fun a hF => ?_)
  refine hK14 _ _ ?_
  refine rw_ hF (s := 50) (u := .bool false) rfl (by simp) (fun hF => ?_)
  refine c_false hF rfl ?_
  refine wp_skip ?_
  refine hK13 _ _ ?_
  refine c_seq (fun K15 hK15 => ?_)
  refine c_seq (fun K16 hK16 => ?_)
  refine c_reg ?_
  refine n_q hF hS (q_fieldAddr fl67_0 (by decide) rfl) rfl (fun a hF => ?_)
  refine n_q hF hS (q_load ty3 rfl (i := 1) rfl rfl rfl rfl) rfl (fun a hF => ?_)
  refine n_q hF hS (q_lss rfl rfl) rfl (fun a hF => ?_)
  refine hK16 _ _ ?_
  refine spT hF (s := 53) rfl (by decide) (fun hF => ?_)
  refine c_true hF rfl ?_
  refine c_seq (fun K17 hK17 => ?_)
  refine c_reg ?_
  refine n_q hF hS (q_assign rfl) rfl (fun a hF => ?_)
  refine n_q hF hS (q_assign rfl) rfl (fun a hF => ?_)
  refine hK17 _ _ ?_
  refine c_ret ?_
  repeat (first | refine ret_then ?_ | refine ret_blk ?_)
  refine c_ret' (P := Tryd.prog) (fn := Tryd.f93) rfl hF hS (.tmp rfl (.tmp rfl .nil)) ⟨_, rfl, ?_⟩
  refine ⟨?_, hS.same⟩
  rfl

theorem formedLf_c (lf : Lf) (w : World) (H : Froz) (hz : Fz H w) : CallsR Tryd.prog 93 [.agg lf.c.toArray] w fun v w' => v = .tuple #[.int .i64 0, .bool true] ∧ St ⟨w, H, []⟩ H [] w' := by
  cases lf with
  | i n => exact formedI_c n w H hz
  | t s => exact formedT_c s w H hz



theorem formedL_c (ls : List Lf) (al : Option Addr) (cl : Nat) (h0 : 0 < ls.length) (hln : ls.length ≤ 8) (w : World) (H : Froz) (hz : Fz H w) (hr : RdL H al 4 (lfE ls)) : CallsR Tryd.prog 93 [.agg #[.int .i64 3, .int .i64 0, .string ⟨#[]⟩, .slice al ls.length cl]] w fun v w' => v = .tuple #[.int .i64 1, .bool true] ∧ St ⟨w, H, []⟩ H [] w' := by
  refine calls_start Tryd.func93 rfl Tryd.ntmps93 rfl (fun a hF => ?_)
  have hS := St.start w H hz
  refine c_seq (fun K1 hK1 => ?_)
  refine c_reg ?_
  refine n_l rfl (fun K2 hK2 => l_boxA hF hS rfl rfl (fun a w b1 hF hS => hK2 _ _ ?_))
  refine n_q hF hS (q_assign rfl) rfl (fun a hF => ?_)
  refine n_q hF hS (q_assign rfl) rfl (fun a hF => ?_)
  refine hK1 _ _ ?_
  refine c_seq (fun K3 hK3 => ?_)
  refine c_reg ?_
  refine n_q hF hS (q_fieldAddr fl67_2 (by decide) rfl) rfl (fun a hF => ?_)
  refine n_q hF hS (q_load ty9 rfl (i := 0) rfl rfl rfl rfl) rfl (fun a hF => ?_)
  refine n_q hF hS (q_eqStr rfl rfl) rfl (fun a hF => ?_)
  refine n_q hF hS (q_move rfl) rfl (fun a hF => ?_)
  refine rw_ hF (s := 12) (u := .bool true) rfl (by simp) (fun hF => ?_)
  refine n_yes hF rfl ?_
  refine n_q hF hS (q_fieldAddr fl67_3 (by decide) rfl) rfl (fun a hF => ?_)
  refine n_yes hF rfl ?_
  refine n_q hF hS (q_load ty65 rfl (i := 0) rfl rfl rfl rfl) rfl (fun a hF => ?_)
  refine n_yes hF rfl ?_
  refine n_q hF hS (q_len Tryd.underlying65 rfl rfl) rfl (fun a hF => ?_)
  refine n_yes hF rfl ?_
  refine n_q hF hS (q_eqI rfl rfl) rfl (fun a hF => ?_)
  refine n_q hF hS (q_pick (b := true) rfl rfl) rfl (fun a hF => ?_)
  refine n_q hF hS (q_fieldAddr fl67_1 (by decide) rfl) rfl (fun a hF => ?_)
  refine n_q hF hS (q_load ty3 rfl (i := 0) rfl rfl rfl rfl) rfl (fun a hF => ?_)
  refine n_q hF hS (q_eqI rfl rfl) rfl (fun a hF => ?_)
  refine n_q hF hS (q_move rfl) rfl (fun a hF => ?_)
  refine spT hF (s := 21) rfl (by decide) (fun hF => ?_)
  refine n_yes hF rfl ?_
  refine n_q hF hS (q_fieldAddr fl67_3 (by decide) rfl) rfl (fun a hF => ?_)
  refine n_yes hF rfl ?_
  refine n_q hF hS (q_load ty65 rfl (i := 0) rfl rfl rfl rfl) rfl (fun a hF => ?_)
  refine n_yes hF rfl ?_
  refine n_q hF hS (q_len Tryd.underlying65 rfl rfl) rfl (fun a hF => ?_)
  refine n_yes hF rfl ?_
  refine n_q hF hS (q_eqI rfl rfl) rfl (fun a hF => ?_)
  refine n_q hF hS (q_pick (b := true) rfl rfl) rfl (fun a hF => ?_)
  refine n_q hF hS (q_fieldAddr fl67_1 (by decide) rfl) rfl (fun a hF => ?_)
  refine n_q hF hS (q_load ty3 rfl (i := 0) rfl rfl rfl rfl) rfl (fun a hF => ?_)
  refine n_q hF hS (q_eqI rfl rfl) rfl (fun a hF => ?_)
  refine n_q hF hS (q_move rfl) rfl (fun a hF => ?_)
  refine spT hF (s := 30) rfl (by decide) (fun hF => ?_)
  refine n_yes hF rfl ?_
  refine n_q hF hS (q_fieldAddr fl67_2 (by decide) rfl) rfl (fun a hF => ?_)
  refine n_yes hF rfl ?_
  refine n_q hF hS (q_load ty9 rfl (i := 0) rfl rfl rfl rfl) rfl (fun a hF => ?_)
  refine n_yes hF rfl ?_
  refine n_q hF hS (q_eqStr rfl rfl) rfl (fun a hF => ?_)
  refine n_q hF hS (q_pick (b := true) rfl rfl) rfl (fun a hF => ?_)
  refine n_q hF hS (q_buildA (cs := [_, _, _, _]) Tryd.underlying186 ty4 zr186 rfl (by first | rfl | simp [bldA, spl, dc_length, List.length_replicate, List.length_cons, List.length_nil, List.length_append])) rfl (fun a hF => ?_)
  refine n_l rfl (fun K4 hK4 => l_alloc hF hS zr186 rfl (fun a w b2 hF hS => hK4 _ _ ?_))
  refine n_l rfl (fun K5 hK5 => l_store0A ty186 hF hS rfl rfl (i := 0) rfl rfl rfl rfl (fun a w hF hS => hK5 _ _ ?_))
  refine hK3 _ _ ?_
  refine c_seq (fun K6 hK6 => ?_)
  refine c_seq (fun K7 hK7 => ?_)
  refine c_reg ?_
  refine n_q hF hS (q_fieldAddr fl67_0 (by decide) rfl) rfl (fun a hF => ?_)
  refine n_q hF hS (q_load ty3 rfl (i := 1) rfl rfl rfl rfl) rfl (fun a hF => ?_)
  refine n_q hF hS (q_lss rfl rfl) rfl (fun a hF => ?_)
  refine n_q hF hS (q_move rfl) rfl (fun a hF => ?_)
  refine spF hF (s := 39) rfl (by decide) (fun hF => ?_)
  refine n_yes hF rfl ?_
  refine n_q hF hS (q_fieldAddr fl67_0 (by decide) rfl) rfl (fun a hF => ?_)
  refine n_yes hF rfl ?_
  refine n_q hF hS (q_load ty3 rfl (i := 1) rfl rfl rfl rfl) rfl (fun a hF => ?_)
  refine n_yes hF rfl ?_
  refine n_q hF hS (q_gtr rfl rfl) rfl (fun a hF => ?_)
  refine n_q hF hS (q_pick (b := false) rfl rfl) rfl (fun a hF => ?_)
  refine n_q hF hS (q_move rfl) rfl (fun a hF => ?_)
  refine spF hF (s := 44) rfl (by decide) (fun hF => ?_)
  refine n_yes hF rfl ?_
  refine n_q hF hS (q_fieldAddr fl67_0 (by decide) rfl) rfl (fun a hF => ?_)
  refine n_yes hF rfl ?_
  refine n_q hF hS (q_load ty3 rfl (i := 1) rfl rfl rfl rfl) rfl (fun a hF => ?_)
  refine n_yes hF rfl ?_
  refine n_q hF hS (q_indexAddrAj (j := 3) Tryd.underlying186 ty4 rfl rfl (by decide) (by decide)) rfl (fun a hF => ?_)
  refine n_yes hF rfl ?_
  refine n_q hF hS (q_load ty4 rfl (i := 0) rfl rfl rfl rfl) rfl (fun a hF => ?_)
  refine n_yes hF rfl ?_
  refine n_q hF hS (q_not rfl) rfl (fun a hF => ?_)
  refine n_q hF hS (q_pick (b := false) rfl rfl) rfl (fun a hF => ?_)
  refine hK7 _ _ ?_
  refine rw_ hF (s := 50) (u := .bool false) rfl (by simp) (fun hF => ?_)
  refine c_false hF rfl ?_
  refine wp_skip ?_
  refine hK6 _ _ ?_
  refine c_seq (fun K8 hK8 => ?_)
  refine c_seq (fun K9 hK9 => ?_)
  refine c_reg ?_
  refine n_q hF hS (q_fieldAddr fl67_0 (by decide) rfl) rfl (fun a hF => ?_)
  refine n_q hF hS (q_load ty3 rfl (i := 1) rfl rfl rfl rfl) rfl (fun a hF => ?_)
  refine n_q hF hS (q_lss rfl rfl) rfl (fun a hF => ?_)
  refine hK9 _ _ ?_
  refine spF hF (s := 53) rfl (by decide) (fun hF => ?_)
  refine c_false hF rfl ?_
  refine wp_skip ?_
  refine hK8 _ _ ?_
  refine c_seq (fun K10 hK10 => ?_)
  refine c_seq (fun K11 hK11 => ?_)
  refine c_reg ?_
  refine n_q hF hS (q_fieldAddr fl67_3 (by decide) rfl) rfl (fun a hF => ?_)
  refine n_q hF hS (q_load ty65 rfl (i := 1) rfl rfl rfl rfl) rfl (fun a hF => ?_)
  refine n_q hF hS (q_len Tryd.underlying65 rfl rfl) rfl (fun a hF => ?_)
  refine n_q hF hS (q_move rfl) rfl (fun a hF => ?_)
  refine hK11 _ _ ?_
  refine c_block ?_
  obtain ⟨FA, hFA⟩ : ∃ FA, St _ _ [⟨b2, FA, 186⟩, ⟨b1, [.int .i64 3, .int .i64 0, .string ⟨#[]⟩, .slice al ls.length cl], 67⟩] _ := ⟨_, hS⟩
  clear hS
  have hS := hFA
  clear hFA
  refine c_loopL hF [2, 3, 6, 7, 8, 57, 58, 59, 60, 61, 62, 63, 64, 65, 66, 67, 68, 69, 70, 71]
    (fun j : Nat => [(2, .int .i64 0), (57, .int .i64 (j : Int))])
    (fun _ => [⟨b2, FA, 186⟩, ⟨b1, [.int .i64 3, .int .i64 0, .string ⟨#[]⟩, .slice al ls.length cl], 67⟩])
    (fun j _ => j ≤ ls.length)
    (fun j => ls.length - j) (0) ⟨rfl, rfl, trivial⟩ (hS) (Nat.zero_le _) ?_
  clear hF hS
  intro j a w H hle hF hS hJ
  replace hr := hr.mono hle
  have hl0 := Le.refl H
  try dsimp only at hF hJ hS
  refine c_seq (fun K12 hK12 => ?_)
  refine c_reg ?_
  refine n_q hF hS (q_lss rfl rfl) rfl (fun a hF => ?_)
  refine hK12 _ _ ?_
  refine c_seq (fun K13 hK13 => ?_)
  refine spd hF (s := 58) rfl (fun hc58 hF => ?_) (fun hc58 hF => ?_)
  refine c_true hF rfl ?_
  refine wp_skip ?_
  refine hK13 _ _ ?_
  refine c_seq (fun K14 hK14 => ?_)
  refine c_block ?_
  refine c_seq (fun K15 hK15 => ?_)
  refine c_reg ?_
  have hlt : j < ls.length := by omega
  obtain ⟨lf, hlf⟩ : ∃ l, l = ls[j] := ⟨_, rfl⟩
  have hel : (lfE ls)[j]? = some lf.c := by simp [lfE, hlt, hlf]
  refine n_q hF hS (q_indexAddrS Tryd.underlying65 ty67 rfl rfl (by omega) (hr.some (by simp [lfE]; omega))) rfl (fun a hF => ?_)
  refine n_q hF hS (q_loadL0 (v := .agg lf.c.toArray) ty67 rfl hr hel (by decide) rfl (by simp only [ldv, cond_true, List.drop_zero]; rw [List.take_of_length_le (by rw [Lf.c_len]; exact Nat.le_refl _)])) rfl (fun a hF => ?_)
  refine n_l rfl (fun K16 hK16 => l_alloc hF hS zr67 rfl (fun a w b3 hF hS => hK16 _ _ ?_))
  refine n_l rfl (fun K8 hK8 => l_store0A ty67 hF hS rfl rfl (i := 0) rfl (Lf.c_len _) rfl (Lf.c_all1 _) (fun a w hF hS => hK8 _ _ ?_))
  refine hK15 _ _ ?_
  refine c_seq (fun K17 hK17 => ?_)
  refine c_reg ?_
  refine n_q hF hS (q_load0 ty67 rfl (i := 0) rfl (Lf.c_len _) rfl) rfl (fun a hF => ?_)
  refine n_l rfl (fun K18 hK18 => l_call en93 hF rfl rfl (formedLf_c lf _ _ hS.fz) (fun v18 w hR a hF => ?_))
  obtain ⟨rfl, hc⟩ := hR
  replace hS := hS.call0 hc
  refine hK18 _ _ ?_
  refine n_q hF hS (q_move rfl) rfl (fun a hF => ?_)
  refine n_q hF hS (q_extract (i := 0) rfl rfl) rfl (fun a hF => ?_)
  refine n_q hF hS (q_extract (i := 1) rfl rfl) rfl (fun a hF => ?_)
  refine n_q hF hS (q_assign rfl) rfl (fun a hF => ?_)
  refine n_q hF hS (q_assign rfl) rfl (fun a hF => ?_)
  refine hK17 _ _ ?_
  refine c_seq (fun K19 hK19 => ?_)
  refine c_seq (fun K20 hK20 => ?_)
  refine c_reg ?_
  refine n_q hF hS (q_move rfl) rfl (fun a hF => ?_)
  refine n_q hF hS (q_not rfl) rfl (fun a hF => ?_)
  refine hK20 _ _ ?_
  refine rw_ hF (s := 67) (u := .bool false) rfl (by simp) (fun hF => ?_)
  refine c_false hF rfl ?_
  refine wp_skip ?_
  refine hK19 _ _ ?_
  refine c_reg ?_
  refine n_q hF hS (q_move rfl) rfl (fun a hF => ?_)
  refine n_q hF hS (q_move rfl) rfl (fun a hF => ?_)
  refine n_q hF hS (q_max2 rfl rfl) rfl (fun a hF => ?_)
  refine rw_ hF (s := 70) (u := .int .i64 0) rfl (by simp) (fun hF => ?_)
  refine n_q hF hS (q_assign rfl) rfl (fun a hF => ?_)
  refine hK14 _ _ ?_
  refine c_reg ?_
  refine n_q hF hS (q_addI rfl rfl (by omega)) rfl (fun a hF => ?_)
  refine n_q hF hS (q_move rfl) rfl (fun a hF => ?_)
  exact ⟨j + 1, _, (by show ls.length - (j + 1) < ls.length - j; omega), hl0, hF.back ⟨rfl, rfl, trivial⟩ rfl (by repeat first | exact Ext.refl _ _ | refine Ext.rem' rfl ?_ | refine Ext.push rfl ?_), hS.lose (.cons _ (.refl _)), (by omega)⟩
  refine c_false hF rfl ?_
  refine c_exit ?_
  refine hK10 _ _ ?_
  refine c_seq (fun K21 hK21 => ?_)
  refine c_reg ?_
  refine n_q hF hS (q_move rfl) rfl (fun a hF => ?_)
  refine n_q hF hS (q_addI rfl rfl (by omega)) rfl (fun a hF => ?_)
  refine n_q hF hS (q_assign rfl) rfl (fun a hF => ?_)
  refine n_q hF hS (q_assign rfl) rfl (fun a hF => ?_)
  refine hK21 _ _ ?_
  refine c_ret ?_
  repeat (first | refine ret_then ?_ | refine ret_blk ?_)
  refine c_ret' (P := Tryd.prog) (fn := Tryd.f93) rfl hF hS (.tmp rfl (.tmp rfl .nil)) ⟨_, rfl, ?_⟩
  refine ⟨?_, hS.same⟩
  rfl

theorem cCheck_c (ls : List Lf) (al : Option Addr) (cl : Nat) (h0 : 0 < ls.length) (hln : ls.length ≤ 8) (w : World) (H : Froz) (hz : Fz H w) (hr : RdL H al 4 (lfE ls)) :
    CallsR Tryd.prog 63 [.agg #[.int .i64 3, .int .i64 0, .string ⟨#[]⟩, .slice al ls.length cl]] w fun v w' => v = .int .i64 0 ∧ St ⟨w, H, []⟩ H [] w' := by
  refine calls_start Tryd.func63 rfl Tryd.ntmps63 rfl (fun a hF => ?_)
  have hS := St.start w H hz
  refine c_seq (fun K1 hK1 => ?_)
  refine c_reg ?_
  refine n_l rfl (fun K2 hK2 => l_boxA hF hS rfl rfl (fun a w b1 hF hS => hK2 _ _ ?_))
  refine n_q hF hS (q_assign rfl) rfl (fun a hF => ?_)
  refine hK1 _ _ ?_
  refine c_seq (fun K3 hK3 => ?_)
  refine c_reg ?_
  refine n_q hF hS (q_load0 ty67 rfl (i := 0) rfl rfl rfl) rfl (fun a hF => ?_)
  refine n_l rfl (fun K4 hK4 => l_call en93 hF rfl rfl (formedL_c ls al cl h0 hln _ _ hS.fz hr) (fun v4 w hR a hF => ?_))
  obtain ⟨rfl, hc⟩ := hR
  replace hS := hS.call0 hc
  refine hK4 _ _ ?_
  refine n_q hF hS (q_move rfl) rfl (fun a hF => ?_)
  refine n_q hF hS (q_extract (i := 0) rfl rfl) rfl (fun a hF => ?_)
  refine n_q hF hS (q_extract (i := 1) rfl rfl) rfl (fun a hF => ?_)
  refine n_q hF hS (q_assign rfl) rfl (fun a hF => ?_)
  refine n_q hF hS (q_assign rfl) rfl (fun a hF => ?_)
  refine hK3 _ _ ?_
  refine c_seq (fun K5 hK5 => ?_)
  refine c_block ?_
  refine c_seq (fun K6 hK6 => ?_)
  refine c_reg ?_
  refine n_q hF hS (q_move rfl) rfl (fun a hF => ?_)
  refine n_q hF hS (q_not rfl) rfl (fun a hF => ?_)
  refine n_q hF hS (q_assign rfl) rfl (fun a hF => ?_)
  refine hK6 _ _ ?_
  refine rw_ hF (s := 10) (u := .bool false) rfl (by simp) (fun hF => ?_)
  refine c_false hF rfl ?_
  refine c_seq (fun K7 hK7 => ?_)
  refine c_reg ?_
  refine n_q hF hS (q_move rfl) rfl (fun a hF => ?_)
  refine n_q hF hS (q_gtr rfl rfl) rfl (fun a hF => ?_)
  refine n_q hF hS (q_assign rfl) rfl (fun a hF => ?_)
  refine hK7 _ _ ?_
  refine spF hF (s := 13) rfl (by decide) (fun hF => ?_)
  refine c_false hF rfl ?_
  refine wp_skip ?_
  refine hK5 _ _ ?_
  refine c_seq (fun K8 hK8 => ?_)
  refine c_reg ?_
  refine n_q hF hS (q_assign rfl) rfl (fun a hF => ?_)
  refine hK8 _ _ ?_
  refine c_ret ?_
  repeat (first | refine ret_then ?_ | refine ret_blk ?_)
  refine c_ret' (P := Tryd.prog) (fn := Tryd.f63) rfl hF hS (.tmp rfl .nil) ⟨_, rfl, ?_⟩
  exact ⟨rfl, hS.same⟩

theorem Encode_c (ls : List Lf) (al : Option Addr) (cl : Nat) (h0 : 0 < ls.length) (hln : ls.length ≤ 8) (hlz : ∀ l ∈ ls, l.z ≤ 1000) (w : World) (H : Froz) (hz : Fz H w) (hr : RdL H al 4 (lfE ls)) :
    CallsR Tryd.prog 25 [.agg #[.int .i64 3, .int .i64 0, .string ⟨#[]⟩, .slice al ls.length cl]] w fun v w' => ∃ ad cp Lx, v = .tuple #[.slice ad (encL ls).length cp, .int .i64 0] ∧ OwS 5 1 (.slice ad (encL ls).length cp) (encL ls).length (bc (encL ls)) Lx ∧ St ⟨w, H, []⟩ H Lx w' := by
  refine calls_start Tryd.func25 rfl Tryd.ntmps25 rfl (fun a hF => ?_)
  have hS := St.start w H hz
  refine c_seq (fun K1 hK1 => ?_)
  refine c_reg ?_
  refine n_l rfl (fun K2 hK2 => l_boxA hF hS rfl rfl (fun a w b1 hF hS => hK2 _ _ ?_))
  refine n_q hF hS (q_assign rfl) rfl (fun a hF => ?_)
  refine n_q hF hS (q_assign rfl) rfl (fun a hF => ?_)
  refine hK1 _ _ ?_
  refine c_seq (fun K3 hK3 => ?_)
  refine c_seq (fun K4 hK4 => ?_)
  refine c_reg ?_
  refine n_q hF hS (q_load0 ty67 rfl (i := 0) rfl rfl rfl) rfl (fun a hF => ?_)
  refine n_l rfl (fun K5 hK5 => l_call en63 hF rfl rfl (cCheck_c ls al cl h0 hln _ _ hS.fz hr) (fun v5 w hR a hF => ?_))
  obtain ⟨rfl, hc⟩ := hR
  replace hS := hS.call0 hc
  refine hK5 _ _ ?_
  refine n_q hF hS (q_assign rfl) rfl (fun a hF => ?_)
  refine hK4 _ _ ?_
  refine c_seq (fun K6 hK6 => ?_)
  refine c_reg ?_
  refine n_q hF hS (q_move rfl) rfl (fun a hF => ?_)
  refine n_q hF hS (q_neI rfl rfl) rfl (fun a hF => ?_)
  refine hK6 _ _ ?_
  refine rw_ hF (s := 8) (u := .bool false) rfl (by simp) (fun hF => ?_)
  refine c_false hF rfl ?_
  refine wp_skip ?_
  refine hK3 _ _ ?_
  refine c_seq (fun K7 hK7 => ?_)
  obtain ⟨H_hbx, hH_hbx, hle_hbx, hS_hbx⟩ := hS.freeze' (i := 0) rfl
  replace hS := hS_hbx
  replace hr := hr.mono hle_hbx
  have hbx : HR H_hbx b1 [.int .i64 3, .int .i64 0, .string ⟨#[]⟩, .slice al ls.length cl] := by rw [hH_hbx]; exact frz_hr
  refine r_start (fun _ => []) [] mo hS (fun w hS => ?_)
  refine r_q (i := 1) rfl rfl hF (hS.lose (List.nil_sublist _)) (q_fieldAddr fl67_0 (by decide) rfl) rfl (fun a hF => ?_)
  refine r_q (i := 2) rfl rfl hF (hS.lose (List.nil_sublist _)) (q_loadG (o := 0) (v := .int .i64 3) ty3 rfl hbx.h (Nat.le_of_ble_eq_true rfl) rfl rfl) rfl (fun a hF => ?_)
  refine r_q (i := 7) rfl rfl hF (hS.lose (List.nil_sublist _)) (q_loadG (o := 0) (v := .agg #[.int .i64 3, .int .i64 0, .string ⟨#[]⟩, .slice al ls.length cl]) ty67 rfl hbx.h (Nat.le_of_ble_eq_true rfl) rfl rfl) rfl (fun a hF => ?_)
  refine r_one (i := 0) (by kernel_rfl) ?_
  have hsub := hS.sub
  refine r_li rfl rfl (fun K8 hK8 => l_call en64 hF rfl rfl (newWriter_c _ _ hS.fz) (fun v8 w hR a hF => ?_))
  obtain ⟨bw, bp, H', rfl, hle, hw, hp, hc⟩ := hR
  replace hS : St _ _ ([] ++ []) _ := hS.call hc
  replace hr := hr.mono hle
  replace hbx := hbx.mono hle
  refine hK8 _ _ _ (hS.lose (List.nil_sublist _)) (fun _ h => h.forget hsub hle) ?_
  refine r_q (i := 3) rfl rfl hF (hS.lose (List.nil_sublist _)) (q_nilCheck rfl) rfl (fun a hF => ?_)
  refine r_q (i := 4) rfl rfl hF (hS.lose (List.nil_sublist _)) (q_indexAddrAj (j := 3) Tryd.underlying158 ty124 rfl rfl (by decide) (by decide)) rfl (fun a hF => ?_)
  refine r_q (i := 5) rfl rfl hF (hS.lose (List.nil_sublist _)) (q_fieldAddr fl124_0 (by decide) rfl) rfl (fun a hF => ?_)
  refine r_q (i := 6) rfl rfl hF (hS.lose (List.nil_sublist _)) (q_loadG (o := 3) (v := .func (.func 98) #[] #[.pointer (some ⟨bp, 0, none⟩)]) ty122 rfl hw.h (Nat.le_of_ble_eq_true rfl) rfl rfl) rfl (fun a hF => ?_)
  refine r_one (i := 8) (by kernel_rfl) ?_
  have hsub := hS.sub
  refine r_li rfl rfl (fun K9 hK9 => l_callv (fs := []) (us := [.pointer (some ⟨bp, 0, none⟩)]) en98 hF rfl rfl rfl (write3_c none 0 0 [] [] .nil (by decide) ls al cl _ _ _ bw bp hln hlz _ _ (Hand.nil hS.fz) hw hp hr) (fun vL w hR a hF => ?_))
  obtain ⟨adn, cpn, Lxn, rfl, hon, hc⟩ := hR
  replace hS : St _ _ (Lxn ++ []) _ := hS.callG (Lx := []) (L := []) hc
  refine hK9 _ _ _ (hS.lose (List.nil_sublist _)) (fun _ h => h) ?_
  refine r_q (i := 9) rfl rfl hF (hS.lose (List.nil_sublist _)) (q_assign rfl) rfl (fun a hF => ?_)
  refine r_q (i := 10) rfl rfl hF (hS.lose (List.nil_sublist _)) (q_assign rfl) rfl (fun a hF => ?_)
  refine r_done (by kernel_rfl) ?_
  refine hK7 _ _ ?_
  refine c_ret ?_
  repeat (first | refine ret_then ?_ | refine ret_blk ?_)
  refine c_ret' (P := Tryd.prog) (fn := Tryd.f25) rfl hF hS (.tmp rfl (.tmp rfl .nil)) ⟨_, rfl, ?_⟩
  rw [List.append_nil] at hS
  exact ⟨adn, cpn, Lxn, rfl, hon, hS.down⟩
end Go.Proofs.YtneokajhmonpaaaDoor

namespace Go.Proofs.YtneokajhmonpaaaDoor
open Go Go.RowKit Go.W
set_option maxRecDepth 10000
open Fx

theorem isKind_c (n : Int) (w : World) (H : Froz) (hz : Fz H w) : CallsR Tryd.prog 56 [.int .i64 n] w fun v w' => v = .bool (decide (1 ≤ n ∧ n ≤ 7)) ∧ St ⟨w, H, []⟩ H [] w' := by
  refine calls_start Tryd.func56 rfl Tryd.ntmps56 rfl (fun a hF => ?_)
  have hS := St.start w H hz
  have hS0 := hS
  refine c_seq (fun K1 hK1 => ?_)
  refine c_reg ?_
  refine n_q hF hS (q_assign rfl) rfl (fun a hF => ?_)
  refine hK1 _ _ ?_
  refine c_seq (fun K2 hK2 => ?_)
  refine c_reg ?_
  refine n_q hF hS (q_move rfl) rfl (fun a hF => ?_)
  refine n_q hF hS (q_geq rfl rfl) rfl (fun a hF => ?_)
  refine n_q hF hS (q_move rfl) rfl (fun a hF => ?_)
  refine spd hF (s := 5) rfl (fun hc5 hF => ?_) (fun hc5 hF => ?_)
  refine n_yes hF rfl ?_
  refine n_q hF hS (q_move rfl) rfl (fun a hF => ?_)
  refine n_yes hF rfl ?_
  refine n_q hF hS (q_leq rfl rfl) rfl (fun a hF => ?_)
  refine n_q hF hS (q_pick (b := true) rfl rfl) rfl (fun a hF => ?_)
  refine n_q hF hS (q_assign rfl) rfl (fun a hF => ?_)
  refine hK2 _ _ ?_
  refine c_ret ?_
  repeat (first | refine ret_then ?_ | refine ret_blk ?_)
  refine c_ret' (P := Tryd.prog) (fn := Tryd.f56) rfl hF hS (.tmp rfl .nil) ⟨_, rfl, ?_⟩
  refine ⟨?_, hS.same⟩
  simp [oneOf] <;> omega
  refine n_no hF (b := false) rfl rfl rfl (fun a hF => ?_)
  refine n_no hF (b := false) rfl rfl rfl (fun a hF => ?_)
  refine n_q hF hS (q_pick (b := false) rfl rfl) rfl (fun a hF => ?_)
  refine n_q hF hS (q_assign rfl) rfl (fun a hF => ?_)
  refine hK2 _ _ ?_
  refine c_ret ?_
  repeat (first | refine ret_then ?_ | refine ret_blk ?_)
  refine c_ret' (P := Tryd.prog) (fn := Tryd.f56) rfl hF hS (.tmp rfl .nil) ⟨_, rfl, ?_⟩
  refine ⟨?_, hS.same⟩
  simp [oneOf] <;> omega

theorem isFolder_c (n : Int) (w : World) (H : Froz) (hz : Fz H w) : CallsR Tryd.prog 44 [.int .i64 n] w fun v w' => v = .bool (decide (0 ≤ n ∧ n < 16)) ∧ St ⟨w, H, []⟩ H [] w' := by
  refine calls_start Tryd.func44 rfl Tryd.ntmps44 rfl (fun a hF => ?_)
  have hS := St.start w H hz
  have hS0 := hS
  refine c_seq (fun K1 hK1 => ?_)
  refine c_reg ?_
  refine n_q hF hS (q_assign rfl) rfl (fun a hF => ?_)
  refine hK1 _ _ ?_
  refine c_seq (fun K2 hK2 => ?_)
  refine c_reg ?_
  refine n_q hF hS (q_move rfl) rfl (fun a hF => ?_)
  refine n_q hF hS (q_geq rfl rfl) rfl (fun a hF => ?_)
  refine n_q hF hS (q_move rfl) rfl (fun a hF => ?_)
  refine spd hF (s := 5) rfl (fun hc5 hF => ?_) (fun hc5 hF => ?_)
  refine n_yes hF rfl ?_
  refine n_q hF hS (q_move rfl) rfl (fun a hF => ?_)
  refine n_yes hF rfl ?_
  refine n_q hF hS (q_lss rfl rfl) rfl (fun a hF => ?_)
  refine n_q hF hS (q_pick (b := true) rfl rfl) rfl (fun a hF => ?_)
  refine n_q hF hS (q_assign rfl) rfl (fun a hF => ?_)
  refine hK2 _ _ ?_
  refine c_ret ?_
  repeat (first | refine ret_then ?_ | refine ret_blk ?_)
  refine c_ret' (P := Tryd.prog) (fn := Tryd.f44) rfl hF hS (.tmp rfl .nil) ⟨_, rfl, ?_⟩
  refine ⟨?_, hS.same⟩
  simp [oneOf] <;> omega
  refine n_no hF (b := false) rfl rfl rfl (fun a hF => ?_)
  refine n_no hF (b := false) rfl rfl rfl (fun a hF => ?_)
  refine n_q hF hS (q_pick (b := false) rfl rfl) rfl (fun a hF => ?_)
  refine n_q hF hS (q_assign rfl) rfl (fun a hF => ?_)
  refine hK2 _ _ ?_
  refine c_ret ?_
  repeat (first | refine ret_then ?_ | refine ret_blk ?_)
  refine c_ret' (P := Tryd.prog) (fn := Tryd.f44) rfl hF hS (.tmp rfl .nil) ⟨_, rfl, ?_⟩
  refine ⟨?_, hS.same⟩
  simp [oneOf] <;> omega

theorem valid_c (n : Int) (w : World) (H : Froz) (hz : Fz H w) : CallsR Tryd.prog 53 [.int .i64 n] w fun v w' => v = .bool (decide (1 ≤ n ∧ n < 2305843009213688669)) ∧ St ⟨w, H, []⟩ H [] w' := by
  refine calls_start Tryd.func53 rfl Tryd.ntmps53 rfl (fun a hF => ?_)
  have hS := St.start w H hz
  have hS0 := hS
  refine c_seq (fun K1 hK1 => ?_)
  refine c_reg ?_
  refine n_q hF hS (q_assign rfl) rfl (fun a hF => ?_)
  refine hK1 _ _ ?_
  refine c_seq (fun K2 hK2 => ?_)
  refine c_reg ?_
  refine n_q hF hS (q_move rfl) rfl (fun a hF => ?_)
  refine n_q hF hS (q_geq rfl rfl) rfl (fun a hF => ?_)
  refine n_q hF hS (q_move rfl) rfl (fun a hF => ?_)
  refine spd hF (s := 5) rfl (fun hc5 hF => ?_) (fun hc5 hF => ?_)
  refine n_yes hF rfl ?_
  refine n_q hF hS (q_move rfl) rfl (fun a hF => ?_)
  refine n_yes hF rfl ?_
  refine n_q hF hS (q_lss rfl rfl) rfl (fun a hF => ?_)
  refine n_q hF hS (q_pick (b := true) rfl rfl) rfl (fun a hF => ?_)
  refine n_q hF hS (q_assign rfl) rfl (fun a hF => ?_)
  refine hK2 _ _ ?_
  refine c_ret ?_
  repeat (first | refine ret_then ?_ | refine ret_blk ?_)
  refine c_ret' (P := Tryd.prog) (fn := Tryd.f53) rfl hF hS (.tmp rfl .nil) ⟨_, rfl, ?_⟩
  refine ⟨?_, hS.same⟩
  simp [oneOf] <;> omega
  refine n_no hF (b := false) rfl rfl rfl (fun a hF => ?_)
  refine n_no hF (b := false) rfl rfl rfl (fun a hF => ?_)
  refine n_q hF hS (q_pick (b := false) rfl rfl) rfl (fun a hF => ?_)
  refine n_q hF hS (q_assign rfl) rfl (fun a hF => ?_)
  refine hK2 _ _ ?_
  refine c_ret ?_
  repeat (first | refine ret_then ?_ | refine ret_blk ?_)
  refine c_ret' (P := Tryd.prog) (fn := Tryd.f53) rfl hF hS (.tmp rfl .nil) ⟨_, rfl, ?_⟩
  refine ⟨?_, hS.same⟩
  simp [oneOf] <;> omega
end Go.Proofs.YtneokajhmonpaaaDoor

namespace Go.Proofs.YtneokajhmonpaaaDoor
open Go Go.RowKit Go.W
set_option maxRecDepth 10000
open Fx

theorem Len64_c (x : Nat) (hx : x < 18446744073709551616) (w : World) (H : Froz) (hz : Fz H w) : CallsR Tryd.prog 132 [.int .u64 (x : Int)] w fun v w' => v = .int .i64 (bl x : Int) ∧ St ⟨w, H, []⟩ H [] w' := by
  refine calls_start Tryd.func132 rfl Tryd.ntmps132 rfl (fun a hF => ?_)
  have hS := St.start w H hz
  have hS0 := hS
  refine c_seq (fun K1 hK1 => ?_)
  refine c_reg ?_
  refine n_q hF hS (q_assign rfl) rfl (fun a hF => ?_)
  refine hK1 _ _ ?_
  refine c_seq (fun K2 hK2 => ?_)
  refine c_seq (fun K3 hK3 => ?_)
  refine c_reg ?_
  refine n_q hF hS (q_move rfl) rfl (fun a hF => ?_)
  refine n_q hF hS (q_geq rfl rfl) rfl (fun a hF => ?_)
  refine hK3 _ _ ?_
  refine spd hF (s := 4) rfl (fun hc4 hF => ?_) (fun hc4 hF => ?_)
  refine c_true hF rfl ?_
  refine c_seq (fun K4 hK4 => ?_)
  refine c_reg ?_
  refine n_q hF hS (q_move rfl) rfl (fun a hF => ?_)
  refine n_q hF hS (q_shrC (m := 4294967296) rfl rfl (by decide) rfl) rfl (fun a hF => ?_)
  refine n_q hF hS (q_assign rfl) rfl (fun a hF => ?_)
  refine hK4 _ _ ?_
  refine c_reg ?_
  refine n_q hF hS (q_assign rfl) rfl (fun a hF => ?_)
  refine hK2 _ _ ?_
  refine c_seq (fun K5 hK5 => ?_)
  refine c_seq (fun K6 hK6 => ?_)
  refine c_reg ?_
  refine n_q hF hS (q_move rfl) rfl (fun a hF => ?_)
  refine n_q hF hS (q_geq rfl rfl) rfl (fun a hF => ?_)
  refine hK6 _ _ ?_
  refine spd hF (s := 8) rfl (fun hc8 hF => ?_) (fun hc8 hF => ?_)
  refine c_true hF rfl ?_
  refine c_seq (fun K7 hK7 => ?_)
  refine c_reg ?_
  refine n_q hF hS (q_move rfl) rfl (fun a hF => ?_)
  refine n_q hF hS (q_shrC (m := 65536) rfl rfl (by decide) rfl) rfl (fun a hF => ?_)
  refine n_q hF hS (q_assign rfl) rfl (fun a hF => ?_)
  refine hK7 _ _ ?_
  refine c_reg ?_
  refine n_q hF hS (q_move rfl) rfl (fun a hF => ?_)
  refine n_q hF hS (q_addI rfl rfl (by omega)) rfl (fun a hF => ?_)
  refine n_q hF hS (q_assign rfl) rfl (fun a hF => ?_)
  refine hK5 _ _ ?_
  refine c_seq (fun K8 hK8 => ?_)
  refine c_seq (fun K9 hK9 => ?_)
  refine c_reg ?_
  refine n_q hF hS (q_move rfl) rfl (fun a hF => ?_)
  refine n_q hF hS (q_geq rfl rfl) rfl (fun a hF => ?_)
  refine hK9 _ _ ?_
  refine spd hF (s := 14) rfl (fun hc14 hF => ?_) (fun hc14 hF => ?_)
  refine c_true hF rfl ?_
  refine c_seq (fun K10 hK10 => ?_)
  refine c_reg ?_
  refine n_q hF hS (q_move rfl) rfl (fun a hF => ?_)
  refine n_q hF hS (q_shrC (m := 256) rfl rfl (by decide) rfl) rfl (fun a hF => ?_)
  refine n_q hF hS (q_assign rfl) rfl (fun a hF => ?_)
  refine hK10 _ _ ?_
  refine c_reg ?_
  refine n_q hF hS (q_move rfl) rfl (fun a hF => ?_)
  refine n_q hF hS (q_addI rfl rfl (by omega)) rfl (fun a hF => ?_)
  refine n_q hF hS (q_assign rfl) rfl (fun a hF => ?_)
  refine hK8 _ _ ?_
  refine c_seq (fun K11 hK11 => ?_)
  refine c_reg ?_
  refine n_q hF hS (q_move rfl) rfl (fun a hF => ?_)
  refine n_q hF hS (q_move rfl) rfl (fun a hF => ?_)
  refine n_q hF hS (q_cv8 Tryd.underlying160 Tryd.underlying5 rfl) rfl (fun a hF => ?_)
  refine n_q hF hS (q_len8 Tryd.underlying9 rfl (by decide +kernel) rfl (by omega)) rfl (fun a hF => ?_)
  refine n_q hF hS (q_cvI Tryd.underlying5 Tryd.underlying3 rfl (bl8I (Nat.mod_lt _ (by decide)))) rfl (fun a hF => ?_)
  refine n_q hF hS (q_addI rfl rfl (bl8A (by omega) (Nat.mod_lt _ (by decide)))) rfl (fun a hF => ?_)
  refine n_q hF hS (q_assign rfl) rfl (fun a hF => ?_)
  refine hK11 _ _ ?_
  refine c_ret ?_
  repeat (first | refine ret_then ?_ | refine ret_blk ?_)
  refine c_ret' (P := Tryd.prog) (fn := Tryd.f132) rfl hF hS (.tmp rfl .nil) ⟨_, rfl, ?_⟩
  have hm : (((x / 4294967296) / 65536) / 256) % 256 = (((x / 4294967296) / 65536) / 256) := Nat.mod_eq_of_lt (by omega)
  refine ⟨?_, hS.same⟩
  rw [hm]
  rw [len64_b (x := x) (by omega), len64_c (x := (x / 4294967296)) (by omega), len64_d (x := ((x / 4294967296) / 65536)) (by omega)]
  simp only [oneOf, Value.int.injEq, true_and]
  push_cast
  omega
  refine c_false hF rfl ?_
  refine wp_skip ?_
  refine hK8 _ _ ?_
  refine c_seq (fun K12 hK12 => ?_)
  refine c_reg ?_
  refine n_q hF hS (q_move rfl) rfl (fun a hF => ?_)
  refine n_q hF hS (q_move rfl) rfl (fun a hF => ?_)
  refine n_q hF hS (q_cv8 Tryd.underlying160 Tryd.underlying5 rfl) rfl (fun a hF => ?_)
  refine n_q hF hS (q_len8 Tryd.underlying9 rfl (by decide +kernel) rfl (by omega)) rfl (fun a hF => ?_)
  refine n_q hF hS (q_cvI Tryd.underlying5 Tryd.underlying3 rfl (bl8I (Nat.mod_lt _ (by decide)))) rfl (fun a hF => ?_)
  refine n_q hF hS (q_addI rfl rfl (bl8A (by omega) (Nat.mod_lt _ (by decide)))) rfl (fun a hF => ?_)
  refine n_q hF hS (q_assign rfl) rfl (fun a hF => ?_)
  refine hK12 _ _ ?_
  refine c_ret ?_
  repeat (first | refine ret_then ?_ | refine ret_blk ?_)
  refine c_ret' (P := Tryd.prog) (fn := Tryd.f132) rfl hF hS (.tmp rfl .nil) ⟨_, rfl, ?_⟩
  have hm : ((x / 4294967296) / 65536) % 256 = ((x / 4294967296) / 65536) := Nat.mod_eq_of_lt (by omega)
  refine ⟨?_, hS.same⟩
  rw [hm]
  rw [len64_b (x := x) (by omega), len64_c (x := (x / 4294967296)) (by omega)]
  simp only [oneOf, Value.int.injEq, true_and]
  push_cast
  omega
  refine c_false hF rfl ?_
  refine wp_skip ?_
  refine hK5 _ _ ?_
  refine c_seq (fun K13 hK13 => ?_)
  refine c_seq (fun K14 hK14 => ?_)
  refine c_reg ?_
  refine n_q hF hS (q_move rfl) rfl (fun a hF => ?_)
  refine n_q hF hS (q_geq rfl rfl) rfl (fun a hF => ?_)
  refine hK14 _ _ ?_
  refine spd hF (s := 14) rfl (fun hc14 hF => ?_) (fun hc14 hF => ?_)
  refine c_true hF rfl ?_
  refine c_seq (fun K15 hK15 => ?_)
  refine c_reg ?_
  refine n_q hF hS (q_move rfl) rfl (fun a hF => ?_)
  refine n_q hF hS (q_shrC (m := 256) rfl rfl (by decide) rfl) rfl (fun a hF => ?_)
  refine n_q hF hS (q_assign rfl) rfl (fun a hF => ?_)
  refine hK15 _ _ ?_
  refine c_reg ?_
  refine n_q hF hS (q_move rfl) rfl (fun a hF => ?_)
  refine n_q hF hS (q_addI rfl rfl (by omega)) rfl (fun a hF => ?_)
  refine n_q hF hS (q_assign rfl) rfl (fun a hF => ?_)
  refine hK13 _ _ ?_
  refine c_seq (fun K16 hK16 => ?_)
  refine c_reg ?_
  refine n_q hF hS (q_move rfl) rfl (fun a hF => ?_)
  refine n_q hF hS (q_move rfl) rfl (fun a hF => ?_)
  refine n_q hF hS (q_cv8 Tryd.underlying160 Tryd.underlying5 rfl) rfl (fun a hF => ?_)
  refine n_q hF hS (q_len8 Tryd.underlying9 rfl (by decide +kernel) rfl (by omega)) rfl (fun a hF => ?_)
  refine n_q hF hS (q_cvI Tryd.underlying5 Tryd.underlying3 rfl (bl8I (Nat.mod_lt _ (by decide)))) rfl (fun a hF => ?_)
  refine n_q hF hS (q_addI rfl rfl (bl8A (by omega) (Nat.mod_lt _ (by decide)))) rfl (fun a hF => ?_)
  refine n_q hF hS (q_assign rfl) rfl (fun a hF => ?_)
  refine hK16 _ _ ?_
  refine c_ret ?_
  repeat (first | refine ret_then ?_ | refine ret_blk ?_)
  refine c_ret' (P := Tryd.prog) (fn := Tryd.f132) rfl hF hS (.tmp rfl .nil) ⟨_, rfl, ?_⟩
  have hm : ((x / 4294967296) / 256) % 256 = ((x / 4294967296) / 256) := Nat.mod_eq_of_lt (by omega)
  refine ⟨?_, hS.same⟩
  rw [hm]
  rw [len64_b (x := x) (by omega), len64_d (x := (x / 4294967296)) (by omega)]
  simp only [oneOf, Value.int.injEq, true_and]
  push_cast
  omega
  refine c_false hF rfl ?_
  refine wp_skip ?_
  refine hK13 _ _ ?_
  refine c_seq (fun K17 hK17 => ?_)
  refine c_reg ?_
  refine n_q hF hS (q_move rfl) rfl (fun a hF => ?_)
  refine n_q hF hS (q_move rfl) rfl (fun a hF => ?_)
  refine n_q hF hS (q_cv8 Tryd.underlying160 Tryd.underlying5 rfl) rfl (fun a hF => ?_)
  refine n_q hF hS (q_len8 Tryd.underlying9 rfl (by decide +kernel) rfl (by omega)) rfl (fun a hF => ?_)
  refine n_q hF hS (q_cvI Tryd.underlying5 Tryd.underlying3 rfl (bl8I (Nat.mod_lt _ (by decide)))) rfl (fun a hF => ?_)
  refine n_q hF hS (q_addI rfl rfl (bl8A (by omega) (Nat.mod_lt _ (by decide)))) rfl (fun a hF => ?_)
  refine n_q hF hS (q_assign rfl) rfl (fun a hF => ?_)
  refine hK17 _ _ ?_
  refine c_ret ?_
  repeat (first | refine ret_then ?_ | refine ret_blk ?_)
  refine c_ret' (P := Tryd.prog) (fn := Tryd.f132) rfl hF hS (.tmp rfl .nil) ⟨_, rfl, ?_⟩
  have hm : (x / 4294967296) % 256 = (x / 4294967296) := Nat.mod_eq_of_lt (by omega)
  refine ⟨?_, hS.same⟩
  rw [hm]
  rw [len64_b (x := x) (by omega)]
  simp only [oneOf, Value.int.injEq, true_and]
  push_cast
  omega
  refine c_false hF rfl ?_
  refine wp_skip ?_
  refine hK2 _ _ ?_
  refine c_seq (fun K18 hK18 => ?_)
  refine c_seq (fun K19 hK19 => ?_)
  refine c_reg ?_
  refine n_q hF hS (q_move rfl) rfl (fun a hF => ?_)
  refine n_q hF hS (q_geq rfl rfl) rfl (fun a hF => ?_)
  refine hK19 _ _ ?_
  refine spd hF (s := 8) rfl (fun hc8 hF => ?_) (fun hc8 hF => ?_)
  refine c_true hF rfl ?_
  refine c_seq (fun K20 hK20 => ?_)
  refine c_reg ?_
  refine n_q hF hS (q_move rfl) rfl (fun a hF => ?_)
  refine n_q hF hS (q_shrC (m := 65536) rfl rfl (by decide) rfl) rfl (fun a hF => ?_)
  refine n_q hF hS (q_assign rfl) rfl (fun a hF => ?_)
  refine hK20 _ _ ?_
  refine c_reg ?_
  refine n_q hF hS (q_move rfl) rfl (fun a hF => ?_)
  refine n_q hF hS (q_addI rfl rfl (by omega)) rfl (fun a hF => ?_)
  refine n_q hF hS (q_assign rfl) rfl (fun a hF => ?_)
  refine hK18 _ _ ?_
  refine c_seq (fun K21 hK21 => ?_)
  refine c_seq (fun K22 hK22 => ?_)
  refine c_reg ?_
  refine n_q hF hS (q_move rfl) rfl (fun a hF => ?_)
  refine n_q hF hS (q_geq rfl rfl) rfl (fun a hF => ?_)
  refine hK22 _ _ ?_
  refine spd hF (s := 14) rfl (fun hc14 hF => ?_) (fun hc14 hF => ?_)
  refine c_true hF rfl ?_
  refine c_seq (fun K23 hK23 => ?_)
  refine c_reg ?_
  refine n_q hF hS (q_move rfl) rfl (fun a hF => ?_)
  refine n_q hF hS (q_shrC (m := 256) rfl rfl (by decide) rfl) rfl (fun a hF => ?_)
  refine n_q hF hS (q_assign rfl) rfl (fun a hF => ?_)
  refine hK23 _ _ ?_
  refine c_reg ?_
  refine n_q hF hS (q_move rfl) rfl (fun a hF => ?_)
  refine n_q hF hS (q_addI rfl rfl (by omega)) rfl (fun a hF => ?_)
  refine n_q hF hS (q_assign rfl) rfl (fun a hF => ?_)
  refine hK21 _ _ ?_
  refine c_seq (fun K24 hK24 => ?_)
  refine c_reg ?_
  refine n_q hF hS (q_move rfl) rfl (fun a hF => ?_)
  refine n_q hF hS (q_move rfl) rfl (fun a hF => ?_)
  refine n_q hF hS (q_cv8 Tryd.underlying160 Tryd.underlying5 rfl) rfl (fun a hF => ?_)
  refine n_q hF hS (q_len8 Tryd.underlying9 rfl (by decide +kernel) rfl (by omega)) rfl (fun a hF => ?_)
  refine n_q hF hS (q_cvI Tryd.underlying5 Tryd.underlying3 rfl (bl8I (Nat.mod_lt _ (by decide)))) rfl (fun a hF => ?_)
  refine n_q hF hS (q_addI rfl rfl (bl8A (by omega) (Nat.mod_lt _ (by decide)))) rfl (fun a hF => ?_)
  refine n_q hF hS (q_assign rfl) rfl (fun a hF => ?_)
  refine hK24 _ _ ?_
  refine c_ret ?_
  repeat (first | refine ret_then ?_ | refine ret_blk ?_)
  refine c_ret' (P := Tryd.prog) (fn := Tryd.f132) rfl hF hS (.tmp rfl .nil) ⟨_, rfl, ?_⟩
  have hm : ((x / 65536) / 256) % 256 = ((x / 65536) / 256) := Nat.mod_eq_of_lt (by omega)
  refine ⟨?_, hS.same⟩
  rw [hm]
  rw [len64_c (x := x) (by omega), len64_d (x := (x / 65536)) (by omega)]
  simp only [oneOf, Value.int.injEq, true_and]
  push_cast
  omega
  refine c_false hF rfl ?_
  refine wp_skip ?_
  refine hK21 _ _ ?_
  refine c_seq (fun K25 hK25 => ?_)
  refine c_reg ?_
  refine n_q hF hS (q_move rfl) rfl (fun a hF => ?_)
  refine n_q hF hS (q_move rfl) rfl (fun a hF => ?_)
  refine n_q hF hS (q_cv8 Tryd.underlying160 Tryd.underlying5 rfl) rfl (fun a hF => ?_)
  refine n_q hF hS (q_len8 Tryd.underlying9 rfl (by decide +kernel) rfl (by omega)) rfl (fun a hF => ?_)
  refine n_q hF hS (q_cvI Tryd.underlying5 Tryd.underlying3 rfl (bl8I (Nat.mod_lt _ (by decide)))) rfl (fun a hF => ?_)
  refine n_q hF hS (q_addI rfl rfl (bl8A (by omega) (Nat.mod_lt _ (by decide)))) rfl (fun a hF => ?_)
  refine n_q hF hS (q_assign rfl) rfl (fun a hF => ?_)
  refine hK25 _ _ ?_
  refine c_ret ?_
  repeat (first | refine ret_then ?_ | refine ret_blk ?_)
  refine c_ret' (P := Tryd.prog) (fn := Tryd.f132) rfl hF hS (.tmp rfl .nil) ⟨_, rfl, ?_⟩
  have hm : (x / 65536) % 256 = (x / 65536) := Nat.mod_eq_of_lt (by omega)
  refine ⟨?_, hS.same⟩
  rw [hm]
  rw [len64_c (x := x) (by omega)]
  simp only [oneOf, Value.int.injEq, true_and]
  push_cast
  omega
  refine c_false hF rfl ?_
  refine wp_skip ?_
  refine hK18 _ _ ?_
  refine c_seq (fun K26 hK26 => ?_)
  refine c_seq (fun K27 hK27 => ?_)
  refine c_reg ?_
  refine n_q hF hS (q_move rfl) rfl (fun a hF => ?_)
  refine n_q hF hS (q_geq rfl rfl) rfl (fun a hF => ?_)
  refine hK27 _ _ ?_
  refine spd hF (s := 14) rfl (fun hc14 hF => ?_) (fun hc14 hF => ?_)
  refine c_true hF rfl ?_
  refine c_seq (fun K28 hK28 => ?_)
  refine c_reg ?_
  refine n_q hF hS (q_move rfl) rfl (fun a hF => ?_)
  refine n_q hF hS (q_shrC (m := 256) rfl rfl (by decide) rfl) rfl (fun a hF => ?_)
  refine n_q hF hS (q_assign rfl) rfl (fun a hF => ?_)
  refine hK28 _ _ ?_
  refine c_reg ?_
  refine n_q hF hS (q_move rfl) rfl (fun a hF => ?_)
  refine n_q hF hS (q_addI rfl rfl (by omega)) rfl (fun a hF => ?_)
  refine n_q hF hS (q_assign rfl) rfl (fun a hF => ?_)
  refine hK26 _ _ ?_
  refine c_seq (fun K29 hK29 => ?_)
  refine c_reg ?_
  refine n_q hF hS (q_move rfl) rfl (fun a hF => ?_)
  refine n_q hF hS (q_move rfl) rfl (fun a hF => ?_)
  refine n_q hF hS (q_cv8 Tryd.underlying160 Tryd.underlying5 rfl) rfl (fun a hF => ?_)
  refine n_q hF hS (q_len8 Tryd.underlying9 rfl (by decide +kernel) rfl (by omega)) rfl (fun a hF => ?_)
  refine n_q hF hS (q_cvI Tryd.underlying5 Tryd.underlying3 rfl (bl8I (Nat.mod_lt _ (by decide)))) rfl (fun a hF => ?_)
  refine n_q hF hS (q_addI rfl rfl (bl8A (by omega) (Nat.mod_lt _ (by decide)))) rfl (fun a hF => ?_)
  refine n_q hF hS (q_assign rfl) rfl (fun a hF => ?_)
  refine hK29 _ _ ?_
  refine c_ret ?_
  repeat (first | refine ret_then ?_ | refine ret_blk ?_)
  refine c_ret' (P := Tryd.prog) (fn := Tryd.f132) rfl hF hS (.tmp rfl .nil) ⟨_, rfl, ?_⟩
  have hm : (x / 256) % 256 = (x / 256) := Nat.mod_eq_of_lt (by omega)
  refine ⟨?_, hS.same⟩
  rw [hm]
  rw [len64_d (x := x) (by omega)]
  simp only [oneOf, Value.int.injEq, true_and]
  push_cast
  omega
  refine c_false hF rfl ?_
  refine wp_skip ?_
  refine hK26 _ _ ?_
  refine c_seq (fun K30 hK30 => ?_)
  refine c_reg ?_
  refine n_q hF hS (q_move rfl) rfl (fun a hF => ?_)
  refine n_q hF hS (q_move rfl) rfl (fun a hF => ?_)
  refine n_q hF hS (q_cv8 Tryd.underlying160 Tryd.underlying5 rfl) rfl (fun a hF => ?_)
  refine n_q hF hS (q_len8 Tryd.underlying9 rfl (by decide +kernel) rfl (by omega)) rfl (fun a hF => ?_)
  refine n_q hF hS (q_cvI Tryd.underlying5 Tryd.underlying3 rfl (bl8I (Nat.mod_lt _ (by decide)))) rfl (fun a hF => ?_)
  refine n_q hF hS (q_addI rfl rfl (bl8A (by omega) (Nat.mod_lt _ (by decide)))) rfl (fun a hF => ?_)
  refine n_q hF hS (q_assign rfl) rfl (fun a hF => ?_)
  refine hK30 _ _ ?_
  refine c_ret ?_
  repeat (first | refine ret_then ?_ | refine ret_blk ?_)
  refine c_ret' (P := Tryd.prog) (fn := Tryd.f132) rfl hF hS (.tmp rfl .nil) ⟨_, rfl, ?_⟩
  have hm : x % 256 = x := Nat.mod_eq_of_lt (by omega)
  refine ⟨?_, hS.same⟩
  rw [hm]
  simp only [oneOf, Value.int.injEq, true_and]
  push_cast
  omega
end Go.Proofs.YtneokajhmonpaaaDoor

namespace Go.Proofs.YtneokajhmonpaaaDoor
open Go Go.RowKit Go.W
set_option maxRecDepth 10000
open Fx

theorem LeadingZeros64_c (x : Nat) (hx : x < 18446744073709551616) (w : World) (H : Froz) (hz : Fz H w) : CallsR Tryd.prog 135 [.int .u64 (x : Int)] w fun v w' => v = .int .i64 (64 - (bl x : Int)) ∧ St ⟨w, H, []⟩ H [] w' := by
  refine calls_start Tryd.func135 rfl Tryd.ntmps135 rfl (fun a hF => ?_)
  have hS := St.start w H hz
  have hS0 := hS
  have hb := bl_le (x := x) (n := 64) hx
  refine c_seq (fun K1 hK1 => ?_)
  refine c_reg ?_
  refine n_q hF hS (q_assign rfl) rfl (fun a hF => ?_)
  refine hK1 _ _ ?_
  refine c_seq (fun K2 hK2 => ?_)
  refine c_reg ?_
  refine n_q hF hS (q_move rfl) rfl (fun a hF => ?_)
  refine n_l rfl (fun K3 hK3 => l_call en132 hF rfl rfl (Len64_c _ (by omega) _ _ hS.fz) (fun v3 w hR a hF => ?_))
  obtain ⟨rfl, hc⟩ := hR
  replace hS := hS.call0 hc
  refine hK3 _ _ ?_
  refine n_q hF hS (q_subI rfl rfl (by omega)) rfl (fun a hF => ?_)
  refine n_q hF hS (q_assign rfl) rfl (fun a hF => ?_)
  refine hK2 _ _ ?_
  refine c_ret ?_
  repeat (first | refine ret_then ?_ | refine ret_blk ?_)
  refine c_ret' (P := Tryd.prog) (fn := Tryd.f135) rfl hF hS (.tmp rfl .nil) ⟨_, rfl, ?_⟩
  exact ⟨rfl, hS.same⟩

theorem Mul64_c (x y : Nat) (hx : x < 18446744073709551616) (hy : y < 18446744073709551616) (w : World) (H : Froz) (hz : Fz H w) : CallsR Tryd.prog 123 [.int .u64 (x : Int), .int .u64 (y : Int)] w fun v w' => v = .tuple #[.int .u64 ((x * y / 18446744073709551616 : Nat) : Int), .int .u64 ((x * y % 18446744073709551616 : Nat) : Int)] ∧ St ⟨w, H, []⟩ H [] w' := by
  refine calls_start Tryd.func123 rfl Tryd.ntmps123 rfl (fun a hF => ?_)
  have hS := St.start w H hz
  have hS0 := hS
  have M := Lib.mul64_hi x y hx hy
  have h1 := Lib.half_mul_le (a := x / 4294967296) (b := y % 4294967296) (by omega) (by omega)
  have h2 := Lib.half_mul_le (a := x % 4294967296) (b := y / 4294967296) (by omega) (by omega)
  have h3 := Lib.half_mul_le (a := x / 4294967296) (b := y / 4294967296) (by omega) (by omega)
  have hq : x * y / 18446744073709551616 < 18446744073709551616 := by
    rw [Nat.div_lt_iff_lt_mul (by omega)]
    exact Nat.mul_lt_mul'' hx hy
  refine c_seq (fun K1 hK1 => ?_)
  refine c_reg ?_
  refine n_q hF hS (q_assign rfl) rfl (fun a hF => ?_)
  refine n_q hF hS (q_assign rfl) rfl (fun a hF => ?_)
  refine hK1 _ _ ?_
  refine c_seq (fun K2 hK2 => ?_)
  refine c_reg ?_
  refine n_q hF hS (q_move rfl) rfl (fun a hF => ?_)
  refine n_q hF hS (q_mask32 rfl rfl hx) rfl (fun a hF => ?_)
  refine n_q hF hS (q_assign rfl) rfl (fun a hF => ?_)
  refine hK2 _ _ ?_
  refine c_seq (fun K3 hK3 => ?_)
  refine c_reg ?_
  refine n_q hF hS (q_move rfl) rfl (fun a hF => ?_)
  refine n_q hF hS (q_shrC (m := 4294967296) rfl rfl (by decide) rfl) rfl (fun a hF => ?_)
  refine n_q hF hS (q_assign rfl) rfl (fun a hF => ?_)
  refine hK3 _ _ ?_
  refine c_seq (fun K4 hK4 => ?_)
  refine c_reg ?_
  refine n_q hF hS (q_move rfl) rfl (fun a hF => ?_)
  refine n_q hF hS (q_mask32 rfl rfl hy) rfl (fun a hF => ?_)
  refine n_q hF hS (q_assign rfl) rfl (fun a hF => ?_)
  refine hK4 _ _ ?_
  refine c_seq (fun K5 hK5 => ?_)
  refine c_reg ?_
  refine n_q hF hS (q_move rfl) rfl (fun a hF => ?_)
  refine n_q hF hS (q_shrC (m := 4294967296) rfl rfl (by decide) rfl) rfl (fun a hF => ?_)
  refine n_q hF hS (q_assign rfl) rfl (fun a hF => ?_)
  refine hK5 _ _ ?_
  refine c_seq (fun K6 hK6 => ?_)
  refine c_reg ?_
  refine n_q hF hS (q_move rfl) rfl (fun a hF => ?_)
  refine n_q hF hS (q_move rfl) rfl (fun a hF => ?_)
  refine n_q hF hS (q_mul64n rfl rfl M.1) rfl (fun a hF => ?_)
  refine n_q hF hS (q_assign rfl) rfl (fun a hF => ?_)
  refine hK6 _ _ ?_
  refine c_seq (fun K7 hK7 => ?_)
  refine c_reg ?_
  refine n_q hF hS (q_move rfl) rfl (fun a hF => ?_)
  refine n_q hF hS (q_move rfl) rfl (fun a hF => ?_)
  refine n_q hF hS (q_mul64n rfl rfl (by omega)) rfl (fun a hF => ?_)
  refine n_q hF hS (q_move rfl) rfl (fun a hF => ?_)
  refine n_q hF hS (q_shrC (m := 4294967296) rfl rfl (by decide) rfl) rfl (fun a hF => ?_)
  refine n_q hF hS (q_add64n rfl rfl M.2.1) rfl (fun a hF => ?_)
  refine n_q hF hS (q_assign rfl) rfl (fun a hF => ?_)
  refine hK7 _ _ ?_
  refine c_seq (fun K8 hK8 => ?_)
  refine c_reg ?_
  refine n_q hF hS (q_move rfl) rfl (fun a hF => ?_)
  refine n_q hF hS (q_mask32 rfl rfl M.2.1) rfl (fun a hF => ?_)
  refine n_q hF hS (q_assign rfl) rfl (fun a hF => ?_)
  refine hK8 _ _ ?_
  refine c_seq (fun K9 hK9 => ?_)
  refine c_reg ?_
  refine n_q hF hS (q_move rfl) rfl (fun a hF => ?_)
  refine n_q hF hS (q_shrC (m := 4294967296) rfl rfl (by decide) rfl) rfl (fun a hF => ?_)
  refine n_q hF hS (q_assign rfl) rfl (fun a hF => ?_)
  refine hK9 _ _ ?_
  refine c_seq (fun K10 hK10 => ?_)
  refine c_reg ?_
  refine n_q hF hS (q_move rfl) rfl (fun a hF => ?_)
  refine n_q hF hS (q_move rfl) rfl (fun a hF => ?_)
  refine n_q hF hS (q_move rfl) rfl (fun a hF => ?_)
  refine n_q hF hS (q_mul64n rfl rfl (by omega)) rfl (fun a hF => ?_)
  refine n_q hF hS (q_add64n rfl rfl M.2.2.1) rfl (fun a hF => ?_)
  refine n_q hF hS (q_assign rfl) rfl (fun a hF => ?_)
  refine hK10 _ _ ?_
  refine c_seq (fun K11 hK11 => ?_)
  refine c_reg ?_
  refine n_q hF hS (q_move rfl) rfl (fun a hF => ?_)
  refine n_q hF hS (q_move rfl) rfl (fun a hF => ?_)
  refine n_q hF hS (q_mul64n rfl rfl (by omega)) rfl (fun a hF => ?_)
  refine n_q hF hS (q_move rfl) rfl (fun a hF => ?_)
  refine n_q hF hS (q_add64n rfl rfl (by have := M.2.2.2; omega)) rfl (fun a hF => ?_)
  refine n_q hF hS (q_move rfl) rfl (fun a hF => ?_)
  refine n_q hF hS (q_shrC (m := 4294967296) rfl rfl (by decide) rfl) rfl (fun a hF => ?_)
  refine n_q hF hS (q_add64n rfl rfl (by have := M.2.2.2; omega)) rfl (fun a hF => ?_)
  refine n_q hF hS (q_assign rfl) rfl (fun a hF => ?_)
  refine hK11 _ _ ?_
  refine c_seq (fun K12 hK12 => ?_)
  refine c_reg ?_
  refine n_q hF hS (q_move rfl) rfl (fun a hF => ?_)
  refine n_q hF hS (q_move rfl) rfl (fun a hF => ?_)
  refine n_q hF hS (q_mul64 rfl rfl) rfl (fun a hF => ?_)
  refine n_q hF hS (q_assign rfl) rfl (fun a hF => ?_)
  refine hK12 _ _ ?_
  refine c_ret ?_
  repeat (first | refine ret_then ?_ | refine ret_blk ?_)
  refine c_ret' (P := Tryd.prog) (fn := Tryd.f123) rfl hF hS (.tmp rfl (.tmp rfl .nil)) ⟨_, rfl, ?_⟩
  exact ⟨by show Value.tuple _ = _; simp only [M.2.2.2], hS.same⟩

theorem RotateLeft32_c (x k : Nat) (j : Int) (hx : x < 4294967296) (hk : 1 ≤ k ∧ k ≤ 31) (hj : j = -(k : Int)) (w : World) (H : Froz) (hz : Fz H w) : CallsR Tryd.prog 117 [.int .u32 (x : Int), .int .i64 j] w fun v w' => v = .int .u32 ((rotr x k : Nat) : Int) ∧ St ⟨w, H, []⟩ H [] w' := by
  refine calls_start Tryd.func117 rfl Tryd.ntmps117 rfl (fun a hF => ?_)
  have hS := St.start w H hz
  have hS0 := hS
  subst hj
  refine c_seq (fun K1 hK1 => ?_)
  refine c_reg ?_
  refine n_q hF hS (q_assign rfl) rfl (fun a hF => ?_)
  refine hK1 _ _ ?_
  refine c_seq (fun K2 hK2 => ?_)
  refine c_reg ?_
  refine n_q hF hS (q_move rfl) rfl (fun a hF => ?_)
  refine n_q hF hS (q_cv (r := ((18446744073709551616 - k : Nat) : Int)) Tryd.underlying3 Tryd.underlying178 rfl (wrap_neg hk)) rfl (fun a hF => ?_)
  refine n_q hF hS (q_and_eq (m := 18446744073709551616) (r := 32 - k) rfl rfl rfl rfl (by omega) (by decide) (and31 hk)) rfl (fun a hF => ?_)
  refine n_q hF hS (q_assign rfl) rfl (fun a hF => ?_)
  refine hK2 _ _ ?_
  refine c_seq (fun K3 hK3 => ?_)
  refine c_reg ?_
  refine n_q hF hS (q_move rfl) rfl (fun a hF => ?_)
  refine n_q hF hS (q_move rfl) rfl (fun a hF => ?_)
  refine n_q hF hS (q_shl (k := .u32) (m := 4294967296) rfl rfl rfl rfl (show 32 - k ≤ 32 by omega)) rfl (fun a hF => ?_)
  refine n_q hF hS (q_move rfl) rfl (fun a hF => ?_)
  refine n_q hF hS (q_move rfl) rfl (fun a hF => ?_)
  refine n_q hF hS (q_sub64n (a := 32) rfl rfl (by decide) (by omega)) rfl (fun a hF => ?_)
  refine n_q hF hS (q_shr rfl rfl (show 32 - (32 - k) ≤ 32 by omega)) rfl (fun a hF => ?_)
  refine n_q hF hS (q_or (m := 4294967296) rfl rfl rfl rfl (Nat.mod_lt _ (by decide)) (Nat.lt_of_le_of_lt (Nat.div_le_self _ _) hx)) rfl (fun a hF => ?_)
  refine n_q hF hS (q_assign rfl) rfl (fun a hF => ?_)
  refine hK3 _ _ ?_
  refine c_ret ?_
  repeat (first | refine ret_then ?_ | refine ret_blk ?_)
  refine c_ret' (P := Tryd.prog) (fn := Tryd.f117) rfl hF hS (.tmp rfl .nil) ⟨_, rfl, ?_⟩
  exact ⟨by show Value.int _ _ = _; unfold rotr; rw [show 32 - (32 - k) = k by omega], hS.same⟩
end Go.Proofs.YtneokajhmonpaaaDoor


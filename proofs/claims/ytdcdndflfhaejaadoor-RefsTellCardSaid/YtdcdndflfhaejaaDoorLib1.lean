/- A small typed program logic over the given model: states, contracts, rules of control. No condition: general lemmas. -/
import Derived.WalkKit
namespace Go.Sy

theorem prefix_get {α : Type} {l l' : List α} (h : l <+: l') {i : Nat} (hi : i < l.length) : l'[i]? = l[i]? := by
  obtain ⟨t, rfl⟩ := h
  exact List.getElem?_append_left hi

/-- Memory that no longer turns: of each block the cells that are laid for good, from its head on. -/
abbrev Frz := Nat → Option (List Value)

def Frz.le (S S' : Frz) : Prop := ∀ b cs, S b = some cs → ∃ cs', S' b = some cs' ∧ cs <+: cs'
theorem Frz.le_refl (S : Frz) : S.le S := fun _ cs h => ⟨cs, h, List.prefix_refl _⟩
theorem Frz.le_trans {A B C : Frz} (h : A.le B) (k : B.le C) : A.le C := fun b cs hb => by
  obtain ⟨c1, h1, p1⟩ := h b cs hb
  obtain ⟨c2, h2, p2⟩ := k b c1 h1
  exact ⟨c2, h2, p1.trans p2⟩

def Frz.sub (S : Frz) (w : World) : Prop := ∀ b cs, S b = some cs → ∃ c T fr, w.heap[b]? = some (.cells c T fr) ∧ cs <+: c.toList

/-- The cells that lie from an address on. -/
def Frz.has (S : Frz) (a : Addr) (cs : List Value) : Prop :=
  a.spot = none ∧ ∃ c, S a.block = some c ∧ ∀ i v, cs[i]? = some v → c[a.off + i]? = some v

theorem Frz.has_mono {S S' : Frz} {a : Addr} {cs : List Value} (h : S.le S') (k : S.has a cs) : S'.has a cs := by
  obtain ⟨hs, c, hc, hv⟩ := k
  obtain ⟨c', hc', hp⟩ := h _ _ hc
  refine ⟨hs, c', hc', fun i v hi => ?_⟩
  have h1 := hv i v hi
  have hlt : a.off + i < c.length := (List.getElem?_eq_some_iff.1 h1).1
  rw [← h1]
  exact prefix_get hp hlt

theorem Frz.has_cell {S : Frz} {w : World} {a : Addr} {cs : List Value} (hs : S.sub w) (k : S.has a cs) {i : Nat} {v : Value} (hi : cs[i]? = some v) :
    w.cell? (a.add i) = some v := by
  obtain ⟨hsp, c, hc, hv⟩ := k
  obtain ⟨c', T, fr, hh, hp⟩ := hs _ _ hc
  have h1 := hv i v hi
  have hlt : a.off + i < c.length := (List.getElem?_eq_some_iff.1 h1).1
  have h2 : c'.toList[a.off + i]? = some v := by
    rw [← h1]; exact prefix_get hp hlt
  have hadd : (a.add i).block = a.block ∧ (a.add i).off = a.off + i ∧ (a.add i).spot = none := by
    unfold Addr.add; split
    · rename_i h0; subst h0; exact ⟨rfl, rfl, hsp⟩
    · exact ⟨rfl, rfl, rfl⟩
  unfold World.cell?
  rw [hadd.1, hh]
  simp only [hadd.2.2, hadd.2.1]
  simpa using h2

theorem Frz.has_sub {S : Frz} {a : Addr} {cs : List Value} (k : S.has a cs) (o : Nat) : S.has (a.add o) (cs.drop o) := by
  obtain ⟨hsp, c, hc, hv⟩ := k
  have hadd : (a.add o).block = a.block ∧ (a.add o).off = a.off + o ∧ (a.add o).spot = none := by
    unfold Addr.add; split
    · rename_i h0; subst h0; exact ⟨rfl, rfl, hsp⟩
    · exact ⟨rfl, rfl, rfl⟩
  refine ⟨hadd.2.2, c, by rw [hadd.1]; exact hc, fun i v hi => ?_⟩
  rw [hadd.2.1, Nat.add_assoc]
  exact hv _ _ (by rw [List.getElem?_drop] at hi; exact hi)

theorem Frz.has_take {S : Frz} {a : Addr} {cs : List Value} (k : S.has a cs) (n : Nat) : S.has a (cs.take n) := by
  obtain ⟨hsp, c, hc, hv⟩ := k
  refine ⟨hsp, c, hc, fun i v hi => hv i v ?_⟩
  rw [List.getElem?_take] at hi
  split at hi
  · exact hi
  · cases hi

/-- What a value is, said of memory that no longer turns. -/
structure VP where
  p : Frz → Value → Prop
  mono : ∀ {S S' : Frz} {v : Value}, S.le S' → p S v → p S' v

/-- What an owned block is. -/
structure HP where
  p : Nat → Frz → Obj → Prop
  mono : ∀ {S S' : Frz} {b : Nat} {o : Obj}, S.le S' → S' b = S b → p b S o → p b S' o

structure Ent where
  k : Option Nat
  φ : HP

def Ent.sat (e : Ent) (S : Frz) (w : World) : Prop :=
  match e.k with
  | none => True
  | some b => ∃ o, w.heap[b]? = some o ∧ e.φ.p b S o

abbrev Slots := List (Nat × VP)

def look : Slots → Nat → Option VP
  | [], _ => none
  | (k, R) :: r, i => bif Nat.beq k i then some R else look r i

structure St where
  Γ : Slots
  H : List Ent

structure Keep (M : List Nat) (w w' : World) : Prop where
  os : w'.os = w.os
  tape : w'.tape = w.tape
  output : w'.output = w.output
  size : w.heap.size ≤ w'.heap.size
  block : ∀ k, k < w.heap.size → k ∉ M → w'.heap[k]? = w.heap[k]?

theorem Keep.refl (M : List Nat) (w : World) : Keep M w w := ⟨rfl, rfl, rfl, Nat.le_refl _, fun _ _ _ => rfl⟩
theorem Keep.trans {M : List Nat} {a b c : World} (h : Keep M a b) (k : Keep M b c) : Keep M a c :=
  ⟨k.os.trans h.os, k.tape.trans h.tape, k.output.trans h.output, Nat.le_trans h.size k.size, fun i hi hm => (k.block i (Nat.lt_of_lt_of_le hi h.size) hm).trans (h.block i hi hm)⟩
theorem Keep.below {w w' : World} (h : Keep [] w w') : RowKit.Below w.heap.size w w' := ⟨h.os, h.tape, h.output, h.size, fun k hk => h.block k hk (by simp)⟩
/-- A change of blocks that are new, or in M. -/
theorem Keep.then {M N : List Nat} {a b c : World} (h : Keep M a b) (k : Keep N b c) (hN : ∀ n, n ∈ N → n ∈ M ∨ a.heap.size ≤ n) : Keep M a c :=
  ⟨k.os.trans h.os, k.tape.trans h.tape, k.output.trans h.output, Nat.le_trans h.size k.size, fun i hi hm => (k.block i (Nat.lt_of_lt_of_le hi h.size) (fun hn => by
    rcases hN i hn with h1 | h1
    · exact hm h1
    · omega)).trans (h.block i hi hm)⟩

structure Grow (M : List Nat) (w : World) (S S' : Frz) : Prop where
  le : S.le S'
  old : ∀ b, b < w.heap.size → b ∉ M → S' b = S b

theorem Grow.refl (M : List Nat) (w : World) (S : Frz) : Grow M w S S := ⟨S.le_refl, fun _ _ _ => rfl⟩
theorem Grow.then {M N : List Nat} {a b : World} {A B C : Frz} (h : Grow M a A B) (k : Grow N b B C) (hs : a.heap.size ≤ b.heap.size) (hN : ∀ n, n ∈ N → n ∈ M ∨ a.heap.size ≤ n) : Grow M a A C :=
  ⟨Frz.le_trans h.le k.le, fun i hi hm => (k.old i (Nat.lt_of_lt_of_le hi hs) (fun hn => by
    rcases hN i hn with h1 | h1
    · exact hm h1
    · omega)).trans (h.old i hi hm)⟩

structure Ctx where
  P : Program
  n : Nat
  w0 : World
  S0 : Frz
  M : List Nat
  /-- Blocks that nothing turns for a while. -/
  pin : List (Nat × Obj)

def keys (H : List Ent) : List Nat := H.filterMap (·.k)

/-- The owned blocks hold what is said, no two of them are one, and each is new or lent. -/
structure Owns (M : List Nat) (B : Nat) (H : List Ent) (S : Frz) (w : World) : Prop where
  sat : ∀ e ∈ H, e.sat S w
  nodup : (keys H).Nodup
  own : ∀ b ∈ keys H, b ∈ M ∨ B ≤ b

structure Models (c : Ctx) (σ : St) (S : Frz) (a : Act) (w : World) : Prop where
  size : a.tmps.size = c.n
  dfr : a.defers = []
  sub : S.sub w
  keep : Keep c.M c.w0 w
  grow : Grow c.M c.w0 c.S0 S
  env : ∀ i R, look σ.Γ i = some R → ∃ v, a.tmps[i]? = some v ∧ R.p S v
  owns : Owns c.M c.w0.heap.size σ.H S w
  pins : ∀ x ∈ c.pin, w.heap[x.1]? = some x.2 ∧ S x.1 = none ∧ x.1 ∉ keys σ.H ∧ (x.1 ∈ c.M ∨ c.w0.heap.size ≤ x.1)

/-- The code from a state on. -/
def Wp (c : Ctx) (code : Code) (σ : St) (Q : Exit → Act → World → Prop) : Prop :=
  ∀ S a w, Models c σ S a w → code.wp c.P Q a w

/-- Behind the code. -/
def Fin (c : Ctx) (σ : St) (Q : Exit → Act → World → Prop) : Prop := ∀ S a w, Models c σ S a w → Q .normal a w
def Exi (c : Ctx) (id : Nat) (σ : St) (Q : Exit → Act → World → Prop) : Prop := ∀ S a w, Models c σ S a w → Q (.exit id) a w
def Ret (c : Ctx) (σ : St) (Q : Exit → Act → World → Prop) : Prop := ∀ S a w, Models c σ S a w → Q .ret a w

def nxt (c : Ctx) (code : Code) (Q : Exit → Act → World → Prop) : Exit → Act → World → Prop := Exit.then (fun a w => code.wp c.P Q a w) Q

section control
variable {c : Ctx} {σ : St} {Q : Exit → Act → World → Prop}

theorem w_seq {x y : Code} (h : Wp c x σ (nxt c y Q)) : Wp c (.seq x y) σ Q := fun S a w m => wp_seq (h S a w m)
theorem w_skip (h : Fin c σ Q) : Wp c .skip σ Q := fun S a w m => wp_skip (h S a w m)
theorem w_exit {id : Nat} (h : Exi c id σ Q) : Wp c (.exit id) σ Q := fun S a w m => wp_exit (h S a w m)
theorem w_ret (h : Ret c σ Q) : Wp c .ret σ Q := fun S a w m => wp_ret (h S a w m)
theorem w_block {id : Nat} {x : Code} (h : Wp c x σ (Exit.inBlock id Q)) : Wp c (.block id x) σ Q := fun S a w m => wp_block (h S a w m)

theorem fin_nxt {y : Code} (h : Wp c y σ Q) : Fin c σ (nxt c y Q) := fun S a w m => h S a w m
theorem fin_block {id : Nat} (h : Fin c σ Q) : Fin c σ (Exit.inBlock id Q) := fun S a w m => h S a w m
theorem exi_nxt {id : Nat} {y : Code} (h : Exi c id σ Q) : Exi c id σ (nxt c y Q) := fun S a w m => h S a w m
theorem exi_block {id : Nat} (h : Fin c σ Q) : Exi c id σ (Exit.inBlock id Q) := fun S a w m => by
  show (if id = id then Q .normal a w else Q (.exit id) a w)
  rw [if_pos rfl]; exact h S a w m
theorem exi_pass {id id' : Nat} (hne : Nat.beq id id' = false) (h : Exi c id σ Q) : Exi c id σ (Exit.inBlock id' Q) := fun S a w m => by
  show (if id = id' then Q .normal a w else Q (.exit id) a w)
  rw [if_neg (by intro e; subst e; simp at hne)]; exact h S a w m
theorem ret_nxt {y : Code} (h : Ret c σ Q) : Ret c σ (nxt c y Q) := fun S a w m => h S a w m
theorem ret_block {id : Nat} (h : Ret c σ Q) : Ret c σ (Exit.inBlock id Q) := fun S a w m => h S a w m

end control

end Go.Sy

/- The rules of memory: blocks, pointers, calls. No condition: general lemmas. -/
import Derived.Test.YtdcdndflfhaejaaDoorLib3
namespace Go.Sy

/-- One owned block out of them. -/
inductive Pick (e : Ent) : List Ent → List Ent → Prop
  | here {H : List Ent} : Pick e (e :: H) H
  | there {x : Ent} {H H' : List Ent} : Pick e H H' → Pick e (x :: H) (x :: H')
inductive Takes : List Ent → List Ent → List Ent → Prop
  | nil {H : List Ent} : Takes H [] H
  | cons {e : Ent} {H H1 Hc Hr : List Ent} : Pick e H H1 → Takes H1 Hc Hr → Takes H (e :: Hc) Hr

theorem Pick.perm {e : Ent} {H H' : List Ent} (h : Pick e H H') : H.Perm (e :: H') := by
  induction h with
  | here => exact List.Perm.refl _
  | there _ ih => exact (List.Perm.cons _ ih).trans (List.Perm.swap _ _ _)
theorem Takes.perm {H Hc Hr : List Ent} (h : Takes H Hc Hr) : H.Perm (Hc ++ Hr) := by
  induction h with
  | nil => exact List.Perm.refl _
  | cons p _ ih => exact p.perm.trans (List.Perm.cons _ ih)

theorem keys_append (H H' : List Ent) : keys (H ++ H') = keys H ++ keys H' := List.filterMap_append ..
theorem keys_perm {H H' : List Ent} (h : H.Perm H') : (keys H).Perm (keys H') := h.filterMap _
theorem mem_keys {H : List Ent} {b : Nat} : b ∈ keys H ↔ ∃ e ∈ H, e.k = some b := by simp [keys, List.mem_filterMap]

/-- One step of the world: blocks of N, and new ones, have turned. -/
structure Step (N : List Nat) (S S' : Frz) (w w' : World) : Prop where
  keep : Keep N w w'
  grow : Grow N w S S'
  sub : S'.sub w'

theorem Ent.sat_lt {e : Ent} {S : Frz} {w : World} {b : Nat} (h : e.sat S w) (hk : e.k = some b) : b < w.heap.size := by
  unfold Ent.sat at h
  rw [hk] at h
  obtain ⟨o, ho, _⟩ := h
  exact (Array.getElem?_eq_some_iff.1 ho).1

theorem Ent.sat_step {e : Ent} {N : List Nat} {S S' : Frz} {w w' : World} (h : e.sat S w) (hs : Step N S S' w w') (hn : ∀ b, e.k = some b → b ∉ N) : e.sat S' w' := by
  have hlt := fun b hk => Ent.sat_lt (b := b) h hk
  unfold Ent.sat at *
  cases hk : e.k with
  | none => simp only
  | some b =>
    rw [hk] at h
    obtain ⟨o, ho, hp⟩ := h
    have hb := hlt b hk
    exact ⟨o, by rw [hs.keep.block b hb (hn b hk)]; exact ho, e.φ.mono hs.grow.le (hs.grow.old b hb (hn b hk)) hp⟩

theorem Models.step {c : Ctx} {σ : St} {S S' : Frz} {a : Act} {w w' : World} (m : Models c σ S a w) {Hc Hr H' : List Ent} (ht : Takes σ.H Hc Hr)
    (hs : Step (keys Hc) S S' w w') (ho : Owns (keys Hc) w.heap.size H' S' w') : Models c ⟨σ.Γ, H' ++ Hr⟩ S' a w' := by
  have hp := ht.perm
  have hkp := keys_perm hp
  rw [keys_append] at hkp
  have hnd := hkp.nodup_iff.1 m.owns.nodup
  have hN : ∀ n, n ∈ keys Hc → n ∈ c.M ∨ c.w0.heap.size ≤ n := fun n hn => m.owns.own n (hkp.mem_iff.2 (List.mem_append_left _ hn))
  have hdis : ∀ b, b ∈ keys Hr → b ∉ keys Hc := fun b hb hc => (List.nodup_append.1 hnd).2.2 b hc b hb rfl
  have hrlt : ∀ b, b ∈ keys Hr → b < w.heap.size := fun b hb => by
    obtain ⟨e, he, hk⟩ := mem_keys.1 hb
    exact Ent.sat_lt (m.owns.sat e (hp.mem_iff.2 (List.mem_append_right _ he))) hk
  refine ⟨m.size, m.dfr, hs.sub, m.keep.then hs.keep hN, m.grow.then hs.grow m.keep.size hN, fun i R hi => ?_, ⟨fun e he => ?_, ?_, fun b hb => ?_⟩, fun x hx => ?_⟩
  · obtain ⟨v, hv, hr⟩ := m.env i R hi
    exact ⟨v, hv, R.mono hs.grow.le hr⟩
  · rcases List.mem_append.1 he with h1 | h1
    · exact ho.sat e h1
    · exact Ent.sat_step (m.owns.sat e (hp.mem_iff.2 (List.mem_append_right _ h1))) hs fun b hk => hdis b (mem_keys.2 ⟨e, h1, hk⟩)
  · rw [keys_append]
    refine List.nodup_append.2 ⟨ho.nodup, (List.nodup_append.1 hnd).2.1, fun x hx y hy hxy => ?_⟩
    subst hxy
    rcases ho.own x hx with h1 | h1
    · exact hdis x hy h1
    · have := hrlt x hy; omega
  · rw [keys_append] at hb
    rcases List.mem_append.1 hb with h1 | h1
    · rcases ho.own b h1 with h2 | h2
      · exact hN b h2
      · right; exact Nat.le_trans m.keep.size h2
    · exact m.owns.own b (hkp.mem_iff.2 (List.mem_append_right _ h1))
  · obtain ⟨h1, h2, h3, h4⟩ := m.pins x hx
    have hlt : x.1 < w.heap.size := (Array.getElem?_eq_some_iff.1 h1).1
    have hnc : x.1 ∉ keys Hc := fun h => h3 (hkp.mem_iff.2 (List.mem_append_left _ h))
    refine ⟨by rw [hs.keep.block _ hlt hnc]; exact h1, by rw [hs.grow.old _ hlt hnc]; exact h2, fun h => ?_, h4⟩
    rw [keys_append] at h
    rcases List.mem_append.1 h with h | h
    · rcases ho.own _ h with h5 | h5
      · exact hnc h5
      · omega
    · exact h3 (hkp.mem_iff.2 (List.mem_append_right _ h))

theorem sub_fresh {S : Frz} {w : World} (h : S.sub w) : S w.heap.size = none := by
  cases hs : S w.heap.size with
  | none => rfl
  | some cs =>
    obtain ⟨c, T, fr, hh, _⟩ := h _ _ hs
    have := (Array.getElem?_eq_some_iff.1 hh).1
    omega

/-- A new block. -/
theorem keep_push (N : List Nat) (w : World) (o : Obj) : Keep N w { w with heap := w.heap.push o } :=
  ⟨rfl, rfl, rfl, by simp, fun k hk _ => by simp [Array.getElem?_push]; omega⟩
theorem sub_push {S : Frz} {w : World} (h : S.sub w) (o : Obj) : S.sub { w with heap := w.heap.push o } := fun b cs hb => by
  obtain ⟨c, T, fr, hh, hp⟩ := h b cs hb
  have hlt := (Array.getElem?_eq_some_iff.1 hh).1
  exact ⟨c, T, fr, by simp only [Array.getElem?_push]; rw [if_neg (by omega)]; exact hh, hp⟩
theorem step_push {S : Frz} {w : World} (h : S.sub w) (o : Obj) : Step [] S S w { w with heap := w.heap.push o } :=
  ⟨keep_push _ w o, Grow.refl _ _ _, sub_push h o⟩

/-- Memory that is laid for good. -/
def Frz.put (S : Frz) (b : Nat) (cs : List Value) : Frz := fun k => if k = b then some cs else S k
theorem grow_put {S : Frz} {w : World} (h : S.sub w) (cs : List Value) : Grow [] w S (S.put w.heap.size cs) :=
  ⟨fun b c hb => by
    have hne : b ≠ w.heap.size := by rintro rfl; rw [sub_fresh h] at hb; cases hb
    exact ⟨c, by unfold Frz.put; rw [if_neg hne]; exact hb, List.prefix_refl _⟩, fun b hb _ => by unfold Frz.put; rw [if_neg (by omega)]⟩
theorem step_push_put {S : Frz} {w : World} (h : S.sub w) (c : Array Value) (T : TypeId) (fr : Nat × Nat) (cs : List Value) (hp : cs <+: c.toList) :
    Step [] S (S.put w.heap.size cs) w { w with heap := w.heap.push (.cells c T fr) } :=
  ⟨keep_push _ w _, grow_put h cs, fun b d hb => by
    unfold Frz.put at hb
    split at hb
    · cases hb
      rename_i e; subst e
      exact ⟨c, T, fr, by simp, hp⟩
    · exact sub_push h _ b d hb⟩

/-- A variable's block. -/
def boxE {α : Type} [Rep α] (b : Nat) (x : α) : Ent where
  k := some b
  φ := { p := fun b S o => S b = none ∧ ∃ cs T, o = .cells cs T (0, 0) ∧ Rep.rd S cs.toList x
         mono := fun h hb ⟨h1, cs, T, e, h2⟩ => ⟨hb ▸ h1, cs, T, e, Rep.mono h h2⟩ }

theorem owns_nil (M : List Nat) (B : Nat) (S : Frz) (w : World) : Owns M B [] S w := ⟨fun _ h => (by cases h), List.nodup_nil, fun _ h => (by cases h)⟩
theorem owns_one {M : List Nat} {B : Nat} {e : Ent} {S : Frz} {w : World} (hs : e.sat S w) (hb : ∀ b, e.k = some b → b ∈ M ∨ B ≤ b) : Owns M B [e] S w := by
  refine ⟨fun x hx => ?_, ?_, fun b hk => ?_⟩
  · simp at hx; subst hx; exact hs
  · cases hk : e.k <;> simp [keys, hk]
  · cases hk' : e.k with
    | none => simp [keys, hk'] at hk
    | some b' => simp [keys, hk'] at hk; subst hk; exact hb b hk'

/-! ### What the tables say of a type -/

def TyB (P : Program) (T : TypeId) (n : Nat) (agg : Bool) : Bool :=
  ((P.info? T).map (·.size) == some n) && (match P.underlying T with | some (.struct _) | some (.array ..) => agg | some _ => !agg | none => false)

theorem TyB.size {P : Program} {T : TypeId} {n : Nat} {agg : Bool} (h : TyB P T n agg = true) (w : World) : (sizeOf T).run P w = .ok n w := by
  unfold TyB at h
  simp only [Bool.and_eq_true, beq_iff_eq] at h
  cases hi : P.info? T with
  | none => rw [hi] at h; simp at h
  | some i =>
    rw [hi] at h
    simp at h
    simp [sizeOf, typeInfo, hi, h.1]
theorem TyB.isAgg {P : Program} {T : TypeId} {n : Nat} {agg : Bool} (h : TyB P T n agg = true) (w : World) : (isAgg T).run P w = .ok agg w := by
  unfold TyB at h
  simp only [Bool.and_eq_true, beq_iff_eq] at h
  cases hu : P.underlying T with
  | none => rw [hu] at h; simp at h
  | some d =>
    rw [hu] at h
    have h2 := h.2
    cases d <;> simp at h2 <;> simp [Go.isAgg, underlying, hu, h2]

/-- The zero value of a type. -/
def ZeroOk {α : Type} [Rep α] (P : Program) (T : TypeId) (x : α) : Prop := ∃ i z, P.info? T = some i ∧ i.zero = some z ∧ ∀ S, (isv x).p S z
theorem ZeroOk.of {α : Type} [Rep α] {P : Program} {T : TypeId} {x : α} {z : Value} (h : (P.info? T).bind (·.zero) = some z) (hz : ∀ S, (isv x).p S z) : ZeroOk P T x := by
  cases hi : P.info? T with
  | none => rw [hi] at h; cases h
  | some i => rw [hi] at h; exact ⟨i, z, hi, h, hz⟩
theorem ZeroOk.run {α : Type} [Rep α] {P : Program} {T : TypeId} {x : α} (h : ZeroOk P T x) (w : World) : ∃ z, (zeroValue T).run P w = .ok z w ∧ ∀ S, (isv x).p S z := by
  obtain ⟨i, z, hi, hz, hr⟩ := h
  exact ⟨z, by simp [zeroValue, typeInfo, hi, hz], hr⟩

/-- A part of a kind of data: its place, how it is read, how it is laid. -/
structure Fld (α β : Type) [Rep α] [Rep β] where
  off : Nat
  get : α → β
  set : α → β → α
  fits : off + Rep.n β ≤ Rep.n α
  rget : ∀ {S : Frz} {cs : List Value} {x : α}, Rep.rd S cs x → Rep.rd S ((cs.drop off).take (Rep.n β)) (get x)
  rset : ∀ {S : Frz} {cs ds : List Value} {x : α} {y : β}, Rep.rd S cs x → Rep.rd S ds y → Rep.rd S (cs.take off ++ ds ++ cs.drop (off + Rep.n β)) (set x y)

@[reducible] def Fld.id (α : Type) [Rep α] : Fld α α where
  off := 0
  get := fun x => x
  set := fun _ y => y
  fits := by simp
  rget := fun h => by have := Rep.len h; rw [List.drop_zero, List.take_of_length_le (by omega)]; exact h
  rset := fun h k => by have := Rep.len h; rw [List.take_zero, List.nil_append, Nat.zero_add, List.drop_of_length_le (by omega), List.append_nil]; exact k

theorem take_mid {α : Type} (l : List α) (a b n m : Nat) (h : b + m ≤ n) : ((((l.drop a).take n).drop b).take m) = (l.drop (a + b)).take m := by
  rw [List.drop_take, List.drop_drop, List.take_take]
  congr 1
  omega

@[reducible] def Fld.comp {α β γ : Type} [Rep α] [Rep β] [Rep γ] (L : Fld α β) (M : Fld β γ) : Fld α γ where
  off := L.off + M.off
  get := fun x => M.get (L.get x)
  set := fun x z => L.set x (M.set (L.get x) z)
  fits := by have := L.fits; have := M.fits; omega
  rget := fun h => by
    have h1 := M.rget (L.rget h)
    rw [take_mid _ _ _ _ _ M.fits] at h1
    exact h1
  rset := fun {S cs ds x z} h k => by
    have hlen := Rep.len h
    have hd := Rep.len k
    have hL := L.fits
    have hM := M.fits
    have h1 := L.rset h (M.rset (L.rget h) k)
    have e : cs.take L.off ++ (((cs.drop L.off).take (Rep.n β)).take M.off ++ ds ++ ((cs.drop L.off).take (Rep.n β)).drop (M.off + Rep.n γ)) ++ cs.drop (L.off + Rep.n β)
        = cs.take (L.off + M.off) ++ ds ++ cs.drop (L.off + M.off + Rep.n γ) := by
      rw [List.take_take, Nat.min_eq_left (by omega)]
      have e1 : cs.take (L.off + M.off) = cs.take L.off ++ (cs.drop L.off).take M.off := List.take_add
      have e2 : cs.drop (L.off + M.off + Rep.n γ) = ((cs.drop L.off).take (Rep.n β)).drop (M.off + Rep.n γ) ++ cs.drop (L.off + Rep.n β) := by
        have e3 : (cs.drop L.off).drop (M.off + Rep.n γ) = ((cs.drop L.off).take (Rep.n β) ++ (cs.drop L.off).drop (Rep.n β)).drop (M.off + Rep.n γ) := by rw [List.take_append_drop]
        rw [List.drop_drop] at e3
        rw [Nat.add_assoc, e3, List.drop_append_of_le_length (by rw [List.length_take, List.length_drop]; omega), List.drop_drop]
      rw [e1, e2]
      simp only [List.append_assoc]
    rw [e] at h1
    exact h1

/-- A pointer into a block that is owned. -/
def ptrv {α β : Type} [Rep α] [Rep β] (b : Nat) (L : Fld α β) : VP where
  p := fun _ v => v = .pointer (some ⟨b, L.off, none⟩)
  mono := fun _ h => h
/-- A pointer to memory that no longer turns. -/
def immv {α : Type} [Rep α] (x : α) : VP where
  p := fun S v => ∃ a cs, v = .pointer (some a) ∧ S.has a cs ∧ Rep.rd S cs x
  mono := fun h ⟨a, cs, e, h1, h2⟩ => ⟨a, cs, e, Frz.has_mono h h1, Rep.mono h h2⟩

def FldB (P : Program) (T : TypeId) (f off n : Nat) (agg : Bool) : Bool :=
  match P.underlying T with
  | some (.struct fs) => match fs[f]? with
    | some fd => fd.offset == off && n != 0 && TyB P fd.type n agg
    | none => false
  | _ => false

theorem FldB.spec {P : Program} {T : TypeId} {f off n : Nat} {agg : Bool} (h : FldB P T f off n agg = true) :
    ∃ fs fd, P.underlying T = some (.struct fs) ∧ fs[f]? = some fd ∧ fd.offset = off ∧ n ≠ 0 ∧ TyB P fd.type n agg = true := by
  unfold FldB at h
  split at h
  · rename_i fs hu
    split at h
    · rename_i fd hf
      simp only [Bool.and_eq_true, beq_iff_eq, bne_iff_ne] at h
      exact ⟨fs, fd, hu, hf, h.1.1, h.1.2, h.2⟩
    · cases h
  · cases h

theorem add_none (b o n : Nat) : (⟨b, o, none⟩ : Addr).add n = ⟨b, o + n, none⟩ := by unfold Addr.add; split <;> simp_all

section ops
variable {c : Ctx} {d : Option Nat} {ty : TypeId} {pos : String} {af : Array Edge} {g : Option (Nat × Bool)} {σ : St}

theorem run_fieldAt {P : Program} {T : TypeId} {f off n : Nat} {agg : Bool} (h : FldB P T f off n agg = true) (a : Addr) (w : World) :
    (Instr.fieldAt T (.pointer (some a)) f).run P w = .ok (.pointer (some (a.add off))) w := by
  obtain ⟨fs, fd, h1, h2, h3, h4, h5⟩ := FldB.spec h
  simp [Instr.fieldAt, underlying, h1, h2, Instr.sureAddr, fieldPlace, TyB.size h5, h4, h3]

theorem v_fieldAddr {α β γ : Type} [Rep α] [Rep β] [Rep γ] {b : Nat} {L : Fld α β} {x : Operand} {T f : Nat} (M : Fld β γ) (hf : FldB c.P T f M.off (Rep.n γ) (Rep.agg γ) = true)
    (hx : opnd σ.Γ x = some (ptrv b L)) : OpV c ⟨d, .fieldAddr T x f, ty, pos, af, g⟩ σ (ptrv b (L.comp M)) := fun S a w m => by
  have h1 : a.eval x = .pointer (some ⟨b, L.off, none⟩) := opnd_sound m hx
  exact ⟨.pointer (some ⟨b, L.off + M.off, none⟩), rfl, fun w' _ => by simp [execOp, h1, run_fieldAt hf, add_none]⟩

theorem v_fieldAddrI {β γ : Type} [Rep β] [Rep γ] {y : β} {x : Operand} {T f : Nat} (M : Fld β γ) (hf : FldB c.P T f M.off (Rep.n γ) (Rep.agg γ) = true)
    (hx : opnd σ.Γ x = some (immv y)) : OpV c ⟨d, .fieldAddr T x f, ty, pos, af, g⟩ σ (immv (M.get y)) := fun S a w m => by
  obtain ⟨ad, cs, h1, h2, h3⟩ := opnd_sound m hx
  exact ⟨.pointer (some (ad.add M.off)), ⟨_, _, rfl, Frz.has_take (Frz.has_sub h2 M.off) (Rep.n γ), M.rget h3⟩, fun w' _ => by simp [execOp, h1, run_fieldAt hf]⟩

theorem run_loadVar {α : Type} [Rep α] {P : Program} {T : TypeId} (ht : TyB P T (Rep.n α) (Rep.agg α) = true) {S : Frz} {x : α} {ad : Addr} {cs : List Value} (h : Rep.rd S cs x) :
    ∃ v, (isv x).p S v ∧ ∀ w : World, (∀ i u, cs[i]? = some u → w.cell? (ad.add i) = some u) → (loadVar T ad).run P w = .ok v w := by
  cases ha : Rep.agg α with
  | true =>
    refine ⟨.agg cs.toArray, isv_of_agg ha (by simpa using h), fun w hw => ?_⟩
    have hl := run_loadCells_list (P := P) w ad cs hw
    rw [Rep.len h] at hl
    simp [loadVar, TyB.isAgg ht, TyB.size ht, ha, hl]
  | false =>
    have hlen := Rep.len h
    rw [Rep.one ha] at hlen
    obtain ⟨u, rfl⟩ := List.length_eq_one_iff.1 hlen
    refine ⟨u, isv_of_plain ha h, fun w hw => ?_⟩
    have h0 := hw 0 u rfl
    have : ad.add 0 = ad := rfl
    rw [this] at h0
    simp [loadVar, TyB.isAgg ht, ha, h0]

theorem v_loadI {α : Type} [Rep α] {y : α} {x : Operand} {T : TypeId} (ht : TyB c.P T (Rep.n α) (Rep.agg α) = true) (hx : opnd σ.Γ x = some (immv y)) :
    OpV c ⟨d, .load T x, ty, pos, af, g⟩ σ (isv y) := fun S a w m => by
  obtain ⟨ad, cs, h1, h2, h3⟩ := opnd_sound m hx
  obtain ⟨v, hv, hr⟩ := run_loadVar (ad := ad) ht h3
  exact ⟨v, hv, fun w' hs => by simp [execOp, h1, Instr.loadAt, Instr.sureAddr, hr w' fun i u hi => Frz.has_cell hs.1 h2 hi]⟩

theorem v_nilCheck {α β : Type} [Rep α] [Rep β] {b : Nat} {L : Fld α β} {x : Operand} (hx : opnd σ.Γ x = some (ptrv b L)) : OpV c ⟨d, .nilCheck x, ty, pos, af, g⟩ σ (ptrv b L) := fun S a w m => by
  have h1 : a.eval x = .pointer (some ⟨b, L.off, none⟩) := opnd_sound m hx
  exact ⟨_, rfl, fun w' _ => by simp [execOp, h1]⟩
theorem v_nilCheckI {α : Type} [Rep α] {y : α} {x : Operand} (hx : opnd σ.Γ x = some (immv y)) : OpV c ⟨d, .nilCheck x, ty, pos, af, g⟩ σ (immv y) := fun S a w m => by
  obtain ⟨ad, cs, h1, h2⟩ := opnd_sound m hx
  exact ⟨_, ⟨ad, cs, rfl, h2⟩, fun w' _ => by simp [execOp, h1]⟩

theorem Owns.get {M : List Nat} {B : Nat} {H H' : List Ent} {e : Ent} {S : Frz} {w : World} (h : Owns M B H S w) (p : Pick e H H') : e.sat S w := h.sat e (p.perm.mem_iff.2 (by simp))

/-- A load out of an owned block. -/
theorem t_load {Γ : Slots} {H : List Ent} {α β : Type} [Rep α] [Rep β] {b : Nat} {L : Fld α β} {y : α} {x : Operand} {T : TypeId} {dd : Nat} {K : St → Prop} {Hr : List Ent} (ht : TyB c.P T (Rep.n β) (Rep.agg β) = true) (hx : opnd Γ x = some (ptrv b L))
    (hp : Pick (boxE b y) H Hr) (k : K ⟨(dd, isv (L.get y)) :: Γ, H⟩) (hd : Nat.blt dd c.n = true := by rfl) :
    OpT c ⟨some dd, .load T x, ty, pos, af, g⟩ ⟨Γ, H⟩ K := by
  intro S a w next Q m hn
  have h1 : a.eval x = .pointer (some ⟨b, L.off, none⟩) := opnd_sound m hx
  have hs : (boxE b y).sat S w := m.owns.get hp
  obtain ⟨o, ho, hnone, cs, T', e, hr⟩ := hs
  subst e
  obtain ⟨v, hv, hrun⟩ := run_loadVar (ad := ⟨b, L.off, none⟩) ht (L.rget hr)
  unfold Oper.wp
  have : (execOp a.eval ⟨some dd, .load T x, ty, pos, af, g⟩).run c.P w = .ok (.value v) w := by
    simp only [execOp, h1, Instr.loadAt, Instr.sureAddr]
    have h2 := hrun w fun i u hi => by
      rw [add_none]
      unfold World.cell?
      rw [ho]
      simp only
      rw [List.getElem?_take] at hi
      split at hi
      · rw [List.getElem?_drop] at hi
        simpa using hi
      · cases hi
    simp [h2]
  rw [this]
  exact hn _ _ _ _ (Frz.le_refl _) k (m.put hd hv)

theorem t_box {Γ : Slots} {H : List Ent} {α : Type} [Rep α] {y : α} {x : Operand} {T : TypeId} {dd : Nat} {K : St → Prop} (hx : opnd Γ x = some (isv y))
    (k : ∀ b, K ⟨(dd, ptrv b (Fld.id α)) :: Γ, boxE b y :: H⟩) (hd : Nat.blt dd c.n = true := by rfl) :
    OpT c ⟨some dd, .box T x, ty, pos, af, g⟩ ⟨Γ, H⟩ K := by
  intro S a w next Q m hn
  have h1 := opnd_sound m hx
  unfold Oper.wp
  have : (execOp a.eval ⟨some dd, .box T x, ty, pos, af, g⟩).run c.P w = .ok (.value (.pointer (some ⟨w.heap.size, 0, none⟩))) { w with heap := w.heap.push (.cells (a.eval x).cells T (0, 0)) } := by
    simp [execOp, Instr.box, newVar, newRow, newObj, Sem.run]
  rw [this]
  have m1 := m.step (Hc := []) (H' := [boxE w.heap.size y]) .nil (step_push m.sub (.cells (a.eval x).cells T (0, 0)))
    (owns_one ⟨.cells (a.eval x).cells T (0, 0), by simp, sub_fresh m.sub, _, T, rfl, h1.2⟩ fun b hb => by simp [boxE] at hb; subst hb; exact .inr (Nat.le_refl _))
  exact hn _ _ _ _ (Frz.le_refl _) (k w.heap.size) (m1.put hd rfl)

theorem t_alloc {Γ : Slots} {H : List Ent} {α : Type} [Rep α] {T : TypeId} (y : α) {dd : Nat} {K : St → Prop} (hz : ZeroOk c.P T y)
    (k : ∀ b, K ⟨(dd, ptrv b (Fld.id α)) :: Γ, boxE b y :: H⟩) (hd : Nat.blt dd c.n = true := by rfl) :
    OpT c ⟨some dd, .alloc T, ty, pos, af, g⟩ ⟨Γ, H⟩ K := by
  intro S a w next Q m hn
  obtain ⟨z, hzr, hzp⟩ := hz.run w
  unfold Oper.wp
  have : (execOp a.eval ⟨some dd, .alloc T, ty, pos, af, g⟩).run c.P w = .ok (.value (.pointer (some ⟨w.heap.size, 0, none⟩))) { w with heap := w.heap.push (.cells z.cells T (0, 0)) } := by
    simp [execOp, Instr.alloc, hzr, newVar, newRow, newObj, Sem.run]
  rw [this]
  have m1 := m.step (Hc := []) (H' := [boxE w.heap.size y]) .nil (step_push m.sub (.cells z.cells T (0, 0)))
    (owns_one ⟨.cells z.cells T (0, 0), by simp, sub_fresh m.sub, _, T, rfl, (hzp S).2⟩ fun b hb => by simp [boxE] at hb; subst hb; exact .inr (Nat.le_refl _))
  exact hn _ _ _ _ (Frz.le_refl _) (k w.heap.size) (m1.put hd rfl)

/-- One owned block is written. -/
theorem step_setRow {S : Frz} {w : World} {b : Nat} {cur cs : Array Value} {T : TypeId} {fr : Nat × Nat} (hs : S.sub w) (hb : S b = none) (hw : w.heap[b]? = some (.cells cur T fr)) :
    Step [b] S S w (w.setRow b cs) ∧ (w.setRow b cs).heap[b]? = some (.cells cs T fr) := by
  have h0 : ∀ k, k ≠ b → (w.setRow b cs).heap[k]? = w.heap[k]? := fun k hk => setRow_other w b k cs hk
  refine ⟨⟨⟨rfl, rfl, rfl, by simp [World.setRow], fun k _ hk => h0 k (by simpa using hk)⟩, Grow.refl _ _ _, fun k d hk => ?_⟩, ?_⟩
  · have hne : k ≠ b := by rintro rfl; rw [hb] at hk; cases hk
    obtain ⟨c, T, fr, hh, hp⟩ := hs k d hk
    exact ⟨c, T, fr, by rw [h0 k hne]; exact hh, hp⟩
  · exact setRow_heap w b cur cs T fr hw

theorem t_store {Γ : Slots} {H : List Ent} {α β : Type} [Rep α] [Rep β] {b : Nat} {L : Fld α β} {y : α} {z : β} {x u : Operand} {T : TypeId} {K : St → Prop} {Hr : List Ent} (ht : TyB c.P T (Rep.n β) (Rep.agg β) = true) (hx : opnd Γ x = some (ptrv b L))
    (hu : opnd Γ u = some (isv z)) (hp : Pick (boxE b y) H Hr) (k : K ⟨Γ, boxE b (L.set y z) :: Hr⟩) :
    OpT c ⟨none, .store T x u, ty, pos, af, g⟩ ⟨Γ, H⟩ K := by
  intro S a w next Q m hn
  have h1 : a.eval x = .pointer (some ⟨b, L.off, none⟩) := opnd_sound m hx
  have h2 := opnd_sound m hu
  have hs : (boxE b y).sat S w := m.owns.get hp
  obtain ⟨o, ho, hnone, cs, T', e, hr⟩ := hs
  subst e
  have hlen : (a.eval u).cells.toList.length = Rep.n β := Rep.len h2.2
  have hfit := L.fits
  have hcs := Rep.len hr
  have hrun := run_storeCells_at (P := c.P) b L.off T' (a.eval u).cells.toList 0 cs w ho (by simp at hlen hcs ⊢; omega) (fun v hv => Rep.cell h2.2 v hv)
  unfold Oper.wp
  have : (execOp a.eval ⟨none, .store T x u, ty, pos, af, g⟩).run c.P w = .ok .skip (w.setRow b (cs.toList.take (L.off + 0) ++ (a.eval u).cells.toList ++ cs.toList.drop (L.off + 0 + (a.eval u).cells.toList.length)).toArray) := by
    have hsz : (a.eval u).cells.size = Rep.n β := by simpa using hlen
    simp only [execOp, h1, Instr.storeAt, Instr.sureAddr, storeVar, Sem.run_bind, Sem.run_pure, Result.andThen_ok, TyB.size ht, hsz, ne_eq, not_true, if_false, Sem.run_ite, hrun]
  rw [this]
  obtain ⟨hst, hh⟩ := step_setRow (cs := (cs.toList.take (L.off + 0) ++ (a.eval u).cells.toList ++ cs.toList.drop (L.off + 0 + (a.eval u).cells.toList.length)).toArray) m.sub hnone ho
  have m1 := m.step (Hc := [boxE b y]) (H' := [boxE b (L.set y z)]) (Takes.cons hp .nil) hst
    (owns_one ⟨_, hh, hnone, _, _, rfl, by
      have := L.rset hr h2.2
      rw [hlen, Nat.add_zero]
      simpa using this⟩ fun b' hb => by simp [boxE] at hb; subst hb; exact .inl (by simp [keys, boxE]))
  exact hn _ _ _ _ (Frz.le_refl _) k m1
end ops

end Go.Sy

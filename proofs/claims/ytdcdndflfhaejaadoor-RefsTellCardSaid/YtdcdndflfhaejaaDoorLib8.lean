/- Lists made at once; lists that are written in place. No condition: general lemmas. -/
import Derived.Test.YtdcdndflfhaejaaDoorLib7
namespace Go.Sy

/-- Operands that read as a list's elements. -/
inductive Elems {α : Type} [Rep α] (Γ : Slots) : Nat → List (Nat × Operand) → List α → Prop
  | nil {k : Nat} : Elems Γ k [] []
  | cons {k : Nat} {o : Operand} {R : VP} {y : α} {parts : List (Nat × Operand)} {l : List α} : opnd Γ o = some R → (∀ S v, R.p S v → (isv y).p S v) → Elems Γ (k + 1) parts l → Elems Γ k ((k, o) :: parts) (y :: l)
theorem Elems.same {α : Type} [Rep α] {Γ : Slots} {k : Nat} {o : Operand} {y : α} {parts : List (Nat × Operand)} {l : List α} (h : opnd Γ o = some (isv y)) (t : Elems Γ (k + 1) parts l) : Elems Γ k ((k, o) :: parts) (y :: l) := .cons h (fun _ _ h => h) t

theorem Elems.fill {α : Type} [Rep α] {a : Act} {S : Frz} {σ : St} {c : Ctx} {w : World} (m : Models c σ S a w) {k : Nat} {parts : List (Nat × Operand)} {l : List α} (h : Elems σ.Γ k parts l) {cells : Array Value} {pre : List Value}
    (hp : cells.toList.take (k * Rep.n α) = pre) (hs : cells.size = (k + l.length) * Rep.n α) :
    ∃ out : Array Value, ∃ cs, Instr.fill (fun i => some (i * Rep.n α, Rep.n α)) cells (parts.map fun p => (p.1, a.eval p.2)) = some out ∧ out.toList = pre ++ cs ∧ cs.length = l.length * Rep.n α ∧ rdL (Rep.rd S) l cs := by
  induction h generalizing cells pre with
  | nil => exact ⟨cells, [], rfl, by rw [List.append_nil, ← hp, List.take_of_length_le (by simp at hs ⊢; omega)], by simp, rfl⟩
  | @cons k o R y parts l ho himp _ ih =>
    have hv := himp _ _ (opnd_sound m ho)
    have hlen := Rep.len hv.2
    have hlen' : (a.eval o).cells.size = Rep.n α := by simpa using hlen
    have hsz : cells.size = k * Rep.n α + Rep.n α + l.length * Rep.n α := by rw [hs, List.length_cons, Nat.add_mul, Nat.add_mul]; omega
    have hfold := fold_set (k * Rep.n α) (a.eval o).cells.toList 0 cells (by rw [hlen]; omega)
    rw [Nat.add_zero, hlen] at hfold
    have hk1 : (k + 1) * Rep.n α = k * Rep.n α + Rep.n α := by rw [Nat.add_mul, Nat.one_mul]
    have hpl : pre.length = k * Rep.n α := by rw [← hp, List.length_take]; simp; omega
    obtain ⟨out, cs, h1, h2, h3, h4⟩ := ih (cells := (cells.toList.take (k * Rep.n α) ++ (a.eval o).cells.toList ++ cells.toList.drop (k * Rep.n α + Rep.n α)).toArray) (pre := pre ++ (a.eval o).cells.toList)
      (by rw [hk1, hp]; simp only; rw [List.take_append_of_le_length (by simp [hpl, hlen'])]; exact List.take_of_length_le (by simp [hpl, hlen']))
      (by rw [Nat.add_mul, hk1]; simp [hlen']; omega)
    refine ⟨out, (a.eval o).cells.toList ++ cs, ?_, by rw [h2, List.append_assoc], by rw [List.length_append, hlen, h3, List.length_cons, Nat.add_mul]; omega, ⟨_, _, rfl, hv.2, h4⟩⟩
    simp only [List.map_cons, Instr.fill]
    rw [if_neg (by simp [hlen']; omega)]
    have e : (a.eval o).cells.zipIdx.foldl (fun cs (x : Value × Nat) => match x with | (c, j) => cs.setIfInBounds (k * Rep.n α + j) c) cells = (cells.toList.take (k * Rep.n α) ++ (a.eval o).cells.toList ++ cells.toList.drop (k * Rep.n α + Rep.n α)).toArray := by
      rw [← hfold, ← Array.foldl_toList, Array.toList_zipIdx]
    rw [e]
    exact h1

/-- A list's block that is owned, and written in place. -/
def arrE {α : Type} [Rep α] (b : Nat) (l : List α) : Ent where
  k := some b
  φ := { p := fun b S o => S b = none ∧ ∃ cs T, o = .cells cs T (0, 0) ∧ rdL (Rep.rd S) l cs.toList
         mono := fun h hb ⟨h1, cs, T, e, h2⟩ => ⟨hb ▸ h1, cs, T, e, rdL_mono (fun _ _ => Rep.mono h) h2⟩ }
/-- So many of its places, from its head on; so many to its end. -/
def arrv (b n cap : Nat) : VP where
  p := fun _ v => v = .slice (some ⟨b, 0, none⟩) n cap
  mono := fun _ h => h
/-- One of its places. -/
def eltv {α : Type} [Rep α] (b i : Nat) (_l : List α) : VP where
  p := fun _ v => v = .pointer (some ⟨b, i * Rep.n α, none⟩)
  mono := fun _ h => h

section ops
variable {c : Ctx} {ty : TypeId} {pos : String} {af : Array Edge} {g : Option (Nat × Bool)} {σ : St}

structure ElB (P : Program) (T : TypeId) (n : Nat) : Prop where
  sl : ∃ e i z, P.underlying T = some (.slice e) ∧ P.info? e = some i ∧ i.size = n ∧ i.bytes ≤ 1024 ∧ i.zero = some z ∧ z.cells.size = n
def elB (P : Program) (T : TypeId) (n : Nat) : Bool :=
  match P.underlying T with
  | some (.slice e) => (match P.info? e with
    | some i => i.size == n && Nat.ble i.bytes 1024 && i.zero.any (·.cells.size == n)
    | none => false)
  | _ => false
theorem ElB.of {P : Program} {T : TypeId} {n : Nat} (h : elB P T n = true) : ElB P T n := by
  unfold elB at h
  constructor
  split at h
  · rename_i e hu
    split at h
    · rename_i i hi
      simp only [Bool.and_eq_true, beq_iff_eq] at h
      obtain ⟨z, hz, hz'⟩ := (Option.any_eq_true _ _).1 h.2
      exact ⟨e, i, z, hu, hi, h.1.1, Nat.le_of_ble_eq_true h.1.2, hz, by simpa using hz'⟩
    · cases h
  · cases h

theorem t_buildSlice {Γ : Slots} {H : List Ent} {α : Type} [Rep α] {T : TypeId} {len : Nat} {parts : Array (Nat × Operand)} {l : List α} {dd : Nat} {K : St → Prop} (hT : elB c.P T (Rep.n α) = true) (he : Elems Γ 0 parts.toList l) (hl : l.length = len) (hmax : (Nat.ble (len * Rep.n α) 16777216 && Nat.ble len 16777216) = true)
    (k : K ⟨(dd, appv none l) :: Γ, H⟩) (hd : Nat.blt dd c.n = true := by rfl) : OpT c ⟨some dd, .buildSlice T len parts, ty, pos, af, g⟩ ⟨Γ, H⟩ K := by
  intro S a w next Q m hn
  obtain ⟨e, i, z, hu, hi, hsz, hby, hz, hzn⟩ := (ElB.of hT).sl
  rw [Bool.and_eq_true] at hmax
  have hmax' := Nat.le_of_ble_eq_true hmax.1
  have hmax2 := Nat.le_of_ble_eq_true hmax.2
  subst hl
  obtain ⟨out, cs, h1, h2, h3, h4⟩ := he.fill m (cells := (Array.range (l.length * Rep.n α)).map (z.cells[· % z.cells.size]!)) (pre := []) (by simp) (by simp)
  rw [List.nil_append] at h2
  have hrun : (execOp a.eval ⟨some dd, .buildSlice T l.length parts, ty, pos, af, g⟩).run c.P w = .ok (.value (.slice (some ⟨w.heap.size, 0, none⟩) l.length l.length)) { w with heap := w.heap.push (.cells out e (0, 0)) } := by
    have e1 : (parts.map fun x => match x with | (i, x) => (i, a.eval x)).toList = parts.toList.map fun p => (p.1, a.eval p.2) := by cases parts; simp
    have hnb : ¬ 2 ^ 24 < l.length * Rep.n α := by omega
    by_cases h0 : l.length * Rep.n α = 0
    · have hz0 : (Array.range 0).map (z.cells[· % z.cells.size]!) = #[] := by simp
      rw [h0, hz0] at h1
      simp only [execOp, Instr.buildSlice, underlying, run_program, Sem.run_bind, hu, Sem.run_pure, Result.andThen_ok, sizeOf, typeInfo, hi, hsz, h0, e1]
      rw [if_neg (by omega)]
      have hz2 : (Array.map (fun _ => (default : Value)) (Array.range 0)) = #[] := by simp
      simp [hz2, h1, newRow, newObj, Sem.run]
    · simp only [execOp, Instr.buildSlice, underlying, run_program, Sem.run_bind, hu, Sem.run_pure, Result.andThen_ok, sizeOf, typeInfo, hi, hsz, Sem.run_ite, gt_iff_lt, hnb, if_false, h0, e1]
      simp [zeroValue, typeInfo, hi, hz, h1, newRow, newObj, Sem.run]
  unfold Oper.wp
  rw [hrun]
  have hst := step_push_put (w := w) m.sub out e (0, 0) cs (by rw [h2]; exact List.prefix_refl _)
  have m1 := m.step (Hc := []) (H' := []) .nil hst (owns_nil _ _ _ _)
  have hml : maxList = 281474976710656 := rfl
  refine hn _ _ _ _ hst.grow.le k (m1.put hd ⟨⟨_, _, rfl, Nat.le_refl _, ?_, ?_⟩, _, rfl⟩)
  · omega
  · exact .inr ⟨_, cs, rfl, ⟨rfl, cs, if_pos rfl, fun j u hj => by simpa using hj⟩, h3, rdL_mono (fun _ _ h => Rep.mono hst.grow.le h) h4⟩

theorem range_mod_flat (z : Array Value) (k : Nat) : ((Array.range (k * z.size)).map (z[· % z.size]!)).toList = (List.replicate k z.toList).flatten := by
  induction k with
  | zero => simp
  | succ k ih =>
    have e : Array.range ((k + 1) * z.size) = Array.range (k * z.size) ++ (Array.range z.size).map (k * z.size + ·) := by
      rw [Nat.add_mul, Nat.one_mul]
      apply Array.ext'
      simp [List.range_add]
    rw [e, Array.map_append, Array.toList_append, ih, List.replicate_succ', List.flatten_append]
    congr 1
    simp only [Array.map_map, Array.toList_map, Array.toList_range, List.flatten_cons, List.flatten_nil, List.append_nil]
    apply List.ext_getElem
    · simp
    · intro j h1 h2
      simp at h1 h2
      simp [Nat.mod_eq_of_lt h1, h1, Nat.mul_comm k]

theorem rdL_replicate {α : Type} {r : List Value → α → Prop} {x : α} {cs : List Value} (h : r cs x) : ∀ k, rdL r (List.replicate k x) ((List.replicate k cs).flatten)
  | 0 => rfl
  | k + 1 => ⟨cs, (List.replicate k cs).flatten, by rw [List.replicate_succ, List.flatten_cons], h, rdL_replicate h k⟩

theorem run_makeSlice {P : Program} {T e : TypeId} {i : TypeInfo} {z : Value} {l k : Int} (hu : P.underlying T = some (.slice e)) (hi : P.info? e = some i) (hz : i.zero = some z) (hzn : z.cells.size = i.size) (hby : i.bytes ≤ 1024)
    (h0 : 0 ≤ l) (h1 : l ≤ k) (h2 : k ≤ 68719476736) (w : World) :
    (Instr.makeSlice T (.int .i64 l) (.int .i64 k)).run P w = .ok (.slice (some ⟨w.heap.size, 0, none⟩) l.toNat k.toNat) { w with heap := w.heap.push (.cells (List.replicate k.toNat z.cells.toList).flatten.toArray e (0, 0)) } := by
  have hroom : ∀ (k : Nat) (w : World), (askRoom k).run P w = .ok () w := fun k w => by unfold askRoom; split <;> rfl
  have hw1 : IntKind.i64.wrap l = l := wrap_i64 (by unfold inI64; omega)
  have hw2 : IntKind.i64.wrap k = k := wrap_i64 (by unfold inI64; omega)
  have hb : ¬ (i.bytes : Int) * k > 2 ^ 48 := by
    have : (i.bytes : Int) * k ≤ 1024 * 68719476736 := Int.mul_le_mul (by omega) h2 (by omega) (by omega)
    omega
  have hk : ¬ k < 0 := by omega
  have hl : ¬ l < 0 := by omega
  have hlk : ¬ l > k := by omega
  have hcells : (Array.range (k.toNat * i.size)).map ((if k.toNat * i.size = 0 then (#[] : Array Value) else z.cells)[· % (if k.toNat * i.size = 0 then (#[] : Array Value) else z.cells).size]!) = (List.replicate k.toNat z.cells.toList).flatten.toArray := by
    apply Array.ext'
    rw [← hzn]
    by_cases hn : k.toNat * z.cells.size = 0
    · rw [if_pos hn, hn]
      have := range_mod_flat z.cells k.toNat
      rw [hn] at this
      rw [← this]; simp
    · rw [if_neg hn]
      simpa using range_mod_flat z.cells k.toNat
  unfold Instr.makeSlice
  simp only [underlying, run_program, Sem.run_bind, hu, Sem.run_pure, Result.andThen_ok, asInt, asIntOf, typeInfo, hi, hw1, hw2, hk, hl, hlk, hb, decide_false, Bool.or_false, Bool.false_eq_true, if_false, hroom, sizeOf]
  by_cases hn : k.toNat * i.size = 0
  · rw [if_pos hn] at hcells ⊢
    have hc2 : Array.map (fun _ => (default : Value)) (Array.range (k.toNat * i.size)) = (List.replicate k.toNat z.cells.toList).flatten.toArray := by rw [← hcells]; rw [hn]; simp
    simp [hc2, newRow, newObj, Sem.run]
  · rw [if_neg hn] at hcells ⊢
    simp [zeroValue, typeInfo, hi, hz, hcells, newRow, newObj, Sem.run]

/-- A list's room, nothing laid yet. -/
theorem t_makeTok {Γ : Slots} {H : List Ent} {α : Type} [Rep α] {x y : Operand} {T : TypeId} {q : Int} {dd : Nat} {K : St → Prop} (hT : elB c.P T (Rep.n α) = true) (hx : opnd Γ x = some (isv (0 : Int))) (hy : opnd Γ y = some (isv q)) (h0 : 0 ≤ q) (h1 : q ≤ 68719476736)
    (k : ∀ t', K ⟨(dd, appv t' ([] : List α)) :: Γ, tokE t' :: H⟩) (hd : Nat.blt dd c.n = true := by rfl) : OpT c ⟨some dd, .makeSlice T x y, ty, pos, af, g⟩ ⟨Γ, H⟩ K := by
  intro S a w next Q m hn
  obtain ⟨e, i, z, hu, hi, hsz, hby, hz, hzn⟩ := (ElB.of hT).sl
  obtain ⟨e1, _⟩ := isv_int.1 (opnd_sound m hx)
  obtain ⟨e2, _⟩ := isv_int.1 (opnd_sound m hy)
  have hrun : (execOp a.eval ⟨some dd, .makeSlice T x y, ty, pos, af, g⟩).run c.P w = .ok (.value (.slice (some ⟨w.heap.size, 0, none⟩) (Int.toNat 0) q.toNat)) { w with heap := w.heap.push (.cells (List.replicate q.toNat z.cells.toList).flatten.toArray e (0, 0)) } := by
    simp only [execOp, Sem.run_bind, e1, e2, run_makeSlice hu hi hz (by rw [hzn, hsz]) hby (Int.le_refl 0) h0 h1 w, Result.andThen_ok, Sem.run_pure]
  unfold Oper.wp
  rw [hrun]
  have hst := step_push_put (w := w) m.sub (List.replicate q.toNat z.cells.toList).flatten.toArray e (0, 0) [] (List.nil_prefix)
  have m1 := m.step (Hc := []) (H' := [tokE (some (w.heap.size, 0, q.toNat * Rep.n α))]) .nil hst
    (owns_one ⟨.cells (List.replicate q.toNat z.cells.toList).flatten.toArray e (0, 0), by simp, [], _, e, if_pos rfl, rfl, rfl, by simp [hzn]⟩ fun b' hb' => by simp [tokE] at hb'; subst hb'; exact .inr (Nat.le_refl _))
  exact hn _ _ _ _ hst.grow.le (k (some (w.heap.size, 0, q.toNat * Rep.n α))) (m1.put hd ⟨⟨_, q.toNat, rfl, Nat.zero_le _, Nat.zero_le _, .inl rfl⟩, 0, q.toNat, rfl, by simp, by simp⟩)

/-- A list's room, laid with zeros, to be written in place. -/
theorem t_makeArr {Γ : Slots} {H : List Ent} {α : Type} [Rep α] {x y : Operand} {T : TypeId} {p q : Int} {z0 : α} {dd e : Nat} {K : St → Prop} (hT : elB c.P T (Rep.n α) = true) (hz0 : ZeroOk c.P e z0) (he : c.P.underlying T = some (.slice e)) (hx : opnd Γ x = some (isv p)) (hy : opnd Γ y = some (isv q)) (h0 : 0 ≤ p) (hpq : p ≤ q) (h1 : q ≤ 68719476736)
    (k : ∀ b, K ⟨(dd, arrv b p.toNat q.toNat) :: Γ, arrE b (List.replicate q.toNat z0) :: H⟩) (hd : Nat.blt dd c.n = true := by rfl) : OpT c ⟨some dd, .makeSlice T x y, ty, pos, af, g⟩ ⟨Γ, H⟩ K := by
  intro S a w next Q m hn
  obtain ⟨e', i, z, hu, hi, hsz, hby, hz, hzn⟩ := (ElB.of hT).sl
  rw [he] at hu
  cases hu
  obtain ⟨i', z', hi', hz', hzr⟩ := hz0
  rw [hi] at hi'; cases hi'
  rw [hz] at hz'; cases hz'
  obtain ⟨e1, _⟩ := isv_int.1 (opnd_sound m hx)
  obtain ⟨e2, _⟩ := isv_int.1 (opnd_sound m hy)
  have hrun : (execOp a.eval ⟨some dd, .makeSlice T x y, ty, pos, af, g⟩).run c.P w = .ok (.value (.slice (some ⟨w.heap.size, 0, none⟩) p.toNat q.toNat)) { w with heap := w.heap.push (.cells (List.replicate q.toNat z.cells.toList).flatten.toArray e (0, 0)) } := by
    simp only [execOp, Sem.run_bind, e1, e2, run_makeSlice he hi hz (by rw [hzn, hsz]) hby h0 hpq h1 w, Result.andThen_ok, Sem.run_pure]
  unfold Oper.wp
  rw [hrun]
  have hst := step_push (w := w) m.sub (.cells (List.replicate q.toNat z.cells.toList).flatten.toArray e (0, 0))
  have m1 := m.step (Hc := []) (H' := [arrE w.heap.size (List.replicate q.toNat z0)]) .nil hst
    (owns_one ⟨.cells (List.replicate q.toNat z.cells.toList).flatten.toArray e (0, 0), by simp, sub_fresh m.sub, _, e, rfl, by
      simpa using rdL_replicate (r := Rep.rd S) (hzr S).2 q.toNat⟩ fun b' hb' => by simp [arrE] at hb'; subst hb'; exact .inr (Nat.le_refl _))
  exact hn _ _ _ _ (Frz.le_refl _) (k w.heap.size) (m1.put hd rfl)

theorem v_lenA {d : Option Nat} {x : Operand} {b n cap : Nat} {T m : Nat} {agg : Bool} (hT : SlB c.P T m agg = true) (hn : n ≤ maxList) (hx : opnd σ.Γ x = some (arrv b n cap)) :
    OpV c ⟨d, .call ⟨.builtin .len, #[x], #[T]⟩, ty, pos, af, g⟩ σ (isv (n : Int)) := fun S a w m => by
  have h1 : a.eval x = .slice (some ⟨b, 0, none⟩) n cap := opnd_sound m hx
  exact ⟨.int .i64 n, isv_int.2 ⟨rfl, by unfold inI64; unfold maxList at hn; omega⟩, fun w' _ => by
    simp [execOp, resolve, invoke, builtin, h1, run_len hT]⟩

theorem v_indexA {α : Type} [Rep α] {d : Option Nat} {x i : Operand} {b n cap : Nat} {l : List α} {k : Int} {T : Nat} (hT : SlB c.P T (Rep.n α) (Rep.agg α) = true) (hx : opnd σ.Γ x = some (arrv b n cap)) (hi : opnd σ.Γ i = some (isv k))
    (hk : 0 ≤ k) (hy : k < n) : OpV c ⟨d, .indexAddr T x i, ty, pos, af, g⟩ σ (eltv b k.toNat l) := fun S a w m => by
  have h1 : a.eval x = .slice (some ⟨b, 0, none⟩) n cap := opnd_sound m hx
  obtain ⟨h5, _⟩ := isv_int.1 (opnd_sound m hi)
  obtain ⟨e, hu, hte⟩ := SlB.spec hT
  exact ⟨.pointer (some ⟨b, k.toNat * Rep.n α, none⟩), rfl, fun w' _ => by
    simp [execOp, h1, h5, Instr.indexAt, asIntOf, underlying, hu, hk, hy, TyB.size hte, add_none]⟩

theorem t_loadA {Γ : Slots} {H : List Ent} {α : Type} [Rep α] {b i : Nat} {l l0 : List α} {y : α} {x : Operand} {T : TypeId} {dd : Nat} {K : St → Prop} {Hr : List Ent} (ht : TyB c.P T (Rep.n α) (Rep.agg α) = true) (hx : opnd Γ x = some (eltv b i l0))
    (hp : Pick (arrE b l) H Hr) (hy : l[i]? = some y) (k : K ⟨(dd, isv y) :: Γ, H⟩) (hd : Nat.blt dd c.n = true := by rfl) :
    OpT c ⟨some dd, .load T x, ty, pos, af, g⟩ ⟨Γ, H⟩ K := by
  intro S a w next Q m hn
  have h1 : a.eval x = .pointer (some ⟨b, i * Rep.n α, none⟩) := opnd_sound m hx
  have hs : (arrE b l).sat S w := m.owns.get hp
  obtain ⟨o, ho, hnone, cs, T', e, hr⟩ := hs
  subst e
  have hg := rdL_get (r := Rep.rd S) (fun _ _ h => Rep.len h) hr hy
  obtain ⟨v, hv, hrun⟩ := run_loadVar (ad := ⟨b, i * Rep.n α, none⟩) ht hg
  unfold Oper.wp
  have : (execOp a.eval ⟨some dd, .load T x, ty, pos, af, g⟩).run c.P w = .ok (.value v) w := by
    simp only [execOp, h1, Instr.loadAt, Instr.sureAddr]
    have h2 := hrun w fun j u hj => by
      rw [add_none]
      unfold World.cell?
      rw [ho]
      simp only
      rw [List.getElem?_take] at hj
      split at hj
      · rw [List.getElem?_drop] at hj
        simpa using hj
      · cases hj
    simp [h2]
  rw [this]
  exact hn _ _ _ _ (Frz.le_refl _) k (m.put hd hv)

theorem rdL_set {α : Type} {r : List Value → α → Prop} {n : Nat} (hn : ∀ cs x, r cs x → cs.length = n) : ∀ {l : List α} {cs ds : List Value} {i : Nat} {y : α}, rdL r l cs → i < l.length → r ds y → rdL r (l.set i y) (cs.take (i * n) ++ ds ++ cs.drop (i * n + n))
  | [], _, _, _, _, _, h, _ => by simp at h
  | x :: l, _, ds, 0, y, ⟨c1, c2, e, k1, k2⟩, _, hy => by
    subst e
    have h1 := hn _ _ k1
    refine ⟨ds, c2, ?_, hy, k2⟩
    rw [Nat.zero_mul, List.take_zero, List.nil_append, Nat.zero_add, ← h1, List.drop_left]
  | x :: l, _, ds, i + 1, y, ⟨c1, c2, e, k1, k2⟩, h, hy => by
    subst e
    have h1 := hn _ _ k1
    refine ⟨c1, _, ?_, k1, rdL_set hn k2 (by simpa using h) hy⟩
    have e1 : (c1 ++ c2).take ((i + 1) * n) = c1 ++ c2.take (i * n) := by
      rw [Nat.add_mul, Nat.one_mul, Nat.add_comm, List.take_append, h1, List.take_of_length_le (by omega)]
      congr 2
      omega
    have e2 : (c1 ++ c2).drop ((i + 1) * n + n) = c2.drop (i * n + n) := by
      rw [Nat.add_mul, Nat.one_mul, show i * n + n + n = n + (i * n + n) from by omega, ← List.drop_drop, ← h1, List.drop_left]
    rw [e1, e2]
    simp only [List.append_assoc]

theorem t_storeA {Γ : Slots} {H : List Ent} {α : Type} [Rep α] {b i : Nat} {l l0 : List α} {z : α} {x u : Operand} {T : TypeId} {K : St → Prop} {Hr : List Ent} (ht : TyB c.P T (Rep.n α) (Rep.agg α) = true) (hx : opnd Γ x = some (eltv b i l0))
    (hu : opnd Γ u = some (isv z)) (hp : Pick (arrE b l) H Hr) (hi : i < l.length) (k : K ⟨Γ, arrE b (l.set i z) :: Hr⟩) :
    OpT c ⟨none, .store T x u, ty, pos, af, g⟩ ⟨Γ, H⟩ K := by
  intro S a w next Q m hn
  have h1 : a.eval x = .pointer (some ⟨b, i * Rep.n α, none⟩) := opnd_sound m hx
  have h2 := opnd_sound m hu
  have hs : (arrE b l).sat S w := m.owns.get hp
  obtain ⟨o, ho, hnone, cs, T', e, hr⟩ := hs
  subst e
  have hlen : (a.eval u).cells.toList.length = Rep.n α := Rep.len h2.2
  have hcs := rdL_len (n := Rep.n α) (r := Rep.rd S) (fun _ _ h => Rep.len h) hr
  have hfit : i * Rep.n α + Rep.n α ≤ l.length * Rep.n α := by rw [← Nat.succ_mul]; exact Nat.mul_le_mul_right _ hi
  have hrun := run_storeCells_at (P := c.P) b (i * Rep.n α) T' (a.eval u).cells.toList 0 cs w ho (by simp at hlen hcs ⊢; omega) (fun v hv => Rep.cell h2.2 v hv)
  unfold Oper.wp
  have : (execOp a.eval ⟨none, .store T x u, ty, pos, af, g⟩).run c.P w = .ok .skip (w.setRow b (cs.toList.take (i * Rep.n α + 0) ++ (a.eval u).cells.toList ++ cs.toList.drop (i * Rep.n α + 0 + (a.eval u).cells.toList.length)).toArray) := by
    have hsz : (a.eval u).cells.size = Rep.n α := by simpa using hlen
    simp only [execOp, h1, Instr.storeAt, Instr.sureAddr, storeVar, Sem.run_bind, Sem.run_pure, Result.andThen_ok, TyB.size ht, hsz, ne_eq, not_true, if_false, Sem.run_ite, hrun]
  rw [this]
  obtain ⟨hst, hh⟩ := step_setRow (cs := (cs.toList.take (i * Rep.n α + 0) ++ (a.eval u).cells.toList ++ cs.toList.drop (i * Rep.n α + 0 + (a.eval u).cells.toList.length)).toArray) m.sub hnone ho
  have m1 := m.step (Hc := [arrE b l]) (H' := [arrE b (l.set i z)]) (Takes.cons hp .nil) hst
    (owns_one ⟨_, hh, hnone, _, _, rfl, by
      have := rdL_set (r := Rep.rd S) (fun _ _ h => Rep.len h) hr hi h2.2
      rw [hlen, Nat.add_zero]
      simpa using this⟩ fun b' hb => by simp [arrE] at hb; subst hb; exact .inl (by simp [keys, arrE]))
  exact hn _ _ _ _ (Frz.le_refl _) k m1

/-- What is no longer written may be laid for good. -/
theorem Models.freeze {α : Type} [Rep α] {σ : St} {S : Frz} {a : Act} {w : World} (m : Models c σ S a w) {b : Nat} {l : List α} {Hr : List Ent} (hp : Pick (arrE b l) σ.H Hr) :
    ∃ S', Models c ⟨σ.Γ, Hr⟩ S' a w ∧ ∃ cs, S' b = some cs ∧ rdL (Rep.rd S') l cs := by
  have hs : (arrE b l).sat S w := m.owns.get hp
  obtain ⟨o, ho, hnone, cs, T', e, hr⟩ := hs
  subst e
  have hle : S.le (S.put b cs.toList) := fun j d hj => by
    have hne : j ≠ b := by rintro rfl; rw [hnone] at hj; cases hj
    exact ⟨d, by unfold Frz.put; rw [if_neg hne]; exact hj, List.prefix_refl _⟩
  refine ⟨S.put b cs.toList, ?_, cs.toList, if_pos rfl, rdL_mono (fun _ _ h => Rep.mono hle h) hr⟩
  have hst : Step (keys [arrE b l]) S (S.put b cs.toList) w w := by
    refine ⟨Keep.refl _ _, ⟨hle, fun j _ hj => by unfold Frz.put; rw [if_neg (by simpa [keys, arrE] using hj)]⟩, fun j d hj => ?_⟩
    unfold Frz.put at hj
    split at hj
    · cases hj
      rename_i ej; subst ej
      exact ⟨cs, T', (0, 0), ho, List.prefix_refl _⟩
    · exact m.sub j d hj
  have := m.step (Hc := [arrE b l]) (H' := []) (Takes.cons hp .nil) hst (owns_nil _ _ _ _)
  simpa using this

theorem w_freeze {Γ : Slots} {H : List Ent} {α : Type} [Rep α] {code : Code} {Q : Exit → Act → World → Prop} {b i : Nat} {n : Nat} {l : List α} {Hr : List Ent} (hp : Pick (arrE b l) H Hr) (hi : look Γ i = some (arrv b n l.length)) (hn : n ≤ l.length) (hm : n ≤ maxList)
    (k : Wp c code ⟨(i, isv (l.take n)) :: Γ, Hr⟩ Q) : Wp c code ⟨Γ, H⟩ Q := fun S a w m => by
  obtain ⟨S', m', cs, hS, hr⟩ := m.freeze hp
  obtain ⟨v, hv, hvr⟩ := m'.env i _ hi
  have hvr' : v = .slice (some ⟨b, 0, none⟩) n l.length := hvr
  subst hvr'
  have htl : (l.take n).length = n := by rw [List.length_take]; omega
  refine k S' a w ⟨m'.size, m'.dfr, m'.sub, m'.keep, m'.grow, fun j R hj => ?_, m'.owns, m'.pins⟩
  unfold look at hj
  cases hk : Nat.beq i j with
  | true =>
    rw [hk] at hj
    have e : i = j := Nat.eq_of_beq_eq_true hk
    subst e
    cases hj
    refine ⟨_, hv, isv_list.2 ⟨_, _, by rw [htl], by rw [htl]; exact hn, by rw [htl]; exact hm, .inr ⟨_, cs.take (n * Rep.n α), rfl, Frz.has_take ⟨rfl, cs, hS, fun j u hj => by simpa using hj⟩ _, ?_, rdL_take (fun _ _ h => Rep.len h) n hr⟩⟩⟩
    have hcs := rdL_len (n := Rep.n α) (r := Rep.rd S') (fun _ _ h => Rep.len h) hr
    rw [htl, List.length_take, hcs, Nat.min_eq_left (Nat.mul_le_mul_right _ hn)]
  | false => rw [hk] at hj; exact m'.env j R hj
end ops

end Go.Sy

/- Structs made, taken apart, held against each other; lists made at once; lists that are written in place. No condition: general lemmas. -/
import Derived.Test.YtdcdndflfhaejaaDoorLib6
namespace Go.Sy

/-! ### Equality -/
theorem bytes_beq (x y : ByteArray) : (x == y) = decide (x = y) := by
  rw [beq_toListBytes]
  by_cases h : x = y
  · subst h; simp
  · have : x.toList ≠ y.toList := by
      intro e
      rw [ByteArray.toList_eq, ByteArray.toList_eq] at e
      obtain ⟨⟨a⟩⟩ := x
      obtain ⟨⟨b⟩⟩ := y
      apply h
      have e' : a = b := e
      rw [e']
    simp [h, this]

theorem Str.ba_iff (x y : Str) : decide (x.ba = y.ba) = decide (x = y) := by
  by_cases h : x = y
  · subst h; simp
  · have : x.ba ≠ y.ba := fun e => h (Str.ba_inj e)
    simp [h, this]

inductive EqFs {α : Type} [Rep α] (P : Program) : List Field → (α → α → Bool) → Prop
  | nil : EqFs P [] fun _ _ => true
  | int {f : Field} {fs : List Field} {e : α → α → Bool} (L : Fld α Int) : (f.name == "_") = false → f.offset = L.off → P.underlying f.type = some (.int .i64) → EqFs P fs e → EqFs P (f :: fs) fun x y => decide (L.get x = L.get y) && e x y
  | bool {f : Field} {fs : List Field} {e : α → α → Bool} (L : Fld α Bool) : (f.name == "_") = false → f.offset = L.off → P.underlying f.type = some .bool → EqFs P fs e → EqFs P (f :: fs) fun x y => decide (L.get x = L.get y) && e x y
  | str {f : Field} {fs : List Field} {e : α → α → Bool} (L : Fld α Str) : (f.name == "_") = false → f.offset = L.off → P.underlying f.type = some .string → EqFs P fs e → EqFs P (f :: fs) fun x y => decide (L.get x = L.get y) && e x y

theorem part_plain {P : Program} {T : TypeId} {td : TypeDesc} (hu : P.underlying T = some td) (hd : (match td with | .struct _ | .array .. => true | _ => false) = false) {xs : Array Value} {off : Nat} {v : Value} (hv : xs[off]? = some v) (w : World) :
    (part T xs off).run P w = .ok v w := by
  have : (isAgg T).run P w = .ok false w := by cases td <;> simp at hd <;> simp [isAgg, underlying, hu]
  simp [part, this, hv]

theorem one_of_drop {cs : List Value} {off : Nat} {v : Value} (h : (cs.drop off).take 1 = [v]) : cs[off]? = some v := by
  have h1 : ((cs.drop off).take 1)[0]? = some v := by rw [h]; rfl
  rw [List.getElem?_take, if_pos (by omega), List.getElem?_drop] at h1
  simpa using h1

theorem eqFs_run {α : Type} [Rep α] {P : Program} {fs : List Field} {e : α → α → Bool} (h : EqFs P fs e) {S : Frz} {cs ds : Array Value} {x y : α} (hx : Rep.rd S cs.toList x) (hy : Rep.rd S ds.toList y) (d : Nat) (w : World) :
    (Op.eqFields (d + 1) cs ds fs).run P w = .ok (e x y) w := by
  induction h with
  | nil => simp [Op.eqFields]
  | int L hn ho hT _ ih =>
    rename_i f fs e _
    have hn' : f.name ≠ "_" := by intro h; rw [h] at hn; simp at hn
    have h1 := one_of_drop (L.rget hx).1
    have h2 := one_of_drop (L.rget hy).1
    rw [← ho] at h1 h2
    simp only [Op.eqFields, ne_eq, hn', not_false_eq_true, if_true, Sem.run_bind, part_plain hT rfl (by simpa using h1), part_plain hT rfl (by simpa using h2), Result.andThen_ok, run_equalIn_int w d f.type .i64 .i64 _ _ hT]
    by_cases hb : L.get x = L.get y
    · simp [hb, ih]
    · simp [hb]
  | bool L hn ho hT _ ih =>
    rename_i f fs e _
    have hn' : f.name ≠ "_" := by intro h; rw [h] at hn; simp at hn
    have h1 := one_of_drop (L.rget hx)
    have h2 := one_of_drop (L.rget hy)
    rw [← ho] at h1 h2
    simp only [Op.eqFields, ne_eq, hn', not_false_eq_true, if_true, Sem.run_bind, part_plain hT rfl (by simpa using h1), part_plain hT rfl (by simpa using h2), Result.andThen_ok, run_equalIn_bool' w d f.type _ _ hT]
    by_cases hb : L.get x = L.get y
    · simp [hb, ih]
    · simp [hb]
  | str L hn ho hT _ ih =>
    rename_i f fs e _
    have hn' : f.name ≠ "_" := by intro h; rw [h] at hn; simp at hn
    have h1 := one_of_drop (L.rget hx).1
    have h2 := one_of_drop (L.rget hy).1
    rw [← ho] at h1 h2
    simp only [Op.eqFields, ne_eq, hn', not_false_eq_true, if_true, Sem.run_bind, part_plain hT rfl (by simpa using h1), part_plain hT rfl (by simpa using h2), Result.andThen_ok, run_equalIn_string w d f.type _ _ hT, ← beq_toListBytes, bytes_beq, Str.ba_iff]
    by_cases hb : L.get x = L.get y
    · simp [hb, ih]
    · simp [hb]

def EqOk (P : Program) (T : TypeId) (α : Type) [Rep α] [DecidableEq α] : Prop :=
  ∀ S v u (x y : α), (isv x).p S v → (isv y).p S u → ∀ X Y w, (eqGuard .eql T X Y v u).run P w = .ok () w ∧ (eqGuard .neq T X Y v u).run P w = .ok () w ∧
    (binOp .eql T v u).run P w = .ok (.bool (decide (x = y))) w ∧ (binOp .neq T v u).run P w = .ok (.bool (!decide (x = y))) w

theorem EqOk.struct {P : Program} {T : TypeId} {α : Type} [Rep α] [DecidableEq α] {fs : Array Field} {e : α → α → Bool} (ha : Rep.agg α = true) (hu : P.underlying T = some (.struct fs)) (hg : P.eqGuardType P.depth T = false) (hs : P.stoodInHeld T = false)
    (he : EqFs P fs.toList e) (hd : ∀ x y, e x y = decide (x = y)) : EqOk P T α := by
  intro S v u x y hx hy X Y w
  obtain ⟨cs, rfl, h1⟩ := isv_agg hx ha
  obtain ⟨ds, rfl, h2⟩ := isv_agg hy ha
  have hf : P.fieldsOf T = fs := by simp [Program.fieldsOf, hu]
  have hr : (Op.equal T (.agg cs) (.agg ds)).run P w = .ok (decide (x = y)) w := by
    unfold Op.equal Op.maxDepth
    rw [run_equalIn_struct w 9999 T cs ds (by rw [hf]; exact hu) hs, hf, eqFs_run he h1 h2, hd]
  refine ⟨?_, ?_, ?_, ?_⟩
  · simp [eqGuard, hg]
  · simp [eqGuard, hg]
  · simp [binOp, hr]
  · simp [binOp, hr]

theorem EqOk.bool {P : Program} {T : TypeId} (hu : P.underlying T = some .bool) : EqOk P T Bool := by
  intro S v u x y hx hy X Y w
  have h1 := isv_bool.1 hx
  have h2 := isv_bool.1 hy
  subst h1; subst h2
  have hr : (Op.equal T (.bool x) (.bool y)).run P w = .ok (decide (x = y)) w := by
    unfold Op.equal Op.maxDepth
    rw [run_equalIn_bool' w 9999 T x y hu]
    cases x <;> cases y <;> rfl
  exact ⟨by simp [eqGuard], by simp [eqGuard], by simp [binOp, hr], by simp [binOp, hr]⟩

theorem EqOk.str {P : Program} {T : TypeId} : EqOk P T Str := by
  intro S v u x y hx hy X Y w
  obtain ⟨h1, _⟩ := isv_str.1 hx
  obtain ⟨h2, _⟩ := isv_str.1 hy
  subst h1; subst h2
  have hb : (x.ba.toList == y.ba.toList) = decide (x = y) := by rw [← beq_toListBytes, bytes_beq, Str.ba_iff]
  refine ⟨by simp [eqGuard], by simp [eqGuard], ?_, ?_⟩
  · simp only [binOp, Op.stringOp, Sem.run_pure, hb]
  · simp only [binOp, Op.stringOp, Sem.run_pure, hb]

theorem EqOk.u8 {P : Program} {T : TypeId} : EqOk P T UInt8 := by
  intro S v u x y hx hy X Y w
  have h1 := isv_u8.1 hx
  have h2 := isv_u8.1 hy
  subst h1; subst h2
  have hb : ((x.toNat : Int) == (y.toNat : Int)) = decide (x = y) := by
    by_cases h : x = y
    · simp [h]
    · have : x.toNat ≠ y.toNat := fun e => h (UInt8.toNat_inj.1 e)
      simp [h]; omega
  refine ⟨by simp [eqGuard], by simp [eqGuard], ?_, ?_⟩
  · simp only [binOp, Op.intCmp, Sem.run_pure, hb, ne_eq, not_true, if_false]
  · have hb' : ((x.toNat : Int) != (y.toNat : Int)) = !decide (x = y) := by rw [bne, hb]
    simp only [binOp, Op.intCmp, Sem.run_pure, hb', ne_eq, not_true, if_false]

section ops
variable {c : Ctx} {d : Option Nat} {ty : TypeId} {pos : String} {af : Array Edge} {g : Option (Nat × Bool)} {σ : St}

theorem v_eqA {α : Type} [Rep α] [DecidableEq α] {x y : Operand} {p q : α} {T U : TypeId} (he : EqOk c.P T α) (hx : opnd σ.Γ x = some (isv p)) (hy : opnd σ.Γ y = some (isv q)) :
    OpV c ⟨d, .binOp .eql T x y U, ty, pos, af, g⟩ σ (isv (decide (p = q))) := fun S a w m => by
  have h := he S _ _ p q (opnd_sound m hx) (opnd_sound m hy) x y
  exact ⟨_, isv_bool.2 rfl, fun w' _ => by simp [execOp, (h w').1, (h w').2.2.1]⟩
theorem v_neA {α : Type} [Rep α] [DecidableEq α] {x y : Operand} {p q : α} {T U : TypeId} (he : EqOk c.P T α) (hx : opnd σ.Γ x = some (isv p)) (hy : opnd σ.Γ y = some (isv q)) :
    OpV c ⟨d, .binOp .neq T x y U, ty, pos, af, g⟩ σ (isv (!decide (p = q))) := fun S a w m => by
  have h := he S _ _ p q (opnd_sound m hx) (opnd_sound m hy) x y
  exact ⟨_, isv_bool.2 rfl, fun w' _ => by simp [execOp, (h w').2.1, (h w').2.2.2]⟩

/-! ### Structs -/
theorem v_field {α β : Type} [Rep α] [Rep β] {x : Operand} {y : α} {T f : Nat} (L : Fld α β) (ha : Rep.agg α = true) (hf : FldB c.P T f L.off (Rep.n β) (Rep.agg β) = true) (hx : opnd σ.Γ x = some (isv y)) :
    OpV c ⟨d, .field T x f, ty, pos, af, g⟩ σ (isv (L.get y)) := fun S a w m => by
  obtain ⟨cs, h1, h2⟩ := isv_agg (opnd_sound m hx) ha
  obtain ⟨fs, fd, hu, hfd, hoff, hn, ht⟩ := FldB.spec hf
  have hr := L.rget h2
  cases hb : Rep.agg β with
  | true =>
    refine ⟨.agg (cs.extract L.off (L.off + Rep.n β)), isv_of_agg hb ?_, fun w' _ => ?_⟩
    · rw [Array.toList_extract, List.extract_eq_take_drop]
      rw [show L.off + Rep.n β - L.off = Rep.n β from by omega]
      exact hr
    · simp [execOp, h1, Instr.field, underlying, hu, hfd, asAgg, part, TyB.isAgg ht, TyB.size ht, hb, hoff]
  | false =>
    have hlen := Rep.len hr
    rw [Rep.one hb] at hlen hr
    obtain ⟨u, hu1⟩ := List.length_eq_one_iff.1 hlen
    rw [hu1] at hr
    have h3 := one_of_drop hu1
    refine ⟨u, isv_of_plain hb hr, fun w' _ => ?_⟩
    have h4 : cs[L.off]? = some u := by simpa using h3
    simp [execOp, h1, Instr.field, underlying, hu, hfd, asAgg, part, TyB.isAgg ht, hb, hoff, h4]

inductive Built {α : Type} [Rep α] (P : Program) (T : TypeId) (Γ : Slots) : α → List (Nat × Operand) → α → Prop
  | nil {x : α} : Built P T Γ x [] x
  | cons {β : Type} [Rep β] {x z : α} {y : β} {f : Nat} {o : Operand} {R : VP} {rest : List (Nat × Operand)} (L : Fld α β) : FldB P T f L.off (Rep.n β) (Rep.agg β) = true → opnd Γ o = some R → (∀ S v, R.p S v → (isv y).p S v) →
      Built P T Γ (L.set x y) rest z → Built P T Γ x ((f, o) :: rest) z
theorem Built.same {α : Type} [Rep α] {P : Program} {T : TypeId} {Γ : Slots} {β : Type} [Rep β] {x z : α} {y : β} {f : Nat} {o : Operand} {rest : List (Nat × Operand)} (L : Fld α β) (hf : FldB P T f L.off (Rep.n β) (Rep.agg β) = true) (ho : opnd Γ o = some (isv y))
    (k : Built P T Γ (L.set x y) rest z) : Built P T Γ x ((f, o) :: rest) z := .cons L hf ho (fun _ _ h => h) k

def BuildB (P : Program) (T : TypeId) : Bool :=
  match P.underlying T with
  | some (.struct fs) => fs.toList.all fun f => (P.info? f.type).isSome
  | _ => false

theorem fold_set (off : Nat) : ∀ (vs : List Value) (k : Nat) (cells : Array Value), off + k + vs.length ≤ cells.size →
    ((vs.zipIdx k).foldl (fun cs (x : Value × Nat) => cs.setIfInBounds (off + x.2) x.1) cells) = (cells.toList.take (off + k) ++ vs ++ cells.toList.drop (off + k + vs.length)).toArray
  | [], k, cells, _ => by simp
  | v :: vs, k, cells, h => by
    simp only [List.length_cons] at h
    rw [List.zipIdx_cons, List.foldl_cons, fold_set off vs (k + 1) _ (by simp; omega)]
    apply Array.ext'
    simp only [Array.toList_setIfInBounds, List.length_cons]
    have e1 : (cells.toList.set (off + k) v).take (off + (k + 1)) = cells.toList.take (off + k) ++ [v] := by
      rw [← Nat.add_assoc, List.take_succ_eq_append_getElem (by simp; omega), List.take_set, List.set_eq_of_length_le (by simp; omega)]
      simp
    have e2 : (cells.toList.set (off + k) v).drop (off + (k + 1) + vs.length) = cells.toList.drop (off + k + (vs.length + 1)) := by
      rw [List.drop_set_of_lt (by omega)]
      congr 1
      omega
    rw [e1, e2]
    simp

theorem mapM_pure {P : Program} {fs : List Field} (h : fs.all (fun f => (P.info? f.type).isSome) = true) (w : World) :
    (fs.mapM fun f => (do pure (f.offset, ← sizeOf f.type) : Sem (Nat × Nat))).run P w = .ok (fs.map fun f => (f.offset, P.cellsOf f.type)) w := by
  induction fs with
  | nil => simp
  | cons f fs ih =>
    simp only [List.all_cons, Bool.and_eq_true] at h
    obtain ⟨i, hi⟩ := Option.isSome_iff_exists.1 h.1
    have h0 : (sizeOf f.type).run P w = .ok (P.cellsOf f.type) w := by simp [sizeOf, typeInfo, hi, Program.cellsOf]
    have ih' := ih h.2
    simp only [List.mapM_cons, Sem.run_bind, h0, Result.andThen_ok, Sem.run_pure, ih', List.map_cons]

theorem Built.run {α : Type} [Rep α] {P : Program} {T : TypeId} {fs : Array Field} (hu : P.underlying T = some (.struct fs)) {a : Act} {S : Frz} {σ : St} {c : Ctx} {w : World} (m : Models c σ S a w) {x z : α} {parts : List (Nat × Operand)} (h : Built P T σ.Γ x parts z)
    {cells : Array Value} (hr : Rep.rd S cells.toList x) : ∃ out : Array Value, Instr.fill ((fs.map fun f => (f.offset, P.cellsOf f.type))[·]?) cells (parts.map fun p => (p.1, a.eval p.2)) = some out ∧ Rep.rd S out.toList z := by
  induction h generalizing cells with
  | nil => exact ⟨cells, rfl, hr⟩
  | @cons β _ x z y f o R rest L hf ho himp _ ih =>
    obtain ⟨fs', fd, hu', hfd, hoff, hn, ht⟩ := FldB.spec hf
    rw [hu] at hu'
    cases hu'
    have hv := himp _ _ (opnd_sound m ho)
    have hlen := Rep.len hv.2
    have hfit := L.fits
    have hcs := Rep.len hr
    have hset := L.rset hr hv.2
    have hsz : P.cellsOf fd.type = (a.eval o).cells.size := by
      have := TyB.size ht w
      unfold TyB at ht
      simp only [Bool.and_eq_true, beq_iff_eq] at ht
      cases hi : P.info? fd.type with
      | none => rw [hi] at ht; simp at ht
      | some i => rw [hi] at ht; simp at ht; simp [Program.cellsOf, hi, ht.1]; simpa using hlen.symm
    obtain ⟨out, h1, h2⟩ := ih (cells := (cells.toList.take L.off ++ (a.eval o).cells.toList ++ cells.toList.drop (L.off + Rep.n β)).toArray) (by simpa using hset)
    refine ⟨out, ?_, h2⟩
    simp only [List.map_cons, Instr.fill]
    have hp : (fs.map fun f => (f.offset, P.cellsOf f.type))[f]? = some (L.off, (a.eval o).cells.size) := by
      rw [Array.getElem?_map, hfd]; simp [hoff, hsz]
    rw [hp]
    simp only
    rw [if_neg (by simp at hcs hlen ⊢; omega)]
    have hfold : (a.eval o).cells.zipIdx.foldl (fun cs (x : Value × Nat) => cs.setIfInBounds (L.off + x.2) x.1) cells = (cells.toList.take L.off ++ (a.eval o).cells.toList ++ cells.toList.drop (L.off + Rep.n β)).toArray := by
      rw [← Array.foldl_toList, Array.toList_zipIdx, fold_set L.off _ 0 cells (by simp at hcs hlen ⊢; omega), Nat.add_zero, hlen]
    have : (a.eval o).cells.zipIdx.foldl (fun cs (x : Value × Nat) => match x with | (c, j) => cs.setIfInBounds (L.off + j) c) cells = (a.eval o).cells.zipIdx.foldl (fun cs (x : Value × Nat) => cs.setIfInBounds (L.off + x.2) x.1) cells := rfl
    rw [this, hfold]
    exact h1

theorem v_build {α : Type} [Rep α] {T : TypeId} {parts : Array (Nat × Operand)} {x z : α} (ha : Rep.agg α = true) (hB : BuildB c.P T = true) (hz : ZeroOk c.P T x) (hb : Built c.P T σ.Γ x parts.toList z) :
    OpV c ⟨d, .build T parts, ty, pos, af, g⟩ σ (isv z) := fun S a w m => by
  obtain ⟨fs, hu, hall⟩ : ∃ fs, c.P.underlying T = some (.struct fs) ∧ fs.toList.all (fun f => (c.P.info? f.type).isSome) = true := by
    unfold BuildB at hB
    split at hB
    · rename_i fs hu; exact ⟨fs, hu, hB⟩
    · cases hB
  obtain ⟨i, zv, hi, hzv, hzr⟩ := hz
  obtain ⟨zc, rfl, hzc⟩ := isv_agg (hzr S) ha
  obtain ⟨out, h1, h2⟩ := hb.run hu m hzc
  refine ⟨.agg out, isv_of_agg ha h2, fun w' _ => ?_⟩
  have hz1 : (zeroValue T).run c.P w' = .ok (.agg zc) w' := by simp [zeroValue, typeInfo, hi, hzv]
  have hm := mapM_pure hall w'
  have e1 : (parts.map fun x => match x with | (i, x) => (i, a.eval x)).toList = parts.toList.map fun p => (p.1, a.eval p.2) := by cases parts; simp
  simp only [execOp, Instr.build, Sem.run_bind, hz1, Result.andThen_ok, underlying, run_program, hu, Sem.run_pure, Array.mapM_eq_mapM_toList, Sem.run_map, hm]
  have e2 : (List.map (fun f => (f.offset, c.P.cellsOf f.type)) fs.toList).toArray = fs.map fun f => (f.offset, c.P.cellsOf f.type) := by cases fs; simp
  rw [e2]
  simp only [Value.cells]
  rw [e1, h1]
  simp

end ops

end Go.Sy

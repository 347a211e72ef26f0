/- Lists, structs, appends. No condition: general lemmas. -/
import Derived.Test.YtdcdndflfhaejaaDoorLib5
namespace Go.Sy

/-- The elements of a slice type. -/
def SlB (P : Program) (T : TypeId) (n : Nat) (agg : Bool) : Bool :=
  match P.underlying T with
  | some (.slice e) => TyB P e n agg
  | _ => false
theorem SlB.spec {P : Program} {T n : Nat} {agg : Bool} (h : SlB P T n agg = true) : ∃ e, P.underlying T = some (.slice e) ∧ TyB P e n agg = true := by
  unfold SlB at h
  split at h
  · rename_i e hu; exact ⟨e, hu, h⟩
  · cases h
def StrB (P : Program) (T : TypeId) : Bool := match P.underlying T with | some .string => true | _ => false
theorem StrB.spec {P : Program} {T : Nat} (h : StrB P T = true) : P.underlying T = some .string := by
  unfold StrB at h
  split at h
  · assumption
  · cases h

section ops
variable {c : Ctx} {d : Option Nat} {ty : TypeId} {pos : String} {af : Array Edge} {g : Option (Nat × Bool)} {σ : St}

theorem run_len {P : Program} {T n : Nat} {agg : Bool} (h : SlB P T n agg = true) (p : Option Addr) (l k : Nat) (w : World) (ty : TypeId) : (Builtin.len_ #[T] ty #[.slice p l k]).run P w = .ok (.int .i64 l) w := by
  obtain ⟨e, h1, _⟩ := SlB.spec h
  simp [Builtin.len_, underlying, h1, goInt]

theorem v_len {α : Type} [Rep α] {x : Operand} {l : List α} {T n : Nat} {agg : Bool} (hT : SlB c.P T n agg = true) (hx : opnd σ.Γ x = some (isv l)) :
    OpV c ⟨d, .call ⟨.builtin .len, #[x], #[T]⟩, ty, pos, af, g⟩ σ (isv (l.length : Int)) := fun S a w m => by
  obtain ⟨p, cap, h1, h2, h3, _⟩ := isv_list.1 (opnd_sound m hx)
  exact ⟨.int .i64 l.length, isv_int.2 ⟨rfl, by unfold inI64; unfold maxList at h3; omega⟩, fun w' _ => by
    simp [execOp, resolve, invoke, builtin, h1, run_len hT]⟩

theorem v_lenS {x : Operand} {s : Str} {T : Nat} (hT : StrB c.P T = true) (hx : opnd σ.Γ x = some (isv s)) :
    OpV c ⟨d, .call ⟨.builtin .len, #[x], #[T]⟩, ty, pos, af, g⟩ σ (isv (s.b.length : Int)) := fun S a w m => by
  obtain ⟨h1, h2⟩ := isv_str.1 (opnd_sound m hx)
  exact ⟨.int .i64 s.b.length, isv_int.2 ⟨rfl, by unfold inI64; unfold maxText at h2; omega⟩, fun w' _ => by
    simp [execOp, resolve, invoke, builtin, h1, Builtin.len_, underlying, StrB.spec hT, goInt, Str.ba_size]⟩

theorem v_indexAddr {α : Type} [Rep α] {x i : Operand} {l : List α} {k : Int} (y : α) {T : Nat} (hT : SlB c.P T (Rep.n α) (Rep.agg α) = true) (hx : opnd σ.Γ x = some (isv l)) (hi : opnd σ.Γ i = some (isv k))
    (hk : 0 ≤ k) (hy : l[k.toNat]? = some y) : OpV c ⟨d, .indexAddr T x i, ty, pos, af, g⟩ σ (immv y) := fun S a w m => by
  obtain ⟨p, cap, h1, h2, h3, h4⟩ := isv_list.1 (opnd_sound m hx)
  obtain ⟨h5, _⟩ := isv_int.1 (opnd_sound m hi)
  have hlt := (List.getElem?_eq_some_iff.1 hy).1
  rcases h4 with h4 | ⟨ad, cs, h6, h7, h8, h9⟩
  · subst h4; simp at hy
  obtain ⟨e, hu, hte⟩ := SlB.spec hT
  subst h6
  refine ⟨.pointer (some (ad.add (k.toNat * Rep.n α))), ⟨_, _, rfl, Frz.has_take (Frz.has_sub h7 _) (Rep.n α), rdL_get (r := Rep.rd S) (fun _ _ h => Rep.len h) h9 hy⟩, fun w' _ => ?_⟩
  have hb : 0 ≤ k ∧ k < (l.length : Int) := ⟨hk, by omega⟩
  simp [execOp, h1, h5, Instr.indexAt, asIntOf, underlying, hu, hb, TyB.size hte]

theorem sliceBound_ok {P : Program} {k : Int} {y : Nat} {code : BoundsCode} {w : World} (h0 : 0 ≤ k) (h1 : k ≤ y) : (Instr.sliceBound (.int .i64 k) y code).run P w = .ok k.toNat w := by
  simp [Instr.sliceBound, asIntOf, h0, h1]

/-- A piece of a list, from lo on. -/
theorem v_sliceFrom {α : Type} [Rep α] {x i : Operand} {l : List α} {k : Int} {T : Nat} (hT : SlB c.P T (Rep.n α) (Rep.agg α) = true) (hx : opnd σ.Γ x = some (isv l)) (hi : opnd σ.Γ i = some (isv k))
    (hk : 0 ≤ k) (hy : k ≤ l.length) : OpV c ⟨d, .slice T x (some i) none none, ty, pos, af, g⟩ σ (isv (l.drop k.toNat)) := fun S a w m => by
  obtain ⟨p, cap, h1, h2, h3, h4⟩ := isv_list.1 (opnd_sound m hx)
  obtain ⟨h5, _⟩ := isv_int.1 (opnd_sound m hi)
  obtain ⟨e, hu, hte⟩ := SlB.spec hT
  refine ⟨.slice (if cap = k.toNat then p else p.map (·.add (k.toNat * Rep.n α))) (l.length - k.toNat) (cap - k.toNat), isv_list.2 ⟨_, _, by rw [List.length_drop], by simp; omega, by simp; omega, ?_⟩, fun w' _ => ?_⟩
  · rcases h4 with h4 | ⟨ad, cs, h6, h7, h8, h9⟩
    · left; subst h4; simp
    · by_cases hc : cap = k.toNat
      · left; apply List.drop_eq_nil_of_le; omega
      · right
        subst h6
        refine ⟨_, _, by rw [if_neg hc]; rfl, Frz.has_sub h7 _, ?_, rdL_drop (fun cs x h => Rep.len h) k.toNat h9⟩
        rw [List.length_drop, List.length_drop, h8, Nat.sub_mul]
  · simp [execOp, h1, h5, Instr.sliceAt, Instr.slice, Instr.sliceBounds, underlying, hu, TyB.size hte, sliceBound_ok hk hy]

/-- A piece of a list, up to hi. -/
theorem v_sliceTo {α : Type} [Rep α] {x i : Operand} {l : List α} {k : Int} {T : Nat} (hT : SlB c.P T (Rep.n α) (Rep.agg α) = true) (hx : opnd σ.Γ x = some (isv l)) (hi : opnd σ.Γ i = some (isv k))
    (hk : 0 ≤ k) (hy : k ≤ l.length) : OpV c ⟨d, .slice T x none (some i) none, ty, pos, af, g⟩ σ (isv (l.take k.toNat)) := fun S a w m => by
  obtain ⟨p, cap, h1, h2, h3, h4⟩ := isv_list.1 (opnd_sound m hx)
  obtain ⟨h5, _⟩ := isv_int.1 (opnd_sound m hi)
  obtain ⟨e, hu, hte⟩ := SlB.spec hT
  have hy' : k ≤ (cap : Int) := by omega
  have e1 : (l.take k.toNat).length = k.toNat := by simp; omega
  refine ⟨.slice (if cap = 0 then p else p.map (·.add (0 * Rep.n α))) k.toNat cap, isv_list.2 ⟨_, _, by rw [e1], by rw [e1]; omega, by rw [e1]; omega, ?_⟩, fun w' _ => ?_⟩
  · rcases h4 with h4 | ⟨ad, cs, h6, h7, h8, h9⟩
    · left; subst h4; simp
    · by_cases hc : cap = 0
      · left; have : k.toNat = 0 := by omega
        rw [this]; rfl
      · right
        subst h6
        refine ⟨_, _, by rw [if_neg hc]; rfl, ?_, ?_, rdL_take (fun cs x h => Rep.len h) k.toNat h9⟩
        · rw [Nat.zero_mul]; exact Frz.has_take h7 _
        · rw [e1, List.length_take, h8, Nat.min_eq_left (Nat.mul_le_mul_right _ (by omega))]
  · simp [execOp, h1, h5, Instr.sliceAt, Instr.slice, Instr.sliceBounds, underlying, hu, TyB.size hte, sliceBound_ok hk hy']

/-- A piece of a list, between two places. -/
theorem v_sliceMid {α : Type} [Rep α] {x i j : Operand} {l : List α} {k q : Int} {T : Nat} (hT : SlB c.P T (Rep.n α) (Rep.agg α) = true) (hx : opnd σ.Γ x = some (isv l)) (hi : opnd σ.Γ i = some (isv k)) (hj : opnd σ.Γ j = some (isv q))
    (hk : 0 ≤ k) (hkq : k ≤ q) (hy : q ≤ l.length) : OpV c ⟨d, .slice T x (some i) (some j) none, ty, pos, af, g⟩ σ (isv ((l.take q.toNat).drop k.toNat)) := fun S a w m => by
  obtain ⟨p, cap, h1, h2, h3, h4⟩ := isv_list.1 (opnd_sound m hx)
  obtain ⟨h5, _⟩ := isv_int.1 (opnd_sound m hi)
  obtain ⟨h5', _⟩ := isv_int.1 (opnd_sound m hj)
  obtain ⟨e, hu, hte⟩ := SlB.spec hT
  have hy' : q ≤ (cap : Int) := by omega
  have e1 : ((l.take q.toNat).drop k.toNat).length = q.toNat - k.toNat := by simp; omega
  have hkq' : k ≤ (q.toNat : Int) := by omega
  refine ⟨.slice (if cap = k.toNat then p else p.map (·.add (k.toNat * Rep.n α))) (q.toNat - k.toNat) (cap - k.toNat), isv_list.2 ⟨_, _, by rw [e1], by rw [e1]; omega, by rw [e1]; omega, ?_⟩, fun w' _ => ?_⟩
  · rcases h4 with h4 | ⟨ad, cs, h6, h7, h8, h9⟩
    · left; subst h4; simp
    · by_cases hc : cap = k.toNat
      · left; apply List.drop_eq_nil_of_le; simp; omega
      · right
        subst h6
        refine ⟨_, _, by rw [if_neg hc]; rfl, Frz.has_sub (Frz.has_take h7 (q.toNat * Rep.n α)) _, ?_, rdL_drop (fun cs x h => Rep.len h) k.toNat (rdL_take (fun cs x h => Rep.len h) q.toNat h9)⟩
        rw [e1, List.length_drop, List.length_take, h8, Nat.min_eq_left (Nat.mul_le_mul_right _ (by omega)), Nat.sub_mul]
  · simp [execOp, h1, h5, h5', Instr.sliceAt, Instr.slice, Instr.sliceBounds, underlying, hu, TyB.size hte, sliceBound_ok (Int.le_trans hk hkq) hy', sliceBound_ok hk hkq']

end ops

/-! ### Lists that grow -/

/-- A list, and where more may be laid behind it: nowhere (it is full), or in block b, from cell F on, up to cell C. -/
abbrev Tok := Option (Nat × Nat × Nat)

def appv {α : Type} [Rep α] (t : Tok) (l : List α) : VP where
  p := fun S v => rdSl (Rep.n α) Rep.rd S v l ∧ match t with
    | none => ∃ p, v = .slice p l.length l.length
    | some (b, F, C) => ∃ off cap, v = .slice (some ⟨b, off, none⟩) l.length cap ∧ off + l.length * Rep.n α = F ∧ off + cap * Rep.n α = C
  mono := fun h k => ⟨(isv_list.1 ((isv l).mono h (isv_list.2 k.1))), k.2⟩

theorem appv_isv {α : Type} [Rep α] {t : Tok} {l : List α} (S : Frz) (v : Value) (h : (appv t l).p S v) : (isv l).p S v := isv_list.2 h.1
theorem nilv_appv {α : Type} [Rep α] (S : Frz) (v : Value) (h : nilv.p S v) : (appv none ([] : List α)).p S v := by
  have e : v = .slice none 0 0 := h
  subst e
  exact ⟨⟨none, 0, rfl, Nat.le_refl _, Nat.zero_le _, .inl rfl⟩, none, rfl⟩
theorem nilv_isv {α : Type} [Rep α] (S : Frz) (v : Value) (h : nilv.p S v) : (isv ([] : List α)).p S v := appv_isv S v (nilv_appv S v h)

theorem mod_app {α : Type} [Rep α] {Γ' mod : Slots} {j : Nat} {t : Tok} {x y : List α} (h0 : look Γ' j = some (appv t x)) (e : x = y) (hm : ∀ i R, look mod i = some R → ∃ R0, look Γ' i = some R0 ∧ ∀ S v, R0.p S v → R.p S v) :
    ∀ i R, look ((j, appv t y) :: mod) i = some R → ∃ R0, look Γ' i = some R0 ∧ ∀ S v, R0.p S v → R.p S v := mod_cons h0 (fun _ _ h => e ▸ h) hm

def tokE (t : Tok) : Ent where
  k := t.map (·.1)
  φ := { p := fun b S o => match t with
           | none => True
           | some (_, F, C) => ∃ cs cells T, S b = some cs ∧ cs.length = F ∧ o = .cells cells T (0, 0) ∧ C ≤ cells.size
         mono := fun {S S' b o} h hb k => by
           cases t with
           | none => trivial
           | some t => obtain ⟨cs, cells, T, h1, h2, h3, h4⟩ := k; exact ⟨cs, cells, T, hb ▸ h1, h2, h3, h4⟩ }

theorem nextslicecap_le {need cap : Nat} (h : cap < need) : Builtin.nextslicecap need cap ≤ 2 * need + 1024 := by
  unfold Builtin.nextslicecap
  split
  · omega
  · split
    · omega
    · have key : ∀ r c, c ≤ 2 * need + 1024 → Builtin.growBy need r c ≤ 2 * need + 1024 := by
        intro r
        induction r with
        | zero => intro c hc; exact hc
        | succ r ih =>
          intro c hc
          unfold Builtin.growBy
          split
          · exact hc
          · exact ih _ (by omega)
      exact key 4 cap (by omega)

/-- Where a grown list lies: memory, the list's value. -/
theorem run_firstCells {α : Type} [Rep α] {P : Program} {S : Frz} {v : Value} {l : List α} (h : rdSl (Rep.n α) Rep.rd S v l) :
    ∃ cs, cs.length = l.length * Rep.n α ∧ rdL (Rep.rd S) l cs ∧ (∀ p cap, v = .slice p l.length cap → ∀ a, p = some a → l ≠ [] → S.has a cs) ∧ ∀ w, S.sub w → (Builtin.firstCells (Rep.n α) l.length v).run P w = .ok cs.toArray w := by
  obtain ⟨p, cap, h1, h2, h3, h4⟩ := h
  subst h1
  rcases h4 with h4 | ⟨a, cs, h5, h6, h7, h8⟩
  · subst h4
    refine ⟨[], by simp, rfl, fun _ _ _ _ _ h => absurd rfl h, fun w _ => ?_⟩
    cases p with
    | none => simp [Builtin.firstCells]
    | some a => simp [Builtin.firstCells, loadCells, loadCellsFrom]
  · subst h5
    refine ⟨cs, h7, h8, fun p cap e a ha _ => by cases e; cases ha; exact h6, fun w hs => ?_⟩
    have := run_loadCells_list (P := P) w a cs (fun j u hu => Frz.has_cell hs h6 hu)
    rw [h7] at this
    simpa [Builtin.firstCells] using this

section append
variable {c : Ctx} {ty : TypeId} {pos : String} {af : Array Edge} {g : Option (Nat × Bool)} {σ : St}

/-- Two slice types' facts for an append: elements of so many cells and bytes, with a zero value. -/
structure AppB (P : Program) (T U : TypeId) (n : Nat) : Prop where
  sl : ∃ e i z, P.underlying T = some (.slice e) ∧ P.info? e = some i ∧ i.size = n ∧ i.bytes ≤ 1024 ∧ i.bytes ≠ 0 ∧ i.zero = some z ∧ z.cells.size = n
  src : ∃ e, P.underlying U = some (.slice e)

def appB (P : Program) (T U : TypeId) (n : Nat) : Bool :=
  (match P.underlying T with
   | some (.slice e) => (match P.info? e with
     | some i => i.size == n && Nat.ble i.bytes 1024 && i.bytes != 0 && i.zero.any (·.cells.size == n)
     | none => false)
   | _ => false) && (match P.underlying U with | some (.slice _) => true | _ => false)
theorem AppB.of {P : Program} {T U : TypeId} {n : Nat} (h : appB P T U n = true) : AppB P T U n := by
  unfold appB at h
  simp only [Bool.and_eq_true] at h
  obtain ⟨h1, h2⟩ := h
  constructor
  · split at h1
    · rename_i e hu
      split at h1
      · rename_i i hi
        simp only [Bool.and_eq_true, beq_iff_eq, bne_iff_ne] at h1
        obtain ⟨z, hz, hz'⟩ := (Option.any_eq_true _ _).1 h1.2
        exact ⟨e, i, z, hu, hi, h1.1.1.1, Nat.le_of_ble_eq_true h1.1.1.2, h1.1.2, hz, by simpa using hz'⟩
      · cases h1
    · cases h1
  · split at h2
    · rename_i e hu; exact ⟨e, hu⟩
    · cases h2

theorem run_append_grow {P : Program} {T U e e' : TypeId} {i : TypeInfo} {z : Value} {p q : Option Addr} {ln mn cap cap' n : Nat} {ty : TypeId} {cl cm : Array Value} {w : World}
    (hu : P.underlying T = some (.slice e)) (hu' : P.underlying U = some (.slice e')) (hi : P.info? e = some i) (hsz : i.size = n) (hz : i.zero = some z) (hby0 : i.bytes ≠ 0)
    (hneed : ¬ ln + mn ≤ cap) (hbig : ¬ 2 ^ 48 < Builtin.nextslicecap (ln + mn) cap * i.bytes)
    (h1 : (Builtin.firstCells n ln (.slice p ln cap)).run P { w with drawn := w.drawn + 1 } = .ok cl { w with drawn := w.drawn + 1 })
    (h2 : (Builtin.firstCells n mn (.slice q mn cap')).run P { w with drawn := w.drawn + 1 } = .ok cm { w with drawn := w.drawn + 1 }) :
    (Builtin.append_ #[T, U] ty #[.slice p ln cap, .slice q mn cap']).run P w =
      .ok (.slice (some ⟨w.heap.size, 0, none⟩) (ln + mn) ((Question.appendCap (ln + mn) cap e).cut (w.tape w.drawn (.appendCap (ln + mn) cap e))))
        { w with drawn := w.drawn + 1, heap := w.heap.push (.cells (cl ++ cm ++ Builtin.zeroCells z.cells ((Question.appendCap (ln + mn) cap e).cut (w.tape w.drawn (.appendCap (ln + mn) cap e)) - (ln + mn))) e (0, 0)) } := by
  have hroom : ∀ (k : Nat) (w : World), (askRoom k).run P w = .ok () w := fun k w => by unfold askRoom; split <;> rfl
  have hch : (choose (.appendCap (ln + mn) cap e)).run P w = .ok ((Question.appendCap (ln + mn) cap e).cut (w.tape w.drawn (.appendCap (ln + mn) cap e))) { w with drawn := w.drawn + 1 } := by
    simp [choose, Sem.run, Question.forced]
  generalize (Question.appendCap (ln + mn) cap e).cut (w.tape w.drawn (.appendCap (ln + mn) cap e)) = nc at *
  have hu1 : ∀ w : World, (underlying T).run P w = .ok (.slice e) w := fun w => by simp [underlying, hu]
  have hu2 : ∀ w : World, (underlying U).run P w = .ok (.slice e') w := fun w => by simp [underlying, hu']
  have hs1 : ∀ w : World, (sizeOf e).run P w = .ok n w := fun w => by simp [sizeOf, typeInfo, hi, hsz]
  have ht1 : ∀ w : World, (typeInfo e).run P w = .ok i w := fun w => by simp [typeInfo, hi]
  have hz1 : ∀ w : World, (zeroValue e).run P w = .ok z w := fun w => by simp [zeroValue, typeInfo, hi, hz]
  have hl : ∀ w : World, (Builtin.lenOf (.slice q mn cap')).run P w = .ok mn w := fun w => rfl
  have hnr : ∀ (cs : Array Value) (w : World), (newRow e cs).run P w = .ok ⟨w.heap.size, 0, none⟩ { w with heap := w.heap.push (.cells cs e (0, 0)) } := fun cs w => by simp [newRow, newObj, Sem.run]
  unfold Builtin.append_
  simp only [List.getElem?_toArray, List.getElem?_cons_zero, List.getElem?_cons_succ, Sem.run_bind, hu1, hu2, hs1, Result.andThen_ok, Sem.run_pure, hl, Bool.false_eq_true, if_false, Sem.run_ite, hneed, ht1, gt_iff_lt, hbig, hch, hroom, h1, h2, hz1, hnr, Bool.not_false, if_true]
  rw [if_neg (fun h => by rcases h.2 with h | h; exact h; exact hby0 h)]

theorem t_appendC {Γ : Slots} {H : List Ent} {α : Type} [Rep α] {x y : Operand} {t : Tok} {l m : List α} {R1 R2 : VP} {T U : TypeId} {dd : Nat} {K : St → Prop} {Hc Hr : List Ent} (hT : appB c.P T U (Rep.n α) = true)
    (hx : opnd Γ x = some R1) (hcx : ∀ S v, R1.p S v → (appv t l).p S v) (hy : opnd Γ y = some R2) (hcy : ∀ S v, R2.p S v → (isv m).p S v) (hH : (t = none ∧ Hc = []) ∨ Hc = [tokE t]) (ht : Takes H Hc Hr)
    (hb : l.length + m.length ≤ 68719476736)
    (k : ∀ t', K ⟨(dd, appv t' (l ++ m)) :: Γ, tokE t' :: Hr⟩) (hd : Nat.blt dd c.n = true := by rfl) :
    OpT c ⟨some dd, .call ⟨.builtin .append, #[x, y], #[T, U]⟩, ty, pos, af, g⟩ ⟨Γ, H⟩ K := by
  intro S a w next Q mm hn
  obtain ⟨⟨e, i, z, hu, hi, hsz, hby, hby0, hz, hzn⟩, e', hu'⟩ := AppB.of hT
  obtain ⟨hl, htk⟩ := hcx _ _ (opnd_sound mm hx)
  have hm := isv_list.1 (hcy _ _ (opnd_sound mm hy))
  obtain ⟨cl, hcl1, hcl2, hcl3, hcl4⟩ := run_firstCells (P := c.P) hl
  obtain ⟨cm, hcm1, hcm2, hcm3, hcm4⟩ := run_firstCells (P := c.P) hm
  obtain ⟨p, cap, ev, hcap, hmax, _⟩ := hl
  obtain ⟨q, cap', ev', hcap', hmax', _⟩ := hm
  have hcmo : ∀ v ∈ cm, v.oneCell' = true := rdL_cell (fun _ _ h => Rep.cell h) hcm2
  have hml : maxList = 281474976710656 := rfl
  -- the call, as far as the choice
  have hrun : ∀ w', (execOp a.eval ⟨some dd, .call ⟨.builtin .append, #[x, y], #[T, U]⟩, ty, pos, af, g⟩).run c.P w' =
      ((Builtin.append_ #[T, U] ty #[a.eval x, a.eval y]).run c.P w').andThen fun v w' => .ok (.value v) w' := by
    intro w'
    simp [execOp, resolve, invoke, builtin]
  have hown := owns_takes mm.owns ht
  unfold Oper.wp
  rw [hrun]
  by_cases hneed : l.length + m.length ≤ cap
  · -- it fits
    cases t with
    | none =>
      obtain ⟨p0, e0⟩ := htk
      rw [ev] at e0
      cases e0
      have hm0 : m = [] := by cases m with | nil => rfl | cons _ _ => exact absurd hneed (by simp)
      subst hm0
      have : (Builtin.append_ #[T, U] ty #[a.eval x, a.eval y]).run c.P w = .ok (a.eval x) w := by
        have hst : ∀ (ad : Addr), (storeCells ad ([] : List Value)).run c.P w = .ok () w := fun _ => rfl
        have hf := hcm4 w mm.sub
        simp only [List.length_nil] at hf ev'
        have hcm0 : cm = [] := List.length_eq_zero_iff.1 (by rw [hcm1]; simp)
        rw [hcm0] at hf
        rw [ev'] at hf
        cases p <;> simp [Builtin.append_, underlying, hu, hu', ev, ev', sizeOf, typeInfo, hi, hsz, Builtin.lenOf, hf, hst]
      rw [this]
      have hsrc : Hc = [] ∨ Hc = [tokE none] := hH.imp And.right id
      have m1 := mm.step (H' := [tokE none]) ht (S' := S) (w' := w) ⟨Keep.refl _ _, Grow.refl _ _ _, mm.sub⟩
        ⟨fun x hx => by simp at hx; subst hx; trivial, by simp [keys, tokE], fun b hb => by simp [keys, tokE] at hb⟩
      refine hn _ _ _ _ (Frz.le_refl _) (k none) (m1.put hd ?_)
      rw [List.append_nil]
      exact hcx _ _ (opnd_sound mm hx)
    | some t =>
      obtain ⟨b, F, C⟩ := t
      obtain ⟨off, cap0, e0, hF, hC⟩ := htk
      rw [ev] at e0
      cases e0
      have hHc : Hc = [tokE (some (b, F, C))] := by
        rcases hH with ⟨h, _⟩ | h
        · cases h
        · exact h
      subst hHc
      obtain ⟨o, ho, cs, cells, T0, hSb, hcs, ho', hCs⟩ := hown.sat _ (List.mem_singleton.2 rfl)
      subst ho'
      have hfit : F + cm.length ≤ cells.size := by
        rw [hcm1, ← hF]
        have : (l.length + m.length) * Rep.n α ≤ cap * Rep.n α := Nat.mul_le_mul_right _ hneed
        rw [Nat.add_mul] at this
        omega
      obtain ⟨cells0, T1, fr1, hh, hpre⟩ := mm.sub b cs hSb
      rw [ho] at hh
      cases hh
      have hst := run_storeCells_at (P := c.P) b F T0 cm 0 cells w ho (by omega) hcmo
      have hadd : (⟨b, off, none⟩ : Addr).add (l.length * Rep.n α) = ⟨b, F, none⟩ := by rw [add_none, hF]
      have : (Builtin.append_ #[T, U] ty #[a.eval x, a.eval y]).run c.P w = .ok (.slice (some ⟨b, off, none⟩) (l.length + m.length) cap) (w.setRow b (cells.toList.take (F + 0) ++ cm ++ cells.toList.drop (F + 0 + cm.length)).toArray) := by
        have hf := hcm4 w mm.sub
        rw [ev'] at hf
        simp [Builtin.append_, underlying, hu, hu', ev, ev', sizeOf, typeInfo, hi, hsz, Builtin.lenOf, hf, hneed, hadd, hst]
      rw [this]
      -- the step
      have hh' : (w.setRow b (cells.toList.take (F + 0) ++ cm ++ cells.toList.drop (F + 0 + cm.length)).toArray).heap[b]? = some (.cells (cells.toList.take (F + 0) ++ cm ++ cells.toList.drop (F + 0 + cm.length)).toArray T0 (0, 0)) := setRow_heap w b cells _ T0 _ ho
      have h0 : ∀ j, j ≠ b → (w.setRow b (cells.toList.take (F + 0) ++ cm ++ cells.toList.drop (F + 0 + cm.length)).toArray).heap[j]? = w.heap[j]? := fun j hj => setRow_other w b j _ hj
      have htake : cells.toList.take F = cs := by
        obtain ⟨tl, htl⟩ := hpre
        rw [← htl, ← hcs, List.take_left]
      have hlast : cs ++ cm <+: (cells.toList.take (F + 0) ++ cm ++ cells.toList.drop (F + 0 + cm.length)) := by
        rw [Nat.add_zero, htake]; exact List.prefix_append _ _
      have hstep : Step (keys [tokE (some (b, F, C))]) S (S.put b (cs ++ cm)) w (w.setRow b (cells.toList.take (F + 0) ++ cm ++ cells.toList.drop (F + 0 + cm.length)).toArray) := by
        refine ⟨⟨rfl, rfl, rfl, by simp [World.setRow], fun j _ hj => h0 j (by simpa [keys, tokE] using hj)⟩, ⟨fun j d hj => ?_, fun j _ hj => ?_⟩, fun j d hj => ?_⟩
        · unfold Frz.put
          by_cases hjb : j = b
          · subst hjb; rw [hSb] at hj; cases hj; exact ⟨_, if_pos rfl, List.prefix_append _ _⟩
          · exact ⟨d, by rw [if_neg hjb]; exact hj, List.prefix_refl _⟩
        · unfold Frz.put; rw [if_neg (by simpa [keys, tokE] using hj)]
        · unfold Frz.put at hj
          split at hj
          · cases hj
            rename_i ejb; subst ejb
            exact ⟨_, _, _, hh', by simpa using hlast⟩
          · rename_i ejb
            obtain ⟨c1, T2, f2, hh2, hp2⟩ := mm.sub j d hj
            exact ⟨c1, T2, f2, by rw [h0 j ejb]; exact hh2, hp2⟩
      have m1 := mm.step (H' := [tokE (some (b, F + m.length * Rep.n α, C))]) ht hstep
        (owns_one ⟨_, hh', cs ++ cm, _, T0, if_pos rfl, by simp; omega, rfl, by simp; omega⟩ fun b' hb' => by simp [tokE] at hb'; subst hb'; exact .inl (by simp [keys, tokE]))
      refine hn _ _ _ _ hstep.grow.le (k (some (b, F + m.length * Rep.n α, C))) (m1.put hd ⟨⟨_, cap, by rw [List.length_append], by rw [List.length_append]; exact hneed, by rw [List.length_append]; omega, ?_⟩, off, cap, by rw [List.length_append], by rw [List.length_append, Nat.add_mul]; omega, hC⟩)
      by_cases hlm : l ++ m = []
      · exact .inl hlm
      · right
        refine ⟨⟨b, off, none⟩, cl ++ cm, rfl, ?_, by rw [List.length_append, List.length_append, Nat.add_mul, hcl1, hcm1], rdL_append (rdL_mono (fun _ _ h => Rep.mono hstep.grow.le h) hcl2) (rdL_mono (fun _ _ h => Rep.mono hstep.grow.le h) hcm2)⟩
        refine ⟨rfl, cs ++ cm, if_pos rfl, fun j u hj => ?_⟩
        show (cs ++ cm)[off + j]? = some u
        rcases Nat.lt_or_ge j cl.length with hlt | hge
        · rw [List.getElem?_append_left hlt] at hj
          have hne : l ≠ [] := by rintro rfl; simp at hcl1; rw [hcl1] at hlt; simp at hlt
          have hhas := hcl3 _ _ ev _ rfl hne
          obtain ⟨_, c1, hc1, hv1⟩ := hhas
          rw [hSb] at hc1; cases hc1
          have h3 := hv1 j u hj
          rw [List.getElem?_append_left (List.getElem?_eq_some_iff.1 h3).1]; exact h3
        · rw [List.getElem?_append_right hge] at hj
          rw [List.getElem?_append_right (by omega)]
          have : off + j - cs.length = j - cl.length := by omega
          show cm[off + j - cs.length]? = some u
          rw [this]; exact hj
  · -- it does not fit
    have hgrow := nextslicecap_le (need := l.length + m.length) (cap := cap) (by omega)
    have hbig : ¬ 281474976710656 < Builtin.nextslicecap (l.length + m.length) cap * i.bytes := by
      have h1 : Builtin.nextslicecap (l.length + m.length) cap * i.bytes ≤ (2 * (l.length + m.length) + 1024) * 1024 := Nat.mul_le_mul hgrow hby
      omega
    let q0 : Question := .appendCap (l.length + m.length) cap e
    let nc := q0.cut (w.tape w.drawn q0)
    have hnc : l.length + m.length ≤ nc := Nat.le_add_right _ _
    let w1 : World := { w with drawn := w.drawn + 1 }
    have hs1 : S.sub w1 := mm.sub
    have : (Builtin.append_ #[T, U] ty #[a.eval x, a.eval y]).run c.P w = .ok (.slice (some ⟨w.heap.size, 0, none⟩) (l.length + m.length) nc) { w1 with heap := w.heap.push (.cells (cl.toArray ++ cm.toArray ++ Builtin.zeroCells z.cells (nc - (l.length + m.length))) e (0, 0)) } := by
      have hf1 := hcl4 w1 hs1
      have hf2 := hcm4 w1 hs1
      rw [ev] at hf1
      rw [ev'] at hf2
      rw [ev, ev']
      exact run_append_grow hu hu' hi hsz hz hby0 hneed (by simpa using hbig) hf1 hf2
    rw [this]
    have hpre : cl ++ cm <+: (cl.toArray ++ cm.toArray ++ Builtin.zeroCells z.cells (nc - (l.length + m.length))).toList := by simp
    have hzs : (Builtin.zeroCells z.cells (nc - (l.length + m.length))).size = (nc - (l.length + m.length)) * z.cells.size := by simp [Builtin.zeroCells]
    have hsp := step_push_put (w := w1) hs1 (cl.toArray ++ cm.toArray ++ Builtin.zeroCells z.cells (nc - (l.length + m.length))) e (0, 0) (cl ++ cm) hpre
    have hstep : Step [] S (S.put w.heap.size (cl ++ cm)) w { w1 with heap := w.heap.push (.cells (cl.toArray ++ cm.toArray ++ Builtin.zeroCells z.cells (nc - (l.length + m.length))) e (0, 0)) } :=
      ⟨⟨rfl, rfl, rfl, hsp.keep.size, hsp.keep.block⟩, ⟨hsp.grow.le, hsp.grow.old⟩, hsp.sub⟩
    have hlc : (cl ++ cm).length = (l.length + m.length) * Rep.n α := by rw [List.length_append, hcl1, hcm1, Nat.add_mul]
    have hstep' : Step (keys Hc) S (S.put w.heap.size (cl ++ cm)) w { w1 with heap := w.heap.push (.cells (cl.toArray ++ cm.toArray ++ Builtin.zeroCells z.cells (nc - (l.length + m.length))) e (0, 0)) } :=
      ⟨⟨rfl, rfl, rfl, hsp.keep.size, fun k hk _ => hsp.keep.block k hk (by simp)⟩, ⟨hsp.grow.le, fun b hb _ => hsp.grow.old b hb (by simp)⟩, hsp.sub⟩
    have m1 := mm.step (H' := [tokE (some (w.heap.size, (l.length + m.length) * Rep.n α, nc * Rep.n α))]) ht hstep'
      (owns_one ⟨.cells (cl.toArray ++ cm.toArray ++ Builtin.zeroCells z.cells (nc - (l.length + m.length))) e (0, 0), by simp, cl ++ cm, _, e, if_pos rfl, hlc, rfl, by
        rw [Array.size_append, Array.size_append, List.size_toArray, List.size_toArray, hzs, hzn, ← List.length_append, hlc, ← Nat.add_mul]
        exact Nat.mul_le_mul_right _ (by omega)⟩ fun b' hb' => by simp [tokE] at hb'; subst hb'; exact .inr (Nat.le_refl _))
    refine hn _ _ _ _ hstep.grow.le (k (some (w.heap.size, (l.length + m.length) * Rep.n α, nc * Rep.n α))) (m1.put hd ⟨⟨_, nc, by rw [List.length_append], by rw [List.length_append]; exact hnc, by rw [List.length_append]; omega, ?_⟩, 0, nc, by rw [List.length_append], by rw [List.length_append, Nat.zero_add], by rw [Nat.zero_add]⟩)
    exact .inr ⟨_, cl ++ cm, rfl, ⟨rfl, cl ++ cm, if_pos rfl, fun j u hj => by simpa using hj⟩, by rw [List.length_append (as := l), hlc], rdL_append (rdL_mono (fun _ _ h => Rep.mono hstep.grow.le h) hcl2) (rdL_mono (fun _ _ h => Rep.mono hstep.grow.le h) hcm2)⟩

theorem t_append {Γ : Slots} {H : List Ent} {α : Type} [Rep α] {x y : Operand} {t : Tok} {l m : List α} {T U : TypeId} {dd : Nat} {K : St → Prop} {Hc Hr : List Ent} (hT : appB c.P T U (Rep.n α) = true)
    (hx : opnd Γ x = some (appv t l)) (hy : opnd Γ y = some (isv m)) (hH : (t = none ∧ Hc = []) ∨ Hc = [tokE t]) (ht : Takes H Hc Hr)
    (hb : l.length + m.length ≤ 68719476736)
    (k : ∀ t', K ⟨(dd, appv t' (l ++ m)) :: Γ, tokE t' :: Hr⟩) (hd : Nat.blt dd c.n = true := by rfl) :
    OpT c ⟨some dd, .call ⟨.builtin .append, #[x, y], #[T, U]⟩, ty, pos, af, g⟩ ⟨Γ, H⟩ K := t_appendC hT hx (fun _ _ h => h) hy (fun _ _ h => h) hH ht hb k hd
end append

end Go.Sy

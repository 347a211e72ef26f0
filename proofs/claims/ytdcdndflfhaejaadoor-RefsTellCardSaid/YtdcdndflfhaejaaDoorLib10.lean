/- Kinds of data out of parts. No condition: general lemmas. -/
import Derived.Test.YtdcdndflfhaejaaDoorLib9
namespace Go.Sy

instance {α β : Type} [Rep α] [Rep β] : Rep (α × β) where
  n := Rep.n α + Rep.n β
  agg := true
  rd := fun S cs x => ∃ c1 c2, cs = c1 ++ c2 ∧ Rep.rd S c1 x.1 ∧ Rep.rd S c2 x.2
  len := fun ⟨c1, c2, e, h1, h2⟩ => by rw [e, List.length_append, Rep.len h1, Rep.len h2]
  mono := fun h ⟨c1, c2, e, h1, h2⟩ => ⟨c1, c2, e, Rep.mono h h1, Rep.mono h h2⟩
  cell := fun ⟨c1, c2, e, h1, h2⟩ v hv => by
    subst e
    rcases List.mem_append.1 hv with hv | hv
    · exact Rep.cell h1 v hv
    · exact Rep.cell h2 v hv
  one := fun h => by cases h

/-- A struct, by its parts. -/
@[reducible] def Rep.iso {α σ : Type} [Rep σ] (to : α → σ) : Rep α where
  n := Rep.n σ
  agg := true
  rd := fun S cs x => Rep.rd S cs (to x)
  len := fun h => Rep.len h
  mono := fun h k => Rep.mono h k
  cell := fun h => Rep.cell h
  one := fun h => by cases h

@[reducible] def Fld.fst (α β : Type) [Rep α] [Rep β] : Fld (α × β) α where
  off := 0
  get := fun x => x.1
  set := fun x y => (y, x.2)
  fits := by show 0 + Rep.n α ≤ Rep.n α + Rep.n β; omega
  rget := fun ⟨c1, c2, e, h1, h2⟩ => by
    have := Rep.len h1
    rw [e, List.drop_zero, ← this, List.take_left]; exact h1
  rset := fun {S cs ds x y} ⟨c1, c2, e, h1, h2⟩ k => by
    have hl := Rep.len h1
    refine ⟨ds, c2, ?_, k, h2⟩
    rw [e, List.take_zero, List.nil_append, Nat.zero_add, ← hl, List.drop_left]

@[reducible] def Fld.snd (α β : Type) [Rep α] [Rep β] : Fld (α × β) β where
  off := Rep.n α
  get := fun x => x.2
  set := fun x y => (x.1, y)
  fits := Nat.le_refl _
  rget := fun ⟨c1, c2, e, h1, h2⟩ => by
    have hl := Rep.len h1
    have hl2 := Rep.len h2
    rw [e, ← hl, List.drop_left, List.take_of_length_le (by omega)]; exact h2
  rset := fun {S cs ds x y} ⟨c1, c2, e, h1, h2⟩ k => by
    have hl := Rep.len h1
    have hl2 := Rep.len h2
    refine ⟨c1, ds, ?_, h1, k⟩
    rw [e, ← hl, List.take_left, List.drop_of_length_le (by rw [List.length_append]; omega), List.append_nil]

/-- A part of a struct, by its place among the parts, in its own words. -/
@[reducible] def Fld.of {α σ β : Type} [I : Rep σ] [Rep β] (to : α → σ) (F : Fld σ β) (get : α → β) (set : α → β → α) (hg : ∀ x, F.get (to x) = get x) (hs : ∀ x y, F.set (to x) y = to (set x y)) : @Fld α β (Rep.iso to) _ :=
  @Fld.mk α β (Rep.iso to) _ F.off get set F.fits (fun {_ _ x} h => hg x ▸ F.rget h) (fun {_ _ _ x y} h k => by
    have := F.rset h k
    rw [hs] at this
    exact this)

structure Tag where
  cls : Int
  num : Int
  deriving DecidableEq

abbrev Tag.to (t : Tag) : Int × Int := (t.cls, t.num)
instance : Rep Tag := Rep.iso Tag.to
@[reducible] def Tag.f0 : Fld Tag Int := Fld.of Tag.to (Fld.fst Int Int) (fun t => t.cls) (fun t y => { t with cls := y }) (fun _ => rfl) (fun _ _ => rfl)
@[reducible] def Tag.f1 : Fld Tag Int := Fld.of Tag.to (Fld.snd Int Int) (fun t => t.num) (fun t y => { t with num := y }) (fun _ => rfl) (fun _ _ => rfl)

theorem Tag.know (t : Tag) (S : Frz) (v : Value) (h : (isv t).p S v) : inI64 t.cls ∧ inI64 t.num := by
  obtain ⟨_, c1, c2, _, h1, h2⟩ := h
  exact ⟨h1.2, h2.2⟩

@[simp] theorem Tag.f0_get (t : Tag) : Tag.f0.get t = t.cls := rfl
@[simp] theorem Tag.f1_get (t : Tag) : Tag.f1.get t = t.num := rfl
@[simp] theorem Tag.f0_set (t : Tag) (y : Int) : Tag.f0.set t y = { t with cls := y } := rfl
@[simp] theorem Tag.f1_set (t : Tag) (y : Int) : Tag.f1.set t y = { t with num := y } := rfl
@[simp] theorem Fld.id_get {α : Type} [Rep α] (x : α) : (Fld.id α).get x = x := rfl
@[simp] theorem Fld.id_set {α : Type} [Rep α] (x y : α) : (Fld.id α).set x y = y := rfl
@[simp] theorem Fld.comp_get {α β γ : Type} [Rep α] [Rep β] [Rep γ] (L : Fld α β) (M : Fld β γ) (x : α) : (L.comp M).get x = M.get (L.get x) := rfl
@[simp] theorem Fld.comp_set {α β γ : Type} [Rep α] [Rep β] [Rep γ] (L : Fld α β) (M : Fld β γ) (x : α) (z : γ) : (L.comp M).set x z = L.set x (M.set (L.get x) z) := rfl

def Tag.zero : Tag := ⟨0, 0⟩
theorem Tag.zeroOk {P : Program} {T : TypeId} (h : (P.info? T).bind (·.zero) = some (.agg #[.int .i64 0, .int .i64 0])) : ZeroOk P T Tag.zero :=
  ZeroOk.of h fun _ => isv_of_agg rfl ⟨[.int .i64 0], [.int .i64 0], rfl, ⟨rfl, (show inI64 0 from in_mk (by omega) (by omega))⟩, ⟨rfl, (show inI64 0 from in_mk (by omega) (by omega))⟩⟩

theorem eqFs_tag {P : Program} {f g : Field} {T : TypeId} (h1 : f.offset = 0) (h2 : g.offset = 1) (n1 : (f.name == "_") = false) (n2 : (g.name == "_") = false) (hT : P.underlying T = some (.int .i64)) (t1 : f.type = T) (t2 : g.type = T) :
    EqFs P [f, g] fun x y : Tag => decide (x.cls = y.cls) && (decide (x.num = y.num) && true) :=
  EqFs.int Tag.f0 n1 h1 (t1 ▸ hT) (EqFs.int Tag.f1 n2 h2 (t2 ▸ hT) EqFs.nil)

theorem Tag.eq_dec (x y : Tag) : (decide (x.cls = y.cls) && (decide (x.num = y.num) && true)) = decide (x = y) := by
  cases x; cases y; simp

theorem Tag.eqOk {P : Program} {T I : TypeId} {f g : Field} (hu : P.underlying T = some (.struct #[f, g])) (hg : P.eqGuardType P.depth T = false) (hs : P.stoodInHeld T = false) (hT : P.underlying I = some (.int .i64))
    (h1 : f.offset = 0 := by rfl) (h2 : g.offset = 1 := by rfl) (n1 : (f.name == "_") = false := by rfl) (n2 : (g.name == "_") = false := by rfl) (t1 : f.type = I := by rfl) (t2 : g.type = I := by rfl) : EqOk P T Tag :=
  EqOk.struct rfl hu hg hs (eqFs_tag h1 h2 n1 n2 hT t1 t2) Tag.eq_dec

end Go.Sy

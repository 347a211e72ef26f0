/- Texts and their bytes; values within values. No condition: general lemmas. -/
import Derived.Test.YtdcdndflfhaejaaDoorLibW
import Derived.Laws.BytesString
import Derived.Lib.ConvBytes
namespace Go.Sy

theorem rd_bytes {S : Frz} : ∀ {l : List UInt8} {cs : List Value}, rdL (Rep.rd S) l cs → cs = l.map fun x => Value.int .u8 (x.toNat : Int)
  | [], _, h => h
  | x :: l, _, ⟨c1, c2, e, h1, h2⟩ => by
    have h1' : c1 = [.int .u8 (x.toNat : Int)] := h1
    subst h1'; subst e
    rw [rd_bytes h2]; rfl
theorem bytes_rd {S : Frz} : ∀ l : List UInt8, rdL (Rep.rd S) l (l.map fun x => Value.int .u8 (x.toNat : Int))
  | [] => rfl
  | x :: l => ⟨[.int .u8 (x.toNat : Int)], _, rfl, rfl, bytes_rd l⟩
theorem fold_bytes : ∀ (l : List UInt8) (r : ByteArray), (l.map (fun b => (b.toNat : Int))).foldl (fun r n => r.push (UInt8.ofNat n.toNat)) r = ⟨r.data ++ l.toArray⟩
  | [], r => by simp
  | b :: l, r => by
    simp only [List.map_cons, List.foldl_cons]
    rw [fold_bytes l]
    simp [ByteArray.push]

section ops
variable {c : Ctx} {ty : TypeId} {pos : String} {af : Array Edge} {g : Option (Nat × Bool)} {σ : St} {d : Option Nat}

theorem v_bs {x : Operand} {l : List UInt8} {R : VP} {T U e : TypeId} (hs : c.P.underlying T = some (.slice e)) (he : c.P.underlying e = some (.int .u8)) (hd : c.P.underlying U = some .string) (hx : opnd σ.Γ x = some R) (hc : ∀ S v, R.p S v → (isv l).p S v) :
    OpV c ⟨d, .convert T U x, ty, pos, af, g⟩ σ (isv (Str.mk l)) := fun S a w m => by
  obtain ⟨p, cap, h1, h2, h3, h4⟩ := isv_list.1 (hc _ _ (opnd_sound m hx))
  refine ⟨.string (Str.mk l).ba, isv_str.2 ⟨rfl, by show l.length ≤ maxText; unfold maxList at h3; unfold maxText; omega⟩, fun w' hw => ?_⟩
  rcases h4 with h4 | ⟨ad, cs, h5, h6, h7, h8⟩
  · subst h4
    have hr : (convert T U (.slice p 0 cap)).run c.P w' = .ok (.string (Str.mk []).ba) w' := by
      rw [run_convert_bytes_string w' T U e p 0 cap hs he hd]
      cases p with
      | none => simp [Conv.bytesToString, Str.ba]; rfl
      | some ad =>
        rw [run_bytesToString w' ad 0 cap [] (by simp [loadCells, loadCellsFrom])]
        rfl
    simp only [execOp, Sem.run_bind, h1, List.length_nil, hr, Result.andThen_ok, Sem.run_pure]
  · subst h5
    have e1 := rd_bytes h8
    have hr : (convert T U (.slice (some ad) l.length cap)).run c.P w' = .ok (.string (Str.mk l).ba) w' := by
      rw [run_convert_bytes_string w' T U e _ l.length cap hs he hd]
      have hl := run_loadCells_list (P := c.P) w' ad cs (fun j u hu => Frz.has_cell hw.1 h6 hu)
      have hn : cs.length = l.length := by rw [e1, List.length_map]
      rw [hn, e1] at hl
      have e2 : (l.map fun x => Value.int .u8 (x.toNat : Int)) = (l.map fun x => (x.toNat : Int)).map (Value.int .u8) := by rw [List.map_map]; rfl
      rw [e2] at hl
      rw [run_bytesToString w' ad l.length cap _ hl, fold_bytes]
      simp [Str.ba, ByteArray.empty, ByteArray.emptyWithCapacity]
      rfl
    simp only [execOp, Sem.run_bind, h1, hr, Result.andThen_ok, Sem.run_pure]

theorem t_sb {Γ : Slots} {H : List Ent} {x : Operand} {s : Str} {T U e : TypeId} {dd : Nat} {K : St → Prop} (hs : c.P.underlying T = some .string) (hU : c.P.underlying U = some (.slice e)) (he : c.P.underlying e = some (.int .u8)) (hx : opnd Γ x = some (isv s)) (hb : Nat.ble s.b.length 68719476736 = true)
    (k : K ⟨(dd, isv s.b) :: Γ, H⟩) (hd : Nat.blt dd c.n = true := by rfl) : OpT c ⟨some dd, .convert T U x, ty, pos, af, g⟩ ⟨Γ, H⟩ K := by
  intro S a w next Q m hn
  obtain ⟨h1, _⟩ := isv_str.1 (opnd_sound m hx)
  have hb' := Nat.le_of_ble_eq_true hb
  have hr := Lib.run_convert_string_bytes (P := c.P) w T U e s.ba hs hU he
  unfold Oper.wp
  have hrun : (execOp a.eval ⟨some dd, .convert T U x, ty, pos, af, g⟩).run c.P w = .ok (.value (.slice (some ⟨w.heap.size, 0, none⟩) s.ba.size (grownCap w s.ba.size 0 e))) (Lib.bytesWorld w e s.ba) := by
    simp only [execOp, Sem.run_bind, h1, hr, Result.andThen_ok, Sem.run_pure]
  rw [hrun]
  have hcells : (s.b.map fun x => Value.int .u8 (x.toNat : Int)) <+: (Lib.bytesCells w e s.ba).toList := by
    simp [Lib.bytesCells, Str.ba]
  have hcap : s.b.length ≤ grownCap w s.ba.size 0 e := by
    rw [← Str.ba_size]; exact Nat.le_add_right _ _
  have hfr := sub_fresh m.sub
  have hst : Step (keys []) S (S.put w.heap.size (s.b.map fun x => Value.int .u8 (x.toNat : Int))) w (Lib.bytesWorld w e s.ba) := by
    refine ⟨⟨?_, ?_, ?_, by rw [Lib.bytesWorld_size]; omega, fun k hk _ => Lib.bytesWorld_at_old w e s.ba k hk⟩, grow_put m.sub _, fun b d hb => ?_⟩
    · unfold Lib.bytesWorld World.freeze; rw [if_neg (by decide)]; rfl
    · unfold Lib.bytesWorld World.freeze; rw [if_neg (by decide)]; rfl
    · unfold Lib.bytesWorld World.freeze; rw [if_neg (by decide)]; rfl
    · unfold Frz.put at hb
      split at hb
      · cases hb
        rename_i eb; subst eb
        exact ⟨_, _, _, Lib.bytesWorld_at_new w e s.ba, hcells⟩
      · obtain ⟨c1, T1, f1, h2, h3⟩ := m.sub b d hb
        have hlt := (Array.getElem?_eq_some_iff.1 h2).1
        exact ⟨c1, T1, f1, by rw [Lib.bytesWorld_at_old w e s.ba b hlt]; exact h2, h3⟩
  have m1 := m.step (Hc := []) (H' := []) .nil hst (owns_nil _ _ _ _)
  refine hn _ _ _ _ hst.grow.le k (m1.put hd (isv_list.2 ⟨some ⟨w.heap.size, 0, none⟩, grownCap w s.ba.size 0 e, by rw [Str.ba_size], hcap, by unfold maxList; omega, .inr ⟨⟨w.heap.size, 0, none⟩, s.b.map fun x => Value.int .u8 (x.toNat : Int), rfl, ⟨rfl, s.b.map fun x => Value.int .u8 (x.toNat : Int), by show (if w.heap.size = w.heap.size then _ else _) = _; rw [if_pos rfl], fun i v hi => by simpa using hi⟩, by show _ = _ * 1; rw [List.length_map, Nat.mul_one], bytes_rd _⟩⟩))
end ops

/-! ### Values within values -/
structure Raw where
  n : Int
  b : List UInt8
deriving DecidableEq
abbrev Raw.to (x : Raw) : Int × List UInt8 := (x.n, x.b)
instance : Rep Raw := Rep.iso Raw.to

inductive Val where
  | mk (kind : Int) (n : Int) (b : List UInt8) (l : List Val) (rule : Int) (more : List Raw)
def Val.kind : Val → Int | ⟨k, _, _, _, _, _⟩ => k
def Val.n : Val → Int | ⟨_, n, _, _, _, _⟩ => n
def Val.b : Val → List UInt8 | ⟨_, _, b, _, _, _⟩ => b
def Val.l : Val → List Val | ⟨_, _, _, l, _, _⟩ => l
def Val.rule : Val → Int | ⟨_, _, _, _, r, _⟩ => r
def Val.more : Val → List Raw | ⟨_, _, _, _, _, m⟩ => m

mutual
def rdVal (S : Frz) : Val → List Value → Prop
  | ⟨k, n, b, l, r, m⟩, cs => ∃ vb vl vm, cs = [.int .i64 k, .int .i64 n, vb, vl, .int .i64 r, vm] ∧ inI64 k ∧ inI64 n ∧ inI64 r ∧ rdSl 1 Rep.rd S vb b ∧ rdSl (Rep.n Raw) Rep.rd S vm m ∧
      (∃ p cap, vl = .slice p l.length cap ∧ l.length ≤ cap ∧ l.length ≤ maxList ∧ (l = [] ∨ ∃ a c, p = some a ∧ S.has a c ∧ c.length = l.length * 6 ∧ rdVals S l c))
def rdVals (S : Frz) : List Val → List Value → Prop
  | [], cs => cs = []
  | x :: l, cs => ∃ c1 c2, cs = c1 ++ c2 ∧ rdVal S x c1 ∧ rdVals S l c2
end
theorem rdVals_iff {S : Frz} : ∀ {l : List Val} {cs : List Value}, rdVals S l cs ↔ rdL (fun cs x => rdVal S x cs) l cs
  | [], _ => by unfold rdVals rdL; exact Iff.rfl
  | x :: l, cs => by
    unfold rdVals rdL
    exact ⟨fun ⟨c1, c2, e, h1, h2⟩ => ⟨c1, c2, e, h1, rdVals_iff.1 h2⟩, fun ⟨c1, c2, e, h1, h2⟩ => ⟨c1, c2, e, h1, rdVals_iff.2 h2⟩⟩
theorem rdVal_len {S : Frz} : ∀ {x : Val} {cs : List Value}, rdVal S x cs → cs.length = 6
  | ⟨_, _, _, _, _, _⟩, _, h => by
    unfold rdVal at h
    obtain ⟨_, _, _, e, _⟩ := h
    rw [e]; rfl
mutual
theorem rdVal_mono {S S' : Frz} (h : S.le S') : ∀ (x : Val) {cs : List Value}, rdVal S x cs → rdVal S' x cs
  | ⟨k, n, b, l, r, m⟩, cs, hx => by
    unfold rdVal at hx ⊢
    obtain ⟨vb, vl, vm, e, h1, h2, h3, h4, h5, p, cap, e2, h6, h7, h8⟩ := hx
    refine ⟨vb, vl, vm, e, h1, h2, h3, isv_list.1 ((isv b).mono h (isv_list.2 h4)), isv_list.1 ((isv m).mono h (isv_list.2 h5)), p, cap, e2, h6, h7, h8.imp id ?_⟩
    rintro ⟨a, c, j1, j2, j3, j4⟩
    exact ⟨a, c, j1, Frz.has_mono h j2, j3, rdVals_mono h l j4⟩
theorem rdVals_mono {S S' : Frz} (h : S.le S') : ∀ (l : List Val) {cs : List Value}, rdVals S l cs → rdVals S' l cs
  | [], _, hx => hx
  | x :: l, _, hx => by
    unfold rdVals at hx ⊢
    obtain ⟨c1, c2, e, h1, h2⟩ := hx
    exact ⟨c1, c2, e, rdVal_mono h x h1, rdVals_mono h l h2⟩
end
theorem rdSl_cell {α : Type} {n : Nat} {r : Frz → List Value → α → Prop} {S : Frz} {v : Value} {l : List α} (h : rdSl n r S v l) : v.oneCell' = true := by
  obtain ⟨p, cap, e, _⟩ := h
  rw [e]; rfl
instance : Rep Val where
  n := 6
  agg := true
  rd := fun S cs x => rdVal S x cs
  len := rdVal_len
  mono := fun h k => rdVal_mono h _ k
  cell := fun {S cs x} h v hv => by
    obtain ⟨k, n, b, l, r, m⟩ := x
    unfold rdVal at h
    obtain ⟨vb, vl, vm, e, h1, h2, h3, h4, h5, p, cap, e2, _⟩ := h
    subst e
    simp only [List.mem_cons, List.not_mem_nil, or_false] at hv
    rcases hv with rfl | rfl | rfl | rfl | rfl | rfl
    · rfl
    · rfl
    · exact rdSl_cell h4
    · rw [e2]; rfl
    · rfl
    · exact rdSl_cell h5
  one := fun h => by cases h
abbrev Val.to (x : Val) : Int × Int × List UInt8 × List Val × Int × List Raw := (x.kind, x.n, x.b, x.l, x.rule, x.more)
theorem Val.rd_to {S : Frz} {cs : List Value} {x : Val} : Rep.rd S cs x ↔ Rep.rd S cs x.to := by
  obtain ⟨k, n, b, l, r, m⟩ := x
  show rdVal S ⟨k, n, b, l, r, m⟩ cs ↔ _
  unfold rdVal
  constructor
  · rintro ⟨vb, vl, vm, e, h1, h2, h3, h4, h5, p, cap, e2, h6, h7, h8⟩
    exact ⟨[.int .i64 k], [.int .i64 n, vb, vl, .int .i64 r, vm], e, ⟨rfl, h1⟩, [.int .i64 n], [vb, vl, .int .i64 r, vm], rfl, ⟨rfl, h2⟩, [vb], [vl, .int .i64 r, vm], rfl, ⟨vb, rfl, h4⟩, [vl], [.int .i64 r, vm], rfl,
      ⟨vl, rfl, p, cap, e2, h6, h7, h8.imp id fun ⟨a, c, j1, j2, j3, j4⟩ => ⟨a, c, j1, j2, j3, rdVals_iff.1 j4⟩⟩, [.int .i64 r], [vm], rfl, ⟨rfl, h3⟩, ⟨vm, rfl, h5⟩⟩
  · rintro ⟨_, _, e, ⟨rfl, h1⟩, _, _, rfl, ⟨rfl, h2⟩, _, _, rfl, ⟨vb, rfl, h4⟩, _, _, rfl, ⟨vl, rfl, p, cap, e2, h6, h7, h8⟩, _, _, rfl, ⟨rfl, h3⟩, ⟨vm, rfl, h5⟩⟩
    exact ⟨vb, vl, vm, e, h1, h2, h3, h4, h5, p, cap, e2, h6, h7, h8.imp id fun ⟨a, c, j1, j2, j3, j4⟩ => ⟨a, c, j1, j2, j3, rdVals_iff.2 j4⟩⟩
@[reducible] def Fld.ofV {β : Type} [Rep β] (F : Fld (Int × Int × List UInt8 × List Val × Int × List Raw) β) (get : Val → β) (set : Val → β → Val) (hg : ∀ x : Val, F.get x.to = get x) (hs : ∀ (x : Val) y, F.set x.to y = (set x y).to) : Fld Val β where
  off := F.off
  get := get
  set := set
  fits := F.fits
  rget := fun {S cs x} h => hg x ▸ F.rget (Val.rd_to.1 h)
  rset := fun {S cs ds x y} h k => by
    have := F.rset (Val.rd_to.1 h) k
    rw [hs] at this
    exact Val.rd_to.2 this
theorem Cv.val {S : Frz} {x : Val} : Cv S x.to x := fun _ h => Val.rd_to.2 h
theorem Cv.valTo {S : Frz} {x : Val} : Cv S x x.to := fun _ h => Val.rd_to.1 h
end Go.Sy

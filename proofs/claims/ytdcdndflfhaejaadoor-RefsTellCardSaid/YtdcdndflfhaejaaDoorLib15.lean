/- A list with room of its own behind it, filled and known. No condition: general lemmas. -/
import Derived.Test.YtdcdndflfhaejaaDoorLib14
namespace Go.Sy

/-- The list l; behind it, to its cap, sp. -/
def spv {α : Type} [Rep α] (l sp : List α) : VP where
  p := fun S v => ∃ ad : Addr, v = .slice (some ad) l.length (l.length + sp.length) ∧ (isv (l ++ sp)).p S (.slice (some ad) (l.length + sp.length) (l.length + sp.length))
  mono := fun h ⟨ad, e, k⟩ => ⟨ad, e, (isv _).mono h k⟩

theorem isv_front {α : Type} [Rep α] {S : Frz} {ad : Addr} {l : List α} {n cap n' : Nat} (h : (isv l).p S (.slice (some ad) n cap)) (hn : n' ≤ n) : (isv (l.take n')).p S (.slice (some ad) n' cap) := by
  obtain ⟨p, cap', ev, hcap, hmax, h4⟩ := isv_list.1 h
  have e1 : p = some ad := by injection ev with e1 _ _; exact e1.symm
  have e2 : n = l.length := by injection ev
  have e3 : cap = cap' := by injection ev
  subst e1; subst e2; subst e3
  have htl : (l.take n').length = n' := by rw [List.length_take]; omega
  refine isv_list.2 ⟨some ad, cap, by rw [htl], by omega, by omega, ?_⟩
  rcases h4 with h4 | ⟨a, cs, h5, h6, h7, h8⟩
  · subst h4; exact .inl (by simp)
  · refine .inr ⟨a, cs.take (n' * Rep.n α), h5, Frz.has_take h6 _, ?_, rdL_take (fun _ _ h => Rep.len h) n' h8⟩
    rw [htl, List.length_take, h7, Nat.min_eq_left (Nat.mul_le_mul_right _ hn)]

theorem spv_isv {α : Type} [Rep α] {l sp : List α} (S : Frz) (v : Value) (h : (spv l sp).p S v) : (isv l).p S v := by
  obtain ⟨ad, rfl, k⟩ := h
  have := isv_front k (Nat.le_add_right l.length sp.length)
  rwa [List.take_left] at this

section ops
variable {c : Ctx} {d : Option Nat} {ty : TypeId} {pos : String} {af : Array Edge} {g : Option (Nat × Bool)} {σ : St}

theorem v_capSp {α : Type} [Rep α] {x : Operand} {l sp : List α} {T n : Nat} {agg : Bool} (hT : SlB c.P T n agg = true) (hx : opnd σ.Γ x = some (spv l sp)) :
    OpV c ⟨d, .call ⟨.builtin .cap, #[x], #[T]⟩, ty, pos, af, g⟩ σ (isv ((l.length : Int) + sp.length)) := fun S a w m => by
  obtain ⟨ad, h1, k⟩ := opnd_sound m hx
  obtain ⟨e, hu, _⟩ := SlB.spec hT
  obtain ⟨_, _, ev, _, hmax, _⟩ := isv_list.1 k
  have hml : maxList = 281474976710656 := rfl
  rw [List.length_append] at hmax
  exact ⟨.int .i64 ((l.length : Int) + sp.length), isv_int.2 ⟨rfl, in_mk (by omega) (by omega)⟩, fun w' _ => by
    simp [execOp, resolve, invoke, builtin, h1, Builtin.cap_, underlying, hu, goInt]⟩

theorem v_sliceSp {α : Type} [Rep α] {x i : Operand} {l sp : List α} {k : Int} {T m : Nat} {agg : Bool} (hT : SlB c.P T m agg = true) (hm : m = Rep.n α) (hx : opnd σ.Γ x = some (spv l sp)) (hi : opnd σ.Γ i = some (isv k)) (hk : 0 ≤ k) (hc : k ≤ (l.length : Int) + sp.length) :
    OpV c ⟨d, .slice T x none (some i) none, ty, pos, af, g⟩ σ (isv ((l ++ sp).take k.toNat)) := fun S a w mm => by
  obtain ⟨ad, h1, hsp⟩ := opnd_sound mm hx
  obtain ⟨h5, _⟩ := isv_int.1 (opnd_sound mm hi)
  obtain ⟨e, hu, hte⟩ := SlB.spec hT
  refine ⟨.slice (some ad) k.toNat (l.length + sp.length), isv_front hsp (by omega), fun w' _ => ?_⟩
  have hc' : k ≤ ((l.length + sp.length : Nat) : Int) := by omega
  simp [execOp, h1, h5, Instr.sliceAt, Instr.slice, Instr.sliceBounds, underlying, hu, TyB.size hte, sliceBound_ok hk hc']
  intro _; unfold Addr.add; simp

theorem w_freezeSp {Γ : Slots} {H : List Ent} {α : Type} [Rep α] {code : Code} {Q : Exit → Act → World → Prop} {b i n cap : Nat} {l : List α} {Hr : List Ent} (hp : Pick (arrE b l) H Hr) (hi : look Γ i = some (arrv b n cap)) (hc : cap = l.length) (hn : n ≤ l.length) (hm : l.length ≤ maxList)
    (k : Wp c code ⟨(i, spv (l.take n) (l.drop n)) :: Γ, Hr⟩ Q) : Wp c code ⟨Γ, H⟩ Q := fun S a w m => by
  subst hc
  obtain ⟨S', m', cs, hS, hr⟩ := m.freeze hp
  obtain ⟨v, hv, hvr⟩ := m'.env i _ hi
  have hvr' : v = .slice (some ⟨b, 0, none⟩) n l.length := hvr
  subst hvr'
  have htl : (l.take n).length = n := by rw [List.length_take]; omega
  have hdl : (l.drop n).length = l.length - n := by rw [List.length_drop]
  refine k S' a w ⟨m'.size, m'.dfr, m'.sub, m'.keep, m'.grow, fun j R hj => ?_, m'.owns, m'.pins⟩
  unfold look at hj
  cases hk : Nat.beq i j with
  | true =>
    rw [hk] at hj
    have e : i = j := Nat.eq_of_beq_eq_true hk
    subst e
    cases hj
    have hcs := rdL_len (n := Rep.n α) (r := Rep.rd S') (fun _ _ h => Rep.len h) hr
    have hsum : n + (l.length - n) = l.length := by omega
    refine ⟨_, hv, ⟨b, 0, none⟩, by rw [htl, hdl, hsum], ?_⟩
    rw [htl, hdl, hsum, List.take_append_drop]
    exact isv_list.2 ⟨_, _, rfl, Nat.le_refl _, hm, .inr ⟨_, cs, rfl, ⟨rfl, cs, hS, fun j u hj => by simpa using hj⟩, hcs, hr⟩⟩
  | false => rw [hk] at hj; exact m'.env j R hj

/-- Behind a list that has room for it. -/
theorem t_appendA {Γ : Slots} {H Hr : List Ent} {α : Type} [Rep α] {x y : Operand} {b n cap : Nat} {l m : List α} {T U : TypeId} {dd : Nat} {K : St → Prop} (hT : appB c.P T U (Rep.n α) = true)
    (hx : opnd Γ x = some (arrv b n cap)) (hy : opnd Γ y = some (isv m)) (hp : Pick (arrE b l) H Hr) (hc : cap = l.length) (hb : n + m.length ≤ l.length)
    (k : K ⟨(dd, arrv b (n + m.length) cap) :: Γ, arrE b (l.take n ++ m ++ l.drop (n + m.length)) :: Hr⟩) (hd : Nat.blt dd c.n = true := by rfl) :
    OpT c ⟨some dd, .call ⟨.builtin .append, #[x, y], #[T, U]⟩, ty, pos, af, g⟩ ⟨Γ, H⟩ K := by
  intro S a w next Q mm hn
  subst hc
  obtain ⟨⟨e, i, z, hu, hi, hsz, hby, hby0, hz, hzn⟩, e', hu'⟩ := AppB.of hT
  have h1 : a.eval x = .slice (some ⟨b, 0, none⟩) n l.length := opnd_sound mm hx
  have hm := isv_list.1 (opnd_sound mm hy)
  obtain ⟨cm, hcm1, hcm2, hcm3, hcm4⟩ := run_firstCells (P := c.P) hm
  obtain ⟨q, cap', ev', hcap', hmax', _⟩ := hm
  have hcmo : ∀ v ∈ cm, v.oneCell' = true := rdL_cell (fun _ _ h => Rep.cell h) hcm2
  have hs : (arrE b l).sat S w := mm.owns.get hp
  obtain ⟨o, ho, hnone, cs, T', e1, hr⟩ := hs
  subst e1
  have hcs := rdL_len (n := Rep.n α) (r := Rep.rd S) (fun _ _ h => Rep.len h) hr
  have hfit : n * Rep.n α + cm.length ≤ cs.size := by
    have h2 : (n + m.length) * Rep.n α ≤ l.length * Rep.n α := Nat.mul_le_mul_right _ hb
    rw [Nat.add_mul] at h2
    rw [hcm1]
    simp at hcs
    omega
  have hst := run_storeCells_at (P := c.P) b (n * Rep.n α) T' cm 0 cs w ho (by omega) hcmo
  have hadd : (⟨b, 0, none⟩ : Addr).add (n * Rep.n α) = ⟨b, n * Rep.n α, none⟩ := by rw [add_none, Nat.zero_add]
  have hrun : (execOp a.eval ⟨some dd, .call ⟨.builtin .append, #[x, y], #[T, U]⟩, ty, pos, af, g⟩).run c.P w = .ok (.value (.slice (some ⟨b, 0, none⟩) (n + m.length) l.length)) (w.setRow b (cs.toList.take (n * Rep.n α + 0) ++ cm ++ cs.toList.drop (n * Rep.n α + 0 + cm.length)).toArray) := by
    have hf := hcm4 w mm.sub
    rw [ev'] at hf
    simp [execOp, resolve, invoke, builtin, Builtin.append_, underlying, hu, hu', h1, ev', sizeOf, typeInfo, hi, hsz, Builtin.lenOf, hf, hb, hadd, hst]
  unfold Oper.wp
  rw [hrun]
  obtain ⟨hstep, hh⟩ := step_setRow (cs := (cs.toList.take (n * Rep.n α + 0) ++ cm ++ cs.toList.drop (n * Rep.n α + 0 + cm.length)).toArray) mm.sub hnone ho
  have m1 := mm.step (Hc := [arrE b l]) (H' := [arrE b (l.take n ++ m ++ l.drop (n + m.length))]) (Takes.cons hp .nil) hstep
    (owns_one ⟨_, hh, hnone, _, _, rfl, by
      have h3 := rdL_append (rdL_append (rdL_take (fun _ _ h => Rep.len h) n hr) hcm2) (rdL_drop (fun _ _ h => Rep.len h) (n + m.length) hr)
      rw [hcm1, Nat.add_zero, ← Nat.add_mul]
      simpa using h3⟩ fun b' hb => by simp [arrE] at hb; subst hb; exact .inl (by simp [keys, arrE]))
  exact hn _ _ _ _ (Frz.le_refl _) k (m1.put hd rfl)
end ops
end Go.Sy

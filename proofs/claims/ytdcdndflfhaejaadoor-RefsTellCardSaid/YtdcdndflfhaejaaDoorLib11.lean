/- Room made for a list ahead (slices.Grow). No condition: general lemmas. -/
import Derived.Test.YtdcdndflfhaejaaDoorLib10
namespace Go.Sy

section ops
variable {c : Ctx} {d : Option Nat} {ty : TypeId} {pos : String} {af : Array Edge} {g : Option (Nat × Bool)} {σ : St}

theorem v_capN {x : Operand} {T n : Nat} {agg : Bool} (hT : SlB c.P T n agg = true) (hx : opnd σ.Γ x = some nilv) :
    OpV c ⟨d, .call ⟨.builtin .cap, #[x], #[T]⟩, ty, pos, af, g⟩ σ (isv (0 : Int)) := fun S a w m => by
  have h1 : a.eval x = .slice none 0 0 := opnd_sound m hx
  obtain ⟨e, hu, _⟩ := SlB.spec hT
  exact ⟨.int .i64 0, isv_int.2 ⟨rfl, in_mk (by omega) (by omega)⟩, fun w' _ => by
    simp [execOp, resolve, invoke, builtin, h1, Builtin.cap_, underlying, hu, goInt]⟩
theorem v_lenN {x : Operand} {T n : Nat} {agg : Bool} (hT : SlB c.P T n agg = true) (hx : opnd σ.Γ x = some nilv) :
    OpV c ⟨d, .call ⟨.builtin .len, #[x], #[T]⟩, ty, pos, af, g⟩ σ (isv (0 : Int)) := fun S a w m => by
  have h1 : a.eval x = .slice none 0 0 := opnd_sound m hx
  exact ⟨.int .i64 0, isv_int.2 ⟨rfl, in_mk (by omega) (by omega)⟩, fun w' _ => by
    simp [execOp, resolve, invoke, builtin, h1, run_len hT]⟩
theorem v_sliceNil {x i : Operand} {T n : Nat} {agg : Bool} (hT : SlB c.P T n agg = true) (hx : opnd σ.Γ x = some nilv) (hi : opnd σ.Γ i = some (isv (0 : Int))) :
    OpV c ⟨d, .slice T x none (some i) none, ty, pos, af, g⟩ σ nilv := fun S a w m => by
  have h1 : a.eval x = .slice none 0 0 := opnd_sound m hx
  obtain ⟨h5, _⟩ := isv_int.1 (opnd_sound m hi)
  obtain ⟨e, hu, hte⟩ := SlB.spec hT
  exact ⟨.slice none 0 0, rfl, fun w' _ => by
    simp [execOp, h1, h5, Instr.sliceAt, Instr.slice, Instr.sliceBounds, underlying, hu, TyB.size hte, Instr.sliceBound, asIntOf]⟩

/-- The first places of a list that is written in place. -/
theorem v_sliceArr {x i : Operand} {b n cap : Nat} {k : Int} {T m : Nat} {agg : Bool} (hT : SlB c.P T m agg = true) (hx : opnd σ.Γ x = some (arrv b n cap)) (hi : opnd σ.Γ i = some (isv k)) (hk : 0 ≤ k) (hc : k ≤ cap) :
    OpV c ⟨d, .slice T x none (some i) none, ty, pos, af, g⟩ σ (arrv b k.toNat cap) := fun S a w mm => by
  have h1 : a.eval x = .slice (some ⟨b, 0, none⟩) n cap := opnd_sound mm hx
  obtain ⟨h5, _⟩ := isv_int.1 (opnd_sound mm hi)
  obtain ⟨e, hu, hte⟩ := SlB.spec hT
  refine ⟨.slice (some ⟨b, 0, none⟩) k.toNat cap, rfl, fun w' _ => ?_⟩
  simp [execOp, h1, h5, Instr.sliceAt, Instr.slice, Instr.sliceBounds, underlying, hu, TyB.size hte, sliceBound_ok hk hc]
  intro _; unfold Addr.add; simp

/-- Zeros laid behind nothing. -/
theorem t_appendZ {α : Type} [Rep α] {Γ : Slots} {H : List Ent} {x y : Operand} {n : Int} {z0 : α} {T U e dd : Nat} {k : IntKind} {K : St → Prop} (hT : elB c.P T (Rep.n α) = true) (hU : c.P.underlying U = some (.int k)) (hz0 : ZeroOk c.P e z0) (he : c.P.underlying T = some (.slice e)) (hby : ((c.P.info? e).map fun i => i.bytes != 0) = some true)
    (hx : opnd Γ x = some nilv) (hy : opnd Γ y = some (isv n)) (h0 : 0 < n) (h1 : n ≤ 68719476736)
    (kk : ∀ b cap, n.toNat ≤ cap → K ⟨(dd, arrv b n.toNat cap) :: Γ, arrE b (List.replicate cap z0) :: H⟩) (hd : Nat.blt dd c.n = true := by rfl) :
    OpT c ⟨some dd, .call ⟨.builtin .append, #[x, y], #[T, U]⟩, ty, pos, af, g⟩ ⟨Γ, H⟩ K := by
  intro S a w next Q m hn
  obtain ⟨e', i, z, hu, hi, hsz, hby1, hz, hzn⟩ := (ElB.of hT).sl
  rw [he] at hu; cases hu
  obtain ⟨i', z', hi', hz', hzr⟩ := hz0
  rw [hi] at hi'; cases hi'
  rw [hz] at hz'; cases hz'
  have hb0 : i.bytes ≠ 0 := by rw [hi] at hby; simpa using hby
  have e1 : a.eval x = .slice none 0 0 := opnd_sound m hx
  obtain ⟨e2, _⟩ := isv_int.1 (opnd_sound m hy)
  obtain ⟨k0, rfl⟩ := Int.eq_ofNat_of_zero_le (Int.le_of_lt h0)
  have hwr : IntKind.i64.wrap (k0 : Int) = (k0 : Int) := wrap_i64 (by unfold inI64; omega)
  have hgrow := nextslicecap_le (need := k0) (cap := 0) (by omega)
  have hbig : ¬ 2 ^ 48 < Builtin.nextslicecap k0 0 * i.bytes := by
    have h1 : Builtin.nextslicecap k0 0 * i.bytes ≤ (2 * k0 + 1024) * 1024 := Nat.mul_le_mul hgrow hby1
    omega
  have hbig2 : ¬ (2 : Int) ^ 48 < (k0 : Int) * (i.bytes : Int) := by
    have : (k0 : Int) * (i.bytes : Int) ≤ 68719476736 * 1024 := Int.mul_le_mul h1 (by omega) (by omega) (by omega)
    omega
  let q0 : Question := .appendCap k0 0 e
  let nc := q0.cut (w.tape w.drawn q0)
  have hnc : k0 ≤ nc := Nat.le_add_right _ _
  let w1 : World := { w with drawn := w.drawn + 1 }
  have hroom : ∀ (k : Nat) (w : World), (askRoom k).run c.P w = .ok () w := fun k w => by unfold askRoom; split <;> rfl
  have hch : (choose (.appendCap k0 0 e)).run c.P w = .ok nc w1 := by simp [choose, Sem.run, Question.forced, nc, q0, w1]
  have hu1 : ∀ w : World, (underlying T).run c.P w = .ok (.slice e) w := fun w => by simp [underlying, he]
  have hu2 : ∀ w : World, (underlying U).run c.P w = .ok (.int k) w := fun w => by simp [underlying, hU]
  have hs1 : ∀ w : World, (sizeOf e).run c.P w = .ok (Rep.n α) w := fun w => by simp [sizeOf, typeInfo, hi, hsz]
  have ht1 : ∀ w : World, (typeInfo e).run c.P w = .ok i w := fun w => by simp [typeInfo, hi]
  have hz1 : ∀ w : World, (zeroValue e).run c.P w = .ok z w := fun w => by simp [zeroValue, typeInfo, hi, hz]
  have hzc : ∀ k : Nat, (Builtin.zeroCells z.cells k).toList = (List.replicate k z.cells.toList).flatten := fun k => by
    unfold Builtin.zeroCells; exact range_mod_flat z.cells k
  have hap : k0 * Rep.n α = 0 → Builtin.zeroCells z.cells k0 = #[] := fun h => by
    apply Array.eq_empty_of_size_eq_zero
    unfold Builtin.zeroCells
    simp [hzn, h]
  have hnr : ∀ (cs : Array Value) (w : World), (newRow e cs).run c.P w = .ok ⟨w.heap.size, 0, none⟩ { w with heap := w.heap.push (.cells cs e (0, 0)) } := fun cs w => by simp [newRow, newObj, Sem.run]
  have hkpos : ¬ k0 ≤ 0 := by omega
  have hrun : (execOp a.eval ⟨some dd, .call ⟨.builtin .append, #[x, y], #[T, U]⟩, ty, pos, af, g⟩).run c.P w = .ok (.value (.slice (some ⟨w.heap.size, 0, none⟩) k0 nc)) { w1 with heap := w.heap.push (.cells (#[] ++ Builtin.zeroCells z.cells k0 ++ Builtin.zeroCells z.cells (nc - k0)) e (0, 0)) } := by
    simp only [execOp, resolve, Sem.run_bind, Sem.run_pure, Result.andThen_ok, invoke, builtin, Builtin.append_, List.map_toArray, List.map_cons, List.map_nil, e1, e2, List.getElem?_toArray, List.getElem?_cons_zero, List.getElem?_cons_succ, hu1, hu2, hs1]
    simp only [if_true, Sem.run_ite, Sem.run_bind, asInt, asIntOf, Sem.run_pure, Result.andThen_ok, hwr, ht1]
    simp only [show ¬ (k0 : Int) < 0 from by omega, gt_iff_lt, hbig2, if_false, Sem.run_pure, Result.andThen_ok, Int.toNat_natCast, Nat.zero_add, hkpos]
    rw [if_neg (fun h => by rcases h with ⟨h, _⟩; have : IntKind.i64.max = 9223372036854775807 := rfl; omega)]
    simp only [hbig, if_false, hch, Result.andThen_ok, hroom, Builtin.firstCells, Sem.run_pure, Bool.not_true, Bool.false_eq_true, hz1, hnr, w1]
    by_cases h : k0 * Rep.n α = 0
    · rw [if_pos h, hap h]; rfl
    · rw [if_neg h]; rfl
  unfold Oper.wp
  rw [hrun]
  have hst0 := step_push (w := w1) (S := S) m.sub (.cells (#[] ++ Builtin.zeroCells z.cells k0 ++ Builtin.zeroCells z.cells (nc - k0)) e (0, 0))
  have hst : Step (keys []) S S w { w1 with heap := w.heap.push (.cells (#[] ++ Builtin.zeroCells z.cells k0 ++ Builtin.zeroCells z.cells (nc - k0)) e (0, 0)) } :=
    ⟨⟨rfl, rfl, rfl, hst0.keep.size, hst0.keep.block⟩, ⟨hst0.grow.le, hst0.grow.old⟩, hst0.sub⟩
  have m1 := m.step (Hc := []) (H' := [arrE w.heap.size (List.replicate nc z0)]) .nil hst
    (owns_one ⟨.cells (#[] ++ Builtin.zeroCells z.cells k0 ++ Builtin.zeroCells z.cells (nc - k0)) e (0, 0), by simp, sub_fresh m.sub, _, e, rfl, by
      have h2 := rdL_replicate (r := Rep.rd S) (hzr S).2 nc
      have h3 : (#[] ++ Builtin.zeroCells z.cells k0 ++ Builtin.zeroCells z.cells (nc - k0)).toList = (List.replicate nc z.cells.toList).flatten := by
        rw [Array.toList_append, Array.toList_append, hzc, hzc]
        rw [List.nil_append, ← List.flatten_append, List.replicate_append_replicate, show k0 + (nc - k0) = nc from by omega]
      rw [h3]; exact h2⟩ fun b' hb' => by simp [arrE] at hb'; subst hb'; exact .inr (Nat.le_refl _))
  exact hn _ _ _ _ (Frz.le_refl _) (kk w.heap.size nc hnc) (m1.put hd rfl)
end ops

section code
variable {c : Ctx} {Γ : Slots} {H Hr : List Ent} {Q : Exit → Act → World → Prop}

/-- A list written in place, so far as it is laid, is one that may grow. -/
theorem w_commit {α : Type} [Rep α] {code : Code} {b i n cap : Nat} {l : List α} (hp : Pick (arrE b l) H Hr) (hi : look Γ i = some (arrv b n cap)) (hcap : l.length = cap) (hn : n ≤ l.length) (hm : n ≤ maxList)
    (k : ∀ t, Wp c code ⟨(i, appv t (l.take n)) :: Γ, tokE t :: Hr⟩ Q) : Wp c code ⟨Γ, H⟩ Q := fun S a w m => by
  subst hcap
  have hs : (arrE b l).sat S w := m.owns.get hp
  obtain ⟨o, ho, hnone, cs, T', e, hr⟩ := hs
  subst e
  have hcs := rdL_len (n := Rep.n α) (r := Rep.rd S) (fun _ _ h => Rep.len h) hr
  have htk := rdL_take (n := Rep.n α) (r := Rep.rd S) (fun _ _ h => Rep.len h) n hr
  have hlen : (cs.toList.take (n * Rep.n α)).length = n * Rep.n α := by
    rw [List.length_take, hcs, Nat.min_eq_left (Nat.mul_le_mul_right _ hn)]
  have hle : S.le (S.put b (cs.toList.take (n * Rep.n α))) := fun j d hj => by
    have hne : j ≠ b := by rintro rfl; rw [hnone] at hj; cases hj
    exact ⟨d, by unfold Frz.put; rw [if_neg hne]; exact hj, List.prefix_refl _⟩
  have hst : Step (keys [arrE b l]) S (S.put b (cs.toList.take (n * Rep.n α))) w w := by
    refine ⟨Keep.refl _ _, ⟨hle, fun j _ hj => by unfold Frz.put; rw [if_neg (by simpa [keys, arrE] using hj)]⟩, fun j d hj => ?_⟩
    unfold Frz.put at hj
    split at hj
    · cases hj
      rename_i ej; subst ej
      exact ⟨cs, T', (0, 0), ho, List.take_prefix _ _⟩
    · exact m.sub j d hj
  have m1 := m.step (Hc := [arrE b l]) (H' := [tokE (some (b, n * Rep.n α, l.length * Rep.n α))]) (Takes.cons hp .nil) hst
    (owns_one ⟨_, ho, cs.toList.take (n * Rep.n α), cs, T', if_pos rfl, hlen, rfl, by rw [← hcs]; simp⟩ fun b' hb => by simp [tokE] at hb; subst hb; exact .inl (by simp [keys, arrE]))
  obtain ⟨v, hv, hvr⟩ := m1.env i _ hi
  have hvr' : v = .slice (some ⟨b, 0, none⟩) n l.length := hvr
  subst hvr'
  have htl : (l.take n).length = n := by rw [List.length_take]; omega
  refine k (some (b, n * Rep.n α, l.length * Rep.n α)) _ a w ⟨m1.size, m1.dfr, m1.sub, m1.keep, m1.grow, fun j R hj => ?_, m1.owns, m1.pins⟩
  unfold look at hj
  cases hk : Nat.beq i j with
  | true =>
    rw [hk] at hj
    have e : i = j := Nat.eq_of_beq_eq_true hk
    subst e
    cases hj
    refine ⟨_, hv, ⟨_, _, by rw [htl], by rw [htl]; exact hn, by rw [htl]; exact hm, .inr ⟨⟨b, 0, none⟩, cs.toList.take (n * Rep.n α), rfl, ⟨rfl, cs.toList.take (n * Rep.n α), if_pos rfl, fun j u hj => by simpa using hj⟩, by rw [htl, hlen], rdL_mono (fun _ _ h => Rep.mono hle h) htk⟩⟩, 0, l.length, by rw [htl], by rw [htl]; simp, by simp⟩
  | false => rw [hk] at hj; exact m1.env j R hj

/-- Nothing, as a token. -/
theorem w_none {code : Code} (k : Wp c code ⟨Γ, tokE none :: H⟩ Q) : Wp c code ⟨Γ, H⟩ Q := fun S a w m => by
  have m1 := m.step (Hc := []) (H' := [tokE none]) .nil ⟨Keep.refl _ _, Grow.refl _ _ _, m.sub⟩ (owns_one trivial fun b hb => by simp [tokE] at hb)
  exact k S a w m1
end code
end Go.Sy

/- Joins, loops, variables that are written once: the rules that the printed walks use. No condition: general lemmas. -/
import Derived.Test.YtdcdndflfhaejaaDoorLibT
namespace Go.Sy
section rules
variable {c : Ctx} {ops : Array Oper} {Q : Exit → Act → World → Prop} {ι β : Type} {r : β}

theorem w_J {γ : Type} {x y : Code} {Γ : Slots} {H Hc Hr : List Ent} (mod : ι → γ → Slots) (Hm : ι → γ → List Ent) (_hT : Takes H Hc Hr) {B : (ι → Option β) → Option β} {R : ι → Option β} (h : jp B R = some r)
    (hk : ∀ i g, R i = some r → Wp c y ⟨mod i g ++ Γ, Hm i g ++ Hr⟩ Q)
    (hx : ∀ J : ι → Option β, B J = some r → (∀ i g, J i = some r → ∀ σ', Imp σ' ⟨mod i g ++ Γ, Hm i g ++ Hr⟩ → Fin c σ' (nxt c y Q)) → Wp c x ⟨Γ, H⟩ (nxt c y Q)) : Wp c x ⟨Γ, H⟩ (nxt c y Q) :=
  hx R h fun i g hi σ' him => fin_nxt (w_cut him (hk i g hi))

theorem rl_j {γ : Type} {l l' : List Oper} {Γ : Slots} {H Hc Hr : List Ent} (mod : ι → γ → Slots) (Hm : ι → γ → List Ent) (_hT : Takes H Hc Hr) {B : (ι → Option β) → Option β} {R : ι → Option β} (h : jp B R = some r) (n : Nat) (_hl : l.drop n = l')
    (hk : ∀ i g, R i = some r → Rl c ops l' ⟨mod i g ++ Γ, Hm i g ++ Hr⟩ Q)
    (hx : ∀ J : ι → Option β, B J = some r → (∀ i g, J i = some r → ∀ σ', Imp σ' ⟨mod i g ++ Γ, Hm i g ++ Hr⟩ → Rl c ops l' σ' Q) → Rl c ops l ⟨Γ, H⟩ Q) : Rl c ops l ⟨Γ, H⟩ Q :=
  hx R h fun i g hi σ' him => fun k hk' S a w m => hk i g hi k hk' S a w (m.weak him)

theorem rd_j {γ : Type} {l l' : Ord} {Γ : Slots} {H Hc Hr : List Ent} (mod : ι → γ → Slots) (Hm : ι → γ → List Ent) (_hT : Takes H Hc Hr) {B : (ι → Option β) → Option β} {R : ι → Option β} (h : jp B R = some r) (n : Nat) (_hl : l.drop n = l')
    (hk : ∀ i g, R i = some r → Rd c ops l' ⟨mod i g ++ Γ, Hm i g ++ Hr⟩ Q)
    (hx : ∀ J : ι → Option β, B J = some r → (∀ i g, J i = some r → ∀ σ', Imp σ' ⟨mod i g ++ Γ, Hm i g ++ Hr⟩ → Rd c ops l' σ' Q) → Rd c ops l ⟨Γ, H⟩ Q) : Rd c ops l ⟨Γ, H⟩ Q :=
  hx R h fun i g hi σ' him => fun S a w m => hk i g hi S a w (m.weak him)

theorem w_lp {γ : Type} {x : Code} {Γ : Slots} {H Hr : List Ent} (mod : ι → γ → Slots) (Hm : ι → γ → List Ent) {F : (ι → Option β) → ι → Option β} {i0 : ι} (h : lp F i0 = some r) (g0 : γ)
    (hm : mods Γ (mod i0 g0)) (hT : Takes H (Hm i0 g0) Hr)
    (hx : ∀ (L : ι → Option β) (i : ι) (g : γ) (Q' : Exit → Act → World → Prop), F L i = some r → (∀ j g', L j = some r → ∀ σ', Imp σ' ⟨mod j g' ++ Γ, Hm j g' ++ Hr⟩ → Fin c σ' Q') → (∀ id σ', Exi c id σ' Q → Exi c id σ' Q') → (∀ σ', Ret c σ' Q → Ret c σ' Q') → Wp c x ⟨mod i g ++ Γ, Hm i g ++ Hr⟩ Q') : Wp c (.loop x) ⟨Γ, H⟩ Q := by
  refine w_loop (ι := Nat × ι × γ) (fun p => lpN F p.1 p.2.1 = some r) (fun p => ⟨mod p.2.1 p.2.2 ++ Γ, Hm p.2.1 p.2.2 ++ Hr⟩) (fun p => p.1) (fuel, i0, g0) h (join_imp 0 rfl rfl hm (takes_all hT)) ?_
  rintro ⟨n, i, g⟩ hI
  cases n with
  | zero => cases hI
  | succ n =>
    exact hx (lpN F n) i g _ hI (fun j g' hj σ' him => fin_loop (n, j, g') hj (Nat.lt_succ_self n) him) (fun id σ' he => exi_loop he) (fun σ' hr => ret_loop hr)

theorem upd_imm {α : Type} [Rep α] {Γ : Slots} {H Hr : List Ent} {b : Nat} {y : α} (i : Nat) (hp : Pick (boxE b y) H Hr) (hi : look Γ i = some (ptrv b (Fld.id α))) : Upd c ⟨Γ, H⟩ ⟨(i, immv y) :: Γ, Hr⟩ := fun S a w m => by
  have hs : (boxE b y).sat S w := m.owns.get hp
  obtain ⟨o, ho, hnone, cs, T', e, hr⟩ := hs
  subst e
  have hle : S.le (S.put b cs.toList) := fun j d hj => by
    have hne : j ≠ b := by rintro rfl; rw [hnone] at hj; cases hj
    exact ⟨d, by unfold Frz.put; rw [if_neg hne]; exact hj, List.prefix_refl _⟩
  have hst : Step (keys [boxE b y]) S (S.put b cs.toList) w w := by
    refine ⟨Keep.refl _ _, ⟨hle, fun j _ hj => by unfold Frz.put; rw [if_neg (by simpa [keys, boxE] using hj)]⟩, fun j d hj => ?_⟩
    unfold Frz.put at hj
    split at hj
    · cases hj
      rename_i ej; subst ej
      exact ⟨cs, T', (0, 0), ho, List.prefix_refl _⟩
    · exact m.sub j d hj
  have m' := m.step (Hc := [boxE b y]) (H' := []) (Takes.cons hp .nil) hst (owns_nil _ _ _ _)
  refine ⟨S.put b cs.toList, hle, m'.size, m'.dfr, m'.sub, m'.keep, m'.grow, fun j R hj => ?_, m'.owns, m'.pins⟩
  unfold look at hj
  cases hk : Nat.beq i j with
  | true =>
    rw [hk] at hj
    have e : i = j := Nat.eq_of_beq_eq_true hk
    subst e
    cases hj
    obtain ⟨v, h1, h2⟩ := m'.env i _ hi
    have h2' : v = .pointer (some ⟨b, 0, none⟩) := h2
    exact ⟨v, h1, ⟨b, 0, none⟩, cs.toList, h2', ⟨rfl, cs.toList, by show (if b = b then _ else _) = _; rw [if_pos rfl], fun j u hj => by simpa using hj⟩, Rep.mono hle hr⟩
  | false => rw [hk] at hj; exact m'.env j R hj

theorem w_pinN {α β : Type} [Rep α] [Rep β] {P : Program} {n : Nat} {w0 : World} {S0 : Frz} {M : List Nat} {pin : List (Nat × Obj)} {code : Code} {Γ : Slots} {H Hr : List Ent} {b : Nat} {L : Fld α β} {x : α} (i : Nat) (hp : Pick (boxE b x) H Hr) (hi : look Γ i = some (ptrv b L))
    (k : ∀ o, b ∉ pin.map (·.1) → Wp ⟨P, n, w0, S0, M, (b, o) :: pin⟩ code ⟨(i, pinv o b L x) :: Γ, Hr⟩ Q) : Wp ⟨P, n, w0, S0, M, pin⟩ code ⟨Γ, H⟩ Q := fun S a w m => by
  refine w_pin hp hi (fun o => k o fun hb => ?_) S a w m
  obtain ⟨y, hy, rfl⟩ := List.mem_map.1 hb
  refine (m.pins y hy).2.2.1 ?_
  have hkp := keys_perm hp.perm
  exact hkp.mem_iff.2 (by simp [keys, boxE])
theorem fin_unpinN {α β : Type} [Rep α] [Rep β] {P : Program} {n : Nat} {w0 : World} {S0 : Frz} {M : List Nat} {pin : List (Nat × Obj)} {Γ : Slots} {H : List Ent} {b : Nat} {L : Fld α β} {x : α} {o : Obj} (i : Nat) (hnd : b ∉ pin.map (·.1)) (hi : look Γ i = some (pinv o b L x))
    (k : Fin ⟨P, n, w0, S0, M, pin⟩ ⟨(i, ptrv b L) :: Γ, boxE b x :: H⟩ Q) : Fin ⟨P, n, w0, S0, M, (b, o) :: pin⟩ ⟨Γ, H⟩ Q := fin_unpin hnd hi k

section ops
variable {ty : TypeId} {pos : String} {af : Array Edge} {g : Option (Nat × Bool)} {σ : St} {d : Option Nat}
theorem v_lpC {α β : Type} [Rep α] [Rep β] {b : Nat} {L : Fld α β} {y : α} {R : VP} {x : Operand} {T : TypeId} {o : Obj} (ht : TyB c.P T (Rep.n β) (Rep.agg β) = true) (hx : opnd σ.Γ x = some (pinv o b L y))
    (hp : (b, o) ∈ c.pin) (hc : ∀ S v, (isv (L.get y)).p S v → R.p S v) : OpV c ⟨d, .load T x, ty, pos, af, g⟩ σ R := fun S a w m => by
  obtain ⟨v, hv, hr⟩ := v_loadP (d := d) (ty := ty) (pos := pos) (af := af) (g := g) ht hx hp S a w m
  exact ⟨v, hc _ _ hv, hr⟩
theorem v_liC {α : Type} [Rep α] {y : α} {R : VP} {x : Operand} {T : TypeId} (ht : TyB c.P T (Rep.n α) (Rep.agg α) = true) (hx : opnd σ.Γ x = some (immv y)) (hc : ∀ S v, (isv y).p S v → R.p S v) :
    OpV c ⟨d, .load T x, ty, pos, af, g⟩ σ R := fun S a w m => by
  obtain ⟨v, hv, hr⟩ := v_loadI (d := d) (ty := ty) (pos := pos) (af := af) (g := g) ht hx S a w m
  exact ⟨v, hc _ _ hv, hr⟩
theorem v_nilV {α β : Type} [Rep α] [Rep β] {t : Vt} {i : Nat} {L : Fld α β} {x : Operand} (hx : opnd σ.Γ x = some (veltv t i L)) : OpV c ⟨d, .nilCheck x, ty, pos, af, g⟩ σ (veltv t i L) := fun S a w m => by
  obtain ⟨b, cap, h1, h2⟩ := opnd_sound m hx
  exact ⟨_, ⟨b, cap, h1, rfl⟩, fun w' _ => by simp [execOp, h2]⟩
end ops

theorem upd_drop {Γ : Slots} {H Hr : List Ent} {e : Ent} (hp : Pick e H Hr) : Upd c ⟨Γ, H⟩ ⟨Γ, Hr⟩ := fun S a w m => ⟨S, S.le_refl, m.weak ⟨fun i R h => ⟨R, h, fun _ _ h => h⟩, [e], takes_pick hp⟩⟩
theorem Cv.vhe {S : Frz} {t : Vt} {n m : Nat} (e : n = m) : Cv S (Vh.mk t n) (Vh.mk t m) := fun _ h => e ▸ h
section vec
variable {ty : TypeId} {pos : String} {af : Array Edge} {g : Option (Nat × Bool)}
theorem t_vappF {Γ : Slots} {H : List Ent} {α : Type} [Rep α] {x y : Operand} {t : Vt} {n : Nat} {l m : List α} {R : VP} {T U : TypeId} {dd : Nat} {K : St → Prop} {Hr : List Ent} (hT : appB c.P T U (Rep.n α) = true)
    (hx : opnd Γ x = some (vecv t n)) (hy : opnd Γ y = some R) (hc : ∀ S v, R.p S v → (isv m).p S v) (hp : Pick (vecE t l) H Hr) (hnl : n = l.length)
    (hb : Nat.ble (l.length + m.length) 68719476736 = true)
    (k : ∀ t', K ⟨(dd, vecv t' (l ++ m).length) :: Γ, vecE t' (l ++ m) :: Hr⟩) (hd : Nat.blt dd c.n = true := by rfl) :
    OpT c ⟨some dd, .call ⟨.builtin .append, #[x, y], #[T, U]⟩, ty, pos, af, g⟩ ⟨Γ, H⟩ K := by
  subst hnl
  exact t_vapp hT hx hy hc hp (Nat.le_refl _) hb (fun t' => by rw [List.take_length]; exact k t') hd
theorem upd_frzF {α : Type} [Rep α] {Γ : Slots} {H Hr : List Ent} {t : Vt} {n : Nat} {l : List α} (i : Nat) (hp : Pick (vecE t l) H Hr) (hi : look Γ i = some (vecv t n)) (hn : n = l.length) : Upd c ⟨Γ, H⟩ ⟨(i, isv l) :: Γ, Hr⟩ := by
  have := upd_frz (c := c) i hp hi (by omega)
  rw [hn, List.take_length] at this
  exact this
end vec
section more
variable {ty : TypeId} {pos : String} {af : Array Edge} {g : Option (Nat × Bool)} {σ : St} {d : Option Nat}
theorem v_uu {x : Operand} {u : UInt64} {T U : TypeId} {k : IntKind} (hT : c.P.underlying T = some (.int k)) (hU : c.P.underlying U = some (.int .u64)) (hx : opnd σ.Γ x = some (isv u)) :
    OpV c ⟨d, .convert T U x, ty, pos, af, g⟩ σ (isv u) := fun S a w m => by
  have h1 := isv_u64.1 (opnd_sound m hx)
  have h := u.toNat_lt
  exact ⟨.int .u64 u.toNat, isv_u64.2 rfl, fun w' _ => by
    have e : ((u.toNat : Nat) : Int) % 18446744073709551616 = (u.toNat : Int) := by omega
    simp [execOp, convert, underlying, hT, hU, h1, Conv.intToInt, wrap_u64, e]⟩
theorem v_u8i {x : Operand} {u : UInt8} {T U : TypeId} {k : IntKind} (hT : c.P.underlying T = some (.int k)) (hU : c.P.underlying U = some (.int .i64)) (hx : opnd σ.Γ x = some (isv u)) :
    OpV c ⟨d, .convert T U x, ty, pos, af, g⟩ σ (isv (u.toNat : Int)) := fun S a w m => by
  have h1 := isv_u8.1 (opnd_sound m hx)
  have h := u.toNat_lt
  have hb : inI64 (u.toNat : Int) := in_mk (by omega) (by omega)
  exact ⟨.int .i64 u.toNat, isv_int.2 ⟨rfl, hb⟩, fun w' _ => by
    simp [execOp, convert, underlying, hT, hU, h1, Conv.intToInt, wrap_i64 hb]⟩
theorem v_remI {x y : Operand} {T U : TypeId} {p q : Int} (hx : opnd σ.Γ x = some (isv p)) (hy : opnd σ.Γ y = some (isv q)) (hq : (!decide (q = 0)) = true) : OpV c ⟨d, .binOp .rem T x y U, ty, pos, af, g⟩ σ (isv (p.tmod q)) := fun S a w m => by
  obtain ⟨h1, hp⟩ := isv_int.1 (opnd_sound m hx)
  obtain ⟨h2, _⟩ := isv_int.1 (opnd_sound m hy)
  have hq0 : ¬ q = 0 := by simpa using hq
  have hb : inI64 (p.tmod q) := by
    unfold inI64 at hp ⊢
    have h3 : (p.tmod q).natAbs ≤ p.natAbs := by rw [Int.natAbs_tmod]; exact Nat.mod_le _ _
    rcases Int.le_total 0 p with h4 | h4
    · have := Int.tmod_nonneg q h4; omega
    · have h5 : p.tmod q ≤ 0 := by
        have h6 : p = -(-p) := by omega
        rw [h6, Int.neg_tmod]
        have := Int.tmod_nonneg (a := -p) q (by omega)
        omega
      omega
  exact ⟨.int .i64 (p.tmod q), isv_int.2 ⟨rfl, hb⟩, fun w' _ => by
    have hr : (Op.intDiv .rem .i64 p q).run c.P w' = .ok (.int .i64 (p.tmod q)) w' := by
      unfold Op.intDiv; rw [if_neg hq0]; rfl
    simp [execOp, binOp, eqGuard, h1, h2, hr]⟩
theorem v_lenN' {x : Operand} {T n : Nat} {agg : Bool} (hT : SlB c.P T n agg = true) (hx : opnd σ.Γ x = some nilv) :
    OpV c ⟨d, .call ⟨.builtin .len, #[x], #[T]⟩, ty, pos, af, g⟩ σ (isv (0 : Int)) := fun S a w m => by
  have h1 : a.eval x = .slice none 0 0 := opnd_sound m hx
  exact ⟨.int .i64 0, isv_int.2 ⟨rfl, in_mk (by omega) (by omega)⟩, fun w' _ => by
    simp [execOp, resolve, invoke, builtin, h1, run_len hT]⟩
end more

theorem isvL {α : Type} [Rep α] {x y : α} (e : x = y) (S : Frz) (v : Value) (h : (isv x).p S v) : (isv y).p S v := e ▸ h
theorem ptr_ret {P : Program} {n : Nat} {w0 : World} {S0 : Frz} {H0 : List Ent} {σ : St} {fn : Func} {post : VP → List Ent → Prop} {Rs : List VP} {H' Hr : List Ent} (h : Results P σ fn.results.toList Rs) (ht : Takes σ.H H' Hr) (hp : post (oneOf Rs) H') :
    Ret ⟨P, n, w0, S0, keys H0, []⟩ σ (postQ P fn w0 S0 H0 post) := ret_post h ht hp
theorem some_inj {α : Type} {x y : α} (h : some x = some y) {g : Prop} (k : x = y → g) : g := k (Option.some.inj h)
end rules
end Go.Sy

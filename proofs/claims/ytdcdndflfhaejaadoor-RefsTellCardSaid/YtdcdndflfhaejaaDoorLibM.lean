/- Models of functions: partial computations in one continuation, with joins and loops; and the rules by which a walk follows them. No condition: general lemmas. -/
import Derived.Test.YtdcdndflfhaejaaDoorLib10
namespace Go.Sy

/-! ### The words of the models -/
section words
variable {α β ι ρ : Type}
/-- So many rounds, or calls within calls, at most. -/
@[irreducible] def fuel : Nat := 1000000000000000000
def ck (x : Int) (k : Option β) : Option β := bif bI64 x then k else none
def asr (b : Bool) (k : Option β) : Option β := bif b then k else none
def br (b : Bool) (t e : Option β) : Option β := bif b then t else e
def getI (l : List α) (i : Int) : Option α := match i with
  | .ofNat n => l[n]?
  | .negSucc _ => none
def cal (m : Option α) (k : α → Option β) : Option β := m.bind k
def jp (B : (ι → Option β) → Option β) (R : ι → Option β) : Option β := B R
def lpN (F : (ι → Option β) → ι → Option β) : Nat → ι → Option β
  | 0, _ => none
  | n + 1, i => F (lpN F n) i
def lp (F : (ι → Option β) → ι → Option β) (i : ι) : Option β := lpN F fuel i

theorem ck_inv {x : Int} {k : Option β} {r : β} (h : ck x k = some r) {g : Prop} (K : inI64 x → k = some r → g) : g := by
  unfold ck at h
  cases hb : bI64 x with
  | true => rw [hb] at h; exact K (bI64_in hb) h
  | false => rw [hb] at h; cases h
theorem asr_inv {b : Bool} {k : Option β} {r : β} (h : asr b k = some r) {g : Prop} (K : b = true → k = some r → g) : g := by
  unfold asr at h
  cases hb : b with
  | true => rw [hb] at h; exact K hb h
  | false => rw [hb] at h; cases h
theorem asd_inv {p : Prop} [Decidable p] {k : Option β} {r : β} (h : asr (decide p) k = some r) {g : Prop} (K : p → k = some r → g) : g :=
  asr_inv h fun h1 h2 => K (of_decide_eq_true h1) h2
theorem br_t {b : Bool} {t e : Option β} {r : β} (h : br b t e = some r) (hb : b = true) : t = some r := by subst hb; exact h
theorem br_f {b : Bool} {t e : Option β} {r : β} (h : br b t e = some r) (hb : b = false) : e = some r := by subst hb; exact h
theorem cal_inv {m : Option α} {k : α → Option β} {r : β} (h : cal m k = some r) {g : Prop} (K : ∀ y, m = some y → k y = some r → g) : g := by
  unfold cal at h
  cases hm : m with
  | none => rw [hm] at h; cases h
  | some y => rw [hm] at h; exact K y hm h
theorem getI_inv {l : List α} {i : Int} {y : α} (h : getI l i = some y) : 0 ≤ i ∧ l[i.toNat]? = some y := by
  unfold getI at h
  cases i with
  | ofNat n => exact ⟨by simp only [Int.ofNat_eq_natCast]; omega, h⟩
  | negSucc n => cases h
theorem jp_inv {B : (ι → Option β) → Option β} {R : ι → Option β} {r : β} (h : jp B R = some r) {g : Prop} (K : ∀ J : ι → Option β, J = R → B J = some r → g) : g := K R rfl h
end words

/-! ### The rules -/
section rules
variable {c : Ctx} {ops : Array Oper} {Q : Exit → Act → World → Prop} {ι β : Type} {r : β}

/-- What is known at a place where ways meet. -/
def mods (Γ' mod : Slots) : Prop := ∀ i R, look mod i = some R → ∃ R0, look Γ' i = some R0 ∧ ∀ S v, R0.p S v → R.p S v

theorem join_imp {Γ Γ' mod : Slots} {H' Hm Hr Hx : List Ent} (n : Nat) (hd : Γ'.drop n = Γ) (ht : tailB (Γ'.take n) (mod.map (·.1)) Γ = true) (hm : mods Γ' mod) (hT : Takes H' (Hm ++ Hr) Hx) : Imp ⟨Γ', H'⟩ ⟨mod ++ Γ, Hm ++ Hr⟩ :=
  ⟨slots_loop n hd ht hm, Hx, hT⟩

theorem w_seqJ0 {x y : Code} {Γ : Slots} {H Hr : List Ent} (mod : ι → Slots) (Hm : ι → List Ent) {B : (ι → Option β) → Option β} {R : ι → Option β} (h : jp B R = some r)
    (hk : ∀ i, R i = some r → Wp c y ⟨mod i ++ Γ, Hm i ++ Hr⟩ Q)
    (hx : ∀ J : ι → Option β, B J = some r → (∀ i, J i = some r → ∀ σ', Imp σ' ⟨mod i ++ Γ, Hm i ++ Hr⟩ → Fin c σ' (nxt c y Q)) → Wp c x ⟨Γ, H⟩ (nxt c y Q)) : Wp c (.seq x y) ⟨Γ, H⟩ Q :=
  w_seq (hx R h fun i hi σ' him => fin_nxt (w_cut him (hk i hi)))

theorem w_blockJ {id : Nat} {x : Code} {Γ : Slots} {H Hr : List Ent} (mod : ι → Slots) (Hm : ι → List Ent) {B : (ι → Option β) → Option β} {R : ι → Option β} (h : jp B R = some r)
    (hk : ∀ i, R i = some r → Fin c ⟨mod i ++ Γ, Hm i ++ Hr⟩ Q)
    (hx : ∀ J : ι → Option β, B J = some r → (∀ i, J i = some r → ∀ σ', Imp σ' ⟨mod i ++ Γ, Hm i ++ Hr⟩ → Fin c σ' Q) → Wp c x ⟨Γ, H⟩ (Exit.inBlock id Q)) : Wp c (.block id x) ⟨Γ, H⟩ Q :=
  w_block (hx R h fun i hi σ' him => fin_cut him (hk i hi))

theorem rl_J {l l' : List Oper} {Γ : Slots} {H Hr : List Ent} (mod : ι → Slots) (Hm : ι → List Ent) {B : (ι → Option β) → Option β} {R : ι → Option β} (h : jp B R = some r) (n : Nat) (hl : l.drop n = l')
    (hk : ∀ i, R i = some r → Rl c ops l' ⟨mod i ++ Γ, Hm i ++ Hr⟩ Q)
    (hx : ∀ J : ι → Option β, B J = some r → (∀ i, J i = some r → ∀ σ', Imp σ' ⟨mod i ++ Γ, Hm i ++ Hr⟩ → Rl c ops l' σ' Q) → Rl c ops l ⟨Γ, H⟩ Q) : Rl c ops l ⟨Γ, H⟩ Q :=
  hx R h fun i hi σ' him => fun k hk' S a w m => hk i hi k hk' S a w (m.weak him)

theorem rd_J {l l' : Ord} {Γ : Slots} {H Hr : List Ent} (mod : ι → Slots) (Hm : ι → List Ent) {B : (ι → Option β) → Option β} {R : ι → Option β} (h : jp B R = some r) (n : Nat) (hl : l.drop n = l')
    (hk : ∀ i, R i = some r → Rd c ops l' ⟨mod i ++ Γ, Hm i ++ Hr⟩ Q)
    (hx : ∀ J : ι → Option β, B J = some r → (∀ i, J i = some r → ∀ σ', Imp σ' ⟨mod i ++ Γ, Hm i ++ Hr⟩ → Rd c ops l' σ' Q) → Rd c ops l ⟨Γ, H⟩ Q) : Rd c ops l ⟨Γ, H⟩ Q :=
  hx R h fun i hi σ' him => fun S a w m => hk i hi S a w (m.weak him)

theorem w_loopJ {x : Code} {Γ : Slots} {H Hr Hx : List Ent} (mod : ι → Slots) (Hm : ι → List Ent) {F : (ι → Option β) → ι → Option β} {i0 : ι} (h : lp F i0 = some r)
    (hm : mods Γ (mod i0)) (hT : Takes H (Hm i0 ++ Hr) Hx)
    (hx : ∀ (L : ι → Option β) (i : ι) (Q' : Exit → Act → World → Prop), F L i = some r → (∀ j, L j = some r → ∀ σ', Imp σ' ⟨mod j ++ Γ, Hm j ++ Hr⟩ → Fin c σ' Q') → (∀ id σ', Exi c id σ' Q → Exi c id σ' Q') → (∀ σ', Ret c σ' Q → Ret c σ' Q') → Wp c x ⟨mod i ++ Γ, Hm i ++ Hr⟩ Q') : Wp c (.loop x) ⟨Γ, H⟩ Q := by
  refine w_loop (ι := Nat × ι) (fun p => lpN F p.1 p.2 = some r) (fun p => ⟨mod p.2 ++ Γ, Hm p.2 ++ Hr⟩) (fun p => p.1) (fuel, i0) h (join_imp 0 rfl rfl hm hT) ?_
  rintro ⟨n, i⟩ hI
  cases n with
  | zero => cases hI
  | succ n =>
    exact hx (lpN F n) i _ hI (fun j hj σ' him => fin_loop (n, j) hj (Nat.lt_succ_self n) him) (fun id σ' he => exi_loop he) (fun σ' hr => ret_loop hr)

theorem rl_condM {l : List Oper} {σ : St} {j : Nat} {b : Bool} {T E : Option β} (h : br b T E = some r) (_hl : look σ.Γ j = some (isv b)) (ht : b = true → T = some r → Rl c ops l σ Q) (hf : b = false → E = some r → Rl c ops l σ Q) : Rl c ops l σ Q := by
  cases b with
  | true => exact ht rfl h
  | false => exact hf rfl h
theorem rd_condM {l : Ord} {σ : St} {j : Nat} {b : Bool} {T E : Option β} (h : br b T E = some r) (_hl : look σ.Γ j = some (isv b)) (ht : b = true → T = some r → Rd c ops l σ Q) (hf : b = false → E = some r → Rd c ops l σ Q) : Rd c ops l σ Q := by
  cases b with
  | true => exact ht rfl h
  | false => exact hf rfl h
theorem w_condM {x : Operand} {σ : St} {t e : Code} {b : Bool} {T E : Option β} (h : br b T E = some r) (hx : opnd σ.Γ x = some (isv b)) (ht : b = true → T = some r → Wp c t σ Q) (he : b = false → E = some r → Wp c e σ Q) : Wp c (.cond x t e) σ Q :=
  w_cond hx (fun hb => ht hb (br_t h hb)) (fun hb => he hb (br_f h hb))

theorem ctr_know {P : Program} {f : FuncId} {args : List VP} {H : List Ent} {post : VP → List Ent → Prop} {p : Prop} (hp : Callable P f) (hk : ∀ S vs, VPs S args vs → p) (h : p → Ctr P f args H post) : Ctr P f args H post :=
  ⟨hp, fun S w vs h0 h1 h2 h3 => (h (hk S vs h2)).calls S w vs h0 h1 h2 h3⟩
end rules
end Go.Sy

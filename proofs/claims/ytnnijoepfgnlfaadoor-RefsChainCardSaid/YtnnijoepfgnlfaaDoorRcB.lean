/- The lexer's answer as a plain function of the bytes that are left: signs of any kind, all signs of a text. No condition: general lemmas. -/
import Derived.Test.YtnnijoepfgnlfaaDoorRcA
import Derived.Lib.ValidU
set_option linter.unusedVariables false
set_option linter.unusedSimpArgs false

namespace Go.Sy
section short
variable {c : Ctx} {ops : Array Oper} {Q : Exit → Act → World → Prop} {Γ : Slots} {H : List Ent} {σ : St}
theorem oT {o : Oper} {rest : List Oper} (h : OpT c o σ fun σ' => Rl c ops rest σ' Q) (hg : o.guard = none := by rfl) : Rl c ops (o :: rest) σ Q := op_cons hg h
theorem oV {d : Nat} {op : Op} {ty : TypeId} {pos : String} {af : Array Edge} {rest : List Oper} {R : VP} (h : OpV c ⟨some d, op, ty, pos, af, none⟩ ⟨Γ, H⟩ R) (k : Rl c ops rest ⟨(d, R) :: Γ, H⟩ Q) (hd : Nat.blt d c.n = true := by rfl) : Rl c ops (⟨some d, op, ty, pos, af, none⟩ :: rest) ⟨Γ, H⟩ Q :=
  op_cons rfl (OpV.t h k hd)
theorem wsr {id : Nat} {y : Code} (h : Rl c ops ops.toList σ (nxt c y Q)) : Wp c (.seq (.region id ops false) y) σ Q := w_seq (w_region h)
theorem rnf {y : Code} (h : Wp c y σ Q) : Rl c ops [] σ (nxt c y Q) := rl_nil (fin_nxt h)
theorem wkf {y : Code} (h : Wp c y σ Q) : Wp c .skip σ (nxt c y Q) := w_skip (fin_nxt h)
theorem oM {d : Nat} {ty : TypeId} {x : Operand} {pos : String} {af : Array Edge} {rest : List Oper} {R : VP} (hx : opnd Γ x = some R) (k : Rl c ops rest ⟨(d, R) :: Γ, H⟩ Q) (hd : Nat.blt d c.n = true := by rfl) : Rl c ops (⟨some d, .move x, ty, pos, af, none⟩ :: rest) ⟨Γ, H⟩ Q :=
  oV (v_move hx) k hd
theorem oA {d : Nat} {ty : TypeId} {x : Operand} {pos : String} {af : Array Edge} {rest : List Oper} {R : VP} (hx : opnd Γ x = some R) (k : Rl c ops rest ⟨(d, R) :: Γ, H⟩ Q) (hd : Nat.blt d c.n = true := by rfl) : Rl c ops (⟨some d, .assign x, ty, pos, af, none⟩ :: rest) ⟨Γ, H⟩ Q :=
  oV (v_assign hx) k hd
theorem oK {d : Nat} {op : Op} {ty : TypeId} {pos : String} {af : Array Edge} {rest : List Oper} {j : Nat} {want b : Bool} {R : VP} (dj : Nat) (hg : (some (j, want) : Option (Nat × Bool)) = some (j, want)) (hj : (ops[j]?).bind (·.dst) = some dj) (hl : look Γ dj = some (isv b)) (hb : b = want)
    (h : OpV c ⟨some d, op, ty, pos, af, some (j, want)⟩ ⟨Γ, H⟩ R) (k : Rl c ops rest ⟨(d, R) :: Γ, H⟩ Q) (hd : Nat.blt d c.n = true := by rfl) : Rl c ops (⟨some d, op, ty, pos, af, some (j, want)⟩ :: rest) ⟨Γ, H⟩ Q :=
  op_take rfl hj hl hb (OpV.t h k hd)
theorem oP {d : Nat} {op : Op} {ty : TypeId} {pos : String} {af : Array Edge} {rest : List Oper} {j : Nat} {want b : Bool} (dj : Nat) (hj : (ops[j]?).bind (·.dst) = some dj) (hl : look Γ dj = some (isv b)) (hb : b = !want)
    (h : Rl c ops rest ⟨(d, undv) :: Γ, H⟩ Q) (hd : Nat.blt d c.n = true := by rfl) : Rl c ops (⟨some d, op, ty, pos, af, some (j, want)⟩ :: rest) ⟨Γ, H⟩ Q := op_pass hj hl hb h hd
theorem rvt {i d j : Nat} {want b : Bool} {op : Op} {ty : TypeId} {pos : String} {af : Array Edge} {π : Ord} {R : VP} (dj : Nat) (ho : ops[i]? = some ⟨some d, op, ty, pos, af, some (j, want)⟩) (hj : (ops[j]?).bind (·.dst) = some dj) (hl : look Γ dj = some (isv b)) (hb : b = want)
    (h : OpV c ⟨some d, op, ty, pos, af, some (j, want)⟩ ⟨Γ, H⟩ R) (k : Rd c ops π ⟨(d, R) :: Γ, H⟩ Q) (hd : Nat.blt d c.n = true := by rfl) : Rd c ops (.v i π) ⟨Γ, H⟩ Q := rd_vt ho hj hl hb h k hd
theorem rpv {i d j : Nat} {want b : Bool} {op : Op} {ty : TypeId} {pos : String} {af : Array Edge} {π : Ord} (dj : Nat) (ho : ops[i]? = some ⟨some d, op, ty, pos, af, some (j, want)⟩) (hj : (ops[j]?).bind (·.dst) = some dj) (hl : look Γ dj = some (isv b)) (hb : b = !want)
    (k : Rd c ops π ⟨(d, undv) :: Γ, H⟩ Q) (hd : Nat.blt d c.n = true := by rfl) : Rd c ops (.v i π) ⟨Γ, H⟩ Q := rd_passV ho hj hl hb k hd
theorem rvm {i d : Nat} {ty : TypeId} {x : Operand} {pos : String} {af : Array Edge} {π : Ord} {R : VP} (ho : ops[i]? = some ⟨some d, .move x, ty, pos, af, none⟩) (hx : opnd Γ x = some R) (k : Rd c ops π ⟨(d, R) :: Γ, H⟩ Q) (hd : Nat.blt d c.n = true := by rfl) : Rd c ops (.v i π) ⟨Γ, H⟩ Q := rd_v ho (v_move hx) k hd
@[reducible] def jb (n : Nat) : Bool → Unit → Slots := fun q _ => [(n, isv q)]
@[reducible] def je : Bool → Unit → List Ent := fun _ _ => []
end short
theorem ji {Γ Γ' : Slots} {H' : List Ent} {R : VP} (n j : Nat) (hd : Γ'.drop n = Γ) (ht : tailB (Γ'.take n) [j] Γ = true) (hl : look Γ' j = some R) : Imp ⟨Γ', H'⟩ ⟨[(j, R)] ++ Γ, [] ++ []⟩ :=
  join_imp (mod := [(j, R)]) (Hm := []) (Hr := []) n hd ht (mod_cons hl (fun _ _ h => h) mod_nil) .nil
end Go.Sy


namespace Go.Sy

section ops
variable {c : Ctx} {ty : TypeId} {pos : String} {af : Array Edge} {g : Option (Nat × Bool)} {σ : St} {d : Option Nat}
end ops
end Go.Sy


namespace Go.Sy

structure GAcc where
  lo : UInt8
  hi : UInt8
abbrev GAcc.to (x : GAcc) : UInt8 × UInt8 := (x.lo, x.hi)
instance : Rep GAcc := Rep.iso GAcc.to
@[reducible] def GAcc.f0 : Fld GAcc (UInt8) := Fld.of GAcc.to pf0 (fun x => x.lo) (fun x y => { x with lo := y }) (fun _ => rfl) (fun _ _ => rfl)
@[reducible] def GAcc.f1 : Fld GAcc (UInt8) := Fld.of GAcc.to pl1 (fun x => x.hi) (fun x y => { x with hi := y }) (fun _ => rfl) (fun _ _ => rfl)
@[reducible] def GAcc.zero : GAcc := ⟨0, 0⟩

def ArrB (P : Program) (T len n : Nat) (agg : Bool) : Bool :=
  match P.underlying T with
  | some (.array l e) => l == len && TyB P e n agg
  | _ => false
theorem ArrB.spec {P : Program} {T len n : Nat} {agg : Bool} (h : ArrB P T len n agg = true) : ∃ e, P.underlying T = some (.array len e) ∧ TyB P e n agg = true := by
  unfold ArrB at h
  split at h
  · rename_i l e hu
    simp only [Bool.and_eq_true, beq_iff_eq] at h
    obtain ⟨rfl, h2⟩ := h
    exact ⟨e, hu, h2⟩
  · cases h
section ops
variable {c : Ctx} {ty : TypeId} {pos : String} {af : Array Edge} {gd : Option (Nat × Bool)} {σ : St} {d : Option Nat}
end ops

section bits
variable {c : Ctx} {ty : TypeId} {pos : String} {af : Array Edge} {g : Option (Nat × Bool)} {σ : St} {d : Option Nat} {x y : Operand} {t u : TypeId}
end bits
end Go.Sy


namespace Go.Sy

theorem EqOk.u64 {P : Program} {T : TypeId} : EqOk P T UInt64 := by
  intro S v u x y hx hy X Y w
  have h1 := isv_u64.1 hx
  have h2 := isv_u64.1 hy
  subst h1; subst h2
  have hb : ((x.toNat : Int) == (y.toNat : Int)) = decide (x = y) := by
    by_cases h : x = y
    · simp [h]
    · have : x.toNat ≠ y.toNat := fun e => h (UInt64.toNat_inj.1 e)
      simp [h]; omega
  refine ⟨by simp [eqGuard], by simp [eqGuard], ?_, ?_⟩
  · simp only [binOp, Op.intCmp, Sem.run_pure, hb, ne_eq, not_true, if_false]
  · have hb' : ((x.toNat : Int) != (y.toNat : Int)) = !decide (x = y) := by rw [bne, hb]
    simp only [binOp, Op.intCmp, Sem.run_pure, hb', ne_eq, not_true, if_false]
section bits
variable {c : Ctx} {ty : TypeId} {pos : String} {af : Array Edge} {g : Option (Nat × Bool)} {σ : St} {d : Option Nat} {x y : Operand} {t u : TypeId}
end bits
structure PtrB where
  b : Nat
instance : Rep PtrB where
  n := 1
  agg := false
  rd := fun _ cs x => cs = [.pointer (some ⟨x.b, 0, none⟩)]
  len := fun h => by rw [h]; rfl
  mono := fun _ h => h
  cell := fun h v hv => by rw [h] at hv; simp at hv; subst hv; rfl
  one := fun _ => rfl
/-! ### Lists of lists, the last one of which is appended to -/
structure NL (α : Type) where
  l : List α
  t : Option Tok
instance {α : Type} [Rep α] : Rep (NL α) where
  n := 1
  agg := false
  rd := fun S cs x => match x.t with
    | none => Rep.rd S cs x.l
    | some t => Rep.rd S cs (TList.mk t x.l)
  len := fun {S cs x} h => by
    cases hx : x.t with
    | none => simp only [hx] at h; exact Rep.len h
    | some t => simp only [hx] at h; exact Rep.len h
  mono := fun {S S' cs x} hS h => by
    cases hx : x.t with
    | none => simp only [hx] at h ⊢; exact Rep.mono hS h
    | some t => simp only [hx] at h ⊢; exact Rep.mono hS h
  cell := fun {S cs x} h => by
    cases hx : x.t with
    | none => simp only [hx] at h; exact Rep.cell h
    | some t => simp only [hx] at h; exact Rep.cell h
  one := fun _ => rfl
section nest0
variable {α : Type}
def nestL (t : Tok) : List (List α) → List (NL α)
  | [] => []
  | [x] => [⟨x, some t⟩]
  | x :: y :: r => ⟨x, none⟩ :: nestL t (y :: r)
@[simp] theorem nestL_length (t : Tok) : ∀ L : List (List α), (nestL t L).length = L.length
  | [] => rfl
  | [_] => rfl
  | x :: y :: r => by show (nestL t (y :: r)).length + 1 = (y :: r).length + 1; rw [nestL_length t (y :: r)]
end nest0
section nest
variable {α : Type} [Rep α] {S : Frz} {v : Value} {c : Ctx}
end nest
section nilq
variable {c : Ctx} {ty : TypeId} {pos : String} {af : Array Edge} {g : Option (Nat × Bool)} {σ : St} {d : Option Nat}
end nilq
/-! ### An owned list, as one that is appended to -/
section vapp
variable {c : Ctx}
def vtok (n : Nat) (t : Vt) (k : Nat) : Tok := t.map fun x => (x.1, k * n, x.2 * n)
theorem Models.vapp {α : Type} [Rep α] {σ : St} {S : Frz} {a : Act} {w : World} {t : Vt} {l : List α} {Hr : List Ent} (m : Models c σ S a w) (hp : Pick (vecE t l) σ.H Hr) :
    ∃ S' : Frz, S.le S' ∧ Models c ⟨σ.Γ, tokE (vtok (Rep.n α) t l.length) :: Hr⟩ S' a w ∧ ∀ v, (vecv t l.length).p S' v → (appv (vtok (Rep.n α) t l.length) l).p S' v := by
  cases t with
  | none =>
    have m1 : Models c ⟨σ.Γ, [tokE Option.none] ++ Hr⟩ S a w := m.step (Hc := [vecE Option.none l]) (H' := [tokE Option.none]) (Takes.cons hp .nil) ⟨Keep.refl _ _, Go.Sy.Grow.refl _ _ _, m.sub⟩ (owns_one trivial fun b hb => by simp [tokE] at hb)
    refine ⟨S, S.le_refl, m1, fun v hv => ?_⟩
    obtain ⟨_, rfl, h0⟩ := hv
    have : l = [] := List.length_eq_zero_iff.1 h0
    subst this
    exact nilv_appv _ _ rfl
  | some t =>
    obtain ⟨b, cap⟩ := t
    have hs : (vecE (Option.some (b, cap)) l).sat S w := m.owns.get hp
    obtain ⟨o, ho, hnone, cs, T', e, hsz, hlc, hr⟩ := hs
    subst e
    have hlen : cs.toList.length = cs.size := by simp
    have hle3 : l.length * Rep.n α ≤ cap * Rep.n α := Nat.mul_le_mul_right _ hlc
    have htl : (cs.toList.take (l.length * Rep.n α)).length = l.length * Rep.n α := by rw [List.length_take]; omega
    have hle : S.le (S.put b (cs.toList.take (l.length * Rep.n α))) := fun j d hj => by
      have hne : j ≠ b := by rintro rfl; rw [hnone] at hj; cases hj
      exact ⟨d, by unfold Frz.put; rw [if_neg hne]; exact hj, List.prefix_refl _⟩
    have hst : Step (keys [vecE (Option.some (b, cap)) l]) S (S.put b (cs.toList.take (l.length * Rep.n α))) w w := by
      refine ⟨Keep.refl _ _, ⟨hle, fun j _ hj => by unfold Frz.put; rw [if_neg (by simpa [keys, vecE] using hj)]⟩, fun j d hj => ?_⟩
      unfold Frz.put at hj
      split at hj
      · cases hj
        rename_i ej; subst ej
        exact ⟨cs, T', (0, 0), ho, List.take_prefix _ _⟩
      · exact m.sub j d hj
    have m1 := m.step (Hc := [vecE (Option.some (b, cap)) l]) (H' := [tokE (Option.some (b, l.length * Rep.n α, cap * Rep.n α))]) (Takes.cons hp .nil) hst
      (owns_one ⟨_, ho, _, cs, T', if_pos rfl, htl, rfl, by omega⟩ fun b' hb' => .inl (by
        have : b = b' := Option.some.inj hb'
        subst this
        simp [keys, vecE]))
    refine ⟨_, hle, m1, fun v hv => ?_⟩
    obtain ⟨hm, e⟩ := hv
    simp only at e
    subst e
    refine ⟨⟨_, _, rfl, hlc, hm, .inr ⟨⟨b, 0, Option.none⟩, cs.toList.take (l.length * Rep.n α), rfl, ⟨rfl, cs.toList.take (l.length * Rep.n α), if_pos rfl, fun j u hj => by simpa using hj⟩, htl, rdL_mono (fun _ _ h => Rep.mono hle h) hr⟩⟩, 0, cap, rfl, by simp, by simp⟩
end vapp
structure Wr (α : Type) where
  v : α
instance {α : Type} [Rep α] : Rep (Wr α) := Rep.iso Wr.v
@[reducible] def Fld.wr (α : Type) [Rep α] : Fld (Wr α) α := Fld.of Wr.v (Fld.id α) (fun x => x.v) (fun _ y => ⟨y⟩) (fun _ => rfl) (fun _ _ => rfl)
theorem Cv.wr {α β : Type} [Rep α] [Rep β] {S : Frz} {y : α} {z : β} (h : Cv S y z) : Cv S (Wr.mk y) (Wr.mk z) := h
/-! ### Shorter words for walks -/
theorem t_callE {c : Ctx} {ty : TypeId} {pos : String} {af : Array Edge} {g : Option (Nat × Bool)} {Γ : Slots} {H : List Ent} {f : FuncId} {xs : Array Operand} {ats : Array TypeId} {args : List VP} {Hc Hr : List Ent} {R0 : VP} {H0 : List Ent} {dd : Nat} {K : St → Prop} (hs : Ctr c.P f args Hc (fun R H => R = R0 ∧ H = H0)) (hT : Tabs c.P c.S0) (hx : Opnds Γ xs.toList args) (ht : Takes H Hc Hr)
    (k : K ⟨(dd, R0) :: Γ, H0 ++ Hr⟩) (hd : Nat.blt dd c.n = true := by rfl) :
    OpT c ⟨some dd, .call ⟨.value (.func f), xs, ats⟩, ty, pos, af, g⟩ ⟨Γ, H⟩ K :=
  t_call hs hT hx ht (fun R H' hR => by obtain ⟨rfl, rfl⟩ := hR; exact k) hd
theorem jk {Γ Γ' : Slots} {x : Ent} {Hx : List Ent} {R : VP} (n j : Nat) (hd : Γ'.drop n = Γ) (ht : tailB (Γ'.take n) [j] Γ = true) (hl : look Γ' j = some R) : Imp ⟨Γ', x :: Hx⟩ ⟨[(j, R)] ++ Γ, [x] ++ []⟩ :=
  join_imp (mod := [(j, R)]) (Hm := [x]) (Hr := []) n hd ht (mod_cons hl (fun _ _ h => h) mod_nil) (.cons .here .nil)
theorem hI {α β : Type} {p : α → β → Prop} (a : α) (b : β) (h : p a b) : p a b := h
theorem k1 {a : Ent} {H : List Ent} : Takes (a :: H) [a] H := .cons .here .nil
theorem k2 {a b : Ent} {H : List Ent} : Takes (a :: b :: H) [a, b] H := .cons .here k1
theorem k3 {a b c : Ent} {H : List Ent} : Takes (a :: b :: c :: H) [a, b, c] H := .cons .here k2
theorem k4 {a b c d : Ent} {H : List Ent} : Takes (a :: b :: c :: d :: H) [a, b, c, d] H := .cons .here k3
theorem s1 {Γ : Slots} {x : Operand} {R : VP} (h : opnd Γ x = some R) : Opnds Γ [x] [R] := .same h .nil
theorem s2 {Γ : Slots} {x y : Operand} {R Q : VP} (h : opnd Γ x = some R) (k : opnd Γ y = some Q) : Opnds Γ [x, y] [R, Q] := .same h (s1 k)
theorem s3 {Γ : Slots} {x y z : Operand} {R Q T : VP} (h : opnd Γ x = some R) (k : opnd Γ y = some Q) (l : opnd Γ z = some T) : Opnds Γ [x, y, z] [R, Q, T] := .same h (s2 k l)
theorem s4 {Γ : Slots} {x y z u : Operand} {R Q T U : VP} (h : opnd Γ x = some R) (k : opnd Γ y = some Q) (l : opnd Γ z = some T) (m : opnd Γ u = some U) : Opnds Γ [x, y, z, u] [R, Q, T, U] := .same h (s3 k l m)
theorem spec_introD {P : Program} {f : FuncId} {fn : Func} {code : Code} {args : List VP} {H : List Ent} {post : VP → List Ent → Prop}
    (hf : P.funcs[f]? = some fn) (hb : fn.body = some code)
    (h : ∀ w0 S0, Tabs P S0 → Wp ⟨P, fn.ntmps, w0, S0, keys H, []⟩ code ⟨slotsOf 0 args, H⟩ (postQ P fn w0 S0 H post))
    (hn : (fn.name == "runtime.NumGoroutine") = false := by decide +kernel) (hl : Nat.ble args.length fn.ntmps = true := by rfl) : Ctr P f args H post := spec_intro hf hb hn hl h
theorem tH {a b : Ent} {H : List Ent} : Pick b (a :: b :: H) (a :: H) := .there .here
theorem tI {a b c : Ent} {H : List Ent} : Pick c (a :: b :: c :: H) (a :: b :: H) := .there tH
end Go.Sy


namespace Go.Proofs.YtnnijoepfgnlfaaDoor
open Go.Sy
def utf8_ValidString (s : Str) : Option Bool := some (Lib.validD s.b)
end Go.Proofs.YtnnijoepfgnlfaaDoor


namespace Go.Proofs.YtnnijoepfgnlfaaDoor
open Go.Sy
set_option maxRecDepth 4000
def r04_at (a_s : Str) (a_i : Int) : Option (UInt8) :=
  jp (ι := Bool) (fun J2 => br (decide (a_i < (0 : Int))) (J2 (true)) (J2 ((decide ((a_s.b.length : Int) ≤ a_i))))) (fun q1 => br q1 (some ((0 : UInt8))) (cal (getI a_s.b a_i) fun y4 => some (y4)))

def r04_white (a_s : Str) (a_i : Int) : Option (Int) :=
  lp (ι := Int) (fun L2 q1 => br (decide (q1 < (a_s.b.length : Int))) (cal (getI a_s.b q1) fun y51 => jp (ι := Bool) (fun J53 => br (decide (y51 = (32 : UInt8))) (J53 (true)) (cal (getI a_s.b q1) fun y55 => J53 ((decide (y55 = (9 : UInt8)))))) (fun q52 => jp (ι := Bool) (fun J57 => br q52 (J57 (true)) (cal (getI a_s.b q1) fun y59 => J57 ((decide (y59 = (10 : UInt8)))))) (fun q56 => jp (ι := Bool) (fun J61 => br q56 (J61 (true)) (cal (getI a_s.b q1) fun y63 => J61 ((decide (y63 = (13 : UInt8)))))) (fun q60 => br q60 (ck ((q1 + (1 : Int))) <| L2 ((q1 + (1 : Int)))) (cal (getI a_s.b q1) fun y65 => jp (ι := Bool) (fun J67 => br (decide (y65 = (45 : UInt8))) (ck ((q1 + (1 : Int))) <| cal (r04_at a_s (q1 + (1 : Int))) fun y70 => J67 ((decide (y70 = (45 : UInt8))))) (J67 (false))) (fun q66 => br q66 (ck ((q1 + (2 : Int))) <| lp (ι := Int) (fun L73 q72 => jp (ι := Bool) (fun J87 => br (decide (q72 < (a_s.b.length : Int))) (cal (getI a_s.b q72) fun y89 => J87 ((!decide (y89 = (10 : UInt8))))) (J87 (false))) (fun q86 => br q86 (cal (getI a_s.b q72) fun y90 => jp (ι := Bool) (fun J92 => br (decide (y90 = (45 : UInt8))) (ck ((q72 + (1 : Int))) <| cal (r04_at a_s (q72 + (1 : Int))) fun y95 => J92 ((decide (y95 = (45 : UInt8))))) (J92 (false))) (fun q91 => br q91 (ck ((q72 + (2 : Int))) <| L2 ((q72 + (2 : Int)))) (ck ((q72 + (1 : Int))) <| L73 ((q72 + (1 : Int)))))) (L2 (q72)))) (((q1 + (2 : Int))))) (some (q1)))))))) (some (q1))) ((a_i))

def r04_letter (a_c : UInt8) : Option (Bool) :=
  jp (ι := Bool) (fun J2 => br (decide ((97 : UInt8) ≤ a_c)) (J2 ((decide (a_c ≤ (122 : UInt8))))) (J2 (false))) (fun q1 => jp (ι := Bool) (fun J5 => br q1 (J5 (true)) (jp (ι := Bool) (fun J8 => br (decide ((65 : UInt8) ≤ a_c)) (J8 ((decide (a_c ≤ (90 : UInt8))))) (J8 (false))) (fun q7 => J5 (q7)))) (fun q4 => some (q4)))

def r04_digit (a_c : UInt8) : Option (Bool) :=
  jp (ι := Bool) (fun J2 => br (decide ((48 : UInt8) ≤ a_c)) (J2 ((decide (a_c ≤ (57 : UInt8))))) (J2 (false))) (fun q1 => some (q1))

def r04_name (a_s : Str) (a_i : Int) : Option (Int) :=
  lp (ι := Int) (fun L2 q1 => jp (ι := Bool) (fun J30 => br (decide (q1 < (a_s.b.length : Int))) (cal (getI a_s.b q1) fun y32 => cal (r04_letter y32) fun y33 => jp (ι := Bool) (fun J35 => br y33 (J35 (true)) (cal (getI a_s.b q1) fun y37 => cal (r04_digit y37) fun y38 => J35 (y38))) (fun q34 => jp (ι := Bool) (fun J40 => br q34 (J40 (true)) (cal (getI a_s.b q1) fun y42 => jp (ι := Bool) (fun J44 => br (decide (y42 = (45 : UInt8))) (ck ((q1 + (1 : Int))) <| cal (r04_at a_s (q1 + (1 : Int))) fun y47 => J44 ((!decide (y47 = (45 : UInt8))))) (J44 (false))) (fun q43 => J40 (q43)))) (fun q39 => J30 (q39)))) (J30 (false))) (fun q29 => br q29 (ck ((q1 + (1 : Int))) <| L2 ((q1 + (1 : Int)))) (ck ((q1 - (1 : Int))) <| cal (getI a_s.b (q1 - (1 : Int))) fun y50 => jp (ι := Bool) (fun J52 => br (decide (y50 = (45 : UInt8))) (J52 (true)) (ck ((q1 - a_i)) <| J52 ((decide ((60 : Int) < (q1 - a_i)))))) (fun q51 => br q51 (some ((-1 : Int))) (some (q1)))))) ((a_i))

def r04_words  : Option ((List Str)) :=
  some (([(Str.mk [68, 69, 70, 73, 78, 73, 84, 73, 79, 78, 83]), (Str.mk [69, 88, 80, 76, 73, 67, 73, 84]), (Str.mk [73, 77, 80, 76, 73, 67, 73, 84]), (Str.mk [65, 85, 84, 79, 77, 65, 84, 73, 67]), (Str.mk [84, 65, 71, 83]), (Str.mk [66, 69, 71, 73, 78]), (Str.mk [69, 78, 68]), (Str.mk [66, 79, 79, 76, 69, 65, 78]), (Str.mk [73, 78, 84, 69, 71, 69, 82]), (Str.mk [69, 78, 85, 77, 69, 82, 65, 84, 69, 68]), (Str.mk [78, 85, 76, 76]), (Str.mk [79, 67, 84, 69, 84]), (Str.mk [83, 84, 82, 73, 78, 71]), (Str.mk [85, 84, 70, 56, 83, 116, 114, 105, 110, 103]), (Str.mk [83, 69, 81, 85, 69, 78, 67, 69]), (Str.mk [83, 69, 84]), (Str.mk [67, 72, 79, 73, 67, 69]), (Str.mk [79, 70]), (Str.mk [79, 80, 84, 73, 79, 78, 65, 76]), (Str.mk [68, 69, 70, 65, 85, 76, 84]), (Str.mk [83, 73, 90, 69]), (Str.mk [77, 73, 78]), (Str.mk [77, 65, 88]), (Str.mk [84, 82, 85, 69]), (Str.mk [70, 65, 76, 83, 69])] : (List Str)))

def h_In_string (a_l : (List Str)) (a_x : Str) : Option (Bool) :=
  lp (ι := Int) (fun L2 q1 => br (decide (q1 < (a_l.length : Int))) (cal (getI a_l q1) fun y5 => br (decide (y5 = a_x)) (some (true)) (ck ((q1 + (1 : Int))) <| L2 ((q1 + (1 : Int))))) (some (false))) (((0 : Int)))

def r04_Word (a_s : Str) : Option (Bool) :=
  cal (r04_words ) fun y1 => cal (h_In_string y1 a_s) fun y2 => some (y2)

def r04_number (a_s : Str) (a_i : Int) : Option (Int) :=
  cal (getI a_s.b a_i) fun y1 => jp (ι := Int) (fun J3 => br (decide (y1 = (45 : UInt8))) (ck ((a_i + (1 : Int))) <| J3 ((a_i + (1 : Int)))) (J3 (a_i))) (fun q2 => lp (ι := Int × UInt64) (fun L6 q5 => jp (ι := Bool) (fun J50 => br (decide (q5.1 < (a_s.b.length : Int))) (cal (getI a_s.b q5.1) fun y52 => cal (r04_digit y52) fun y53 => J50 (y53)) (J50 (false))) (fun q49 => br q49 (ck ((q5.1 - q2)) <| jp (ι := UInt64) (fun J56 => br (decide ((q5.1 - q2) < (19 : Int))) (cal (getI a_s.b q5.1) fun y57 => J56 ((((10 : UInt64) * q5.2) + (y57 - (48 : UInt8)).toUInt64))) (J56 (q5.2))) (fun q55 => ck ((q5.1 + (1 : Int))) <| L6 ((q5.1 + (1 : Int)), q55))) (ck ((q5.1 - q2)) <| jp (ι := Bool) (fun J61 => br (decide ((q5.1 - q2) < (1 : Int))) (J61 (true)) (J61 ((decide ((19 : Int) < (q5.1 - q2)))))) (fun q60 => jp (ι := Bool) (fun J64 => br q60 (J64 (true)) (jp (ι := Bool) (fun J67 => br (decide ((1 : Int) < (q5.1 - q2))) (cal (getI a_s.b q2) fun y69 => J67 ((decide (y69 = (48 : UInt8))))) (J67 (false))) (fun q66 => J64 (q66)))) (fun q63 => jp (ι := Bool) (fun J71 => br q63 (J71 (true)) (jp (ι := Bool) (fun J74 => br (decide (y1 = (45 : UInt8))) (cal (getI a_s.b q2) fun y76 => J74 ((decide (y76 = (48 : UInt8))))) (J74 (false))) (fun q73 => J71 (q73)))) (fun q70 => jp (ι := Bool) (fun J78 => br q70 (J78 (true)) (cal (r04_at a_s q5.1) fun y80 => cal (r04_letter y80) fun y81 => J78 (y81))) (fun q77 => jp (ι := Bool) (fun J83 => br q77 (J83 (true)) (J83 ((decide ((9223372036854775808 : UInt64) < q5.2))))) (fun q82 => jp (ι := Bool) (fun J86 => br q82 (J86 (true)) (jp (ι := Bool) (fun J89 => br (!(decide (y1 = (45 : UInt8)))) (J89 ((decide (q5.2 = (9223372036854775808 : UInt64))))) (J89 (false))) (fun q88 => J86 (q88)))) (fun q85 => br q85 (some ((-1 : Int))) (some (q5.1))))))))))) ((q2, (0 : UInt64))))

def r04_hex (a_s : Str) (a_i : Int) : Option (Int × Str) :=
  ck ((a_i + (1 : Int))) <| lp (ι := Int) (fun L3 q2 => jp (ι := Bool) (fun J32 => br (decide (q2 < (a_s.b.length : Int))) (cal (getI a_s.b q2) fun y34 => cal (r04_digit y34) fun y35 => jp (ι := Bool) (fun J37 => br y35 (J37 (true)) (cal (getI a_s.b q2) fun y39 => jp (ι := Bool) (fun J41 => br (decide ((65 : UInt8) ≤ y39)) (cal (getI a_s.b q2) fun y43 => J41 ((decide (y43 ≤ (70 : UInt8))))) (J41 (false))) (fun q40 => J37 (q40)))) (fun q36 => J32 (q36))) (J32 (false))) (fun q31 => br q31 (ck ((q2 + (1 : Int))) <| L3 ((q2 + (1 : Int)))) (ck ((q2 - (a_i + (1 : Int)))) <| asr (!decide ((2 : Int) = 0)) <| jp (ι := Bool) (fun J48 => br (!decide (((q2 - (a_i + (1 : Int))).tmod (2 : Int)) = (0 : Int))) (J48 (true)) (cal (r04_at a_s q2) fun y50 => J48 ((!decide (y50 = (39 : UInt8)))))) (fun q47 => jp (ι := Bool) (fun J52 => br q47 (J52 (true)) (ck ((q2 + (1 : Int))) <| cal (r04_at a_s (q2 + (1 : Int))) fun y55 => J52 ((!decide (y55 = (72 : UInt8)))))) (fun q51 => br q51 (some ((-1 : Int), (Str.mk []))) (ck ((q2 + (2 : Int))) <| asr (decide (0 ≤ (a_i + (1 : Int)) ∧ (a_i + (1 : Int)) ≤ q2 ∧ q2 ≤ (a_s.b.length : Int))) <| some ((q2 + (2 : Int)), (Str.mk ((a_s.b.take (q2).toNat).drop ((a_i + (1 : Int))).toNat))))))))) (((a_i + (1 : Int))))

def r04_quoted (a_s : Str) (a_i : Int) : Option (Int × Str) :=
  ck ((a_i + (1 : Int))) <| lp (ι := Int × Str) (fun L3 q2 => br (decide (q2.1 < (a_s.b.length : Int))) (jp (ι := Int × Str) (fun J18 => cal (getI a_s.b q2.1) fun y19 => br (!decide (y19 = (34 : UInt8))) (ck ((q2.1 + (1 : Int))) <| asr (decide (0 ≤ q2.1 ∧ q2.1 ≤ (q2.1 + (1 : Int)) ∧ (q2.1 + (1 : Int)) ≤ (a_s.b.length : Int))) <| asr (Nat.ble (q2.2.b.length + (Str.mk ((a_s.b.take ((q2.1 + (1 : Int))).toNat).drop (q2.1).toNat)).b.length) 4611686018427387904) <| J18 (q2.1, (Str.mk (q2.2.b ++ (Str.mk ((a_s.b.take ((q2.1 + (1 : Int))).toNat).drop (q2.1).toNat)).b)))) (ck ((q2.1 + (1 : Int))) <| cal (r04_at a_s (q2.1 + (1 : Int))) fun y24 => br (!decide (y24 = (34 : UInt8))) (cal (utf8_ValidString q2.2) fun y25 => br (!y25) (some ((-1 : Int), (Str.mk []))) (ck ((q2.1 + (1 : Int))) <| some ((q2.1 + (1 : Int)), q2.2))) (asr (Nat.ble (q2.2.b.length + (Str.mk [34]).b.length) 4611686018427387904) <| ck ((q2.1 + (1 : Int))) <| J18 ((q2.1 + (1 : Int)), (Str.mk (q2.2.b ++ (Str.mk [34]).b)))))) (fun q17 => ck ((q17.1 + (1 : Int))) <| L3 ((q17.1 + (1 : Int)), q17.2))) (some ((-1 : Int), (Str.mk [])))) (((a_i + (1 : Int)), (Str.mk [])))

def r04_sign (a_s : Str) (a_i : Int) : Option (Int) :=
  asr (decide (0 ≤ a_i ∧ a_i ≤ (a_s.b.length : Int) ∧ (a_s.b.length : Int) ≤ (a_s.b.length : Int))) <| lp (ι := Int) (fun L4 q3 => br (decide (q3 < (([(Str.mk [58, 58, 61]), (Str.mk [46, 46, 46]), (Str.mk [46, 46]), (Str.mk [91, 91]), (Str.mk [93, 93]), (Str.mk [123]), (Str.mk [125]), (Str.mk [91]), (Str.mk [93]), (Str.mk [40]), (Str.mk [41]), (Str.mk [44]), (Str.mk [58])] : (List Str)).length : Int))) (cal (getI ([(Str.mk [58, 58, 61]), (Str.mk [46, 46, 46]), (Str.mk [46, 46]), (Str.mk [91, 91]), (Str.mk [93, 93]), (Str.mk [123]), (Str.mk [125]), (Str.mk [91]), (Str.mk [93]), (Str.mk [40]), (Str.mk [41]), (Str.mk [44]), (Str.mk [58])] : (List Str)) q3) fun y12 => jp (ι := Bool) (fun J14 => br (decide ((y12.b.length : Int) ≤ ((Str.mk ((a_s.b.take ((a_s.b.length : Int)).toNat).drop (a_i).toNat)).b.length : Int))) (asr (decide (0 ≤ (0 : Int) ∧ (0 : Int) ≤ (y12.b.length : Int) ∧ (y12.b.length : Int) ≤ ((Str.mk ((a_s.b.take ((a_s.b.length : Int)).toNat).drop (a_i).toNat)).b.length : Int))) <| cal (getI ([(Str.mk [58, 58, 61]), (Str.mk [46, 46, 46]), (Str.mk [46, 46]), (Str.mk [91, 91]), (Str.mk [93, 93]), (Str.mk [123]), (Str.mk [125]), (Str.mk [91]), (Str.mk [93]), (Str.mk [40]), (Str.mk [41]), (Str.mk [44]), (Str.mk [58])] : (List Str)) q3) fun y17 => J14 ((decide ((Str.mk (((Str.mk ((a_s.b.take ((a_s.b.length : Int)).toNat).drop (a_i).toNat)).b.take ((y12.b.length : Int)).toNat).drop (0 : Int).toNat)) = y17)))) (J14 (false))) (fun q13 => br q13 (some ((y12.b.length : Int))) (ck ((q3 + (1 : Int))) <| L4 ((q3 + (1 : Int)))))) (some ((0 : Int)))) (((0 : Int)))

def r04_one (a_s : Str) (a_i : Int) : Option (GTok × Int) :=
  cal (getI a_s.b a_i) fun y3 => jp (ι := Int × GTok) (fun J5 => cal (r04_letter y3) fun y6 => br y6 (cal (r04_name a_s a_i) fun y7 => br (decide (y7 < (0 : Int))) (some ((GTok.mk (0 : Int) (Str.mk []) a_i), (-1 : Int))) (asr (decide (0 ≤ a_i ∧ a_i ≤ y7 ∧ y7 ≤ (a_s.b.length : Int))) <| jp (ι := GTok) (fun J10 => br (decide (y3 ≤ (90 : UInt8))) (J10 ((GTok.mk (1 : Int) (Str.mk ((a_s.b.take (y7).toNat).drop (a_i).toNat)) a_i))) (J10 ((GTok.mk (2 : Int) (Str.mk ((a_s.b.take (y7).toNat).drop (a_i).toNat)) a_i)))) (fun q9 => cal (r04_Word q9.text) fun y11 => br y11 (J5 (y7, { q9 with kind := (5 : Int) })) (J5 (y7, q9))))) (cal (r04_digit y3) fun y12 => jp (ι := Bool) (fun J14 => br y12 (J14 (true)) (jp (ι := Bool) (fun J17 => br (decide (y3 = (45 : UInt8))) (ck ((a_i + (1 : Int))) <| cal (r04_at a_s (a_i + (1 : Int))) fun y20 => cal (r04_digit y20) fun y21 => J17 (y21)) (J17 (false))) (fun q16 => J14 (q16)))) (fun q13 => br q13 (cal (r04_number a_s a_i) fun y22 => br (decide (y22 < (0 : Int))) (some ((GTok.mk (0 : Int) (Str.mk []) a_i), (-1 : Int))) (asr (decide (0 ≤ a_i ∧ a_i ≤ y22 ∧ y22 ≤ (a_s.b.length : Int))) <| J5 (y22, (GTok.mk (3 : Int) (Str.mk ((a_s.b.take (y22).toNat).drop (a_i).toNat)) a_i)))) (br (decide (y3 = (39 : UInt8))) (cal (r04_hex a_s a_i) fun y24 => J5 (y24.1, (GTok.mk (4 : Int) y24.2 a_i))) (br (decide (y3 = (34 : UInt8))) (cal (r04_quoted a_s a_i) fun y25 => J5 (y25.1, (GTok.mk (7 : Int) y25.2 a_i))) (cal (r04_sign a_s a_i) fun y26 => br (decide ((0 : Int) < y26)) (ck ((a_i + y26)) <| asr (decide (0 ≤ a_i ∧ a_i ≤ (a_i + y26) ∧ (a_i + y26) ≤ (a_s.b.length : Int))) <| ck ((a_i + y26)) <| J5 ((a_i + y26), (GTok.mk (6 : Int) (Str.mk ((a_s.b.take ((a_i + y26)).toNat).drop (a_i).toNat)) a_i))) (J5 ((-1 : Int), (GTok.mk (0 : Int) (Str.mk []) a_i))))))))) (fun q4 => some (q4.2, q4.1))

def r04_Tokens (a_text : Str) : Option ((List GTok) × Int × Int) :=
  br (decide ((8000 : Int) < (a_text.b.length : Int))) (some (([] : (List GTok)), (0 : Int), (5 : Int))) (lp (ι := (List GTok) × Int) (fun L2 q1 => cal (r04_white a_text q1.2) fun y12 => br (decide ((a_text.b.length : Int) ≤ y12)) (asr (Nat.ble (q1.1.length + ([(GTok.mk (0 : Int) (Str.mk []) (a_text.b.length : Int))] : (List GTok)).length) 68719476736) <| some ((q1.1 ++ ([(GTok.mk (0 : Int) (Str.mk []) (a_text.b.length : Int))] : (List GTok))), (0 : Int), (0 : Int))) (cal (r04_one a_text y12) fun y16 => br (decide (y16.2 < (0 : Int))) (some (([] : (List GTok)), y12, (6 : Int))) (asr (Nat.ble (q1.1.length + ([y16.1] : (List GTok)).length) 68719476736) <| L2 ((q1.1 ++ ([y16.1] : (List GTok))), y16.2)))) ((([] : (List GTok)), (0 : Int))))

def r05_parser_now (a_x : GPar) : Option (GTok × GPar) :=
  cal (getI a_x.l a_x.at_) fun y7 => some (y7, a_x)

def r05_parser_fail (a_x : GPar) (a_e : Int) (a_t : GTok) : Option (GPar) :=
  br (decide (a_x.e = (0 : Int))) (some ((GPar.mk a_x.l a_x.at_ a_x.m a_e a_t.at_))) (some (a_x))

def r05_parser_next (a_x : GPar) : Option (GTok × GPar) :=
  cal (getI a_x.l a_x.at_) fun y7 => ck ((a_x.at_ + (1 : Int))) <| jp (ι := GPar) (fun J13 => br (decide ((a_x.at_ + (1 : Int)) < (a_x.l.length : Int))) (ck ((a_x.at_ + (1 : Int))) <| J13 ((GPar.mk a_x.l (a_x.at_ + (1 : Int)) a_x.m a_x.e a_x.p))) (J13 (a_x))) (fun q12 => some (y7, q12))

def r05_parser_kind (a_x : GPar) (a_k : Int) : Option (Str × GPar) :=
  cal (r05_parser_now a_x) fun y4 => jp (ι := Bool) (fun J9 => br (!decide (y4.2.e = (0 : Int))) (J9 (true)) (J9 ((!decide (y4.1.kind = a_k))))) (fun q8 => br q8 (cal (r05_parser_fail y4.2 (7 : Int) y4.1) fun y11 => some ((Str.mk []), y11)) (cal (r05_parser_next y4.2) fun y14 => some (y14.1.text, y14.2)))

def r05_parser_is (a_x : GPar) (a_s : Str) : Option (Bool × GPar) :=
  cal (r05_parser_now a_x) fun y4 => jp (ι := Bool) (fun J9 => br (decide (y4.2.e = (0 : Int))) (jp (ι := Bool) (fun J12 => br (decide (y4.1.kind = (5 : Int))) (J12 (true)) (J12 ((decide (y4.1.kind = (6 : Int)))))) (fun q11 => J9 (q11))) (J9 (false))) (fun q8 => jp (ι := Bool) (fun J15 => br q8 (J15 ((decide (y4.1.text = a_s)))) (J15 (false))) (fun q14 => br q14 (cal (r05_parser_next y4.2) fun y17 => some (true, y17.2)) (some (false, y4.2))))

def r05_parser_must (a_x : GPar) (a_s : Str) : Option (GPar) :=
  jp (ι := Bool × GPar) (fun J5 => br (decide (a_x.e = (0 : Int))) (cal (r05_parser_is a_x a_s) fun y7 => J5 ((!y7.1), y7.2)) (J5 (false, a_x))) (fun q4 => br q4.1 (cal (r05_parser_now q4.2) fun y10 => cal (r05_parser_fail y10.2 (7 : Int) y10.1) fun y13 => some (y13)) (some (q4.2)))

def r05_begins (a_t : GTok) : Option (Bool) :=
  lp (ι := Int) (fun L3 q2 => br (decide (q2 < (([(Str.mk [91]), (Str.mk [66, 79, 79, 76, 69, 65, 78]), (Str.mk [78, 85, 76, 76]), (Str.mk [85, 84, 70, 56, 83, 116, 114, 105, 110, 103]), (Str.mk [73, 78, 84, 69, 71, 69, 82]), (Str.mk [79, 67, 84, 69, 84]), (Str.mk [69, 78, 85, 77, 69, 82, 65, 84, 69, 68]), (Str.mk [83, 69, 84]), (Str.mk [67, 72, 79, 73, 67, 69]), (Str.mk [83, 69, 81, 85, 69, 78, 67, 69])] : (List Str)).length : Int))) (cal (getI ([(Str.mk [91]), (Str.mk [66, 79, 79, 76, 69, 65, 78]), (Str.mk [78, 85, 76, 76]), (Str.mk [85, 84, 70, 56, 83, 116, 114, 105, 110, 103]), (Str.mk [73, 78, 84, 69, 71, 69, 82]), (Str.mk [79, 67, 84, 69, 84]), (Str.mk [69, 78, 85, 77, 69, 82, 65, 84, 69, 68]), (Str.mk [83, 69, 84]), (Str.mk [67, 72, 79, 73, 67, 69]), (Str.mk [83, 69, 81, 85, 69, 78, 67, 69])] : (List Str)) q2) fun y12 => jp (ι := Bool) (fun J14 => br (decide (y12 = a_t.text)) (jp (ι := Bool) (fun J17 => br (decide (a_t.kind = (5 : Int))) (J17 (true)) (J17 ((decide (a_t.kind = (6 : Int)))))) (fun q16 => J14 (q16))) (J14 (false))) (fun q13 => br q13 (some (true)) (ck ((q2 + (1 : Int))) <| L3 ((q2 + (1 : Int)))))) (some ((decide (a_t.kind = (1 : Int)))))) (((0 : Int)))

def r05_Whole (a_s : Str) : Option (Int) :=
  cal (getI a_s.b (0 : Int)) fun y1 => jp (ι := Str) (fun J3 => br (decide (y1 = (45 : UInt8))) (asr (decide (0 ≤ (1 : Int) ∧ (1 : Int) ≤ (a_s.b.length : Int) ∧ (a_s.b.length : Int) ≤ (a_s.b.length : Int))) <| J3 ((Str.mk ((a_s.b.take ((a_s.b.length : Int)).toNat).drop ((1 : Int)).toNat)))) (J3 (a_s))) (fun q2 => lp (ι := UInt64 × Int) (fun L6 q5 => br (decide (q5.2 < (q2.b.length : Int))) (cal (getI q2.b q5.2) fun y13 => ck ((q5.2 + (1 : Int))) <| L6 ((((10 : UInt64) * q5.1) + (y13 - (48 : UInt8)).toUInt64), (q5.2 + (1 : Int)))) (br (decide (y1 = (45 : UInt8))) (ck (((q5.1 - (1 : UInt64)).toNat : Int)) <| ck ((-((q5.1 - (1 : UInt64)).toNat : Int))) <| ck (((-((q5.1 - (1 : UInt64)).toNat : Int)) - (1 : Int))) <| some (((-((q5.1 - (1 : UInt64)).toNat : Int)) - (1 : Int)))) (ck ((q5.1.toNat : Int)) <| some ((q5.1.toNat : Int))))) (((0 : UInt64), (0 : Int))))

def r05_parser_number (a_x : GPar) : Option (Int × GPar) :=
  cal (r05_parser_kind a_x (3 : Int)) fun y4 => br (decide (y4.1 = (Str.mk []))) (some ((0 : Int), y4.2)) (cal (r05_Whole y4.1) fun y7 => some (y7, y4.2))

def r05_parser_bounds (a_x : GPar) : Option (GCon × GPar) :=
  cal (r05_parser_is a_x (Str.mk [77, 73, 78])) fun y6 => jp (ι := GPar × GCon) (fun J10 => br (!y6.1) (cal (r05_parser_number y6.2) fun y11 => J10 (y11.2, (GCon.mk true true false false y11.1 (0 : Int)))) (J10 (y6.2, (GCon.mk true false false false (0 : Int) (0 : Int))))) (fun q9 => jp (ι := GPar × GCon) (fun J15 => cal (r05_parser_is q9.1 (Str.mk [46, 46])) fun y16 => br y16.1 (cal (r05_parser_is y16.2 (Str.mk [77, 65, 88])) fun y19 => br (!y19.1) (cal (r05_parser_number y19.2) fun y22 => J15 (y22.2, { { q9.2 with hasHigh := true } with high := y22.1 })) (J15 (y19.2, q9.2))) (br q9.2.hasLow (J15 (y16.2, { { q9.2 with hasHigh := true } with high := q9.2.low })) (J15 (y16.2, q9.2)))) (fun q14 => cal (r05_parser_is q14.1 (Str.mk [44])) fun y25 => jp (ι := GPar × GCon) (fun J29 => br y25.1 (cal (r05_parser_must y25.2 (Str.mk [46, 46, 46])) fun y30 => J29 (y30, { q14.2 with more := true })) (J29 (y25.2, q14.2))) (fun q28 => some (q28.2, q28.1))))

def r05_parser_size (a_x : GPar) : Option (GCon × GPar) :=
  cal (r05_parser_is a_x (Str.mk [40])) fun y5 => br (!y5.1) (some ((GCon.mk false false false false (0 : Int) (0 : Int)), y5.2)) (cal (r05_parser_must y5.2 (Str.mk [83, 73, 90, 69])) fun y8 => cal (r05_parser_must y8 (Str.mk [40])) fun y11 => cal (r05_parser_bounds y11) fun y14 => cal (r05_parser_must y14.2 (Str.mk [41])) fun y18 => cal (r05_parser_must y18 (Str.mk [41])) fun y21 => some (y14.1, y21))

def r05_parser_items (a_x : GPar) (a_n_ : GNode) : Option (GPar × GNode) :=
  jp (ι := GPar × GNode) (fun J7 => lp (ι := GPar × GNode) (fun L9 q8 => br (decide (q8.1.e = (0 : Int))) (jp (ι := Bool) (fun J47 => br (decide ((0 : Int) < (q8.2.items.length : Int))) (J47 ((!q8.2.more))) (J47 (false))) (fun q46 => jp (ι := Bool × GPar) (fun J50 => br q46 (cal (r05_parser_is q8.1 (Str.mk [46, 46, 46])) fun y52 => J50 (y52.1, y52.2)) (J50 (false, q8.1))) (fun q49 => jp (ι := GPar × GNode) (fun J56 => br q49.1 (J56 (q49.2, (GNode.mk q8.2.kind q8.2.name q8.2.mark q8.2.con q8.2.items q8.2.fields (q8.2.items.length : Int) true q8.2.of))) (cal (r05_parser_kind q49.2 (2 : Int)) fun y57 => cal (r05_parser_is y57.2 (Str.mk [40])) fun y61 => jp (ι := GPar × GItem) (fun J65 => br y61.1 (cal (r05_parser_number y61.2) fun y66 => cal (r05_parser_must y66.2 (Str.mk [41])) fun y69 => J65 (y69, (GItem.mk y57.1 y66.1 true))) (J65 (y61.2, (GItem.mk y57.1 (0 : Int) false)))) (fun q64 => asr (Nat.ble (q8.2.items.length + ([q64.2] : (List GItem)).length) 68719476736) <| J56 (q64.1, (GNode.mk q8.2.kind q8.2.name q8.2.mark q8.2.con (q8.2.items ++ ([q64.2] : (List GItem))) q8.2.fields q8.2.root q8.2.more q8.2.of))))) (fun q55 => cal (r05_parser_is q55.1 (Str.mk [44])) fun y79 => br (!y79.1) (J7 (y79.2, q55.2)) (L9 (y79.2, q55.2)))))) (J7 (q8.1, q8.2))) ((a_x, a_n_))) (fun q6 => br (!q6.2.more) (some (q6.1, (GNode.mk q6.2.kind q6.2.name q6.2.mark q6.2.con q6.2.items q6.2.fields (q6.2.items.length : Int) q6.2.more q6.2.of))) (some (q6.1, q6.2)))

def r05_Hex (a_s : Str) : Option ((List UInt8)) :=
  lp (ι := (List UInt8) × Int) (fun L2 q1 => ck ((q1.2 + (1 : Int))) <| br (decide ((q1.2 + (1 : Int)) < (a_s.b.length : Int))) (lp (ι := UInt8 × Int) (fun L33 q32 => ck ((q1.2 + (2 : Int))) <| br (decide (q32.2 < (q1.2 + (2 : Int)))) (cal (getI a_s.b q32.2) fun y47 => cal (getI a_s.b q32.2) fun y48 => jp (ι := UInt8) (fun J50 => br (decide ((65 : UInt8) ≤ y48)) (cal (getI a_s.b q32.2) fun y51 => J50 (((y51 - (65 : UInt8)) + (10 : UInt8)))) (J50 ((y47 - (48 : UInt8))))) (fun q49 => asr (Nat.ble (4 : UInt64).toNat 8) <| ck ((q32.2 + (1 : Int))) <| L33 (((shl8 q32.1 (4 : UInt64).toNat) ||| q49), (q32.2 + (1 : Int))))) (asr (Nat.ble (q1.1.length + ([q32.1] : (List UInt8)).length) 68719476736) <| ck ((q1.2 + (2 : Int))) <| L2 ((q1.1 ++ ([q32.1] : (List UInt8))), (q1.2 + (2 : Int))))) (((0 : UInt8), q1.2))) (some (q1.1))) ((([] : (List UInt8)), (0 : Int)))

def r05_parser_value (a_x : GPar) : Option (Val × GPar) :=
  cal (r05_parser_now a_x) fun y5 => jp (ι := GPar) (fun J10 => br (!decide (y5.2.e = (0 : Int))) (J10 (y5.2)) (cal (r05_parser_is y5.2 (Str.mk [84, 82, 85, 69])) fun y11 => br y11.1 (some ((Val.mk (1 : Int) (1 : Int) ([] : (List UInt8)) ([] : (List Val)) (0 : Int) ([] : (List Raw))), y11.2)) (cal (r05_parser_is y11.2 (Str.mk [70, 65, 76, 83, 69])) fun y14 => br y14.1 (some ((Val.mk (1 : Int) (0 : Int) ([] : (List UInt8)) ([] : (List Val)) (0 : Int) ([] : (List Raw))), y14.2)) (cal (r05_parser_is y14.2 (Str.mk [78, 85, 76, 76])) fun y17 => br y17.1 (some ((Val.mk (4 : Int) (0 : Int) ([] : (List UInt8)) ([] : (List Val)) (0 : Int) ([] : (List Raw))), y17.2)) (br (decide (y5.1.kind = (3 : Int))) (cal (r05_parser_next y17.2) fun y20 => cal (r05_Whole y20.1.text) fun y23 => some ((Val.mk (2 : Int) y23 ([] : (List UInt8)) ([] : (List Val)) (0 : Int) ([] : (List Raw))), y20.2)) (br (decide (y5.1.kind = (2 : Int))) (cal (r05_parser_next y17.2) fun y24 => asr (Nat.ble y24.1.text.b.length 68719476736) <| some ((Val.mk (3 : Int) (0 : Int) y24.1.text.b ([] : (List Val)) (0 : Int) ([] : (List Raw))), y24.2)) (br (decide (y5.1.kind = (4 : Int))) (cal (r05_parser_next y17.2) fun y28 => cal (r05_Hex y28.1.text) fun y31 => some ((Val.mk (5 : Int) (0 : Int) y31 ([] : (List Val)) (0 : Int) ([] : (List Raw))), y28.2)) (br (decide (y5.1.kind = (7 : Int))) (cal (r05_parser_next y17.2) fun y32 => asr (Nat.ble y32.1.text.b.length 68719476736) <| some ((Val.mk (6 : Int) (0 : Int) y32.1.text.b ([] : (List Val)) (0 : Int) ([] : (List Raw))), y32.2)) (cal (r05_parser_fail y17.2 (7 : Int) y5.1) fun y36 => J10 (y36)))))))))) (fun q9 => some ((Val.mk (0 : Int) (0 : Int) ([] : (List UInt8)) ([] : (List Val)) (0 : Int) ([] : (List Raw))), q9))

def r05_parser_field_F (r05_parser_field' : GPar → GNode → Int → Int → Option (GPar × GNode)) (r05_parser_typ' : GPar → Int → Option (Int × GPar)) (r05_parser_base' : GPar → GNode → Int → Option (GPar × GNode)) (r05_parser_fields' : GPar → GNode → Int → Option (GPar × GNode)) (a_x : GPar) (a_n_ : GNode) (a_depth : Int) (a_group : Int) : Option (GPar × GNode) :=
  cal (r05_parser_kind a_x (2 : Int)) fun y6 => ck ((a_depth + (1 : Int))) <| cal (r05_parser_typ' y6.2 (a_depth + (1 : Int))) fun y11 => jp (ι := GFld × GPar) (fun J16 => br (decide (a_n_.kind = (9 : Int))) (J16 ((GFld.mk y6.1 y11.1 false false (Val.mk (0 : Int) (0 : Int) ([] : (List UInt8)) ([] : (List Val)) (0 : Int) ([] : (List Raw))) a_group), y11.2)) (cal (r05_parser_is y11.2 (Str.mk [79, 80, 84, 73, 79, 78, 65, 76])) fun y17 => br y17.1 (J16 ((GFld.mk y6.1 y11.1 true false (Val.mk (0 : Int) (0 : Int) ([] : (List UInt8)) ([] : (List Val)) (0 : Int) ([] : (List Raw))) a_group), y17.2)) (cal (r05_parser_is y17.2 (Str.mk [68, 69, 70, 65, 85, 76, 84])) fun y20 => br y20.1 (cal (r05_parser_value y20.2) fun y23 => J16 ((GFld.mk y6.1 y11.1 false true y23.1 a_group), y23.2)) (J16 ((GFld.mk y6.1 y11.1 false false (Val.mk (0 : Int) (0 : Int) ([] : (List UInt8)) ([] : (List Val)) (0 : Int) ([] : (List Raw))) a_group), y20.2))))) (fun q15 => asr (Nat.ble (a_n_.fields.length + ([q15.1] : (List GFld)).length) 68719476736) <| some (q15.2, (GNode.mk a_n_.kind a_n_.name a_n_.mark a_n_.con a_n_.items (a_n_.fields ++ ([q15.1] : (List GFld))) a_n_.root a_n_.more a_n_.of)))
def r05_parser_typ_F (r05_parser_field' : GPar → GNode → Int → Int → Option (GPar × GNode)) (r05_parser_typ' : GPar → Int → Option (Int × GPar)) (r05_parser_base' : GPar → GNode → Int → Option (GPar × GNode)) (r05_parser_fields' : GPar → GNode → Int → Option (GPar × GNode)) (a_x : GPar) (a_depth : Int) : Option (Int × GPar) :=
  br (!decide (a_x.e = (0 : Int))) (some ((0 : Int), a_x)) (cal (r05_parser_now a_x) fun y4 => cal (r05_begins y4.1) fun y7 => br (!y7) (cal (r05_parser_now y4.2) fun y8 => cal (r05_parser_fail y8.2 (7 : Int) y8.1) fun y11 => some ((0 : Int), y11)) (jp (ι := Bool) (fun J15 => br (decide ((16 : Int) < a_depth)) (J15 (true)) (J15 ((decide ((300 : Int) ≤ ((y4.2.m.nodes.length : Nat) : Int)))))) (fun q14 => br q14 (cal (r05_parser_now y4.2) fun y17 => cal (r05_parser_fail y17.2 (5 : Int) y17.1) fun y20 => some ((0 : Int), y20)) (asr (Nat.ble (y4.2.m.nodes.length + ([(GNode.mk (0 : Int) (Str.mk []) (GMark.mk false (0 : Int) (0 : Int)) (GCon.mk false false false false (0 : Int) (0 : Int)) ([] : (List GItem)) ([] : (List GFld)) (0 : Int) false (0 : Int))] : (List GNode)).length) 68719476736) <| cal (r05_parser_is (GPar.mk y4.2.l y4.2.at_ (GMod.mk y4.2.m.name y4.2.m.tagging y4.2.m.names y4.2.m.types (y4.2.m.nodes ++ ([(GNode.mk (0 : Int) (Str.mk []) (GMark.mk false (0 : Int) (0 : Int)) (GCon.mk false false false false (0 : Int) (0 : Int)) ([] : (List GItem)) ([] : (List GFld)) (0 : Int) false (0 : Int))] : (List GNode)))) y4.2.e y4.2.p) (Str.mk [91])) fun y31 => jp (ι := GPar × GNode) (fun J35 => br y31.1 (cal (r05_parser_now y31.2) fun y36 => cal (r05_parser_number y36.2) fun y40 => jp (ι := Bool) (fun J44 => br (decide (y40.2.e = (0 : Int))) (jp (ι := Bool) (fun J47 => br (decide (y40.1 < (0 : Int))) (J47 (true)) (J47 ((decide ((268435456 : Int) < y40.1))))) (fun q46 => J44 (q46))) (J44 (false))) (fun q43 => jp (ι := GPar) (fun J50 => br q43 (cal (r05_parser_fail y40.2 (12 : Int) y36.1) fun y51 => J50 (y51)) (J50 (y40.2))) (fun q49 => cal (r05_parser_must q49 (Str.mk [93])) fun y54 => cal (r05_parser_is y54 (Str.mk [69, 88, 80, 76, 73, 67, 73, 84])) fun y57 => br y57.1 (J35 (y57.2, (GNode.mk (0 : Int) (Str.mk []) (GMark.mk true y40.1 (1 : Int)) (GCon.mk false false false false (0 : Int) (0 : Int)) ([] : (List GItem)) ([] : (List GFld)) (0 : Int) false (0 : Int)))) (cal (r05_parser_is y57.2 (Str.mk [73, 77, 80, 76, 73, 67, 73, 84])) fun y60 => br y60.1 (J35 (y60.2, (GNode.mk (0 : Int) (Str.mk []) (GMark.mk true y40.1 (2 : Int)) (GCon.mk false false false false (0 : Int) (0 : Int)) ([] : (List GItem)) ([] : (List GFld)) (0 : Int) false (0 : Int)))) (J35 (y60.2, (GNode.mk (0 : Int) (Str.mk []) (GMark.mk true y40.1 (0 : Int)) (GCon.mk false false false false (0 : Int) (0 : Int)) ([] : (List GItem)) ([] : (List GFld)) (0 : Int) false (0 : Int)))))))) (J35 (y31.2, (GNode.mk (0 : Int) (Str.mk []) (GMark.mk false (0 : Int) (0 : Int)) (GCon.mk false false false false (0 : Int) (0 : Int)) ([] : (List GItem)) ([] : (List GFld)) (0 : Int) false (0 : Int))))) (fun q34 => cal (r05_parser_base' q34.1 q34.2 a_depth) fun y63 => br (!decide (y63.1.e = (0 : Int))) (some ((0 : Int), y63.1)) (asr (decide (0 ≤ ((y4.2.m.nodes.length : Nat) : Int) ∧ ((y4.2.m.nodes.length : Nat) : Int) < ((y63.1.m.nodes.length : Nat) : Int))) <| cal (y63.1.m.nodes[((y4.2.m.nodes.length : Nat) : Int).toNat]?) fun y74 => some (((y4.2.m.nodes.length : Nat) : Int), (GPar.mk y63.1.l y63.1.at_ (GMod.mk y63.1.m.name y63.1.m.tagging y63.1.m.names y63.1.m.types (y63.1.m.nodes.set (((y4.2.m.nodes.length : Nat) : Int).toNat) y63.2)) y63.1.e y63.1.p))))))))
def r05_parser_base_F (r05_parser_field' : GPar → GNode → Int → Int → Option (GPar × GNode)) (r05_parser_typ' : GPar → Int → Option (Int × GPar)) (r05_parser_base' : GPar → GNode → Int → Option (GPar × GNode)) (r05_parser_fields' : GPar → GNode → Int → Option (GPar × GNode)) (a_x : GPar) (a_n_ : GNode) (a_depth : Int) : Option (GPar × GNode) :=
  cal (r05_parser_now a_x) fun y6 => br (!decide (y6.2.e = (0 : Int))) (some (y6.2, a_n_)) (cal (r05_parser_is y6.2 (Str.mk [66, 79, 79, 76, 69, 65, 78])) fun y10 => br y10.1 (some (y10.2, (GNode.mk (1 : Int) a_n_.name a_n_.mark a_n_.con a_n_.items a_n_.fields a_n_.root a_n_.more a_n_.of))) (cal (r05_parser_is y10.2 (Str.mk [78, 85, 76, 76])) fun y13 => br y13.1 (some (y13.2, (GNode.mk (4 : Int) a_n_.name a_n_.mark a_n_.con a_n_.items a_n_.fields a_n_.root a_n_.more a_n_.of))) (cal (r05_parser_is y13.2 (Str.mk [85, 84, 70, 56, 83, 116, 114, 105, 110, 103])) fun y16 => br y16.1 (cal (r05_parser_size y16.2) fun y19 => some (y19.2, (GNode.mk (6 : Int) a_n_.name a_n_.mark y19.1 a_n_.items a_n_.fields a_n_.root a_n_.more a_n_.of))) (cal (r05_parser_is y16.2 (Str.mk [73, 78, 84, 69, 71, 69, 82])) fun y22 => br y22.1 (cal (r05_parser_is y22.2 (Str.mk [40])) fun y25 => br y25.1 (cal (r05_parser_bounds y25.2) fun y28 => cal (r05_parser_must y28.2 (Str.mk [41])) fun y31 => some (y31, (GNode.mk (2 : Int) a_n_.name a_n_.mark y28.1 a_n_.items a_n_.fields a_n_.root a_n_.more a_n_.of))) (some (y25.2, (GNode.mk (2 : Int) a_n_.name a_n_.mark a_n_.con a_n_.items a_n_.fields a_n_.root a_n_.more a_n_.of)))) (cal (r05_parser_is y22.2 (Str.mk [79, 67, 84, 69, 84])) fun y34 => br y34.1 (cal (r05_parser_must y34.2 (Str.mk [83, 84, 82, 73, 78, 71])) fun y37 => cal (r05_parser_size y37) fun y40 => some (y40.2, (GNode.mk (5 : Int) a_n_.name a_n_.mark y40.1 a_n_.items a_n_.fields a_n_.root a_n_.more a_n_.of))) (cal (r05_parser_is y34.2 (Str.mk [69, 78, 85, 77, 69, 82, 65, 84, 69, 68])) fun y43 => br y43.1 (cal (r05_parser_must y43.2 (Str.mk [123])) fun y46 => cal (r05_parser_items y46 (GNode.mk (3 : Int) a_n_.name a_n_.mark a_n_.con a_n_.items a_n_.fields a_n_.root a_n_.more a_n_.of)) fun y49 => cal (r05_parser_must y49.1 (Str.mk [125])) fun y54 => some (y54, y49.2)) (cal (r05_parser_is y43.2 (Str.mk [83, 69, 84])) fun y57 => br y57.1 (cal (r05_parser_must y57.2 (Str.mk [123])) fun y60 => cal (r05_parser_fields' y60 (GNode.mk (8 : Int) a_n_.name a_n_.mark a_n_.con a_n_.items a_n_.fields a_n_.root a_n_.more a_n_.of) a_depth) fun y63 => some (y63.1, y63.2)) (cal (r05_parser_is y57.2 (Str.mk [67, 72, 79, 73, 67, 69])) fun y69 => br y69.1 (cal (r05_parser_must y69.2 (Str.mk [123])) fun y72 => cal (r05_parser_fields' y72 (GNode.mk (9 : Int) a_n_.name a_n_.mark a_n_.con a_n_.items a_n_.fields a_n_.root a_n_.more a_n_.of) a_depth) fun y75 => some (y75.1, y75.2)) (cal (r05_parser_is y69.2 (Str.mk [83, 69, 81, 85, 69, 78, 67, 69])) fun y81 => br y81.1 (cal (r05_parser_is y81.2 (Str.mk [123])) fun y84 => br y84.1 (cal (r05_parser_fields' y84.2 (GNode.mk (7 : Int) a_n_.name a_n_.mark a_n_.con a_n_.items a_n_.fields a_n_.root a_n_.more a_n_.of) a_depth) fun y87 => some (y87.1, y87.2)) (cal (r05_parser_size y84.2) fun y93 => cal (r05_parser_must y93.2 (Str.mk [79, 70])) fun y96 => ck ((a_depth + (1 : Int))) <| cal (r05_parser_typ' y96 (a_depth + (1 : Int))) fun y100 => some (y100.2, (GNode.mk (10 : Int) a_n_.name a_n_.mark y93.1 a_n_.items a_n_.fields a_n_.root a_n_.more y100.1)))) (br (decide (y6.1.kind = (1 : Int))) (cal (r05_parser_next y81.2) fun y104 => some (y104.2, (GNode.mk (11 : Int) y6.1.text a_n_.mark a_n_.con a_n_.items a_n_.fields a_n_.root a_n_.more a_n_.of))) (cal (r05_parser_fail y81.2 (7 : Int) y6.1) fun y107 => some (y107, a_n_))))))))))))
def r05_parser_fields_F (r05_parser_field' : GPar → GNode → Int → Int → Option (GPar × GNode)) (r05_parser_typ' : GPar → Int → Option (Int × GPar)) (r05_parser_base' : GPar → GNode → Int → Option (GPar × GNode)) (r05_parser_fields' : GPar → GNode → Int → Option (GPar × GNode)) (a_x : GPar) (a_n_ : GNode) (a_depth : Int) : Option (GPar × GNode) :=
  cal (r05_parser_is a_x (Str.mk [125])) fun y6 => br y6.1 (some (y6.2, a_n_)) (jp (ι := GPar × GNode) (fun J10 => lp (ι := Int × GPar × GNode) (fun L12 q11 => br (decide (q11.2.1.e = (0 : Int))) (jp (ι := Int × GPar × GNode) (fun J64 => jp (ι := Bool × GPar) (fun J66 => br (!q11.2.2.more) (cal (r05_parser_is q11.2.1 (Str.mk [46, 46, 46])) fun y68 => J66 (y68.1, y68.2)) (J66 (false, q11.2.1))) (fun q65 => br q65.1 (J64 (q11.1, q65.2, (GNode.mk q11.2.2.kind q11.2.2.name q11.2.2.mark q11.2.2.con q11.2.2.items q11.2.2.fields (q11.2.2.fields.length : Int) true q11.2.2.of))) (jp (ι := Bool × GPar) (fun J72 => br q11.2.2.more (cal (r05_parser_is q65.2 (Str.mk [91, 91])) fun y74 => J72 (y74.1, y74.2)) (J72 (false, q65.2))) (fun q71 => br q71.1 (ck ((q11.1 + (1 : Int))) <| jp (ι := GPar × GNode) (fun J79 => lp (ι := GPar × GNode) (fun L81 q80 => br (decide (q80.1.e = (0 : Int))) (cal (r05_parser_field' q80.1 q80.2 a_depth (q11.1 + (1 : Int))) fun y91 => cal (r05_parser_is y91.1 (Str.mk [44])) fun y97 => br (!y97.1) (J79 (y97.2, y91.2)) (L81 (y97.2, y91.2))) (J79 (q80.1, q80.2))) ((q71.2, q11.2.2))) (fun q78 => cal (r05_parser_must q78.1 (Str.mk [93, 93])) fun y101 => J64 ((q11.1 + (1 : Int)), y101, q78.2))) (cal (r05_parser_field' q71.2 q11.2.2 a_depth (0 : Int)) fun y104 => J64 (q11.1, y104.1, y104.2)))))) (fun q63 => cal (r05_parser_is q63.2.1 (Str.mk [44])) fun y110 => br (!y110.1) (J10 (y110.2, q63.2.2)) (L12 (q63.1, y110.2, q63.2.2)))) (J10 (q11.2.1, q11.2.2))) (((0 : Int), y6.2, a_n_))) (fun q9 => cal (r05_parser_must q9.1 (Str.mk [125])) fun y114 => br (!q9.2.more) (some (y114, (GNode.mk q9.2.kind q9.2.name q9.2.mark q9.2.con q9.2.items q9.2.fields (q9.2.fields.length : Int) q9.2.more q9.2.of))) (some (y114, q9.2))))
def r05_parser_field_grp : Nat → (GPar → GNode → Int → Int → Option (GPar × GNode)) × (GPar → Int → Option (Int × GPar)) × (GPar → GNode → Int → Option (GPar × GNode)) × (GPar → GNode → Int → Option (GPar × GNode))
  | 0 => (fun _ _ _ _ => none, fun _ _ => none, fun _ _ _ => none, fun _ _ _ => none)
  | n + 1 => let p := r05_parser_field_grp n; (r05_parser_field_F p.1 p.2.1 p.2.2.1 p.2.2.2, r05_parser_typ_F p.1 p.2.1 p.2.2.1 p.2.2.2, r05_parser_base_F p.1 p.2.1 p.2.2.1 p.2.2.2, r05_parser_fields_F p.1 p.2.1 p.2.2.1 p.2.2.2)
def r05_parser_field (n : Nat) : GPar → GNode → Int → Int → Option (GPar × GNode) := (r05_parser_field_grp n).1
def r05_parser_typ (n : Nat) : GPar → Int → Option (Int × GPar) := (r05_parser_field_grp n).2.1
def r05_parser_base (n : Nat) : GPar → GNode → Int → Option (GPar × GNode) := (r05_parser_field_grp n).2.2.1
def r05_parser_fields (n : Nat) : GPar → GNode → Int → Option (GPar × GNode) := (r05_parser_field_grp n).2.2.2

def r05_Parse (a_text : Str) : Option (GMod × Int × Int) :=
  cal (r04_Tokens a_text) fun y2 => br (!decide (y2.2.2 = (0 : Int))) (some ((GMod.mk (Str.mk []) (0 : Int) ([] : (List Str)) ([] : (List Int)) ([] : (List GNode))), y2.2.1, y2.2.2)) (cal (r05_parser_kind (GPar.mk y2.1 (0 : Int) (GMod.mk (Str.mk []) (0 : Int) ([] : (List Str)) ([] : (List Int)) ([] : (List GNode))) (0 : Int) (0 : Int)) (1 : Int)) fun y7 => cal (r05_parser_must (GPar.mk y7.2.l y7.2.at_ (GMod.mk y7.1 y7.2.m.tagging y7.2.m.names y7.2.m.types y7.2.m.nodes) y7.2.e y7.2.p) (Str.mk [68, 69, 70, 73, 78, 73, 84, 73, 79, 78, 83])) fun y10 => jp (ι := GPar) (fun J14 => cal (r05_parser_is y10 (Str.mk [69, 88, 80, 76, 73, 67, 73, 84])) fun y15 => br y15.1 (cal (r05_parser_must y15.2 (Str.mk [84, 65, 71, 83])) fun y18 => J14 (y18)) (cal (r05_parser_is y15.2 (Str.mk [73, 77, 80, 76, 73, 67, 73, 84])) fun y21 => br y21.1 (cal (r05_parser_must (GPar.mk y21.2.l y21.2.at_ (GMod.mk y21.2.m.name (1 : Int) y21.2.m.names y21.2.m.types y21.2.m.nodes) y21.2.e y21.2.p) (Str.mk [84, 65, 71, 83])) fun y24 => J14 (y24)) (cal (r05_parser_is y21.2 (Str.mk [65, 85, 84, 79, 77, 65, 84, 73, 67])) fun y27 => br y27.1 (cal (r05_parser_must (GPar.mk y27.2.l y27.2.at_ (GMod.mk y27.2.m.name (2 : Int) y27.2.m.names y27.2.m.types y27.2.m.nodes) y27.2.e y27.2.p) (Str.mk [84, 65, 71, 83])) fun y30 => J14 (y30)) (J14 (y27.2))))) (fun q13 => cal (r05_parser_must q13 (Str.mk [58, 58, 61])) fun y33 => cal (r05_parser_must y33 (Str.mk [66, 69, 71, 73, 78])) fun y36 => lp (ι := GPar) (fun L40 q39 => jp (ι := Bool × GPar) (fun J92 => br (decide (q39.e = (0 : Int))) (cal (r05_parser_is q39 (Str.mk [69, 78, 68])) fun y94 => J92 ((!y94.1), y94.2)) (J92 (false, q39))) (fun q91 => br q91.1 (cal (r05_parser_now q91.2) fun y97 => cal (r05_parser_kind y97.2 (1 : Int)) fun y101 => jp (ι := Bool) (fun J105 => br (decide (y101.2.e = (0 : Int))) (J105 ((decide ((40 : Int) ≤ (y101.2.m.names.length : Int))))) (J105 (false))) (fun q104 => jp (ι := GPar) (fun J108 => br q104 (cal (r05_parser_fail y101.2 (5 : Int) y97.1) fun y109 => J108 (y109)) (J108 (y101.2))) (fun q107 => cal (r05_parser_must q107 (Str.mk [58, 58, 61])) fun y112 => cal (r05_parser_typ fuel y112 (0 : Int)) fun y115 => asr (Nat.ble (y115.2.m.names.length + ([y101.1] : (List Str)).length) 68719476736) <| asr (Nat.ble (y115.2.m.types.length + ([y115.1] : (List Int)).length) 68719476736) <| L40 ((GPar.mk y115.2.l y115.2.at_ (GMod.mk y115.2.m.name y115.2.m.tagging (y115.2.m.names ++ ([y101.1] : (List Str))) (y115.2.m.types ++ ([y115.1] : (List Int))) y115.2.m.nodes) y115.2.e y115.2.p))))) (jp (ι := Bool × GPar) (fun J126 => br (decide (q91.2.e = (0 : Int))) (cal (r05_parser_now q91.2) fun y128 => J126 ((!decide (y128.1.kind = (0 : Int))), y128.2)) (J126 (false, q91.2))) (fun q125 => jp (ι := GPar) (fun J132 => br q125.1 (cal (r05_parser_now q125.2) fun y133 => cal (r05_parser_fail y133.2 (7 : Int) y133.1) fun y136 => J132 (y136)) (J132 (q125.2))) (fun q131 => br (!decide (q131.e = (0 : Int))) (some ((GMod.mk (Str.mk []) (0 : Int) ([] : (List Str)) ([] : (List Int)) ([] : (List GNode))), q131.p, q131.e)) (some (q131.m, (0 : Int), (0 : Int)))))))) ((y36))))
end Go.Proofs.YtnnijoepfgnlfaaDoor


namespace Go.Sy
section tot
variable {α β ι : Type}
def T (R : β → Prop) (o : Option β) : Prop := ∃ r, o = some r ∧ R r
theorem T.some {R : β → Prop} {r : β} (h : R r) : T R (some r) := ⟨r, rfl, h⟩
theorem T.mono {R R' : β → Prop} {o : Option β} (h : T R o) (k : ∀ r, R r → R' r) : T R' o := by
  obtain ⟨r, h1, h2⟩ := h; exact ⟨r, h1, k r h2⟩
theorem T.cal {Q : α → Prop} {R : β → Prop} {m : Option α} {k : α → Option β} (h : T Q m) (hk : ∀ y, m = Option.some y → Q y → T R (k y)) : T R (cal m k) := by
  obtain ⟨y, h1, h2⟩ := h
  subst h1
  exact hk y rfl h2
theorem T.eq {R : β → Prop} {m : Option α} {k : α → Option β} {y : α} (h : m = Option.some y) (hk : T R (k y)) : T R (Sy.cal m k) := by subst h; exact hk
theorem bI64_of {x : Int} (h : inI64 x) : bI64 x = true := by
  unfold inI64 at h
  cases x with
  | ofNat n =>
    simp only [Int.ofNat_eq_natCast] at h
    exact Nat.ble_eq_true_of_le (by omega)
  | negSucc n => exact Nat.ble_eq_true_of_le (by omega)
theorem T.ck {R : β → Prop} {x : Int} {k : Option β} (hx : -9223372036854775808 ≤ x ∧ x ≤ 9223372036854775807) (h : T R k) : T R (ck x k) := by
  unfold Sy.ck; rw [bI64_of hx]; exact h
theorem T.asr {R : β → Prop} {b : Bool} {k : Option β} (hb : b = true) (h : T R k) : T R (asr b k) := by subst hb; exact h
theorem T.asd {R : β → Prop} {p : Prop} [Decidable p] {k : Option β} (hb : p) (h : T R k) : T R (Sy.asr (decide p) k) := T.asr (decide_eq_true hb) h
theorem T.abl {R : β → Prop} {a b : Nat} {k : Option β} (hb : a ≤ b) (h : T R k) : T R (Sy.asr (Nat.ble a b) k) := T.asr (Nat.ble_eq_true_of_le hb) h
theorem T.br {R : β → Prop} {b : Bool} {t e : Option β} (ht : b = true → T R t) (he : b = false → T R e) : T R (br b t e) := by
  cases b with
  | true => exact ht rfl
  | false => exact he rfl
theorem T.brT {R : β → Prop} {b : Bool} {t e : Option β} (hb : b = true) (h : T R t) : T R (Sy.br b t e) := by subst hb; exact h
theorem T.brF {R : β → Prop} {b : Bool} {t e : Option β} (hb : b = false) (h : T R e) : T R (Sy.br b t e) := by subst hb; exact h
theorem T.jp (Q : ι → Prop) {R : β → Prop} {B : (ι → Option β) → Option β} {K : ι → Option β} (hB : ∀ J, (∀ i, Q i → T R (J i)) → T R (B J)) (hK : ∀ i, Q i → T R (K i)) : T R (jp B K) := hB K hK
theorem T.jp0 {R : β → Prop} {B : (ι → Option β) → Option β} {K : ι → Option β} (h : T R (B K)) : T R (Sy.jp B K) := h
theorem T.lp (I : ι → Prop) (μ : ι → Nat) {R : β → Prop} {F : (ι → Option β) → ι → Option β} {i0 : ι} (h0 : I i0) (hμ : μ i0 < 1000000000000000000) (h : ∀ (L : ι → Option β) i, I i → (∀ j, I j → μ j < μ i → T R (L j)) → T R (F L i)) : T R (lp F i0) := by
  have key : ∀ n i, I i → μ i < n → T R (lpN F n i) := by
    intro n
    induction n with
    | zero => intro i _ hn; omega
    | succ n ih => intro i hi hn; exact h (lpN F n) i hi fun j hj hl => ih j hj (by omega)
  unfold Sy.lp fuel
  exact key _ _ h0 hμ
theorem getI_some {l : List α} {i : Int} (h0 : 0 ≤ i) (h1 : i < l.length) : getI l i = some (l[i.toNat]'(by omega)) := by
  unfold getI
  cases i with
  | ofNat n => simp only [Int.ofNat_eq_natCast] at h1; simp
  | negSucc n => omega
theorem T.get {R : β → Prop} {l : List α} {i : Int} {k : α → Option β} (h0 : 0 ≤ i) (h1 : i < l.length) (hk : ∀ y, l[i.toNat]? = Option.some y → T R (k y)) : T R (Sy.cal (getI l i) k) :=
  T.eq (getI_some h0 h1) (hk _ (List.getElem?_eq_getElem (by omega)))
theorem T.fin {o : Option β} {x : β} (h : T (fun r => r = x) o) : o = Option.some x := by
  obtain ⟨r, h1, h2⟩ := h; rw [h1, h2]
theorem T.of {o : Option β} {R : β → Prop} {x : β} (h : o = Option.some x) (hx : R x) : T R o := ⟨x, h, hx⟩
theorem T.get? {o : Option β} {R : β → Prop} (h : T R o) {r : β} (e : o = Option.some r) : R r := by
  obtain ⟨r', h1, h2⟩ := h; rw [h1] at e; cases e; exact h2
end tot
end Go.Sy


namespace Go.Proofs.YtnnijoepfgnlfaaDoor
open Go.Sy
set_option linter.unusedVariables false

theorem at_tot (s : Str) (i : Int) : T (fun r => r = (if 0 ≤ i then (s.b[i.toNat]?).getD 0 else 0)) (r04_at s i) := by
  unfold r04_at
  refine T.jp (fun q => q = decide (¬ (0 ≤ i ∧ i < s.b.length))) (fun J h => ?_) (fun q hq => ?_)
  · refine T.br (fun h1 => h _ ?_) (fun h1 => h _ ?_)
    · have := of_decide_eq_true h1; simp; omega
    · have := of_decide_eq_false h1
      by_cases h2 : (s.b.length : Int) ≤ i <;> simp [h2] <;> omega
  · subst hq
    refine T.br (fun h1 => T.some ?_) (fun h1 => ?_)
    · have h2 := of_decide_eq_true h1
      split
      · rename_i h3
        rw [List.getElem?_eq_none (by omega)]; rfl
      · rfl
    · have h2 := of_decide_eq_false h1
      refine T.get (by omega) (by omega) fun y hy => T.some ?_
      rw [if_pos (by omega), hy]; rfl

def isLetter (c : UInt8) : Bool := (decide (97 ≤ c) && decide (c ≤ 122)) || (decide (65 ≤ c) && decide (c ≤ 90))
def isDigit (c : UInt8) : Bool := decide (48 ≤ c) && decide (c ≤ 57)
theorem letter_eq (c : UInt8) : r04_letter c = some (isLetter c) := by
  unfold r04_letter isLetter jp br
  cases decide (97 ≤ c) <;> cases decide (c ≤ 122) <;> cases decide (65 ≤ c) <;> cases decide (c ≤ 90) <;> rfl
theorem digit_eq (c : UInt8) : r04_digit c = some (isDigit c) := by
  unfold r04_digit isDigit jp br
  cases decide (48 ≤ c) <;> cases decide (c ≤ 57) <;> rfl

theorem white_tot (s : Str) (i : Int) (h0 : 0 ≤ i) (h1 : i ≤ s.b.length) (hl : s.b.length ≤ 1000000) : T (fun r => i ≤ r ∧ r ≤ s.b.length) (r04_white s i) := by
  unfold r04_white
  refine T.lp (fun k => i ≤ k ∧ k ≤ s.b.length) (fun k => (s.b.length - k).toNat) ⟨Int.le_refl _, h1⟩ (by omega) fun L k hk hL => ?_
  refine T.br (fun hb => ?_) (fun _ => T.some hk)
  have hb := of_decide_eq_true hb
  refine T.get (by omega) hb fun y hy => ?_
  refine T.jp (fun _ => True) (fun J h => T.br (fun _ => h _ trivial) fun _ => T.get (by omega) hb fun _ _ => h _ trivial) fun q _ => ?_
  refine T.jp (fun _ => True) (fun J h => T.br (fun _ => h _ trivial) fun _ => T.get (by omega) hb fun _ _ => h _ trivial) fun q _ => ?_
  refine T.jp (fun _ => True) (fun J h => T.br (fun _ => h _ trivial) fun _ => T.get (by omega) hb fun _ _ => h _ trivial) fun q _ => ?_
  refine T.br (fun _ => T.ck (by omega) (hL _ (by omega) (by omega))) fun _ => ?_
  refine T.get (by omega) hb fun y hy => ?_
  refine T.jp (fun q => q = true → k + 2 ≤ s.b.length) (fun J h => T.br (fun _ => T.ck (by omega) (T.cal (at_tot s (k + 1)) fun y _ hy => h _ fun hq => ?_)) fun _ => h _ (fun h => by cases h)) fun q hq => ?_
  · have := of_decide_eq_true hq
    subst this
    rw [if_pos (by omega)] at hy
    rcases Nat.lt_or_ge (k + 1).toNat s.b.length with h3 | h3
    · omega
    · rw [List.getElem?_eq_none h3] at hy; cases hy
  refine T.br (fun hb2 => T.ck (by omega) ?_) (fun _ => T.some hk)
  have hq' := hq hb2
  refine T.lp (fun j => k + 2 ≤ j ∧ j ≤ s.b.length) (fun j => (s.b.length - j).toNat) ⟨Int.le_refl _, hq'⟩ (by omega) fun L2 j hj hL2 => ?_
  refine T.jp (fun q => q = true → j < s.b.length) (fun J h => T.br (fun h2 => ?_) fun _ => h _ (fun h => by cases h)) fun q hq2 => ?_
  · have h2 := of_decide_eq_true h2
    exact T.get (by omega) h2 fun _ _ => h _ fun _ => h2
  refine T.br (fun h2 => ?_) (fun _ => hL _ (by omega) (by omega))
  have h2 := hq2 h2
  refine T.get (by omega) h2 fun y hy => ?_
  refine T.jp (fun q => q = true → j + 2 ≤ s.b.length) (fun J h => T.br (fun _ => T.ck (by omega) (T.cal (at_tot s (j + 1)) fun y _ hy => h _ fun hq => ?_)) fun _ => h _ (fun h => by cases h)) fun q hq3 => ?_
  · have := of_decide_eq_true hq
    subst this
    rw [if_pos (by omega)] at hy
    rcases Nat.lt_or_ge (j + 1).toNat s.b.length with h3 | h3
    · omega
    · rw [List.getElem?_eq_none h3] at hy; cases hy
  refine T.br (fun h3 => T.ck (by omega) ?_) (fun _ => T.ck (by omega) (hL2 _ (by omega) (by omega)))
  have h3 := hq3 h3
  exact hL _ (by omega) (by omega)

theorem name_tot (s : Str) (i : Int) (h0 : 0 ≤ i) (h1 : i < s.b.length) (hl : s.b.length ≤ 1000000) (hc : ∀ y, s.b[i.toNat]? = some y → isLetter y = true) : T (fun r => r = -1 ∨ (i < r ∧ r ≤ s.b.length)) (r04_name s i) := by
  unfold r04_name
  refine T.lp (fun k => i ≤ k ∧ k ≤ s.b.length) (fun k => (s.b.length - k).toNat) ⟨Int.le_refl _, by omega⟩ (by omega) fun L k hk hL => ?_
  refine T.jp (fun q => (q = true → k < s.b.length) ∧ (q = false → i < k)) (fun J h => ?_) fun q hq => ?_
  · refine T.br (fun hb => ?_) (fun hb => h _ ⟨(fun h => by cases h), fun _ => by have := of_decide_eq_false hb; omega⟩)
    have hb := of_decide_eq_true hb
    refine T.get (by omega) hb fun y hy => ?_
    refine T.eq (letter_eq y) ?_
    refine T.jp (fun q => isLetter y = true → q = true) (fun J2 h2 => ?_) fun q hq => ?_
    · exact T.br (fun _ => h2 _ fun _ => rfl) fun hn => T.get (by omega) hb fun y2 _ => T.eq (digit_eq y2) (h2 _ fun hy => by rw [hn] at hy; cases hy)
    refine T.jp (fun q => isLetter y = true → q = true) (fun J2 h2 => ?_) fun q hq => ?_
    · refine T.br (fun _ => h2 _ fun _ => rfl) fun hn => T.get (by omega) hb fun y2 _ => ?_
      have hno : ¬ isLetter y = true := fun hy => by rw [hq hy] at hn; cases hn
      refine T.jp (fun _ => True) (fun J3 h3 => T.br (fun _ => T.ck (by omega) (T.cal (at_tot s _) fun _ _ _ => h3 _ trivial)) fun _ => h3 _ trivial) fun q _ => h2 _ fun hy => absurd hy hno
    · refine h _ ⟨fun _ => hb, fun hn => ?_⟩
      rcases Int.lt_or_eq_of_le hk.1 with h2 | h2
      · exact h2
      · subst h2
        have := hq (hc y hy)
        rw [this] at hn; cases hn
  refine T.br (fun hb => T.ck (by have := hq.1 hb; omega) (hL _ (by have := hq.1 hb; omega) (by have := hq.1 hb; omega))) fun hb => ?_
  have hlt := hq.2 hb
  refine T.ck (by omega) (T.get (by omega) (by omega) fun y _ => ?_)
  refine T.jp (fun _ => True) (fun J h => T.br (fun _ => h _ trivial) fun _ => T.ck (by omega) (h _ trivial)) fun q _ => ?_
  exact T.br (fun _ => T.some (.inl rfl)) fun _ => T.some (.inr ⟨hlt, hk.2⟩)
end Go.Proofs.YtnnijoepfgnlfaaDoor


namespace Go.Proofs.YtnnijoepfgnlfaaDoor
open Go.Sy
set_option linter.unusedVariables false

theorem snocInd {α : Type} {P : List α → Prop} (h0 : P []) (h1 : ∀ l a, P l → P (l ++ [a])) (l : List α) : P l := by
  have : ∀ m : List α, P m.reverse := by
    intro m
    induction m with
    | nil => exact h0
    | cons a m ih => rw [List.reverse_cons]; exact h1 _ _ ih
  have h := this l.reverse
  rwa [List.reverse_reverse] at h

def dval (l : List UInt8) : Nat := l.foldl (fun v d => 10 * v + (d.toNat - 48)) 0
def uval (l : List UInt8) : UInt64 := l.foldl (fun v d => 10 * v + (d - 48).toUInt64) 0
theorem digit_range {d : UInt8} (h : isDigit d = true) : 48 ≤ d.toNat ∧ d.toNat ≤ 57 := by
  unfold isDigit at h
  simp only [Bool.and_eq_true, decide_eq_true_eq] at h
  have h1 := UInt8.le_iff_toNat_le.1 h.1
  have h2 := UInt8.le_iff_toNat_le.1 h.2
  simp at h1 h2
  omega
theorem digit_u {d : UInt8} (h : isDigit d = true) : (d - 48).toUInt64.toNat = d.toNat - 48 := by
  have h1 := digit_range h
  have h2 := d.toNat_lt
  have h3 : (48 : UInt8).toNat = 48 := rfl
  rw [UInt8.toNat_toUInt64, UInt8.toNat_sub, h3]
  omega
theorem dval_snoc (l : List UInt8) (d : UInt8) : dval (l ++ [d]) = 10 * dval l + (d.toNat - 48) := by simp [dval]
theorem uval_snoc (l : List UInt8) (d : UInt8) : uval (l ++ [d]) = 10 * uval l + (d - 48).toUInt64 := by simp [uval]
def digs (l : List UInt8) : Prop := ∀ d ∈ l, isDigit d = true
theorem digs_snoc {l : List UInt8} {d : UInt8} (h : digs (l ++ [d])) : digs l ∧ isDigit d = true :=
  ⟨fun x hx => h x (List.mem_append_left _ hx), h d (List.mem_append_right _ (List.mem_singleton.2 rfl))⟩
theorem dval_lt (l : List UInt8) : digs l → dval l < 10 ^ l.length := by
  refine snocInd (P := fun l => digs l → dval l < 10 ^ l.length) (fun _ => by simp [dval]) (fun l d ih h => ?_) l
  obtain ⟨h1, h2⟩ := digs_snoc h
  have h3 := ih h1
  have h4 := digit_range h2
  rw [dval_snoc, List.length_append, List.length_singleton, Nat.pow_succ]
  omega
theorem pow19 {n : Nat} (h : n ≤ 19) : 10 ^ n ≤ 10000000000000000000 := by
  have := Nat.pow_le_pow_right (show 0 < 10 by omega) h
  simpa using this
theorem uval_dval (l : List UInt8) : digs l → l.length ≤ 19 → (uval l).toNat = dval l := by
  refine snocInd (P := fun l => digs l → l.length ≤ 19 → (uval l).toNat = dval l) (fun _ _ => by simp [dval, uval]) (fun l d ih h hl => ?_) l
  obtain ⟨h1, h2⟩ := digs_snoc h
  rw [List.length_append, List.length_singleton] at hl
  have h3 := ih h1 (by omega)
  have h4 := digit_range h2
  have h5 := dval_lt (l ++ [d]) h
  rw [List.length_append, List.length_singleton] at h5
  have h6 := pow19 hl
  rw [dval_snoc] at h5
  rw [uval_snoc, dval_snoc, UInt64.toNat_add, UInt64.toNat_mul, h3, digit_u h2]
  have h7 : (10 : UInt64).toNat = 10 := rfl
  rw [h7]
  omega
theorem dval_pos {d : UInt8} {l : List UInt8} (h : digs (d :: l)) (hd : d ≠ 48) : 1 ≤ dval (d :: l) := by
  refine snocInd (P := fun l => digs (d :: l) → 1 ≤ dval (d :: l)) (fun h => ?_) (fun l e ih h => ?_) l h
  · have h1 := digit_range (h d (List.mem_singleton.2 rfl))
    have h2 : d.toNat ≠ 48 := fun e => hd (UInt8.toNat_inj.1 e)
    have e : dval [d] = d.toNat - 48 := by simp [dval]
    omega
  · have h2 := ih (digs_snoc (l := d :: l) h).1
    have e1 := dval_snoc (d :: l) e
    have e2 : d :: (l ++ [e]) = d :: l ++ [e] := rfl
    rw [e2, e1]; omega

def NumOk (b : List UInt8) : Prop := ∃ ds, digs ds ∧ ds ≠ [] ∧ ds.length ≤ 19 ∧ ((b = ds ∧ dval ds < 9223372036854775808) ∨ (b = 45 :: ds ∧ 1 ≤ dval ds ∧ dval ds ≤ 9223372036854775808))

theorem seg_snoc {l : List UInt8} {f k : Nat} {y : UInt8} (hf : f ≤ k) (hy : l[k]? = some y) : (l.take (k + 1)).drop f = (l.take k).drop f ++ [y] := by
  have hlt := (List.getElem?_eq_some_iff.1 hy).1
  have h1 : l.take (k + 1) = l.take k ++ [y] := by
    rw [List.take_add_one, hy]; rfl
  rw [h1, List.drop_append_of_le_length (by rw [List.length_take]; omega)]
theorem seg_cons {l : List UInt8} {f k : Nat} {y : UInt8} (hf : f < k) (hk : k ≤ l.length) (hy : l[f]? = some y) : (l.take k).drop f = y :: (l.take k).drop (f + 1) := by
  have h1 : (l.take k)[f]? = some y := by rw [List.getElem?_take, if_pos hf, hy]
  obtain ⟨h2, h3⟩ := List.getElem?_eq_some_iff.1 h1
  rw [List.drop_eq_getElem_cons h2, h3]
theorem seg_len {l : List UInt8} {f k : Nat} (hk : k ≤ l.length) : ((l.take k).drop f).length = k - f := by
  rw [List.length_drop, List.length_take]; omega

set_option maxHeartbeats 1000000 in
theorem number_tot (s : Str) (i : Int) (h0 : 0 ≤ i) (h1 : i < s.b.length) (hl : s.b.length ≤ 1000000) :
    T (fun r => r = -1 ∨ (i < r ∧ r ≤ s.b.length ∧ NumOk ((s.b.take r.toNat).drop i.toNat))) (r04_number s i) := by
  unfold r04_number
  refine T.get h0 h1 fun y1 hy1 => ?_
  refine T.jp (fun f => (y1 = 45 ∧ f = i + 1) ∨ (y1 ≠ 45 ∧ f = i)) (fun J h => T.br (fun hb => T.ck (by omega) (h _ (.inl ⟨of_decide_eq_true hb, rfl⟩))) fun hb => h _ (.inr ⟨of_decide_eq_false hb, rfl⟩)) fun f hf => ?_
  have hf0 : i ≤ f ∧ f ≤ i + 1 := by omega
  have hfl : f ≤ s.b.length := by omega
  refine T.lp (ι := Int × UInt64) (fun q => f ≤ q.1 ∧ q.1 ≤ s.b.length ∧ digs ((s.b.take q.1.toNat).drop f.toNat) ∧ (q.1 - f ≤ 19 → q.2 = uval ((s.b.take q.1.toNat).drop f.toNat))) (fun q => (s.b.length - q.1).toNat)
    (by
      have e : (s.b.take f.toNat).drop f.toNat = [] := List.drop_eq_nil_of_le (by rw [List.length_take]; omega)
      refine ⟨Int.le_refl _, hfl, ?_, ?_⟩
      · rw [e]; intro d hd; cases hd
      · intro _; rw [e]; rfl) (by simp only; omega) fun L q hq hL => ?_
  obtain ⟨k, v⟩ := q
  obtain ⟨hq1, hq2, hq3, hq4⟩ := hq
  simp only at hq1 hq2 hq3 hq4 ⊢
  refine T.jp (fun b => b = true → k < s.b.length ∧ ∀ y, s.b[k.toNat]? = some y → isDigit y = true) (fun J h => ?_) fun b hb => ?_
  · refine T.br (fun h2 => ?_) fun _ => h _ (fun h => by cases h)
    have h2 := of_decide_eq_true h2
    exact T.get (by omega) h2 fun y hy => T.eq (digit_eq y) (h _ fun hd => ⟨h2, fun y' hy' => by rw [hy] at hy'; cases hy'; exact hd⟩)
  refine T.br (fun h2 => ?_) fun _ => ?_
  · obtain ⟨hk, hd⟩ := hb h2
    obtain ⟨y, hy⟩ : ∃ y, s.b[k.toNat]? = some y := ⟨_, List.getElem?_eq_getElem (by omega)⟩
    have hsn := seg_snoc (l := s.b) (f := f.toNat) (k := k.toNat) (y := y) (by omega) hy
    have hk1 : (k + 1).toNat = k.toNat + 1 := by omega
    refine T.ck (by omega) (T.jp (fun u => k - f < 19 → u = 10 * v + (y - 48).toUInt64) (fun J h => T.br (fun _ => ?_) fun h3 => h _ fun h4 => by have := of_decide_eq_false h3; omega) fun u hu => T.ck (by omega) (hL _ ?_ (by simp only; omega)))
    · exact T.get (by omega) hk fun y' hy' => h _ fun _ => by rw [hy] at hy'; cases hy'; rfl
    · refine ⟨by simp only; omega, by simp only; omega, ?_, fun h19 => ?_⟩
      · simp only
        rw [hk1, hsn]
        intro d hd'
        rcases List.mem_append.1 hd' with h | h
        · exact hq3 d h
        · rw [List.mem_singleton.1 h]; exact hd y hy
      · simp only at h19 ⊢
        rw [hk1, hsn, uval_snoc, hu (by omega), hq4 (by omega)]
  refine T.ck (by omega) ?_
  have hlen := seg_len (l := s.b) (f := f.toNat) (k := k.toNat) (by omega)
  refine T.jp (fun b => b = false → 1 ≤ k - f ∧ k - f ≤ 19) (fun J h => T.br (fun _ => h _ (fun h => by cases h)) fun h2 => h _ fun h3 => by have := of_decide_eq_false h2; have := of_decide_eq_false h3; omega) fun b1 hb1 => ?_
  refine T.jp (fun b => b = false → b1 = false) (fun J h => T.br (fun _ => h _ (fun h => by cases h)) fun h2 => ?_) fun b2 hb2 => ?_
  · refine T.jp (fun _ => True) (fun J3 h3 => T.br (fun h4 => T.get (by omega) (by have := of_decide_eq_true h4; omega) fun _ _ => h3 _ trivial) fun _ => h3 _ trivial) fun b _ => h _ fun _ => h2
  refine T.jp (fun b => b = false → b2 = false ∧ (y1 = 45 → ∀ y, s.b[f.toNat]? = some y → y ≠ 48)) (fun J h => T.br (fun _ => h _ (fun h => by cases h)) fun h2 => ?_) fun b3 hb3 => ?_
  · have h5 := hb1 (hb2 h2)
    refine T.jp (fun b => b = false → (y1 = 45 → ∀ y, s.b[f.toNat]? = some y → y ≠ 48)) (fun J3 h3 => T.br (fun h4 => T.get (by omega) (by omega) fun y hy => h3 _ fun h6 _ y' hy' => ?_) fun h4 => h3 _ fun _ h7 => absurd h7 (of_decide_eq_false h4)) fun b hb => h _ fun h6 => ⟨h2, hb h6⟩
    rw [hy] at hy'; cases hy'
    exact of_decide_eq_false h6
  refine T.jp (fun b => b = false → b3 = false) (fun J h => T.br (fun _ => h _ (fun h => by cases h)) fun h2 => T.cal (at_tot s k) fun y _ _ => T.eq (letter_eq y) (h _ fun _ => h2)) fun b4 hb4 => ?_
  refine T.jp (fun b => b = false → b4 = false ∧ ¬ (9223372036854775808 : UInt64) < v) (fun J h => T.br (fun _ => h _ (fun h => by cases h)) fun h2 => h _ fun h3 => ⟨h2, of_decide_eq_false h3⟩) fun b5 hb5 => ?_
  refine T.jp (fun b => b = false → b5 = false ∧ (y1 ≠ 45 → v ≠ 9223372036854775808)) (fun J h => T.br (fun _ => h _ (fun h => by cases h)) fun h2 => ?_) fun b6 hb6 => ?_
  · refine T.jp (fun b => b = false → (y1 ≠ 45 → v ≠ 9223372036854775808)) (fun J3 h3 => T.br (fun h4 => h3 _ fun h5 _ => of_decide_eq_false h5) fun h4 => h3 _ fun _ h5 => absurd h4 (by simp [h5])) fun b hb => h _ fun h6 => ⟨h2, hb h6⟩
  refine T.br (fun _ => T.some (.inl rfl)) fun h2 => T.some (.inr ?_)
  obtain ⟨e5, hv2⟩ := hb6 h2
  obtain ⟨e4, hv1⟩ := hb5 e5
  obtain ⟨e2, hz⟩ := hb3 (hb4 e4)
  obtain ⟨n1, n2⟩ := hb1 (hb2 e2)
  have hv := hq4 n2
  have hvn := uval_dval _ hq3 (by rw [hlen]; omega)
  rw [← hv] at hvn
  have hle : v.toNat ≤ 9223372036854775808 := by
    have : ¬ (9223372036854775808 : UInt64).toNat < v.toNat := fun h => hv1 (UInt64.lt_iff_toNat_lt.2 h)
    have e : (9223372036854775808 : UInt64).toNat = 9223372036854775808 := rfl
    omega
  refine ⟨by omega, hq2, (s.b.take k.toNat).drop f.toNat, hq3, fun h => by rw [h] at hlen; simp at hlen; omega, by rw [hlen]; omega, ?_⟩
  rcases hf with ⟨h45, hfi⟩ | ⟨h45, hfi⟩
  · right
    have hs := seg_cons (l := s.b) (f := i.toNat) (k := k.toNat) (y := y1) (by omega) (by omega) hy1
    have e : i.toNat + 1 = f.toNat := by omega
    rw [e] at hs
    refine ⟨by rw [hs, h45], ?_, by omega⟩
    obtain ⟨y, hy⟩ : ∃ y, s.b[f.toNat]? = some y := ⟨_, List.getElem?_eq_getElem (by omega)⟩
    have hs2 := seg_cons (l := s.b) (f := f.toNat) (k := k.toNat) (y := y) (by omega) (by omega) hy
    rw [hs2] at hq3 ⊢
    exact dval_pos hq3 (hz h45 y hy)
  · left
    subst hfi
    refine ⟨rfl, ?_⟩
    have h3 := hv2 h45
    have : v.toNat ≠ 9223372036854775808 := fun e => h3 (UInt64.toNat_inj.1 e)
    omega
end Go.Proofs.YtnnijoepfgnlfaaDoor


namespace Go.Proofs.YtnnijoepfgnlfaaDoor
open Go.Sy
set_option linter.unusedVariables false

theorem hex_tot (s : Str) (i : Int) (h0 : 0 ≤ i) (h1 : i < s.b.length) (hl : s.b.length ≤ 1000000) :
    T (fun (r : Int × Str) => r.1 = -1 ∨ (i < r.1 ∧ r.1 ≤ (s.b.length : Int) ∧ r.2.b.length ≤ s.b.length)) (r04_hex s i) := by
  unfold r04_hex
  refine T.ck (by omega) (T.lp (fun (k : Int) => i + 1 ≤ k ∧ k ≤ (s.b.length : Int)) (fun (k : Int) => ((s.b.length : Int) - k).toNat) ⟨Int.le_refl _, by omega⟩ (by omega) fun L k hk hL => ?_)
  refine T.jp (fun b => b = true → k < s.b.length) (fun J h => T.br (fun h2 => ?_) fun _ => h _ (fun h => by cases h)) fun b hb => ?_
  · have h2 := of_decide_eq_true h2
    refine T.get (by omega) h2 fun y _ => T.eq (digit_eq y) ?_
    refine T.jp (fun _ => True) (fun J2 h3 => T.br (fun _ => h3 _ trivial) fun _ => T.get (by omega) h2 fun y _ => ?_) fun q _ => h _ fun _ => h2
    refine T.jp (fun _ => True) (fun J4 h4 => T.br (fun _ => T.get (by omega) h2 fun _ _ => h4 _ trivial) fun _ => h4 _ trivial) fun q _ => h3 _ trivial
  refine T.br (fun h2 => T.ck (by have := hb h2; omega) (hL _ (by have := hb h2; omega) (by have := hb h2; omega))) fun _ => ?_
  refine T.ck (by omega) (T.asr rfl ?_)
  have hat : ∀ (j : Int) y, y = (if 0 ≤ j then (s.b[j.toNat]?).getD 0 else 0) → y ≠ 0 → 0 ≤ j ∧ j < s.b.length := by
    intro j y hy h0
    split at hy
    · rename_i h3
      refine ⟨h3, ?_⟩
      rcases Nat.lt_or_ge j.toNat s.b.length with h4 | h4
      · omega
      · rw [List.getElem?_eq_none h4] at hy; exact absurd hy h0
    · exact absurd hy h0
  refine T.jp (fun _ => True) (fun J h => T.br (fun _ => h _ trivial) fun _ => T.cal (at_tot s k) fun y _ hy => h _ trivial) fun b1 hb1 => ?_
  refine T.jp (fun b => b = false → k + 1 < s.b.length) (fun J h => T.br (fun _ => h _ (fun h => by cases h)) fun _ => T.ck (by omega) (T.cal (at_tot s (k + 1)) fun y _ hy => h _ fun h4 => ?_)) fun b2 hb2 => ?_
  · have h5 : y = 72 := by simpa using h4
    exact (hat _ _ hy (by rw [h5]; decide)).2
  refine T.br (fun _ => T.some (.inl rfl)) fun h3 => T.ck (by omega) (T.asd ?_ (T.some (.inr ?_)))
  · have := hb2 h3; omega
  · have := hb2 h3
    refine ⟨by dsimp only; omega, by dsimp only; omega, ?_⟩
    simp only [List.length_drop, List.length_take]; omega

theorem quoted_tot (s : Str) (i : Int) (h0 : 0 ≤ i) (h1 : i < s.b.length) (hl : s.b.length ≤ 1000000) :
    T (fun (r : Int × Str) => r.1 = -1 ∨ (i < r.1 ∧ r.1 ≤ (s.b.length : Int) ∧ r.2.b.length ≤ s.b.length)) (r04_quoted s i) := by
  unfold r04_quoted
  refine T.ck (by omega) (T.lp (ι := Int × Str) (fun q => i + 1 ≤ q.1 ∧ q.1 ≤ s.b.length + 1 ∧ (q.2.b.length : Int) < q.1) (fun q => (s.b.length + 1 - q.1).toNat) ⟨Int.le_refl _, by dsimp only; omega, by dsimp only; simp only [List.length_nil]; omega⟩ (by dsimp only; omega) fun L q hq hL => ?_)
  obtain ⟨k, o⟩ := q
  obtain ⟨hq1, hq2, hq3⟩ := hq
  simp only at hq1 hq2 hq3 ⊢
  refine T.br (fun h2 => ?_) fun _ => T.some (.inl rfl)
  have h2 := of_decide_eq_true h2
  refine T.jp (fun (q : Int × Str) => k ≤ q.1 ∧ q.1 < (s.b.length : Int) ∧ (q.2.b.length : Int) < q.1 + 1) (fun J h => ?_) fun q hq => ?_
  · refine T.get (by omega) h2 fun y _ => T.br (fun _ => ?_) fun _ => ?_
    · refine T.ck (by omega) (T.asd (by omega) (T.abl ?_ (h _ ?_)))
      · simp only [List.length_drop, List.length_take]; omega
      · refine ⟨Int.le_refl _, by dsimp only; omega, ?_⟩
        simp only [List.length_append, List.length_drop, List.length_take]; omega
    · refine T.ck (by omega) (T.cal (at_tot s (k + 1)) fun y2 _ hy2 => T.br (fun _ => ?_) fun h34 => ?_)
      · exact T.eq rfl (T.br (fun _ => T.some (.inl rfl)) fun _ => T.ck (by omega) (T.some (.inr ⟨by dsimp only; omega, by dsimp only; omega, by dsimp only; omega⟩)))
      · have hlt : k + 1 < s.b.length := by
          have h5 : y2 = 34 := by simpa using h34
          rw [if_pos (by omega)] at hy2
          rcases Nat.lt_or_ge (k + 1).toNat s.b.length with h4 | h4
          · omega
          · rw [List.getElem?_eq_none h4, h5] at hy2; cases hy2
        refine T.abl ?_ (T.ck (by omega) (h _ ?_))
        · simp only [List.length_cons, List.length_nil]; omega
        · refine ⟨by dsimp only; omega, by dsimp only; omega, ?_⟩
          simp only [List.length_append, List.length_cons, List.length_nil]; omega
  · exact T.ck (by omega) (hL _ ⟨by dsimp only; omega, by dsimp only; omega, hq.2.2⟩ (by dsimp only; omega))

theorem in_string_tot (l : List Str) (x : Str) (hl : l.length ≤ 1000000) : T (fun r => r = decide (x ∈ l)) (h_In_string l x) := by
  unfold h_In_string
  refine T.lp (fun (k : Int) => 0 ≤ k ∧ k ≤ (l.length : Int) ∧ x ∉ l.take k.toNat) (fun (k : Int) => ((l.length : Int) - k).toNat) ⟨Int.le_refl _, by omega, by simp⟩ (by omega) fun L k hk hL => ?_
  refine T.br (fun h2 => ?_) fun h2 => T.some ?_
  · have h2 := of_decide_eq_true h2
    refine T.get hk.1 h2 fun y hy => T.br (fun h3 => T.some ?_) fun h3 => T.ck (by omega) (hL _ ⟨by omega, by omega, ?_⟩ (by omega))
    · have h3 := of_decide_eq_true h3
      subst h3
      exact (decide_eq_true (List.mem_of_getElem? hy)).symm
    · have h3 := of_decide_eq_false h3
      have e : (k + 1).toNat = k.toNat + 1 := by omega
      rw [e, List.take_add_one, hy]
      simp only [Option.toList_some, List.mem_append, List.mem_singleton, not_or]
      exact ⟨hk.2.2, fun h => h3 h.symm⟩
  · have h2 := of_decide_eq_false h2
    have h4 := hk.2.2
    rw [List.take_of_length_le (by omega)] at h4
    exact (decide_eq_false h4).symm

theorem sign_tot (s : Str) (i : Int) (h0 : 0 ≤ i) (h1 : i < s.b.length) (hl : s.b.length ≤ 1000000) : T (fun (r : Int) => 0 ≤ r ∧ i + r ≤ (s.b.length : Int)) (r04_sign s i) := by
  unfold r04_sign
  refine T.asd (by omega) (T.lp (fun (k : Int) => 0 ≤ k) (fun (k : Int) => (13 - k).toNat) (Int.le_refl _) (by omega) fun L k hk hL => ?_)
  refine T.br (fun h2 => ?_) fun _ => T.some ⟨Int.le_refl _, by omega⟩
  have h2 := of_decide_eq_true h2
  have hrest : ((Str.mk ((s.b.take ((s.b.length : Int)).toNat).drop i.toNat)).b.length : Int) = s.b.length - i := by
    simp only [List.length_drop, List.length_take]; omega
  refine T.get hk h2 fun y hy => ?_
  refine T.jp (fun b => b = true → i + (y.b.length : Int) ≤ s.b.length) (fun J h => T.br (fun h3 => ?_) fun _ => h _ (fun h => by cases h)) fun b hb => ?_
  · have h3 := of_decide_eq_true h3
    rw [hrest] at h3
    refine T.asd ⟨Int.le_refl _, by omega, by rw [hrest]; exact h3⟩ (T.get hk h2 fun y2 hy2 => h _ fun _ => by omega)
  · refine T.br (fun h3 => T.some ⟨by omega, hb h3⟩) fun _ => T.ck (by have h2 : k < 13 := h2; omega) (hL _ (by omega) ?_)
    have h2 : k < 13 := h2
    omega

structure TokOk (n : Nat) (t : GTok) : Prop where
  num : t.kind = 3 → NumOk t.text.b
  len : t.text.b.length ≤ n
  at0 : 0 ≤ t.at_ ∧ t.at_ ≤ n
theorem words_len : ∀ r, r04_words = some r → r.length ≤ 1000000 := by
  intro r h
  unfold r04_words at h
  have := Option.some.inj h
  subst this
  decide
theorem word_tot (s : Str) : T (fun _ => True) (r04_Word s) := by
  unfold r04_Word
  refine T.cal (Q := fun _ => True) ⟨_, rfl, trivial⟩ fun y hy _ => T.cal (in_string_tot y s (words_len y hy)) fun _ _ _ => T.some trivial

theorem one_tot (s : Str) (i : Int) (h0 : 0 ≤ i) (h1 : i < s.b.length) (hl : s.b.length ≤ 1000000) :
    T (fun (r : GTok × Int) => r.2 < 0 ∨ (i < r.2 ∧ r.2 ≤ (s.b.length : Int) ∧ TokOk s.b.length r.1 ∧ 1 ≤ r.1.kind ∧ r.1.kind ≤ 7)) (r04_one s i) := by
  unfold r04_one
  refine T.get h0 h1 fun y hy => ?_
  refine T.jp (ι := Int × GTok) (fun (q : Int × GTok) => q.1 < 0 ∨ (i < q.1 ∧ q.1 ≤ (s.b.length : Int) ∧ TokOk s.b.length q.2 ∧ 1 ≤ q.2.kind ∧ q.2.kind ≤ 7)) (fun J h => ?_) fun q hq => T.some hq
  have hsub : ∀ (a b : Nat), ((s.b.take a).drop b).length ≤ s.b.length := fun a b => by rw [List.length_drop, List.length_take]; omega
  refine T.eq (letter_eq y) (T.br (fun hle => ?_) fun _ => T.eq (digit_eq y) ?_)
  · refine T.cal (name_tot s i h0 h1 hl fun y' hy' => by rw [hy] at hy'; cases hy'; exact hle) fun e _ he => T.br (fun _ => T.some (.inl (by dsimp only; omega))) fun hn => ?_
    have hn := of_decide_eq_false hn
    have he' : i < e ∧ e ≤ s.b.length := by omega
    refine T.asd (by omega) (T.jp (ι := GTok) (fun t => (t.kind = 1 ∨ t.kind = 2) ∧ t.text.b.length ≤ s.b.length ∧ t.at_ = i) (fun J2 h2 => T.br (fun _ => h2 _ ⟨.inl rfl, hsub _ _, rfl⟩) fun _ => h2 _ ⟨.inr rfl, hsub _ _, rfl⟩) fun t ht => ?_)
    obtain ⟨ht1, ht2, ht3⟩ := ht
    refine T.cal (word_tot t.text) fun w _ _ => T.br (fun _ => h _ (.inr ⟨he'.1, he'.2, ⟨fun h => by simp at h, ht2, by dsimp only; omega⟩, by simp, by simp⟩)) fun _ => h _ (.inr ⟨he'.1, he'.2, ⟨fun h => by rw [h] at ht1; omega, ht2, by dsimp only; omega⟩, by dsimp only; omega, by dsimp only; omega⟩)
  · refine T.jp (fun _ => True) (fun J2 h2 => T.br (fun _ => h2 _ trivial) fun _ => ?_) fun b _ => ?_
    · refine T.jp (fun _ => True) (fun J3 h3 => T.br (fun _ => T.ck (by omega) (T.cal (at_tot s _) fun y _ _ => T.eq (digit_eq y) (h3 _ trivial))) fun _ => h3 _ trivial) fun _ _ => h2 _ trivial
    refine T.br (fun _ => T.cal (number_tot s i h0 h1 hl) fun e _ he => T.br (fun _ => T.some (.inl (by dsimp only; omega))) fun hn => ?_) fun _ => ?_
    · have hn := of_decide_eq_false hn
      have he' : i < e ∧ e ≤ s.b.length ∧ NumOk ((s.b.take e.toNat).drop i.toNat) := by
        rcases he with h | h
        · omega
        · exact h
      exact T.asd (by omega) (h _ (.inr ⟨he'.1, he'.2.1, ⟨fun _ => he'.2.2, hsub _ _, by dsimp only; omega⟩, by simp, by simp⟩))
    · refine T.br (fun _ => T.cal (hex_tot s i h0 h1 hl) fun e _ he => h _ ?_) fun _ => T.br (fun _ => T.cal (quoted_tot s i h0 h1 hl) fun e _ he => h _ ?_) fun _ => ?_
      · rcases he with h | h
        · left; rw [h]; decide
        · exact .inr ⟨h.1, h.2.1, ⟨fun h => by simp at h, h.2.2, by dsimp only; omega⟩, by simp, by simp⟩
      · rcases he with h | h
        · left; rw [h]; decide
        · exact .inr ⟨h.1, h.2.1, ⟨fun h => by simp at h, h.2.2, by dsimp only; omega⟩, by simp, by simp⟩
      · refine T.cal (sign_tot s i h0 h1 hl) fun e _ he => T.br (fun hp => ?_) fun _ => h _ (.inl (by dsimp only; omega))
        have hp := of_decide_eq_true hp
        exact T.ck (by omega) (T.asd (by omega) (T.ck (by omega) (h _ (.inr ⟨by dsimp only; omega, by dsimp only; omega, ⟨fun h => by simp at h, hsub _ _, by dsimp only; omega⟩, by simp, by simp⟩))))

structure ToksOk (l : List GTok) : Prop where
  len : l.length ≤ 8001
  ok : ∀ t ∈ l, TokOk 8000 t
  last : ∃ m e, l = m ++ [e] ∧ e.kind = 0 ∧ ∀ t ∈ m, 1 ≤ t.kind ∧ t.kind ≤ 7

theorem tokens_tot (s : Str) : T (fun r => r.2.2 = 0 → ToksOk r.1) (r04_Tokens s) := by
  unfold r04_Tokens
  refine T.br (fun _ => T.some (fun h => by cases h)) fun hl => ?_
  have hl := of_decide_eq_false hl
  refine T.lp (ι := List GTok × Int) (fun (q : List GTok × Int) => 0 ≤ q.2 ∧ q.2 ≤ (s.b.length : Int) ∧ (q.1.length : Int) ≤ q.2 ∧ (∀ t ∈ q.1, TokOk 8000 t ∧ 1 ≤ t.kind ∧ t.kind ≤ 7)) (fun (q : List GTok × Int) => ((s.b.length : Int) - q.2).toNat) ⟨Int.le_refl _, by dsimp only; omega, by simp, by simp⟩ (by dsimp only; omega) fun L q hq hL => ?_
  obtain ⟨l, k⟩ := q
  obtain ⟨h1, h2, h3, h4⟩ := hq
  simp only at h1 h2 h3 h4 ⊢
  refine T.cal (white_tot s k h1 h2 (by omega)) fun e _ he => T.br (fun _ => ?_) fun hb => ?_
  · refine T.abl (by simp only [List.length_cons, List.length_nil]; omega) (T.some fun _ => ⟨?_, ?_, ⟨l, _, rfl, rfl, fun t ht => (h4 t ht).2⟩⟩)
    · simp only [List.length_append, List.length_cons, List.length_nil]; omega
    · intro t ht
      rcases List.mem_append.1 ht with h | h
      · exact (h4 t h).1
      · rw [List.mem_singleton.1 h]; exact ⟨fun h => by simp at h, by simp, by dsimp only; omega⟩
  · have hb := of_decide_eq_false hb
    refine T.cal (one_tot s e (by omega) (by omega) (by omega)) fun r _ hr => T.br (fun _ => T.some (fun h => by cases h)) fun hn => ?_
    have hn := of_decide_eq_false hn
    rcases hr with h | ⟨r1, r2, r3, r4, r5⟩
    · exact absurd h hn
    refine T.abl (by simp only [List.length_cons, List.length_nil]; omega) (hL _ ⟨by dsimp only; omega, by dsimp only; omega, ?_, fun t ht => ?_⟩ (by dsimp only; omega))
    · simp only [List.length_append, List.length_cons, List.length_nil]; omega
    · rcases List.mem_append.1 ht with h | h
      · exact h4 t h
      · rw [List.mem_singleton.1 h]; exact ⟨⟨r3.num, by have := r3.len; omega, by have := r3.at0; omega⟩, r4, r5⟩
end Go.Proofs.YtnnijoepfgnlfaaDoor


namespace Go.Proofs.YtnnijoepfgnlfaaDoor
open Go.Sy
set_option linter.unusedVariables false

structure Ok (l : List GTok) (m : GMod) (a : Int) (P : Prop) (y : GPar) : Prop where
  toks : ToksOk l
  yl : y.l = l
  ym : y.m = m
  a0 : 0 ≤ y.at_
  a1 : y.at_ < l.length
  ok : y.e = 0 → P ∧ a ≤ y.at_
theorem Ok.to {l m a P y} {a' : Int} {P' : Prop} (h : Ok l m a P y) (k : y.e = 0 → P → a ≤ y.at_ → P' ∧ a' ≤ y.at_) : Ok l m a' P' y := ⟨h.toks, h.yl, h.ym, h.a0, h.a1, fun e => k e (h.ok e).1 (h.ok e).2⟩
theorem Ok.err {l m a P y} {a' : Int} {P' : Prop} (h : Ok l m a P y) (k : ¬ y.e = 0) : Ok l m a' P' y := h.to fun e => absurd e k

def Tk (x : GPar) (t : GTok) : Prop := x.l[x.at_.toNat]? = some t
theorem Tk.ok {l m a P x t} (h : Ok l m a P x) (ht : Tk x t) : TokOk 8000 t := by
  unfold Tk at ht
  rw [h.yl] at ht
  exact h.toks.ok t (List.mem_of_getElem? ht)
theorem Tk.last {l m a P x t} (h : Ok l m a P x) (ht : Tk x t) (hk : t.kind ≠ 0) : x.at_ + 1 < l.length := by
  unfold Tk at ht
  rw [h.yl] at ht
  obtain ⟨m', e, h1, h2, h3⟩ := h.toks.last
  rcases Nat.lt_or_ge (x.at_.toNat + 1) l.length with h4 | h4
  · have := h.a0; omega
  · exfalso
    have h5 := h.a1
    have h6 := h.a0
    have h7 : x.at_.toNat = m'.length := by rw [h1] at h4 h5; simp only [List.length_append, List.length_singleton] at h4 h5; omega
    rw [h1, h7, List.getElem?_append_right (Nat.le_refl _)] at ht
    simp at ht
    subst ht
    exact hk h2

theorem now_tot {l m a P x} (h : Ok l m a P x) : T (fun r => Tk x r.1 ∧ r.2 = x) (r05_parser_now x) := by
  unfold r05_parser_now
  refine T.get h.a0 (by rw [h.yl]; exact h.a1) fun y hy => T.some ⟨hy, rfl⟩
theorem fail_tot {l m a P x} (e : Int) (t : GTok) (h : Ok l m a P x) (he : e ≠ 0) : T (fun r => Ok l m a P r ∧ r.e ≠ 0) (r05_parser_fail x e t) := by
  unfold r05_parser_fail
  refine T.br (fun h1 => T.some ⟨⟨h.toks, h.yl, h.ym, h.a0, h.a1, fun h2 => absurd h2 he⟩, he⟩) fun h1 => T.some ⟨h, of_decide_eq_false h1⟩
theorem next_tot {l m a P x} (h : Ok l m a P x) : T (fun r => Tk x r.1 ∧ Ok l m a P r.2 ∧ (r.1.kind ≠ 0 → r.2.at_ = x.at_ + 1) ∧ r.2.e = x.e) (r05_parser_next x) := by
  unfold r05_parser_next
  have hl := h.toks.len
  have h1 := h.a0
  have h2 := h.a1
  refine T.get h.a0 (by rw [h.yl]; exact h.a1) fun y hy => T.ck (by omega) (T.jp (fun r => Ok l m a P r ∧ (y.kind ≠ 0 → r.at_ = x.at_ + 1) ∧ r.e = x.e) (fun J k => T.br (fun h3 => ?_) fun h3 => k _ ?_) fun q hq => T.some ⟨hy, hq⟩)
  · have h3 := of_decide_eq_true h3
    rw [h.yl] at h3
    refine T.ck (by omega) (k _ ⟨⟨h.toks, h.yl, h.ym, by dsimp only; omega, h3, fun e => ?_⟩, fun _ => rfl, rfl⟩)
    have := h.ok e
    exact ⟨this.1, by dsimp only; omega⟩
  · have h3 := of_decide_eq_false h3
    rw [h.yl] at h3
    exact ⟨h, fun hk => absurd (Tk.last h hy hk) h3, rfl⟩
theorem kind_tot {l m a P x} (k : Int) (hk : 1 ≤ k) (h : Ok l m a P x) : T (fun r => Ok l m a P r.2 ∧ (r.2.e = 0 → x.e = 0 ∧ r.2.at_ = x.at_ + 1 ∧ ∃ t, Tk x t ∧ t.kind = k ∧ r.1 = t.text) ∧ (r.2.e ≠ 0 → r.1 = ⟨[]⟩)) (r05_parser_kind x k) := by
  unfold r05_parser_kind
  refine T.cal (now_tot h) fun ⟨t, x'⟩ _ ⟨ht, hx⟩ => ?_
  subst hx
  dsimp only at ht ⊢
  refine T.jp (fun b => b = false → x'.e = 0 ∧ t.kind = k) (fun J h1 => T.br (fun _ => h1 _ fun h => by cases h) fun h2 => h1 _ fun h3 => ⟨by simpa using h2, by simpa using h3⟩) fun b hb => T.br (fun _ => ?_) fun h2 => ?_
  · exact T.cal (fail_tot _ _ h (by decide)) fun y _ hy => T.some ⟨hy.1, fun e => absurd e hy.2, fun _ => rfl⟩
  · obtain ⟨h3, h4⟩ := hb h2
    refine T.cal (next_tot h) fun y _ hy => T.some ⟨hy.2.1, fun e => ⟨h3, ?_, t, ht, h4, ?_⟩, fun e => absurd (hy.2.2.2.trans h3) e⟩
    · have : y.1 = t := by have := hy.1; unfold Tk at this ht; rw [ht] at this; cases this; rfl
      exact hy.2.2.1 (by rw [this]; omega)
    · have : y.1 = t := by have := hy.1; unfold Tk at this ht; rw [ht] at this; cases this; rfl
      rw [this]
theorem is_tot {l m a P x} (s : Str) (h : Ok l m a P x) : T (fun r => Ok l m a P r.2 ∧ r.2.e = x.e ∧ (r.1 = true → x.e = 0 ∧ r.2.at_ = x.at_ + 1) ∧ (r.1 = false → r.2 = x)) (r05_parser_is x s) := by
  unfold r05_parser_is
  refine T.cal (now_tot h) fun ⟨t, x'⟩ _ ⟨ht, hx⟩ => ?_
  subst hx
  dsimp only at ht ⊢
  refine T.jp (fun b => b = true → x'.e = 0 ∧ t.kind ≠ 0) (fun J h1 => T.br (fun h2 => ?_) fun _ => h1 _ fun h => by cases h) fun b hb => ?_
  · have h2 := of_decide_eq_true h2
    refine T.jp (fun b => b = true → t.kind ≠ 0) (fun J h3 => T.br (fun h4 => h3 _ fun _ => by have := of_decide_eq_true h4; omega) fun _ => h3 _ fun h => by have := of_decide_eq_true h; omega) fun b hb => h1 _ fun h => ⟨h2, hb h⟩
  · refine T.jp (fun b => b = true → x'.e = 0 ∧ t.kind ≠ 0) (fun J h1 => T.br (fun h2 => h1 _ fun _ => hb h2) fun _ => h1 _ fun h => by cases h) fun b2 hb2 => T.br (fun h2 => ?_) fun _ => T.some ⟨h, rfl, (fun h => by cases h), fun _ => rfl⟩
    obtain ⟨h3, h4⟩ := hb2 h2
    refine T.cal (next_tot h) fun y _ hy => T.some ⟨hy.2.1, hy.2.2.2, fun _ => ⟨h3, ?_⟩, fun h => by cases h⟩
    have : y.1 = t := by have := hy.1; unfold Tk at this ht; rw [ht] at this; cases this; rfl
    exact hy.2.2.1 (by rw [this]; exact h4)
theorem must_tot {l m a P x} (s : Str) (h : Ok l m a P x) : T (fun r => Ok l m a P r ∧ (r.e = 0 → x.e = 0 ∧ r.at_ = x.at_ + 1)) (r05_parser_must x s) := by
  unfold r05_parser_must
  refine T.jp (fun q => Ok l m a P q.2 ∧ (q.2.e = 0 → x.e = 0) ∧ (q.1 = false → q.2.e = 0 → q.2.at_ = x.at_ + 1)) (fun J h1 => T.br (fun h2 => T.cal (is_tot s h) fun y _ hy => h1 _ ⟨hy.1, fun _ => of_decide_eq_true h2, fun h3 _ => (hy.2.2.1 (by simpa using h3)).2⟩) fun h2 => h1 _ ⟨h, fun h => h, fun _ h3 => absurd h3 (of_decide_eq_false h2)⟩) fun q hq => T.br (fun h2 => ?_) fun h2 => T.some ⟨hq.1, fun h3 => ⟨hq.2.1 h3, hq.2.2 h2 h3⟩⟩
  refine T.cal (now_tot hq.1) fun ⟨t, x'⟩ _ ⟨ht, hx⟩ => ?_
  subst hx
  exact T.cal (fail_tot _ _ hq.1 (by decide)) fun y _ hy => T.some ⟨hy.1, fun e => absurd e hy.2⟩
theorem begins_tot (t : GTok) : T (fun _ => True) (r05_begins t) := by
  unfold r05_begins
  refine T.lp (fun (k : Int) => 0 ≤ k) (fun (k : Int) => (10 - k).toNat) (Int.le_refl _) (by omega) fun L k hk hL => ?_
  refine T.br (fun h2 => ?_) fun _ => T.some trivial
  have h2 : k < 10 := of_decide_eq_true h2
  refine T.get hk h2 fun y _ => T.jp (fun _ => True) (fun J h3 => T.br (fun _ => T.jp (fun _ => True) (fun J4 h4 => T.br (fun _ => h4 _ trivial) fun _ => h4 _ trivial) fun _ _ => h3 _ trivial) fun _ => h3 _ trivial) fun q _ => T.br (fun _ => T.some trivial) fun _ => T.ck (by omega) (hL _ (by omega) (by omega))
end Go.Proofs.YtnnijoepfgnlfaaDoor


namespace Go.Proofs.YtnnijoepfgnlfaaDoor
open Go.Sy
set_option linter.unusedVariables false

theorem whole_tot (s : Str) (h : NumOk s.b) : T (fun r => -9223372036854775808 ≤ r ∧ r ≤ 9223372036854775807) (r05_Whole s) := by
  obtain ⟨ds, hd, hne, hlen, hv⟩ := h
  unfold r05_Whole
  have hlb : s.b.length ≤ 20 ∧ 0 < s.b.length := by
    have : 0 < ds.length := List.length_pos_iff.2 hne
    rcases hv with ⟨h1, _⟩ | ⟨h1, _⟩
    · rw [h1]; omega
    · rw [h1]; simp only [List.length_cons]; omega
  refine T.get (Int.le_refl _) (by omega) fun y1 hy1 => ?_
  refine T.jp (fun q => q.b = ds ∧ (y1 = 45 → 1 ≤ dval ds ∧ dval ds ≤ 9223372036854775808) ∧ (y1 ≠ 45 → dval ds < 9223372036854775808)) (fun J k => T.br (fun h1 => ?_) fun h1 => k _ ?_) fun q hq => ?_
  · have h1 := of_decide_eq_true h1
    refine T.asd (by omega) (k _ ?_)
    rcases hv with ⟨h2, h3⟩ | ⟨h2, h3⟩
    · exfalso
      rw [h2] at hy1
      have := digit_range (hd y1 (List.mem_of_getElem? hy1))
      rw [h1] at this
      have e : (45 : UInt8).toNat = 45 := rfl
      omega
    · refine ⟨?_, fun _ => h3, fun h => absurd h1 h⟩
      dsimp only
      rw [h2]
      simp
  · have h1 := of_decide_eq_false h1
    rcases hv with ⟨h2, h3⟩ | ⟨h2, h3⟩
    · exact ⟨h2, fun h => absurd h h1, fun _ => h3⟩
    · rw [h2] at hy1
      simp at hy1
      exact absurd hy1.symm h1
  · obtain ⟨q1, q2, q3⟩ := hq
    refine T.lp (fun (p : UInt64 × Int) => 0 ≤ p.2 ∧ p.2 ≤ (ds.length : Int) ∧ p.1 = uval (ds.take p.2.toNat)) (fun (p : UInt64 × Int) => ((ds.length : Int) - p.2).toNat) ⟨Int.le_refl _, by dsimp only; omega, rfl⟩ (by dsimp only; omega) fun L p hp hL => ?_
    obtain ⟨v, k⟩ := p
    obtain ⟨p1, p2, p3⟩ := hp
    dsimp only at p1 p2 p3 ⊢
    rw [q1]
    refine T.br (fun h1 => ?_) fun h1 => ?_
    · have h1 := of_decide_eq_true h1
      refine T.get p1 h1 fun y hy => T.ck (by omega) (hL _ ⟨by dsimp only; omega, by dsimp only; omega, ?_⟩ (by dsimp only; omega))
      have e : (k + 1).toNat = k.toNat + 1 := by omega
      dsimp only
      rw [e, List.take_add_one, hy, Option.toList_some, uval_snoc, p3]
    · have h1 := of_decide_eq_false h1
      rw [List.take_of_length_le (by omega)] at p3
      have hn := uval_dval ds hd hlen
      rw [← p3] at hn
      refine T.br (fun h2 => ?_) fun h2 => ?_
      · have h3 := q2 (of_decide_eq_true h2)
        have e : (v - 1).toNat = dval ds - 1 := by
          have e1 : (1 : UInt64).toNat = 1 := rfl
          rw [UInt64.toNat_sub_of_le v 1 (by rw [UInt64.le_iff_toNat_le, e1]; omega), e1, hn]
        rw [e]
        exact T.ck (by omega) (T.ck (by omega) (T.ck (by omega) (T.some (by omega))))
      · have h3 := q3 (of_decide_eq_false h2)
        exact T.ck (by omega) (T.some (by omega))
theorem number_ok {l m a P x} (h : Ok l m a P x) : T (fun r => Ok l m a P r.2 ∧ (r.2.e = 0 → x.e = 0 ∧ r.2.at_ = x.at_ + 1) ∧ -9223372036854775808 ≤ r.1 ∧ r.1 ≤ 9223372036854775807) (r05_parser_number x) := by
  unfold r05_parser_number
  refine T.cal (kind_tot 3 (by decide) h) fun r _ hr => T.br (fun h2 => T.some ⟨hr.1, fun e => ⟨(hr.2.1 e).1, (hr.2.1 e).2.1⟩, by dsimp only; omega, by dsimp only; omega⟩) fun h2 => ?_
  have h2 := of_decide_eq_false h2
  by_cases he : r.2.e = 0
  · obtain ⟨h3, h4, t, h5, h6, h7⟩ := hr.2.1 he
    refine T.cal (whole_tot r.1 (by rw [h7]; exact (Tk.ok h h5).num h6)) fun v _ hv => T.some ⟨hr.1, fun e => ⟨h3, h4⟩, hv⟩
  · exact absurd (hr.2.2 he) h2
theorem bounds_tot {l m a P x} (h : Ok l m a P x) : T (fun r => Ok l m a P r.2 ∧ (r.2.e = 0 → x.e = 0)) (r05_parser_bounds x) := by
  unfold r05_parser_bounds
  refine T.cal (is_tot _ h) fun r _ hr => T.jp (fun q => Ok l m a P q.1 ∧ (q.1.e = 0 → x.e = 0)) (fun J k => T.br (fun _ => T.cal (number_ok hr.1) fun s _ hs => k _ ⟨hs.1, fun e => hr.2.1 ▸ (hs.2.1 e).1⟩) fun _ => k _ ⟨hr.1, fun e => hr.2.1 ▸ e⟩) fun q hq => ?_
  refine T.jp (fun q => Ok l m a P q.1 ∧ (q.1.e = 0 → x.e = 0)) (fun J k => T.cal (is_tot _ hq.1) fun s _ hs => T.br (fun _ => T.cal (is_tot _ hs.1) fun u _ hu => T.br (fun _ => T.cal (number_ok hu.1) fun v _ hv => k _ ⟨hv.1, fun e => hq.2 (hs.2.1 ▸ hu.2.1 ▸ (hv.2.1 e).1)⟩) fun _ => k _ ⟨hu.1, fun e => hq.2 (hs.2.1 ▸ hu.2.1 ▸ e)⟩) fun _ => T.br (fun _ => k _ ⟨hs.1, fun e => hq.2 (hs.2.1 ▸ e)⟩) fun _ => k _ ⟨hs.1, fun e => hq.2 (hs.2.1 ▸ e)⟩) fun q2 hq2 => ?_
  refine T.cal (is_tot _ hq2.1) fun s _ hs => T.jp (fun q => Ok l m a P q.1 ∧ (q.1.e = 0 → x.e = 0)) (fun J k => T.br (fun _ => T.cal (must_tot _ hs.1) fun u _ hu => k _ ⟨hu.1, fun e => hq2.2 (hs.2.1 ▸ (hu.2 e).1)⟩) fun _ => k _ ⟨hs.1, fun e => hq2.2 (hs.2.1 ▸ e)⟩) fun q3 hq3 => T.some hq3
theorem size_tot {l m a P x} (h : Ok l m a P x) : T (fun r => Ok l m a P r.2 ∧ (r.2.e = 0 → x.e = 0)) (r05_parser_size x) := by
  unfold r05_parser_size
  refine T.cal (is_tot _ h) fun r _ hr => T.br (fun _ => T.some ⟨hr.1, fun e => hr.2.1 ▸ e⟩) fun _ => ?_
  refine T.cal (must_tot _ hr.1) fun y1 _ h1 => T.cal (must_tot _ h1.1) fun y2 _ h2 => T.cal (bounds_tot h2.1) fun y3 _ h3 => T.cal (must_tot _ h3.1) fun y4 _ h4 => T.cal (must_tot _ h4.1) fun y5 _ h5 => T.some ⟨h5.1, fun e => ?_⟩
  exact hr.2.1 ▸ (h1.2 (h2.2 (h3.2 (h4.2 (h5.2 e).1).1)).1).1

def I64 (x : Int) : Prop := -9223372036854775808 ≤ x ∧ x ≤ 9223372036854775807
def IOk (n : GNode) : Prop := (∀ it ∈ n.items, I64 it.number) ∧ (n.more = true → 0 ≤ n.root ∧ n.root ≤ n.items.length)
structure SameN (n n' : GNode) : Prop where
  kind : n'.kind = n.kind
  fields : n'.fields = n.fields
  of : n'.of = n.of
theorem items_tot {l m a P x} (n : GNode) (h : Ok l m a P x) (hn : n.items = []) (hm : n.more = false) : T (fun r => Ok l m a P r.1 ∧ (r.1.e = 0 → x.e = 0) ∧ SameN n r.2 ∧ (∀ it ∈ r.2.items, I64 it.number) ∧ 0 ≤ r.2.root ∧ r.2.root ≤ r.2.items.length ∧ r.2.items.length ≤ 8001) (r05_parser_items x n) := by
  unfold r05_parser_items
  have hl := h.toks.len
  refine T.jp (fun q => Ok l m a P q.1 ∧ (q.1.e = 0 → x.e = 0) ∧ SameN n q.2 ∧ IOk q.2 ∧ q.2.items.length ≤ 8001) (fun J k => ?_) fun q hq => T.br (fun _ => T.some ⟨hq.1, hq.2.1, ⟨hq.2.2.1.kind, hq.2.2.1.fields, hq.2.2.1.of⟩, hq.2.2.2.1.1, by dsimp only; omega, Int.le_refl _, hq.2.2.2.2⟩) fun hm2 => T.some ⟨hq.1, hq.2.1, hq.2.2.1, hq.2.2.2.1.1, (hq.2.2.2.1.2 (by simpa using hm2)).1, (hq.2.2.2.1.2 (by simpa using hm2)).2, hq.2.2.2.2⟩
  have ha0 := h.a0
  have ha1 := h.a1
  refine T.lp (fun (q : GPar × GNode) => Ok l m a P q.1 ∧ (q.1.e = 0 → x.e = 0) ∧ SameN n q.2 ∧ (q.2.items.length : Int) ≤ q.1.at_ ∧ IOk q.2) (fun (q : GPar × GNode) => ((l.length : Int) - q.1.at_).toNat) ⟨h, fun e => e, ⟨rfl, rfl, rfl⟩, by dsimp only; rw [hn]; simpa using ha0, by dsimp only; rw [hn]; simp, fun h => by dsimp only at h; rw [hm] at h; cases h⟩ (by dsimp only; omega) fun L q hq hL => ?_
  obtain ⟨y, n1⟩ := q
  obtain ⟨h1, h2, h3, h4, h5⟩ := hq
  dsimp only at h1 h2 h3 h4 h5 ⊢
  refine T.br (fun he => ?_) fun _ => k _ ⟨h1, h2, h3, h5, by have := h1.a1; dsimp only; omega⟩
  have he := of_decide_eq_true he
  refine T.jp (fun _ => True) (fun J2 k2 => T.br (fun _ => k2 _ trivial) fun _ => k2 _ trivial) fun b _ => ?_
  refine T.jp (fun (q : Bool × GPar) => Ok l m a P q.2 ∧ q.2.e = y.e ∧ (q.1 = true → q.2.at_ = y.at_ + 1) ∧ (q.1 = false → q.2.at_ = y.at_)) (fun J3 k3 => T.br (fun _ => T.cal (is_tot _ h1) fun r _ hr => k3 _ ⟨hr.1, hr.2.1, fun e => (hr.2.2.1 e).2, fun e => by rw [hr.2.2.2 e]⟩) fun _ => k3 _ ⟨h1, rfl, (fun h => by cases h), fun _ => rfl⟩) fun q3 hq3 => ?_
  refine T.jp (fun (q : GPar × GNode) => Ok l m a P q.1 ∧ (q.1.e = 0 → q.1.at_ ≥ y.at_ + 1) ∧ SameN n q.2 ∧ (q.2.items.length : Int) ≤ y.at_ + 1 ∧ IOk q.2) (fun J4 k4 => T.br (fun hb => k4 _ ⟨hq3.1, fun _ => by dsimp only; rw [hq3.2.2.1 hb]; omega, ⟨h3.kind, h3.fields, h3.of⟩, by dsimp only; omega, h5.1, fun _ => ⟨by dsimp only; omega, Int.le_refl _⟩⟩) fun hb => ?_) fun q4 hq4 => ?_
  · have hq5 := hq3.2.2.2 hb
    refine T.cal (kind_tot 2 (by decide) hq3.1) fun r _ hr => T.cal (is_tot _ hr.1) fun s _ hs => T.jp (fun (q : GPar × GItem) => Ok l m a P q.1 ∧ (q.1.e = 0 → r.2.e = 0 ∧ q.1.at_ ≥ r.2.at_) ∧ I64 q.2.number) (fun J5 k5 => T.br (fun hb2 => T.cal (number_ok hs.1) fun u _ hu => T.cal (must_tot _ hu.1) fun w _ hw => k5 _ ⟨hw.1, fun e => ?_, hu.2.2⟩) fun hb2 => k5 _ ⟨hs.1, fun e => ⟨hs.2.1 ▸ e, by dsimp only; rw [hs.2.2.2 hb2]; omega⟩, by unfold I64; dsimp only; omega⟩) fun q5 hq5' => T.abl ?_ (k4 _ ⟨hq5'.1, fun e => ?_, ⟨h3.kind, h3.fields, h3.of⟩, ?_, ?_, ?_⟩)
    · have e1 := hw.2 e
      have e2 := hu.2.1 e1.1
      have e3 := hs.2.2.1 hb2
      exact ⟨e3.1, by dsimp only at e ⊢; omega⟩
    · have h9 := h1.a1
      simp only [List.length_singleton]; omega
    · have e1 := hq5'.2.1 e
      have e2 := hr.2.1 e1.1
      dsimp only at e ⊢
      omega
    · simp only [List.length_append, List.length_singleton]; omega
    · intro it hit
      rcases List.mem_append.1 hit with h | h
      · exact h5.1 it h
      · rw [List.mem_singleton.1 h]; exact hq5'.2.2
    · intro hmo
      have := h5.2 hmo
      simp only [List.length_append, List.length_singleton]
      omega
  · refine T.cal (is_tot _ hq4.1) fun r _ hr => T.br (fun hb => k _ ⟨hr.1, fun _ => h2 he, hq4.2.2.1, hq4.2.2.2.2, by have := h1.a1; have := hq4.2.2.2.1; dsimp only; omega⟩) fun hb => ?_
    have hb : r.1 = true := by simpa using hb
    have e1 := hr.2.2.1 hb
    have e2 := hq4.2.1 e1.1
    have e3 := hr.1.a1
    exact hL _ ⟨hr.1, fun _ => h2 he, hq4.2.2.1, by dsimp only; omega, hq4.2.2.2.2⟩ (by dsimp only; omega)
end Go.Proofs.YtnnijoepfgnlfaaDoor


namespace Go.Proofs.YtnnijoepfgnlfaaDoor
open Go.Sy
set_option linter.unusedVariables false

theorem hexs_tot (s : Str) (hl : s.b.length ≤ 1000000) : T (fun r => r.length ≤ s.b.length) (r05_Hex s) := by
  unfold r05_Hex
  refine T.lp (fun (q : List UInt8 × Int) => 0 ≤ q.2 ∧ q.2 ≤ (s.b.length : Int) ∧ (q.1.length : Int) ≤ q.2) (fun (q : List UInt8 × Int) => ((s.b.length : Int) - q.2).toNat) ⟨Int.le_refl _, by dsimp only; omega, by simp⟩ (by dsimp only; omega) fun L q hq hL => ?_
  obtain ⟨o, i⟩ := q
  obtain ⟨h1, h2, h3⟩ := hq
  dsimp only at h1 h2 h3 ⊢
  refine T.ck (by omega) (T.br (fun hb => ?_) fun _ => T.some (by omega))
  have hb := of_decide_eq_true hb
  refine T.lp (fun (p : UInt8 × Int) => i ≤ p.2 ∧ p.2 ≤ i + 2) (fun (p : UInt8 × Int) => (i + 2 - p.2).toNat) ⟨Int.le_refl _, by dsimp only; omega⟩ (by dsimp only; omega) fun L2 p hp hL2 => ?_
  obtain ⟨v, k⟩ := p
  obtain ⟨h4, h5⟩ := hp
  dsimp only at h4 h5 ⊢
  refine T.ck (by omega) (T.br (fun hb2 => ?_) fun hb2 => ?_)
  · have hb2 := of_decide_eq_true hb2
    refine T.get (by omega) (by omega) fun y _ => T.get (by omega) (by omega) fun y2 _ => T.jp (fun _ => True) (fun J h6 => T.br (fun _ => T.get (by omega) (by omega) fun _ _ => h6 _ trivial) fun _ => h6 _ trivial) fun u _ => T.asr (by decide) (T.ck (by omega) (hL2 _ ⟨by dsimp only; omega, by dsimp only; omega⟩ (by dsimp only; omega)))
  · refine T.abl ?_ (T.ck (by omega) (hL _ ⟨by dsimp only; omega, by dsimp only; omega, ?_⟩ (by dsimp only; omega)))
    · simp only [List.length_singleton]; omega
    · simp only [List.length_append, List.length_singleton]; omega

def DOk (v : Val) : Prop := v.b.length ≤ 8000 ∧ v.l = [] ∧ v.more = [] ∧ 0 ≤ v.kind ∧ v.kind ≤ 6 ∧ v.rule = 0
theorem Tk.eq {x : GPar} {t t' : GTok} (h : Tk x t) (h' : Tk x t') : t' = t := by unfold Tk at h h'; rw [h] at h'; cases h'; rfl
theorem value_tot {l m a P x} (h : Ok l m a P x) : T (fun r => Ok l m a P r.2 ∧ DOk r.1) (r05_parser_value x) := by
  unfold r05_parser_value
  refine T.cal (now_tot h) fun ⟨t, x'⟩ _ ⟨ht, hx⟩ => ?_
  subst hx
  dsimp only at ht ⊢
  refine T.jp (fun y => Ok l m a P y) (fun J k => T.br (fun _ => k _ h) fun _ => ?_) fun y hy => T.some ⟨hy, Nat.zero_le _, rfl, rfl, of_decide_eq_true rfl, of_decide_eq_true rfl, rfl⟩
  refine T.cal (is_tot _ h) fun y1 _ h1 => T.br (fun _ => T.some ⟨h1.1, ⟨Nat.zero_le _, rfl, rfl, of_decide_eq_true rfl, of_decide_eq_true rfl, rfl⟩⟩) fun b1 => ?_
  refine T.cal (is_tot _ h1.1) fun y2 _ h2 => T.br (fun _ => T.some ⟨h2.1, ⟨Nat.zero_le _, rfl, rfl, of_decide_eq_true rfl, of_decide_eq_true rfl, rfl⟩⟩) fun b2 => ?_
  refine T.cal (is_tot _ h2.1) fun y3 _ h3 => T.br (fun _ => T.some ⟨h3.1, ⟨Nat.zero_le _, rfl, rfl, of_decide_eq_true rfl, of_decide_eq_true rfl, rfl⟩⟩) fun b3 => ?_
  have e : y3.2 = x' := by rw [h3.2.2.2 b3, h2.2.2.2 b2, h1.2.2.2 b1]
  have htl := (Tk.ok h ht).len
  have hnx := next_tot h3.1
  rw [e] at hnx
  refine T.br (fun hk => ?_) fun _ => T.br (fun hk => ?_) fun _ => T.br (fun hk => ?_) fun _ => T.br (fun hk => ?_) fun _ => ?_
  · rw [e]
    refine T.cal hnx fun r _ hr => T.cal (whole_tot r.1.text ?_) fun v _ _ => T.some ⟨hr.2.1, Nat.zero_le _, rfl, rfl, of_decide_eq_true rfl, of_decide_eq_true rfl, rfl⟩
    rw [Tk.eq ht hr.1]; exact (Tk.ok h ht).num (of_decide_eq_true hk)
  · rw [e]
    refine T.cal hnx fun r _ hr => T.abl ?_ (T.some ⟨hr.2.1, ?_, rfl, rfl, of_decide_eq_true rfl, of_decide_eq_true rfl, rfl⟩)
    · rw [Tk.eq ht hr.1]; omega
    · have h9 : r.1.text.b.length ≤ 8000 := by rw [Tk.eq ht hr.1]; omega
      exact h9
  · rw [e]
    refine T.cal hnx fun r _ hr => T.cal (hexs_tot r.1.text ?_) fun v _ hv => T.some ⟨hr.2.1, ?_, rfl, rfl, of_decide_eq_true rfl, of_decide_eq_true rfl, rfl⟩
    · rw [Tk.eq ht hr.1]; omega
    · have h9 : v.length ≤ 8000 := by rw [Tk.eq ht hr.1] at hv; omega
      exact h9
  · rw [e]
    refine T.cal hnx fun r _ hr => T.abl ?_ (T.some ⟨hr.2.1, ?_, rfl, rfl, of_decide_eq_true rfl, of_decide_eq_true rfl, rfl⟩)
    · rw [Tk.eq ht hr.1]; omega
    · have h9 : r.1.text.b.length ≤ 8000 := by rw [Tk.eq ht hr.1]; omega
      exact h9
  · exact T.cal (fail_tot _ _ h3.1 (by decide)) fun y _ hy => k _ hy.1

def kidsOf (n : GNode) : List Int := if n.kind = 11 then [] else n.fields.map (fun f => f.ty) ++ (if n.kind = 10 then [n.of] else [])
def Kids (S : Nat → Nat → Prop) : List Int → Nat → Nat → Prop
  | [], a, b => a = b
  | k :: r, a, b => ∃ c, k = (a : Int) ∧ S a c ∧ Kids S r c b
def Sub : Nat → List GNode → Nat → Nat → Prop
  | 0, _, _, _ => False
  | h + 1, l, i, j => ∃ n, l[i]? = some n ∧ Kids (Sub h l) (kidsOf n) (i + 1) j
theorem Kids.le {S : Nat → Nat → Prop} (hS : ∀ x y, S x y → x ≤ y) : ∀ {r a b}, Kids S r a b → a ≤ b := by
  intro r
  induction r with
  | nil => intro a b h; exact Nat.le_of_eq h
  | cons k r ih => intro a b ⟨c, _, h1, h2⟩; exact Nat.le_trans (hS _ _ h1) (ih h2)
theorem Sub.lt : ∀ {h l i j}, Sub h l i j → i < j := by
  intro h
  induction h with
  | zero => intro l i j h; exact h.elim
  | succ h ih => intro l i j ⟨n, _, h2⟩; exact Kids.le (fun x y h => Nat.le_of_lt (ih h)) h2
theorem Kids.mono {S S' : Nat → Nat → Prop} (hS : ∀ x y, S x y → x ≤ y) : ∀ {r a b}, (∀ x y, a ≤ x → y ≤ b → S x y → S' x y) → Kids S r a b → Kids S' r a b := by
  intro r
  induction r with
  | nil => intro a b _ h; exact h
  | cons k r ih =>
    intro a b hm ⟨c, h0, h1, h2⟩
    have := Kids.le hS h2
    exact ⟨c, h0, hm _ _ (Nat.le_refl _) this h1, ih (fun x y hx hy => hm x y (Nat.le_trans (hS _ _ h1) hx) hy) h2⟩
theorem Kids.snoc {S : Nat → Nat → Prop} {c : Nat} : ∀ {r a b}, Kids S r a b → S b c → Kids S (r ++ [(b : Int)]) a c := by
  intro r
  induction r with
  | nil => intro a b h h2; cases h; exact ⟨c, rfl, h2, rfl⟩
  | cons k r ih => intro a b ⟨d, h0, h1, h3⟩ h2; exact ⟨d, h0, h1, ih h3 h2⟩
theorem Sub.mono : ∀ {h l l' i j}, (∀ k, i ≤ k → k < j → l'[k]? = l[k]?) → Sub h l i j → Sub h l' i j := by
  intro h
  induction h with
  | zero => intro l l' i j _ h; exact h
  | succ h ih =>
    intro l l' i j hl hs
    have hlt := hs.lt
    obtain ⟨n, h1, h2⟩ := hs
    refine ⟨n, by rw [hl i (Nat.le_refl _) hlt]; exact h1, Kids.mono (fun x y h => Nat.le_of_lt h.lt) (fun x y hx hy hs => ih (fun k h3 h4 => hl k (by omega) (by omega)) hs) h2⟩
theorem Kids.monoL {h l l' r a b} (hl : ∀ k, a ≤ k → k < b → l'[k]? = l[k]?) (hk : Kids (Sub h l) r a b) : Kids (Sub h l') r a b :=
  Kids.mono (fun x y h => Nat.le_of_lt h.lt) (fun x y hx hy hs => hs.mono fun k h3 h4 => hl k (by omega) (by omega)) hk
def FOk (n : GNode) : Prop := ∀ f ∈ n.fields, DOk f.dflt
structure NodeOk (n : GNode) : Prop where
  root0 : 0 ≤ n.root
  items : n.kind = 3 → n.root ≤ n.items.length
  nums : ∀ it ∈ n.items, I64 it.number
  ilen : n.items.length ≤ 8001
  fields : n.kind = 7 ∨ n.kind = 8 ∨ n.kind = 9 → n.root ≤ n.fields.length
  dflt : FOk n
  rootZ : n.kind ≠ 3 → ¬ (n.kind = 7 ∨ n.kind = 8 ∨ n.kind = 9) → n.root = 0
structure Grow (m m' : GMod) : Prop where
  name : m'.name = m.name
  tagging : m'.tagging = m.tagging
  names : m'.names = m.names
  types : m'.types = m.types
  le : m.nodes.length ≤ m'.nodes.length
  lim : m'.nodes.length ≤ 300
  pre : ∀ i, i < m.nodes.length → m'.nodes[i]? = m.nodes[i]?
  ok : (∀ n ∈ m.nodes, NodeOk n) → ∀ n ∈ m'.nodes, NodeOk n
theorem Grow.refl {m : GMod} (h : m.nodes.length ≤ 300) : Grow m m := ⟨rfl, rfl, rfl, rfl, Nat.le_refl _, h, fun _ _ => rfl, fun h => h⟩
theorem Grow.trans {m m' m'' : GMod} (h : Grow m m') (h' : Grow m' m'') : Grow m m'' :=
  ⟨h'.name.trans h.name, h'.tagging.trans h.tagging, h'.names.trans h.names, h'.types.trans h.types, Nat.le_trans h.le h'.le, h'.lim, fun i hi => (h'.pre i (Nat.lt_of_lt_of_le hi h.le)).trans (h.pre i hi), fun k => h'.ok (h.ok k)⟩
end Go.Proofs.YtnnijoepfgnlfaaDoor


namespace Go.Proofs.YtnnijoepfgnlfaaDoor
open Go.Sy
set_option linter.unusedVariables false

def NI (n q : GNode) : Prop := q.kind = n.kind ∧ FOk q ∧ (q.more = true → 0 ≤ q.root ∧ q.root ≤ q.fields.length)
def FX (n r : GNode) : Prop := r.kind = n.kind ∧ r.more = n.more ∧ r.root = n.root ∧ (FOk n → FOk r)
theorem NI.next {n q r : GNode} (h : NI n q) (k : FX q r) (hl : r.fields.length = q.fields.length + 1) : NI n r :=
  ⟨k.1.trans h.1, k.2.2.2 h.2.1, fun e => by have := h.2.2 (k.2.1 ▸ e); rw [k.2.2.1, hl]; omega⟩
def TypS (l : List GTok) (f : GPar → Int → Option (Int × GPar)) (D : Nat) : Prop := ∀ x m a P (d : Int), Ok l m a P x → m.nodes.length ≤ 300 → 0 ≤ d → d + D = 17 →
  T (fun r => ∃ m', Grow m m' ∧ Ok l m' a (P ∧ r.1 = (m.nodes.length : Int) ∧ Sub D m'.nodes m.nodes.length m'.nodes.length) r.2) (f x d)
def BaseS (l : List GTok) (f : GPar → GNode → Int → Option (GPar × GNode)) (D : Nat) : Prop := ∀ x n m a P (d : Int), Ok l m a P x → m.nodes.length ≤ 300 → 0 ≤ d → d + D = 16 → n.fields = [] → n.items = [] → n.kind = 0 → n.more = false → n.root = 0 →
  T (fun r => (∃ m', Grow m m' ∧ Ok l m' a (P ∧ Kids (Sub D m'.nodes) (kidsOf r.2) m.nodes.length m'.nodes.length) r.1) ∧ NodeOk r.2) (f x n d)
def FieldsS (l : List GTok) (f : GPar → GNode → Int → Option (GPar × GNode)) (D : Nat) : Prop := ∀ x n m a P (d : Int), Ok l m a P x → m.nodes.length ≤ 300 → 0 ≤ d → d + D = 16 → n.fields = [] → n.more = false → n.root = 0 →
  T (fun r => (∃ m', Grow m m' ∧ Ok l m' a (P ∧ Kids (Sub D m'.nodes) (r.2.fields.map (fun f => f.ty)) m.nodes.length m'.nodes.length) r.1) ∧ r.2.kind = n.kind ∧ r.2.items = n.items ∧ FOk r.2 ∧ 0 ≤ r.2.root ∧ r.2.root ≤ r.2.fields.length) (f x n d)
def FieldS (l : List GTok) (f : GPar → GNode → Int → Int → Option (GPar × GNode)) (D : Nat) : Prop := ∀ x n m a P (d g : Int) b0, Ok l m a (P ∧ Kids (Sub D m.nodes) (n.fields.map (fun f => f.ty)) b0 m.nodes.length) x → m.nodes.length ≤ 300 → 0 ≤ d → d + D = 16 → (n.fields.length : Int) ≤ x.at_ → b0 ≤ m.nodes.length →
  T (fun r => (∃ m', Grow m m' ∧ Ok l m' a (P ∧ Kids (Sub D m'.nodes) (r.2.fields.map (fun f => f.ty)) b0 m'.nodes.length ∧ x.at_ + 1 ≤ r.1.at_) r.1) ∧ (FX n r.2 ∧ r.2.items = n.items) ∧ r.2.fields.length = n.fields.length + 1) (f x n d g)

theorem field_step {l F Ty B Fs D} (hT : TypS l Ty D) : FieldS l (r05_parser_field_F F Ty B Fs) D := by
  intro x n m a P d g b0 h hm hd0 hd hn hb
  unfold r05_parser_field_F
  have hl := h.toks.len
  have ha := h.a1
  refine T.cal (kind_tot 2 (by decide) h) fun r _ hr => T.ck (by omega) ?_
  have h1 : Ok l m (x.at_ + 1) ((P ∧ Kids (Sub D m.nodes) (n.fields.map (fun f => f.ty)) b0 m.nodes.length) ∧ a ≤ x.at_) r.2 := hr.1.to fun e h2 h3 => ⟨⟨h2, (h.ok (hr.2.1 e).1).2⟩, by have := hr.2.1 e; omega⟩
  refine T.cal (hT _ _ _ _ (d + 1) h1 hm (by omega) (by omega)) fun s _ ⟨m', hg, hs⟩ => ?_
  refine T.jp (fun q => Ok l m' (x.at_ + 1) (((P ∧ Kids (Sub D m.nodes) (n.fields.map (fun f => f.ty)) b0 m.nodes.length) ∧ a ≤ x.at_) ∧ s.1 = (m.nodes.length : Int) ∧ Sub D m'.nodes m.nodes.length m'.nodes.length) q.2 ∧ q.1.ty = s.1 ∧ DOk q.1.dflt) (fun J k => ?_) fun q hq => ?_
  · refine T.br (fun _ => k _ ⟨hs, rfl, Nat.zero_le _, rfl, rfl, of_decide_eq_true rfl, of_decide_eq_true rfl, rfl⟩) fun _ => T.cal (is_tot _ hs) fun y1 _ e1 => T.br (fun _ => k _ ⟨e1.1, rfl, Nat.zero_le _, rfl, rfl, of_decide_eq_true rfl, of_decide_eq_true rfl, rfl⟩) fun _ => T.cal (is_tot _ e1.1) fun y2 _ e2 => T.br (fun _ => T.cal (value_tot e2.1) fun y3 _ e3 => k _ ⟨e3.1, rfl, e3.2⟩) fun _ => k _ ⟨e2.1, rfl, Nat.zero_le _, rfl, rfl, of_decide_eq_true rfl, of_decide_eq_true rfl, rfl⟩
  · refine T.abl (by simp only [List.length_singleton]; omega) (T.some ⟨⟨m', hg, hq.1.to fun e ⟨⟨⟨p1, p2⟩, p3⟩, p4, p5⟩ p6 => ⟨⟨p1, ?_, p6⟩, ?_⟩⟩, ⟨⟨rfl, rfl, rfl, fun hf f hf2 => ?_⟩, rfl⟩, by simp⟩)
    rotate_left 2
    · rcases List.mem_append.1 hf2 with h | h
      · exact hf f h
      · rw [List.mem_singleton.1 h]; exact hq.2.2
    · dsimp only
      rw [List.map_append, List.map_singleton, hq.2.1, p4]
      exact (p2.monoL fun k hk1 hk2 => hg.pre k hk2).snoc p5
    · omega

theorem fields_step {l F Ty B Fs D} (hF : FieldS l F D) : FieldsS l (r05_parser_fields_F F Ty B Fs) D := by
  intro x n m a P d h hm hd0 hd hn hnm hnr
  have hni : NI n n := ⟨rfl, by unfold FOk; rw [hn]; simp, fun h => by rw [hnm] at h; cases h⟩
  unfold r05_parser_fields_F
  have hl := h.toks.len
  have ha0 := h.a0
  have ha1 := h.a1
  have hk0 : Kids (Sub D m.nodes) (n.fields.map (fun f => f.ty)) m.nodes.length m.nodes.length := by rw [hn]; rfl
  refine T.cal (is_tot _ h) fun r _ hr => T.br (fun _ => T.some ⟨⟨m, Grow.refl hm, hr.1.to fun e p1 p2 => ⟨⟨p1, hk0⟩, p2⟩⟩, rfl, rfl, hni.2.1, by dsimp only; omega, by dsimp only; omega⟩) fun hb => ?_
  have hrx := hr.2.2.2 hb
  -- what holds between
  refine T.jp (fun (q : GPar × GNode) => (∃ m', Grow m m' ∧ Ok l m' a (P ∧ Kids (Sub D m'.nodes) (q.2.fields.map (fun f => f.ty)) m.nodes.length m'.nodes.length) q.1) ∧ (NI n q.2 ∧ q.2.items = n.items)) (fun J k => ?_) fun q ⟨⟨m', hg, hq⟩, hqk⟩ => ?_
  · refine T.lp (fun (q : Int × GPar × GNode) => ((∃ m', Grow m m' ∧ Ok l m' a (P ∧ Kids (Sub D m'.nodes) (q.2.2.fields.map (fun f => f.ty)) m.nodes.length m'.nodes.length) q.2.1) ∧ (NI n q.2.2 ∧ q.2.2.items = n.items)) ∧ 0 ≤ q.1 ∧ q.1 ≤ q.2.1.at_ ∧ (q.2.2.fields.length : Int) ≤ q.2.1.at_) (fun (q : Int × GPar × GNode) => ((l.length : Int) - q.2.1.at_).toNat) ⟨⟨⟨m, Grow.refl hm, hr.1.to fun e p1 p2 => ⟨⟨p1, hk0⟩, p2⟩⟩, ⟨hni, rfl⟩⟩, Int.le_refl _, by dsimp only; rw [hrx]; exact ha0, by dsimp only; rw [hrx, hn]; exact ha0⟩ (by dsimp only; rw [hrx]; omega) fun L q hq hL => ?_
    obtain ⟨g, y, n1⟩ := q
    obtain ⟨⟨⟨m1, hg1, h1⟩, hk1⟩, h2, h3, h4⟩ := hq
    dsimp only at h1 h2 h3 h4 hk1 ⊢
    have hy1 := h1.a1
    refine T.br (fun he => ?_) fun _ => k _ ⟨⟨m1, hg1, h1⟩, hk1⟩
    have he := of_decide_eq_true he
    refine T.jp (fun (q : Int × GPar × GNode) => ((∃ m', Grow m m' ∧ Ok l m' a (P ∧ Kids (Sub D m'.nodes) (q.2.2.fields.map (fun f => f.ty)) m.nodes.length m'.nodes.length) q.2.1) ∧ (NI n q.2.2 ∧ q.2.2.items = n.items)) ∧ 0 ≤ q.1 ∧ (q.2.1.e = 0 → q.1 ≤ q.2.1.at_ + 1 ∧ (q.2.2.fields.length : Int) ≤ q.2.1.at_ + 1 ∧ y.at_ ≤ q.2.1.at_)) (fun J2 k2 => ?_) fun q hq => ?_
    · refine T.jp (fun (q : Bool × GPar) => Ok l m1 a (P ∧ Kids (Sub D m1.nodes) (n1.fields.map (fun f => f.ty)) m.nodes.length m1.nodes.length) q.2 ∧ q.2.at_ ≥ y.at_ ∧ (q.1 = false → q.2 = y)) (fun J3 k3 => T.br (fun _ => T.cal (is_tot _ h1) fun u _ hu => k3 _ ⟨hu.1, ?_, hu.2.2.2⟩) fun _ => k3 _ ⟨h1, Int.le_refl _, fun _ => rfl⟩) fun q3 hq3 => ?_
      · cases hu1 : u.1 with
        | true => have := hu.2.2.1 hu1; dsimp only; omega
        | false => have := hu.2.2.2 hu1; dsimp only; rw [this]; omega
      refine T.br (fun _ => k2 _ ⟨⟨⟨m1, hg1, hq3.1⟩, ⟨⟨hk1.1.1, hk1.1.2.1, fun _ => ⟨by dsimp only; omega, Int.le_refl _⟩⟩, hk1.2⟩⟩, h2, fun _ => ⟨by dsimp only; omega, by dsimp only; omega, by dsimp only; omega⟩⟩) fun b3 => ?_
      have e3 := hq3.2.2 b3
      refine T.jp (fun (q : Bool × GPar) => Ok l m1 a (P ∧ Kids (Sub D m1.nodes) (n1.fields.map (fun f => f.ty)) m.nodes.length m1.nodes.length) q.2 ∧ q.2.at_ ≥ y.at_ ∧ (q.1 = true → q.2.at_ ≥ y.at_ + 1) ∧ (q.1 = false → q.2 = y)) (fun J3 k3 => T.br (fun _ => T.cal (is_tot _ hq3.1) fun u _ hu => k3 _ ⟨hu.1, ?_, fun hu1 => ?_, fun hu1 => ?_⟩) fun _ => k3 _ ⟨hq3.1, by dsimp only; omega, (fun h => by cases h), fun _ => e3⟩) fun q4 hq4 => ?_
      · cases hu1 : u.1 with
        | true => have := hu.2.2.1 hu1; dsimp only; omega
        | false => have := hu.2.2.2 hu1; dsimp only; rw [this]; omega
      · have := hu.2.2.1 hu1; dsimp only; omega
      · have := hu.2.2.2 hu1; dsimp only; rw [this, e3]
      refine T.br (fun b4 => T.ck (by omega) ?_) fun b4 => ?_
      · have a4 := hq4.2.2.1 b4
        have a5 := hq4.1.a1
        refine T.jp (fun (q : GPar × GNode) => (∃ m', Grow m m' ∧ Ok l m' a (P ∧ Kids (Sub D m'.nodes) (q.2.fields.map (fun f => f.ty)) m.nodes.length m'.nodes.length) q.1) ∧ (NI n q.2 ∧ q.2.items = n.items) ∧ (q.1.e = 0 → (q.2.fields.length : Int) ≤ q.1.at_ + 1 ∧ q4.2.at_ ≤ q.1.at_)) (fun J5 k5 => ?_) fun q ⟨⟨m2, hg2, hq⟩, hqk, hql⟩ => ?_
        · refine T.lp (fun (q : GPar × GNode) => (∃ m', Grow m m' ∧ Ok l m' a (P ∧ Kids (Sub D m'.nodes) (q.2.fields.map (fun f => f.ty)) m.nodes.length m'.nodes.length) q.1) ∧ (NI n q.2 ∧ q.2.items = n.items) ∧ (q.2.fields.length : Int) ≤ q.1.at_ ∧ q4.2.at_ ≤ q.1.at_) (fun (q : GPar × GNode) => ((l.length : Int) - q.1.at_).toNat) ⟨⟨m1, hg1, hq4.1⟩, hk1, by dsimp only; omega, Int.le_refl _⟩ (by have := hq4.1.a0; dsimp only; omega) fun L6 q ⟨⟨m2, hg2, hq⟩, hqk, hql, hqa⟩ hL6 => ?_
          refine T.br (fun b6 => ?_) fun _ => k5 _ ⟨⟨m2, hg2, hq⟩, hqk, fun _ => ⟨by dsimp only; omega, hqa⟩⟩
          refine T.cal (hF _ _ _ _ _ _ _ _ hq hg2.lim hd0 hd hql hg2.le) fun s _ ⟨⟨m3, hg3, hs⟩, hsk, hsl⟩ => T.cal (is_tot _ hs) fun u _ hu => T.br (fun b7 => k5 _ ⟨⟨m3, hg2.trans hg3, hu.1.to fun e ⟨p1, p2, p3⟩ p4 => ⟨⟨p1, p2⟩, p4⟩⟩, ⟨hqk.1.next hsk.1 hsl, hsk.2.trans hqk.2⟩, fun e => ?_⟩) fun b7 => ?_
          · have b7 : u.1 = false := by simpa using b7
            have e7 := hu.2.2.2 b7
            have e8 := (hs.ok (by rw [← e7]; exact e)).1.2.2
            dsimp only
            rw [e7]
            exact ⟨by omega, by omega⟩
          · have b7 : u.1 = true := by simpa using b7
            have e7 := hu.2.2.1 b7
            have e8 := (hs.ok e7.1).1.2.2
            have e9 := hu.1.a1
            exact hL6 _ ⟨⟨m3, hg2.trans hg3, hu.1.to fun e ⟨p1, p2, p3⟩ p4 => ⟨⟨p1, p2⟩, p4⟩⟩, ⟨hqk.1.next hsk.1 hsl, hsk.2.trans hqk.2⟩, by dsimp only; omega, by dsimp only; omega⟩ (by dsimp only; omega)
        · refine T.cal (must_tot _ hq) fun w _ hw => k2 _ ⟨⟨⟨m2, hg2, hw.1⟩, hqk⟩, by dsimp only; omega, fun e => ?_⟩
          have e1 := hw.2 e
          have e2 := hql e1.1
          dsimp only
          omega
      · have e4 := hq4.2.2.2 b4
        refine T.cal (hF _ _ _ _ _ _ (0 : Int) _ hq4.1 hg1.lim hd0 hd (by rw [e4]; exact h4) hg1.le) fun s _ ⟨⟨m3, hg3, hs⟩, hsk, hsl⟩ => k2 _ ⟨⟨⟨m3, hg1.trans hg3, hs.to fun e ⟨p1, p2, p3⟩ p4 => ⟨⟨p1, p2⟩, p4⟩⟩, ⟨hk1.1.next hsk.1 hsl, hsk.2.trans hk1.2⟩⟩, h2, fun e => ?_⟩
        have e8 := (hs.ok e).1.2.2
        rw [e4] at e8
        dsimp only
        omega
    · obtain ⟨⟨⟨m2, hg2, hq1⟩, hqk⟩, hq0, hql⟩ := hq
      refine T.cal (is_tot _ hq1) fun u _ hu => T.br (fun b7 => k _ ⟨⟨m2, hg2, hu.1⟩, hqk⟩) fun b7 => ?_
      have b7 : u.1 = true := by simpa using b7
      have e7 := hu.2.2.1 b7
      have e8 := hql e7.1
      have e9 := hu.1.a1
      exact hL _ ⟨⟨⟨m2, hg2, hu.1⟩, hqk⟩, hq0, by dsimp only; omega, by dsimp only; omega⟩ (by dsimp only; omega)
  · refine T.cal (must_tot _ hq) fun w _ hw => T.br (fun _ => T.some ⟨⟨m', hg, hw.1⟩, hqk.1.1, hqk.2, hqk.1.2.1, by dsimp only; omega, Int.le_refl _⟩) fun hmo => T.some ⟨⟨m', hg, hw.1⟩, hqk.1.1, hqk.2, hqk.1.2.1, hqk.1.2.2 (by simpa using hmo)⟩
end Go.Proofs.YtnnijoepfgnlfaaDoor


namespace Go.Proofs.YtnnijoepfgnlfaaDoor
open Go.Sy
set_option linter.unusedVariables false

theorem kidsOf_nil {n : GNode} (h : n.fields = []) (hk : n.kind ≠ 10) : kidsOf n = [] := by
  unfold kidsOf; rw [h, if_neg hk]; split <;> rfl
theorem kidsOf_fields {n : GNode} (h : n.kind ≠ 11) (hk : n.kind ≠ 10) : kidsOf n = n.fields.map (fun f => f.ty) := by
  unfold kidsOf; rw [if_neg h, if_neg hk, List.append_nil]

theorem base_step {l F Ty B Fs D} (hT : TypS l Ty D) (hF : FieldsS l Fs D) : BaseS l (r05_parser_base_F F Ty B Fs) D := by
  intro x n m a P d h hm hd0 hd hn hi hk hmo hro
  unfold r05_parser_base_F
  have nok : ∀ n' : GNode, n'.fields = [] → n'.items = [] → n'.root = 0 → NodeOk n' := fun n' h1 h2 h3 => ⟨by omega, fun _ => by omega, by rw [h2]; simp, by rw [h2]; simp, fun _ => by omega, by unfold FOk; rw [h1]; simp, fun _ _ => h3⟩
  have leaf0 : ∀ y n', Ok l m a P y → n'.fields = [] → n'.kind ≠ 10 → ∃ m', Grow m m' ∧ Ok l m' a (P ∧ Kids (Sub D m'.nodes) (kidsOf n') m.nodes.length m'.nodes.length) y := fun y n' hy h1 h2 => ⟨m, Grow.refl hm, hy.to fun e p1 p2 => ⟨⟨p1, by rw [kidsOf_nil h1 h2]; rfl⟩, p2⟩⟩
  have leaf : ∀ y n', Ok l m a P y → n'.fields = [] → n'.items = [] → n'.root = 0 → n'.kind ≠ 10 → (∃ m', Grow m m' ∧ Ok l m' a (P ∧ Kids (Sub D m'.nodes) (kidsOf n') m.nodes.length m'.nodes.length) y) ∧ NodeOk n' := fun y n' hy h1 h3 h4 h2 => ⟨leaf0 y n' hy h1 h2, nok n' h1 h3 h4⟩
  have leaf2 : ∀ (r : GPar × GNode) (n0 : GNode), ((∃ m', Grow m m' ∧ Ok l m' a (P ∧ Kids (Sub D m'.nodes) (r.2.fields.map (fun f => f.ty)) m.nodes.length m'.nodes.length) r.1) ∧ r.2.kind = n0.kind ∧ r.2.items = n0.items ∧ FOk r.2 ∧ 0 ≤ r.2.root ∧ r.2.root ≤ r.2.fields.length) → n0.items = [] → n0.kind ≠ 11 → n0.kind ≠ 10 → n0.kind ≠ 3 → (n0.kind = 7 ∨ n0.kind = 8 ∨ n0.kind = 9) → (∃ m', Grow m m' ∧ Ok l m' a (P ∧ Kids (Sub D m'.nodes) (kidsOf r.2) m.nodes.length m'.nodes.length) r.1) ∧ NodeOk r.2 := fun r n0 h0 hi0 h1 h2 h3 h4 => by
    obtain ⟨k0, k1, k2, k3, k4, k5⟩ := h0
    rw [← k1] at h1 h2 h3 h4
    refine ⟨by rw [kidsOf_fields h1 h2]; exact k0, k4, fun e => absurd e h3, by rw [k2, hi0]; simp, by rw [k2, hi0]; simp, fun _ => k5, k3, fun _ e => absurd h4 e⟩
  refine T.cal (now_tot h) fun ⟨t, x'⟩ _ ⟨ht, hx⟩ => ?_
  subst hx
  dsimp only at ht ⊢
  refine T.br (fun he => T.some ⟨⟨m, Grow.refl hm, h.err (by simpa using he)⟩, nok _ hn hi hro⟩) fun _ => ?_
  refine T.cal (is_tot _ h) fun y1 _ h1 => T.br (fun _ => T.some (leaf _ _ h1.1 hn hi hro (by dsimp only; decide))) fun b1 => ?_
  refine T.cal (is_tot _ h1.1) fun y2 _ h2 => T.br (fun _ => T.some (leaf _ _ h2.1 hn hi hro (by dsimp only; decide))) fun b2 => ?_
  refine T.cal (is_tot _ h2.1) fun y3 _ h3 => T.br (fun _ => T.cal (size_tot h3.1) fun s _ hs => T.some (leaf _ _ hs.1 hn hi hro (by dsimp only; decide))) fun b3 => ?_
  refine T.cal (is_tot _ h3.1) fun y4 _ h4 => T.br (fun _ => T.cal (is_tot _ h4.1) fun s _ hs => T.br (fun _ => T.cal (bounds_tot hs.1) fun u _ hu => T.cal (must_tot _ hu.1) fun w _ hw => T.some (leaf _ _ hw.1 hn hi hro (by dsimp only; decide))) fun _ => T.some (leaf _ _ hs.1 hn hi hro (by dsimp only; decide))) fun b4 => ?_
  refine T.cal (is_tot _ h4.1) fun y5 _ h5 => T.br (fun _ => T.cal (must_tot _ h5.1) fun s _ hs => T.cal (size_tot hs.1) fun u _ hu => T.some (leaf _ _ hu.1 hn hi hro (by dsimp only; decide))) fun b5 => ?_
  refine T.cal (is_tot _ h5.1) fun y6 _ h6 => T.br (fun _ => T.cal (must_tot _ h6.1) fun s _ hs => T.cal (items_tot _ hs.1 hi hmo) fun u _ hu => T.cal (must_tot _ hu.1) fun w _ hw => T.some ⟨leaf0 _ _ hw.1 (hu.2.2.1.fields.trans hn) (by rw [hu.2.2.1.kind]; dsimp only; decide), hu.2.2.2.2.1, fun _ => hu.2.2.2.2.2.1, hu.2.2.2.1, hu.2.2.2.2.2.2, fun e => by rw [hu.2.2.1.kind] at e; dsimp only at e; omega, by unfold FOk; rw [hu.2.2.1.fields, hn]; simp, fun e _ => absurd hu.2.2.1.kind e⟩) fun b6 => ?_
  refine T.cal (is_tot _ h6.1) fun y7 _ h7 => T.br (fun _ => T.cal (must_tot _ h7.1) fun s _ hs => T.cal (hF _ _ _ _ _ _ hs.1 hm hd0 hd hn hmo hro) fun u _ hu => T.some (leaf2 _ _ hu hi (by dsimp only; decide) (by dsimp only; decide) (by dsimp only; decide) (by dsimp only; decide))) fun b7 => ?_
  refine T.cal (is_tot _ h7.1) fun y8 _ h8 => T.br (fun _ => T.cal (must_tot _ h8.1) fun s _ hs => T.cal (hF _ _ _ _ _ _ hs.1 hm hd0 hd hn hmo hro) fun u _ hu => T.some (leaf2 _ _ hu hi (by dsimp only; decide) (by dsimp only; decide) (by dsimp only; decide) (by dsimp only; decide))) fun b8 => ?_
  refine T.cal (is_tot _ h8.1) fun y9 _ h9 => T.br (fun _ => T.cal (is_tot _ h9.1) fun s _ hs => T.br (fun _ => T.cal (hF _ _ _ _ _ _ hs.1 hm hd0 hd hn hmo hro) fun u _ hu => T.some (leaf2 _ _ hu hi (by dsimp only; decide) (by dsimp only; decide) (by dsimp only; decide) (by dsimp only; decide))) fun _ => ?_) fun b9 => ?_
  · refine T.cal (size_tot hs.1) fun u _ hu => T.cal (must_tot _ hu.1) fun w _ hw => T.ck (by omega) (T.cal (hT _ _ _ _ (d + 1) hw.1 hm (by omega) (by omega)) fun v _ ⟨m', hg, hv⟩ => T.some ⟨⟨m', hg, hv.to fun e ⟨p1, p2, p3⟩ p4 => ⟨⟨p1, ?_⟩, p4⟩⟩, nok _ hn hi hro⟩)
    have e : kidsOf (GNode.mk 10 n.name n.mark u.1 n.items n.fields n.root n.more v.1) = [(m.nodes.length : Int)] := by
      unfold kidsOf; dsimp only; rw [hn, p2]; rfl
    dsimp only
    rw [e]
    exact ⟨_, rfl, p3, rfl⟩
  · refine T.br (fun _ => T.cal (next_tot h9.1) fun s _ hs => T.some (leaf _ _ hs.2.1 hn hi hro (by dsimp only; decide))) fun _ => T.cal (fail_tot _ _ h9.1 (by decide)) fun s _ hs => T.some ⟨⟨m, Grow.refl hm, hs.1.err hs.2⟩, nok _ hn hi hro⟩

theorem typ_step {l F Ty B Fs D} (hB : ∀ D', D = D' + 1 → BaseS l B D') : TypS l (r05_parser_typ_F F Ty B Fs) D := by
  intro x m a P d h hm hd0 hd
  unfold r05_parser_typ_F
  refine T.br (fun he => T.some ⟨m, Grow.refl hm, h.err (by simpa using he)⟩) fun he => ?_
  refine T.cal (now_tot h) fun ⟨t, x'⟩ _ ⟨ht, hx⟩ => ?_
  subst hx
  dsimp only at ht h ⊢
  obtain rfl := h.ym
  refine T.cal (begins_tot t) fun b _ _ => T.br (fun _ => ?_) fun _ => ?_
  · refine T.cal (now_tot h) fun ⟨t2, x2⟩ _ ⟨_, hx2⟩ => ?_
    subst hx2
    exact T.cal (fail_tot _ _ h (by decide)) fun y _ hy => T.some ⟨_, Grow.refl hm, hy.1.err hy.2⟩
  refine T.jp (fun b => b = false → d ≤ 16 ∧ x'.m.nodes.length < 300) (fun J k => T.br (fun _ => k _ fun h => by cases h) fun h1 => k _ fun h2 => by have := of_decide_eq_false h1; have := of_decide_eq_false h2; omega) fun b2 hb2 => T.br (fun _ => ?_) fun hb3 => ?_
  · refine T.cal (now_tot h) fun ⟨t2, x2⟩ _ ⟨_, hx2⟩ => ?_
    subst hx2
    exact T.cal (fail_tot _ _ h (by decide)) fun y _ hy => T.some ⟨_, Grow.refl hm, hy.1.err hy.2⟩
  obtain ⟨hd16, hlt⟩ := hb2 hb3
  obtain ⟨D', rfl⟩ : ∃ D', D = D' + 1 := ⟨D - 1, by omega⟩
  refine T.abl (by simp only [List.length_singleton]; omega) ?_
  have hx1 : ∀ z, Ok l (GMod.mk x'.m.name x'.m.tagging x'.m.names x'.m.types (x'.m.nodes ++ [z])) a P (GPar.mk x'.l x'.at_ (GMod.mk x'.m.name x'.m.tagging x'.m.names x'.m.types (x'.m.nodes ++ [z])) x'.e x'.p) := fun z => ⟨h.toks, h.yl, rfl, h.a0, h.a1, h.ok⟩
  have zok : ∀ z : GNode, z.fields = [] ∧ z.items = [] ∧ z.root = 0 → NodeOk z := fun n' ⟨h1, h2, h3⟩ => ⟨by omega, fun _ => by omega, by rw [h2]; simp, by rw [h2]; simp, fun _ => by omega, by unfold FOk; rw [h1]; simp, fun _ _ => h3⟩
  have hg1 : ∀ z, (z.fields = [] ∧ z.items = [] ∧ z.root = 0) → Grow x'.m (GMod.mk x'.m.name x'.m.tagging x'.m.names x'.m.types (x'.m.nodes ++ [z])) := fun z hz0 => ⟨rfl, rfl, rfl, rfl, by simp, by simp only [List.length_append, List.length_singleton]; omega, fun i hi => List.getElem?_append_left hi, fun hk n hn => by
    rcases List.mem_append.1 hn with h | h
    · exact hk n h
    · rw [List.mem_singleton.1 h]; exact zok z hz0⟩
  have hzf : ∃ z, GNode.mk (0 : Int) (Str.mk []) (GMark.mk false (0 : Int) (0 : Int)) (GCon.mk false false false false (0 : Int) (0 : Int)) ([] : (List GItem)) ([] : (List GFld)) (0 : Int) false (0 : Int) = z ∧ z.fields = [] ∧ z.items = [] ∧ z.kind = 0 ∧ z.more = false ∧ z.root = 0 := ⟨_, rfl, rfl, rfl, rfl, rfl, rfl⟩
  obtain ⟨z, hz, z1, z2, z3, z4, z5⟩ := hzf
  rw [hz]
  refine T.cal (is_tot _ (hx1 _)) fun y1 _ h1 => T.jp (fun (q : GPar × GNode) => Ok l (GMod.mk x'.m.name x'.m.tagging x'.m.names x'.m.types (x'.m.nodes ++ [z])) a P q.1 ∧ q.2.fields = [] ∧ q.2.items = [] ∧ q.2.kind = 0 ∧ q.2.more = false ∧ q.2.root = 0) (fun J k => T.br (fun _ => ?_) fun _ => k _ ⟨h1.1, z1, z2, z3, z4, z5⟩) fun q ⟨hq, q1, q2, q3, q4, q5⟩ => ?_
  · refine T.cal (now_tot h1.1) fun ⟨t2, x2⟩ _ ⟨_, hx2⟩ => ?_
    subst hx2
    refine T.cal (number_ok h1.1) fun u _ hu => ?_
    refine T.jp (fun _ => True) (fun J2 k2 => T.br (fun _ => T.jp (fun _ => True) (fun J3 k3 => T.br (fun _ => k3 _ trivial) fun _ => k3 _ trivial) fun _ _ => k2 _ trivial) fun _ => k2 _ trivial) fun b5 _ => ?_
    refine T.jp (fun y => Ok l (GMod.mk x'.m.name x'.m.tagging x'.m.names x'.m.types (x'.m.nodes ++ [z])) a P y) (fun J2 k2 => T.br (fun _ => T.cal (fail_tot _ _ hu.1 (by decide)) fun w _ hw => k2 _ hw.1) fun _ => k2 _ hu.1) fun y5 h5 => ?_
    refine T.cal (must_tot _ h5) fun y6 _ h6 => T.cal (is_tot _ h6.1) fun y7 _ h7 => T.br (fun _ => k _ ⟨h7.1, rfl, rfl, rfl, rfl, rfl⟩) fun _ => T.cal (is_tot _ h7.1) fun y8 _ h8 => T.br (fun _ => k _ ⟨h8.1, rfl, rfl, rfl, rfl, rfl⟩) fun _ => k _ ⟨h8.1, rfl, rfl, rfl, rfl, rfl⟩
  · refine T.cal (hB D' rfl _ _ _ _ _ _ hq (hg1 z ⟨z1, z2, z5⟩).lim hd0 (by omega) q1 q2 q3 q4 q5) fun v _ ⟨⟨m2, hg2, hv⟩, hvo⟩ => T.br (fun he2 => T.some ⟨m2, (hg1 z ⟨z1, z2, z5⟩).trans hg2, hv.err (by simpa using he2)⟩) fun he2 => ?_
    have hvm := hv.ym
    have hle := hg2.le
    dsimp only at hle
    rw [List.length_append, List.length_singleton] at hle
    rw [hvm]
    refine T.asd (by omega) (T.cal (Q := fun _ => True) ⟨_, List.getElem?_eq_getElem (by omega), trivial⟩ fun w _ _ => T.some ⟨GMod.mk m2.name m2.tagging m2.names m2.types (m2.nodes.set x'.m.nodes.length v.2), ?_, ⟨hv.toks, hv.yl, rfl, hv.a0, hv.a1, fun e => ?_⟩⟩)
    · have hg3 := (hg1 z ⟨z1, z2, z5⟩).trans hg2
      refine ⟨hg3.name, hg3.tagging, hg3.names, hg3.types, by dsimp only; rw [List.length_set]; exact hg3.le, by dsimp only; rw [List.length_set]; exact hg3.lim, fun i hi => ?_, fun hk n hn => ?_⟩
      · dsimp only
        rw [List.getElem?_set_ne (by omega)]
        exact hg3.pre i hi
      · rcases List.mem_or_eq_of_mem_set hn with h | h
        · exact hg3.ok hk n h
        · rw [h]; exact hvo
    · obtain ⟨⟨p1, p2⟩, p3⟩ := hv.ok e
      dsimp only at p2 ⊢
      rw [List.length_append, List.length_singleton] at p2
      refine ⟨⟨p1, rfl, ?_⟩, p3⟩
      rw [List.length_set]
      refine ⟨v.2, by rw [List.getElem?_set_self (by omega)], p2.monoL fun k hk1 hk2 => ?_⟩
      rw [List.getElem?_set_ne (by omega)]
theorem group (l : List GTok) : ∀ n,
    (∀ D, 4 * D < n → TypS l (r05_parser_typ n) D) ∧ (∀ D, 4 * (D + 1) < n + 1 → BaseS l (r05_parser_base n) D) ∧ (∀ D, 4 * (D + 1) < n + 2 → FieldsS l (r05_parser_fields n) D) ∧ (∀ D, 4 * (D + 1) < n + 3 → FieldS l (r05_parser_field n) D) := by
  intro n
  induction n with
  | zero => exact ⟨fun D h => by omega, fun D h => by omega, fun D h => by omega, fun D h => by omega⟩
  | succ n ih =>
    obtain ⟨i1, i2, i3, i4⟩ := ih
    refine ⟨fun D h => typ_step (F := r05_parser_field n) (Ty := r05_parser_typ n) (B := r05_parser_base n) (Fs := r05_parser_fields n) fun D' e => i2 D' (by omega), fun D h => base_step (F := r05_parser_field n) (Ty := r05_parser_typ n) (B := r05_parser_base n) (Fs := r05_parser_fields n) (i1 D (by omega)) (i3 D (by omega)), fun D h => fields_step (F := r05_parser_field n) (Ty := r05_parser_typ n) (B := r05_parser_base n) (Fs := r05_parser_fields n) (i4 D (by omega)), fun D h => field_step (F := r05_parser_field n) (Ty := r05_parser_typ n) (B := r05_parser_base n) (Fs := r05_parser_fields n) (i1 D (by omega))⟩
theorem typ_tot (l : List GTok) : TypS l (r05_parser_typ fuel) 17 := (group l fuel).1 17 (by unfold fuel; omega)
end Go.Proofs.YtnnijoepfgnlfaaDoor


namespace Go.Proofs.YtnnijoepfgnlfaaDoor
open Go.Sy
set_option linter.unusedVariables false

structure WF (m : GMod) : Prop where
  names : m.names.length ≤ 40
  types : m.types.length = m.names.length
  nodes : m.nodes.length ≤ 300
  forest : Kids (Sub 17 m.nodes) m.types 0 m.nodes.length
  ok : ∀ n ∈ m.nodes, NodeOk n
theorem WF.empty : WF (GMod.mk (Str.mk []) (0 : Int) ([] : (List Str)) ([] : (List Int)) ([] : (List GNode))) := ⟨by decide, rfl, by decide, rfl, by simp⟩
structure PInv (l : List GTok) (y : GPar) : Prop where
  ok : Ok l y.m 0 (y.m.names.length ≤ 40 ∧ Kids (Sub 17 y.m.nodes) y.m.types 0 y.m.nodes.length ∧ (y.m.names.length : Int) ≤ y.at_) y
  nodes : y.m.nodes.length ≤ 300
  names : y.m.names.length ≤ 10000
  types : y.m.types.length = y.m.names.length
  nok : ∀ n ∈ y.m.nodes, NodeOk n
theorem PInv.re {l y y'} (h : PInv l y) (hm : y'.m = y.m) (hl : y'.l = y.l) (h0 : y.at_ ≤ y'.at_) (h1 : y'.at_ < (l.length : Int)) (he : y'.e = 0 → y.e = 0) : PInv l y' := by
  have := h.ok.a0
  refine ⟨⟨h.ok.toks, hl.trans h.ok.yl, rfl, by omega, h1, fun e => ?_⟩, by rw [hm]; exact h.nodes, by rw [hm]; exact h.names, by rw [hm]; exact h.types, by rw [hm]; exact h.nok⟩
  have := h.ok.ok (he e)
  rw [hm]
  exact ⟨⟨this.1.1, this.1.2.1, by omega⟩, by omega⟩

theorem parse_tot (s : Str) : T (fun r => WF r.1) (r05_Parse s) := by
  unfold r05_Parse
  refine T.cal (tokens_tot s) fun r _ hr => T.br (fun _ => T.some WF.empty) fun he => ?_
  have he : r.2.2 = 0 := by simpa using he
  have htk := hr he
  obtain ⟨ml, le, hle, _, _⟩ := htk.last
  have hll : 0 < r.1.length := by rw [hle]; simp
  have hl8 := htk.len
  -- the head: no names yet
  have head : ∀ y : GPar, Ok r.1 y.m 0 True y → y.m.names = [] → y.m.types = [] → y.m.nodes = [] → PInv r.1 y := fun y hy h1 h2 h3 => ⟨hy.to fun e _ p => ⟨⟨by rw [h1]; decide, by rw [h2, h3]; rfl, by rw [h1]; simpa using p⟩, p⟩, by rw [h3]; decide, by rw [h1]; decide, by rw [h1, h2]; rfl, by rw [h3]; simp⟩
  have h0 : Ok r.1 (GMod.mk (Str.mk []) (0 : Int) ([] : (List Str)) ([] : (List Int)) ([] : (List GNode))) 0 True (GPar.mk r.1 (0 : Int) (GMod.mk (Str.mk []) (0 : Int) ([] : (List Str)) ([] : (List Int)) ([] : (List GNode))) (0 : Int) (0 : Int)) := ⟨htk, rfl, rfl, Int.le_refl _, by dsimp only; omega, fun _ => ⟨trivial, Int.le_refl _⟩⟩
  let Em : GMod → Prop := fun m => m.names = [] ∧ m.types = [] ∧ m.nodes = []
  have hE : ∀ (y : GPar) m (m' : GMod), Ok r.1 m 0 True y → Ok r.1 m' 0 True (GPar.mk y.l y.at_ m' y.e y.p) := fun y m m' h => ⟨h.toks, h.yl, rfl, h.a0, h.a1, h.ok⟩
  refine T.cal (kind_tot 1 (by decide) h0) fun y1 _ h1 => T.cal (must_tot _ (hE _ _ _ h1.1)) fun y2 _ h2 => ?_
  have hm2 := h2.1.ym
  have e1 := h1.1.ym
  rw [e1] at hm2
  dsimp only at hm2
  refine T.jp (fun y => ∃ m, Em m ∧ Ok r.1 m 0 True y) (fun J k => ?_) fun y ⟨m, hem, hy⟩ => ?_
  · have hb : ∃ m, Em m ∧ Ok r.1 m 0 True y2 := ⟨y2.m, by rw [hm2]; exact ⟨rfl, rfl, rfl⟩, ⟨htk, h2.1.yl, rfl, h2.1.a0, h2.1.a1, h2.1.ok⟩⟩
    obtain ⟨m, hem, hb⟩ := hb
    refine T.cal (is_tot _ hb) fun y3 _ h3 => T.br (fun _ => T.cal (must_tot _ h3.1) fun y4 _ h4 => k _ ⟨m, hem, h4.1⟩) fun _ => ?_
    refine T.cal (is_tot _ h3.1) fun y5 _ h5 => T.br (fun _ => T.cal (must_tot _ (hE _ _ _ h5.1)) fun y4 _ h4 => k _ ⟨_, by rw [h5.1.ym]; exact hem, h4.1⟩) fun _ => ?_
    refine T.cal (is_tot _ h5.1) fun y6 _ h6 => T.br (fun _ => T.cal (must_tot _ (hE _ _ _ h6.1)) fun y4 _ h4 => k _ ⟨_, by rw [h6.1.ym]; exact hem, h4.1⟩) fun _ => k _ ⟨m, hem, h6.1⟩
  refine T.cal (must_tot _ hy) fun y3 _ h3 => T.cal (must_tot _ h3.1) fun y4 _ h4 => ?_
  have hstart : PInv r.1 y4 := by
    have e := h4.1.ym
    exact head y4 ⟨htk, h4.1.yl, rfl, h4.1.a0, h4.1.a1, h4.1.ok⟩ (by rw [e]; exact hem.1) (by rw [e]; exact hem.2.1) (by rw [e]; exact hem.2.2)
  refine T.lp (fun y => PInv r.1 y) (fun y => if y.e = 0 then ((r.1.length : Int) - y.at_).toNat + 1 else 0) hstart (by have := hstart.ok.a0; split <;> omega) fun L y hy hL => ?_
  refine T.jp (fun (q : Bool × GPar) => PInv r.1 q.2 ∧ (q.1 = true → y.e = 0 ∧ q.2.e = 0 ∧ q.2.at_ ≥ y.at_)) (fun J k => T.br (fun he => T.cal (is_tot _ hy.ok) fun u _ hu => ?_) fun _ => k _ ⟨hy, fun h => by cases h⟩) fun q ⟨hq, hqb⟩ => ?_
  · have hge : y.at_ ≤ u.2.at_ := by
      cases hu1 : u.1 with
      | true => have := hu.2.2.1 hu1; omega
      | false => rw [hu.2.2.2 hu1]; omega
    refine k _ ⟨hy.re hu.1.ym (hu.1.yl.trans hy.ok.yl.symm) hge hu.1.a1 (fun e => hu.2.1 ▸ e), fun hb => ?_⟩
    have hb : u.1 = false := by simpa using hb
    have := hu.2.2.2 hb
    dsimp only
    rw [this]
    exact ⟨of_decide_eq_true he, of_decide_eq_true he, Int.le_refl _⟩
  refine T.br (fun hb => ?_) fun hb => ?_
  · obtain ⟨b1, b2, b3⟩ := hqb hb
    refine T.cal (now_tot hq.ok) fun ⟨t, x'⟩ _ ⟨ht, hx⟩ => ?_
    dsimp only at ht hx ⊢
    subst hx
    have hq1 : Ok r.1 q.2.m (q.2.at_ + 0) (q.2.m.names.length ≤ 40 ∧ Kids (Sub 17 q.2.m.nodes) q.2.m.types 0 q.2.m.nodes.length ∧ (q.2.m.names.length : Int) ≤ q.2.at_) q.2 := hq.ok.to fun _ p1 _ => ⟨p1, by omega⟩
    refine T.cal (kind_tot 1 (by decide) hq.ok) fun u _ hu => ?_
    have hu1 : Ok r.1 q.2.m (q.2.at_ + 1) (q.2.m.names.length ≤ 40 ∧ Kids (Sub 17 q.2.m.nodes) q.2.m.types 0 q.2.m.nodes.length ∧ (q.2.m.names.length : Int) ≤ q.2.at_) u.2 := hu.1.to fun e p1 _ => ⟨p1, by have := hu.2.1 e; omega⟩
    refine T.jp (fun b => b = false → u.2.e = 0 → q.2.m.names.length < 40) (fun J k => T.br (fun he => k _ fun hb _ => ?_) fun he => k _ fun _ e => absurd e (of_decide_eq_false he)) fun b hb2 => ?_
    · have := of_decide_eq_false hb
      rw [hu.1.ym] at this
      omega
    refine T.jp (fun y5 => Ok r.1 q.2.m (q.2.at_ + 1) (q.2.m.names.length < 40 ∧ Kids (Sub 17 q.2.m.nodes) q.2.m.types 0 q.2.m.nodes.length ∧ (q.2.m.names.length : Int) ≤ q.2.at_) y5) (fun J k => T.br (fun _ => T.cal (fail_tot _ _ hu1 (by decide)) fun w _ hw => k _ (hw.1.err hw.2)) fun hb3 => k _ (hu1.to fun e p1 p2 => ⟨⟨hb2 hb3 e, p1.2⟩, p2⟩)) fun y5 h5 => ?_
    refine T.cal (must_tot _ h5) fun y6 _ h6 => T.cal (typ_tot r.1 _ _ _ _ 0 h6.1 hq.nodes (Int.le_refl _) rfl) fun v _ ⟨m', hg, hv⟩ => ?_
    have hvm := hv.ym
    have hn := hq.names
    have hn1 : m'.names.length ≤ 9000 := by
      rw [hg.names]
      have h9 := (hq.ok.ok b2).1.2.2
      have := hq.ok.a1
      omega
    have ht1 : m'.types.length = m'.names.length := by rw [hg.types, hg.names]; exact hq.types
    rw [hvm]
    refine T.abl (by simp only [List.length_singleton]; omega) (T.abl (by simp only [List.length_singleton]; omega) (hL _ ⟨⟨hv.toks, hv.yl, rfl, hv.a0, hv.a1, fun e => ?_⟩, hg.lim, ?_, ?_, hg.ok hq.nok⟩ ?_))
    · obtain ⟨⟨⟨p1, p2, p3⟩, p4, p5⟩, p6⟩ := hv.ok e
      dsimp only
      refine ⟨⟨?_, ?_, ?_⟩, hv.a0⟩
      · rw [hg.names, List.length_append, List.length_singleton]; omega
      · rw [hg.types, p4]
        exact (p2.monoL fun k _ hk => hg.pre k hk).snoc p5
      · rw [hg.names, List.length_append, List.length_singleton]; omega
    · dsimp only; rw [List.length_append, List.length_singleton]; omega
    · dsimp only; rw [List.length_append, List.length_append, List.length_singleton, List.length_singleton]; omega
    · dsimp only
      rw [if_pos b1]
      split
      · rename_i e
        have p6 := (hv.ok e).2
        have := hv.a1
        omega
      · omega
  · refine T.jp (fun (q2 : Bool × GPar) => PInv r.1 q2.2) (fun J k => T.br (fun _ => T.cal (now_tot hq.ok) fun ⟨t, x'⟩ _ ⟨ht, hx⟩ => k _ (by dsimp only at hx ⊢; subst hx; exact hq)) fun _ => k _ hq) fun q2 hq2 => ?_
    refine T.jp (fun (y5 : GPar) => y5.e = 0 → PInv r.1 y5) (fun J k => T.br (fun _ => T.cal (now_tot hq2.ok) fun ⟨t, x'⟩ _ ⟨ht, hx⟩ => ?_) fun _ => k _ fun _ => hq2) fun y5 h5 => ?_
    · dsimp only at hx ⊢
      subst hx
      exact T.cal (fail_tot _ _ hq2.ok (by decide)) fun w _ hw => k _ fun e => absurd e hw.2
    · refine T.br (fun _ => T.some WF.empty) fun he => T.some ?_
      have he : y5.e = 0 := by simpa using he
      have h6 := h5 he
      have h7 := (h6.ok.ok he).1
      exact ⟨h7.1, h6.types, h6.nodes, h7.2.1, h6.nok⟩
end Go.Proofs.YtnnijoepfgnlfaaDoor


namespace Go.Proofs.YtnnijoepfgnlfaaDoor
open Go.Sy
set_option maxRecDepth 4000
end Go.Proofs.YtnnijoepfgnlfaaDoor


namespace Go.Proofs.YtnnijoepfgnlfaaDoor
open Go.Sy
set_option linter.unusedVariables false

theorem T.eqs {β : Type} {o : Option β} {x : β} (h : T (fun r => r = x) o) : o = some x := by
  obtain ⟨r, h1, h2⟩ := h; rw [h1, h2]
section lists
variable {α β : Type} [DecidableEq α] [DecidableEq β]
def add (l : List α) (x : α) : List α := if x ∈ l then l else l ++ [x]
def adds (l xs : List α) : List α := xs.foldl add l
theorem adds_nil (l : List α) : adds l [] = l := rfl
theorem adds_cons (l : List α) (x : α) (xs : List α) : adds l (x :: xs) = adds (add l x) xs := rfl
theorem adds_append (l xs ys : List α) : adds l (xs ++ ys) = adds (adds l xs) ys := by unfold adds; rw [List.foldl_append]
theorem mem_add {l : List α} {x y : α} : y ∈ add l x ↔ y ∈ l ∨ y = x := by
  unfold add
  split
  · rename_i h
    exact ⟨.inl, fun h2 => h2.elim (fun h => h) fun e => by rw [e]; exact h⟩
  · rw [List.mem_append, List.mem_singleton]
theorem mem_adds {xs : List α} : ∀ {l : List α} {y : α}, y ∈ adds l xs ↔ y ∈ l ∨ y ∈ xs := by
  induction xs with
  | nil => intro l y; rw [adds_nil]; simp
  | cons x xs ih => intro l y; rw [adds_cons, ih, mem_add, List.mem_cons, or_assoc]
theorem nodup_add {l : List α} {x : α} (h : l.Nodup) : (add l x).Nodup := by
  unfold add
  split
  · exact h
  · rename_i hx
    rw [List.nodup_append]
    exact ⟨h, by simp, fun a ha b hb => by rw [List.mem_singleton.1 hb]; exact fun e => hx (e ▸ ha)⟩
theorem nodup_adds {xs : List α} : ∀ {l : List α}, l.Nodup → (adds l xs).Nodup := by
  induction xs with
  | nil => intro l h; exact h
  | cons x xs ih => intro l h; rw [adds_cons]; exact ih (nodup_add h)
theorem length_add (l : List α) (x : α) : (add l x).length ≤ l.length + 1 := by
  unfold add; split
  · omega
  · rw [List.length_append, List.length_singleton]; omega
theorem length_adds (xs : List α) : ∀ l : List α, (adds l xs).length ≤ l.length + xs.length := by
  induction xs with
  | nil => intro l; exact Nat.le_refl _
  | cons x xs ih => intro l; rw [adds_cons, List.length_cons]; have := ih (add l x); have := length_add l x; omega
theorem filterMap_adds (f : α → Option β) (hf : ∀ a b c, f a = some c → f b = some c → a = b) : ∀ (xs l : List α), (adds l xs).filterMap f = adds (l.filterMap f) (xs.filterMap f) := by
  intro xs
  induction xs with
  | nil => intro l; rfl
  | cons x xs ih =>
    intro l
    rw [adds_cons, ih]
    cases hx : f x with
    | none =>
      rw [List.filterMap_cons_none hx]
      congr 1
      unfold add
      split
      · rfl
      · rw [List.filterMap_append]; simp [hx]
    | some c =>
      rw [List.filterMap_cons_some hx, adds_cons]
      congr 1
      unfold add
      have hiff : x ∈ l ↔ c ∈ l.filterMap f := by
        rw [List.mem_filterMap]
        exact ⟨fun h => ⟨x, h, hx⟩, fun ⟨a, h, e⟩ => hf _ _ _ e hx ▸ h⟩
      by_cases h : x ∈ l
      · rw [if_pos h, if_pos (hiff.1 h)]
      · rw [if_neg h, if_neg (fun h2 => h (hiff.2 h2)), List.filterMap_append]
        simp [hx]
theorem length_le_of_nodup : ∀ {a b : List α}, a.Nodup → (∀ x ∈ a, x ∈ b) → a.length ≤ b.length := by
  intro a
  induction a with
  | nil => intro b _ _; exact Nat.zero_le _
  | cons x a ih =>
    intro b hn hs
    rw [List.nodup_cons] at hn
    have hx := hs x List.mem_cons_self
    have h1 := ih (b := b.erase x) hn.2 fun y hy => (List.mem_erase_of_ne (fun e : y = x => hn.1 (e ▸ hy))).2 (hs y (List.mem_cons_of_mem _ hy))
    have h2 := List.length_erase_of_mem hx
    have h3 := List.length_pos_of_mem hx
    rw [List.length_cons]
    omega
def nums (n : Nat) : List Int := (List.range n).map (fun (k : Nat) => (k : Int))
theorem mem_nums {n : Nat} {x : Int} : x ∈ nums n ↔ 0 ≤ x ∧ x < n := by
  unfold nums
  rw [List.mem_map]
  refine ⟨fun ⟨k, hk, e⟩ => ?_, fun ⟨h1, h2⟩ => ⟨x.toNat, List.mem_range.2 (by omega), by omega⟩⟩
  have := List.mem_range.1 hk
  omega
theorem length_nums (n : Nat) : (nums n).length = n := by unfold nums; rw [List.length_map, List.length_range]
theorem nodup_nums (n : Nat) : (nums n).Nodup := by
  unfold nums
  rw [List.Nodup, List.pairwise_map]
  exact List.Pairwise.imp (fun {a b : Nat} (h : a ≠ b) (e : (a : Int) = (b : Int)) => h (by omega)) (List.nodup_range : (List.range n).Nodup)
end lists

/-! ### Places of names -/
def fndFrom : List Str → Str → Int → Int
  | [], _, _ => -1
  | y :: r, s, k => if y = s then k else fndFrom r s (k + 1)
def fnd (l : List Str) (s : Str) : Int := fndFrom l s 0
theorem fndFrom_spec : ∀ (l : List Str) (s : Str) (k : Int), 0 ≤ k → (fndFrom l s k = -1 ∧ s ∉ l) ∨ (k ≤ fndFrom l s k ∧ fndFrom l s k < k + l.length ∧ l[(fndFrom l s k - k).toNat]? = some s ∧ ∀ j : Nat, j < (fndFrom l s k - k).toNat → l[j]? ≠ some s) := by
  intro l
  induction l with
  | nil => intro s k _; exact .inl ⟨rfl, by simp⟩
  | cons y r ih =>
    intro s k hk
    unfold fndFrom
    by_cases h : y = s
    · rw [if_pos h]
      right
      refine ⟨Int.le_refl _, by simp only [List.length_cons]; omega, by rw [h]; simp, fun j hj => by omega⟩
    · rw [if_neg h]
      rcases ih s (k + 1) (by omega) with ⟨h1, h2⟩ | ⟨h1, h2, h3, h4⟩
      · left
        refine ⟨h1, ?_⟩
        rw [List.mem_cons]
        exact fun h5 => h5.elim (fun e => h e.symm) h2
      · right
        have e : (fndFrom r s (k + 1) - k).toNat = (fndFrom r s (k + 1) - (k + 1)).toNat + 1 := by omega
        refine ⟨by omega, by simp only [List.length_cons]; omega, by rw [e, List.getElem?_cons_succ]; exact h3, fun j hj => ?_⟩
        cases j with
        | zero => simp only [List.getElem?_cons_zero]; exact fun e => h (Option.some.inj e)
        | succ j => rw [List.getElem?_cons_succ]; exact h4 j (by omega)
theorem fnd_spec (l : List Str) (s : Str) : (fnd l s = -1 ∧ s ∉ l) ∨ (0 ≤ fnd l s ∧ fnd l s < l.length ∧ l[(fnd l s).toNat]? = some s ∧ ∀ j : Nat, j < (fnd l s).toNat → l[j]? ≠ some s) := by
  have := fndFrom_spec l s 0 (Int.le_refl _)
  unfold fnd
  simpa using this
def idx (l : List Str) (s : Str) : Option Int := if fnd l s < 0 then none else some (fnd l s)
theorem idx_inj (l : List Str) : ∀ a b c, idx l a = some c → idx l b = some c → a = b := by
  intro a b c h1 h2
  unfold idx at h1 h2
  split at h1
  · cases h1
  split at h2
  · cases h2
  cases h1
  have h3 := Option.some.inj h2
  rcases fnd_spec l a with h | h
  · omega
  rcases fnd_spec l b with h' | h'
  · omega
  have e1 := h.2.2.1
  have e2 := h'.2.2.1
  rw [h3, e1] at e2
  cases e2; rfl
theorem idx_range {l : List Str} {s : Str} {c : Int} (h : idx l s = some c) : 0 ≤ c ∧ c < l.length := by
  unfold idx at h
  split at h
  · cases h
  cases h
  rcases fnd_spec l s with h' | h'
  · omega
  · exact ⟨h'.1, h'.2.1⟩
theorem fnd_mem (l : List Str) (s : Str) : decide ((0 : Int) ≤ fnd l s) = decide (s ∈ l) := by
  rcases fnd_spec l s with h | h
  · rw [decide_eq_false h.2, decide_eq_false (by omega)]
  · rw [decide_eq_true h.1, decide_eq_true (List.mem_of_getElem? h.2.2.1)]
end Go.Proofs.YtnnijoepfgnlfaaDoor


namespace Go.Proofs.YtnnijoepfgnlfaaDoor
open Go.Sy
set_option linter.unusedVariables false

def nmx (l : List GNode) : Nat → Int → List Str
  | 0, _ => []
  | h + 1, i => match (if 0 ≤ i then l[i.toNat]? else none) with
    | none => []
    | some n => if n.kind = 11 then [n.name] else (kidsOf n).flatMap (nmx l h)
theorem nm_node {l : List GNode} {h : Nat} {i : Nat} {n : GNode} (e : l[i]? = some n) : nmx l (h + 1) (i : Int) = if n.kind = 11 then [n.name] else (kidsOf n).flatMap (nmx l h) := by
  rw [nmx, if_pos (by omega)]
  have : ((i : Int)).toNat = i := by omega
  rw [this, e]
theorem Kids.append {S : Nat → Nat → Prop} {ys : List Int} : ∀ {xs : List Int} {a b : Nat}, Kids S (xs ++ ys) a b → ∃ c, Kids S xs a c ∧ Kids S ys c b := by
  intro xs
  induction xs with
  | nil => intro a b h; exact ⟨a, rfl, h⟩
  | cons k r ih => intro a b ⟨c, h0, h1, h2⟩; obtain ⟨d, h3, h4⟩ := ih h2; exact ⟨d, ⟨c, h0, h1, h3⟩, h4⟩
theorem nm_len : ∀ {h l i j}, Sub h l i j → (nmx l h (i : Int)).length ≤ j - i := by
  intro h
  induction h with
  | zero => intro l i j h; exact h.elim
  | succ h ih =>
    intro l i j hs
    have hlt := hs.lt
    obtain ⟨n, h1, h2⟩ := hs
    rw [nm_node h1]
    split
    · simp only [List.length_singleton]; omega
    · have key : ∀ (r : List Int) a b, Kids (Sub h l) r a b → (r.flatMap (nmx l h)).length ≤ b - a := by
        intro r
        induction r with
        | nil => intro a b _; simp
        | cons k r ihr =>
          intro a b hk
          have hle := Kids.le (fun x y h => Nat.le_of_lt h.lt) hk
          obtain ⟨c, h3, h4, h5⟩ := hk
          have hle2 := Kids.le (fun x y h => Nat.le_of_lt h.lt) h5
          have := h4.lt
          have h6 := ih h4
          have h7 := ihr _ _ h5
          rw [List.flatMap_cons, List.length_append, h3]
          omega
      have := key _ _ _ h2
      omega
theorem Kids.length {h : Nat} {l : List GNode} : ∀ {r a b}, Kids (Sub h l) r a b → r.length ≤ b - a := by
  intro r
  induction r with
  | nil => intro a b _; exact Nat.zero_le _
  | cons k r ih =>
    intro a b ⟨c, _, h4, h5⟩
    have := h4.lt
    have := ih h5
    have := Kids.le (fun x y h => Nat.le_of_lt h.lt) h5
    rw [List.length_cons]
    omega
theorem Kids.sub {h : Nat} {l : List GNode} : ∀ {r a b}, Kids (Sub h l) r a b → ∀ i, a ≤ i → i < b → ∃ h' j, h' ≤ h ∧ Sub h' l i j ∧ j ≤ b := by
  induction h with
  | zero =>
    intro r a b hk i h1 h2
    cases r with
    | nil => cases hk; omega
    | cons k r => obtain ⟨c, _, h, _⟩ := hk; exact h.elim
  | succ h ih =>
    intro r
    induction r with
    | nil => intro a b hk i h1 h2; cases hk; omega
    | cons k r ihr =>
      intro a b ⟨c, h3, h4, h5⟩ i h1 h2
      have hle := Kids.le (fun x y h => Nat.le_of_lt h.lt) h5
      rcases Nat.lt_or_ge i c with h6 | h6
      · rcases Nat.lt_or_ge a i with h7 | h7
        · obtain ⟨n, h8, h9⟩ := h4
          obtain ⟨h', j, e1, e2, e3⟩ := ih h9 i (by omega) h6
          exact ⟨h', j, by omega, e2, by omega⟩
        · have : i = a := by omega
          subst this
          exact ⟨h + 1, c, Nat.le_refl _, h4, hle⟩
      · exact ihr h5 i h6 h2

/-! ### The program's walk -/
end Go.Proofs.YtnnijoepfgnlfaaDoor


namespace Go.Proofs.YtnnijoepfgnlfaaDoor
open Go.Sy
set_option linter.unusedVariables false

theorem flatMap_eq {α β : Type} {f g : α → List β} : ∀ {l : List α}, (∀ x ∈ l, f x = g x) → l.flatMap f = l.flatMap g := by
  intro l
  induction l with
  | nil => intro _; rfl
  | cons x l ih => intro h; rw [List.flatMap_cons, List.flatMap_cons, h x List.mem_cons_self, ih fun y hy => h y (List.mem_cons_of_mem _ hy)]
theorem Kids.mem {S : Nat → Nat → Prop} {k : Int} : ∀ {r a b}, Kids S r a b → k ∈ r → ∃ (c d : Nat), k = (c : Int) ∧ S c d := by
  intro r
  induction r with
  | nil => intro a b _ h; cases h
  | cons x r ih =>
    intro a b ⟨c, h1, h2, h3⟩ h
    rcases List.mem_cons.1 h with e | e
    · exact ⟨a, c, e.trans h1, h2⟩
    · exact ih h3 e
theorem nm_mono : ∀ {h h' l i j}, Sub h l i j → h ≤ h' → nmx l h' (i : Int) = nmx l h (i : Int) := by
  intro h
  induction h with
  | zero => intro h' l i j hs; exact hs.elim
  | succ h ih =>
    intro h' l i j ⟨n, h1, h2⟩ hle
    obtain ⟨h'', rfl⟩ : ∃ h'', h' = h'' + 1 := ⟨h' - 1, by omega⟩
    rw [nm_node h1, nm_node h1]
    split
    · rfl
    · refine flatMap_eq fun k hk => ?_
      obtain ⟨c, d, e1, e2⟩ := h2.mem hk
      rw [e1]
      exact ih e2 (by omega)
theorem nm_out {l : List GNode} {h : Nat} {i : Int} (hi : i < 0 ∨ (l.length : Int) ≤ i) : nmx l h i = [] := by
  cases h with
  | zero => rfl
  | succ h =>
    rw [nmx]
    have : (if 0 ≤ i then l[i.toNat]? else none) = none := by
      split
      · rename_i h0
        exact List.getElem?_eq_none (by omega)
      · rfl
    rw [this]

theorem WF.at {m : GMod} (w : WF m) {i : Nat} (hi : i < m.nodes.length) : ∃ h j, h ≤ 17 ∧ Sub h m.nodes i j ∧ j ≤ m.nodes.length := w.forest.sub i (Nat.zero_le _) hi
def nms (m : GMod) (node : Int) : List Str := nmx m.nodes 17 node
theorem nms_len {m : GMod} (w : WF m) (node : Int) : (nms m node).length ≤ 300 := by
  have hl := w.nodes
  unfold nms
  by_cases hi : node < 0 ∨ (m.nodes.length : Int) ≤ node
  · rw [nm_out hi]; simp
  · obtain ⟨i, rfl⟩ : ∃ i : Nat, node = (i : Int) := ⟨node.toNat, by omega⟩
    obtain ⟨h, j, h1, h2, h3⟩ := w.at (i := i) (by omega)
    rw [nm_mono h2 h1]
    have := nm_len h2
    omega
def uses (m : GMod) (node : Int) : List Int := adds [] ((nms m node).filterMap (idx m.names))
def lost (m : GMod) (node : Int) : Bool := (nms m node).any (fun s => fnd m.names s < 0)
theorem drop_cons {α : Type} {l : List α} {k : Int} {y : α} (h0 : 0 ≤ k) (h : l[k.toNat]? = some y) : l.drop k.toNat = y :: l.drop (k + 1).toNat := by
  have hk : k.toNat < l.length := by
    rcases Nat.lt_or_ge k.toNat l.length with h1 | h1
    · exact h1
    · rw [List.getElem?_eq_none h1] at h; cases h
  have e : (k + 1).toNat = k.toNat + 1 := by omega
  rw [e, List.drop_eq_getElem_cons hk]
  rw [List.getElem?_eq_getElem hk] at h
  rw [Option.some.inj h]
end Go.Proofs.YtnnijoepfgnlfaaDoor


namespace Go.Proofs.YtnnijoepfgnlfaaDoor
open Go.Sy
set_option linter.unusedVariables false

end Go.Proofs.YtnnijoepfgnlfaaDoor


namespace Go.Proofs.YtnnijoepfgnlfaaDoor
open Go.Sy
set_option linter.unusedVariables false

abbrev Gr := List (List Int)
def Ed (U : Gr) (i j : Int) : Prop := 0 ≤ i ∧ ∃ l, U[i.toNat]? = some l ∧ j ∈ l
inductive Reach (U : Gr) : Int → Int → Prop
  | one {i j} : Ed U i j → Reach U i j
  | tail {i j k} : Reach U i j → Ed U j k → Reach U i k
structure GOk (U : Gr) : Prop where
  len : U.length ≤ 40
  ok : ∀ l ∈ U, l.length ≤ 40 ∧ ∀ j ∈ l, 0 ≤ j ∧ j < U.length
theorem GOk.ed {U i j} (g : GOk U) (h : Ed U i j) : 0 ≤ j ∧ j < U.length := by
  obtain ⟨_, l, h1, h2⟩ := h
  exact (g.ok l (List.mem_of_getElem? h1)).2 j h2
theorem Reach.trans {U i j k} (h1 : Reach U i j) (h2 : Reach U j k) : Reach U i k := by
  induction h2 with
  | one e => exact h1.tail e
  | tail _ e ih => exact ih.tail e

/-! ### By depth -/
def On (s : List Bool) (v : Int) : Prop := 0 ≤ v ∧ s[v.toNat]? = some true
def cf : List Bool → Nat
  | [] => 0
  | b :: r => (if b then 0 else 1) + cf r
theorem cf_set : ∀ {s : List Bool} {k : Nat}, s[k]? = some false → cf (s.set k true) + 1 = cf s := by
  intro s
  induction s with
  | nil => intro k h; simp at h
  | cons b s ih =>
    intro k h
    cases k with
    | zero => simp only [List.getElem?_cons_zero] at h; cases h; simp [cf]; omega
    | succ k => simp only [List.getElem?_cons_succ] at h; have := ih h; simp only [List.set_cons_succ, cf]; omega
theorem cf_le : ∀ s : List Bool, cf s ≤ s.length := by
  intro s
  induction s with
  | nil => exact Nat.le_refl _
  | cons b s ih => simp only [cf, List.length_cons]; split <;> omega
theorem On.set {s : List Bool} {k v : Int} (h0 : 0 ≤ k) (hk : k < s.length) : On (s.set k.toNat true) v ↔ On s v ∨ v = k := by
  unfold On
  by_cases h : v = k
  · subst h
    rw [List.getElem?_set_self (by omega)]
    exact ⟨fun _ => .inr rfl, fun _ => ⟨h0, rfl⟩⟩
  · by_cases hv : 0 ≤ v
    · rw [List.getElem?_set_ne (by omega)]
      exact ⟨.inl, fun h1 => h1.elim (fun h => h) fun e => absurd e h⟩
    · exact ⟨fun h1 => absurd h1.1 hv, fun h1 => h1.elim (fun h2 => absurd h2.1 hv) fun e => absurd e h⟩
structure Dep (U : Gr) (i : Int) (s r : List Bool) : Prop where
  len : r.length = s.length
  mono : ∀ v, On s v → On r v
  new : ∀ v, On r v → On s v ∨ (Reach U i v ∧ ∀ j, Ed U v j → On r j)
  cf : cf r ≤ cf s
theorem on_rep {n : Nat} {v : Int} : ¬ On (List.replicate n false) v := by
  intro ⟨_, h⟩
  have := List.mem_of_getElem? h
  rw [List.mem_replicate] at this
  cases this.2
/-! ### One that is ready -/
theorem exists_ready {U : Gr} (g : GOk U) (hac : ∀ i, ¬ Reach U i i) (out : List Int) (hl : out.length < U.length) : ∃ i : Int, 0 ≤ i ∧ i < U.length ∧ i ∉ out ∧ ∀ j, Ed U i j → j ∈ out := by
  refine Classical.byContradiction fun hno => ?_
  have hno : ∀ i : Int, 0 ≤ i → i < U.length → i ∉ out → ∃ j, Ed U i j ∧ j ∉ out := by
    intro i h1 h2 h3
    refine Classical.byContradiction fun h4 => hno ⟨i, h1, h2, h3, fun j hj => Classical.byContradiction fun h5 => h4 ⟨j, hj, h5⟩⟩
  have hst : ∃ i : Int, 0 ≤ i ∧ i < U.length ∧ i ∉ out := by
    refine Classical.byContradiction fun h => ?_
    have := length_le_of_nodup (a := nums U.length) (b := out) (nodup_nums _) fun x hx => by
      have := mem_nums.1 hx
      exact Classical.byContradiction fun h2 => h ⟨x, this.1, this.2, h2⟩
    rw [length_nums] at this
    omega
  have path : ∀ k : Nat, ∃ (h : Int) (p : List Int), p.length = k ∧ (h :: p).Nodup ∧ (∀ x ∈ h :: p, 0 ≤ x ∧ x < U.length ∧ x ∉ out) ∧ ∀ x ∈ p, Reach U x h := by
    intro k
    induction k with
    | zero =>
      obtain ⟨i, h1, h2, h3⟩ := hst
      exact ⟨i, [], rfl, by simp, fun x hx => by rw [List.mem_singleton.1 hx]; exact ⟨h1, h2, h3⟩, fun x hx => by cases hx⟩
    | succ k ih =>
      obtain ⟨h, p, e1, e2, e3, e4⟩ := ih
      obtain ⟨j, hj1, hj2⟩ := hno h (e3 h List.mem_cons_self).1 (e3 h List.mem_cons_self).2.1 (e3 h List.mem_cons_self).2.2
      have hall : ∀ x ∈ h :: p, Reach U x j := by
        intro x hx
        rcases List.mem_cons.1 hx with e | e
        · rw [e]; exact .one hj1
        · exact (e4 x e).tail hj1
      refine ⟨j, h :: p, by rw [List.length_cons, e1], List.nodup_cons.2 ⟨fun hm => hac j (hall j hm), e2⟩, fun x hx => ?_, hall⟩
      rcases List.mem_cons.1 hx with e | e
      · rw [e]; have := g.ed hj1; exact ⟨this.1, this.2, hj2⟩
      · exact e3 x e
  obtain ⟨h, p, e1, e2, e3, _⟩ := path U.length
  have := length_le_of_nodup (b := nums U.length) e2 fun x hx => mem_nums.2 ⟨(e3 x hx).1, (e3 x hx).2.1⟩
  rw [length_nums, List.length_cons] at this
  omega
end Go.Proofs.YtnnijoepfgnlfaaDoor


namespace Go.Proofs.YtnnijoepfgnlfaaDoor
open Go.Sy
set_option linter.unusedVariables false

def first (P : Int → Bool) : Nat → Int → Option Int
  | 0, _ => none
  | n + 1, k => if P k then some k else first P n (k + 1)
theorem first_none {P : Int → Bool} : ∀ {n k}, first P n k = none → ∀ i, k ≤ i → i < k + n → P i = false := by
  intro n
  induction n with
  | zero => intro k _ i h1 h2; omega
  | succ n ih =>
    intro k h i h1 h2
    unfold first at h
    cases hp : P k with
    | true => rw [hp] at h; cases h
    | false =>
      rw [hp] at h
      rcases Int.lt_or_le k i with h3 | h3
      · exact ih h i (by omega) (by omega)
      · have : i = k := by omega
        rw [this]; exact hp
theorem first_some {P : Int → Bool} : ∀ {n k i}, first P n k = some i → k ≤ i ∧ i < k + n ∧ P i = true := by
  intro n
  induction n with
  | zero => intro k i h; cases h
  | succ n ih =>
    intro k i h
    unfold first at h
    cases hp : P k with
    | true => rw [hp] at h; cases h; exact ⟨Int.le_refl _, by omega, hp⟩
    | false => rw [hp] at h; have := ih h; exact ⟨by omega, by omega, this.2.2⟩
def At (P : Int → Bool) (n : Nat) (k : Int) : Prop := 0 ≤ k ∧ k ≤ n ∧ first P n 0 = first P ((n : Int) - k).toNat k
theorem At.zero (P : Int → Bool) (n : Nat) : At P n 0 := ⟨Int.le_refl _, by omega, by simp⟩
theorem At.next {P : Int → Bool} {n : Nat} {k : Int} (h : At P n k) (hk : k < n) (hp : P k = false) : At P n (k + 1) := by
  obtain ⟨h1, h2, h3⟩ := h
  have e : ((n : Int) - k).toNat = ((n : Int) - (k + 1)).toNat + 1 := by omega
  rw [e, first, hp] at h3
  exact ⟨by omega, by omega, h3⟩
theorem At.hit {P : Int → Bool} {n : Nat} {k : Int} (h : At P n k) (hk : k < n) (hp : P k = true) : first P n 0 = some k := by
  obtain ⟨h1, h2, h3⟩ := h
  have e : ((n : Int) - k).toNat = ((n : Int) - (k + 1)).toNat + 1 := by omega
  rw [e, first, hp] at h3
  exact h3
theorem At.miss {P : Int → Bool} {n : Nat} {k : Int} (h : At P n k) (hk : ¬ k < n) : first P n 0 = none := by
  obtain ⟨h1, h2, h3⟩ := h
  have e : ((n : Int) - k).toNat = 0 := by omega
  rw [e] at h3
  exact h3

/-! ### What is wrong first -/
/-- What uses what. -/
def gr (m : GMod) : Gr := m.types.map (uses m)
theorem gr_len {m : GMod} (w : WF m) : (gr m).length = m.names.length := by unfold gr; rw [List.length_map]; exact w.types
theorem uses_range {m : GMod} {t x : Int} (h : x ∈ uses m t) : 0 ≤ x ∧ x < m.names.length := by
  unfold uses at h
  rcases mem_adds.1 h with e | e
  · cases e
  · obtain ⟨s, _, h2⟩ := List.mem_filterMap.1 e
    exact idx_range h2
theorem gr_ok {m : GMod} (w : WF m) : GOk (gr m) := by
  refine ⟨by rw [gr_len w]; exact w.names, fun l hl => ?_⟩
  unfold gr at hl
  obtain ⟨t, _, rfl⟩ := List.mem_map.1 hl
  refine ⟨?_, fun j hj => by rw [gr_len w]; exact uses_range hj⟩
  have := length_le_of_nodup (a := uses m t) (b := nums m.names.length) (nodup_adds List.nodup_nil) fun x hx => mem_nums.2 (uses_range hx)
  rw [length_nums] at this
  have := w.names
  omega
def twice (m : GMod) (i : Int) : Bool := match m.names[i.toNat]? with | some s => decide (fnd m.names s < i) | none => false
def none_ (m : GMod) (i : Int) : Bool := match m.types[i.toNat]? with | some t => lost m t | none => false
open Classical in
noncomputable def cycle (m : GMod) (i : Int) : Bool := decide (Reach (gr m) i i)
noncomputable def wr (m : GMod) : Int × Int :=
  match first (twice m) m.names.length 0 with
  | some i => (i, 8)
  | none => match first (none_ m) m.names.length 0 with
    | some i => (i, 9)
    | none => match first (cycle m) m.names.length 0 with
      | some i => (i, 10)
      | none => (0, 0)
open Classical in
theorem cycle_of {m : GMod} {b : Bool} {i : Int} (h : b = true ↔ Reach (gr m) i i) : cycle m i = b := by
  unfold cycle
  cases b with
  | true => exact decide_eq_true (h.1 rfl)
  | false => exact decide_eq_false fun h2 => by cases h.2 h2
end Go.Proofs.YtnnijoepfgnlfaaDoor


namespace Go.Proofs.YtnnijoepfgnlfaaDoor
open Go.Sy
set_option linter.unusedVariables false

def rdy (U : Gr) (out : List Int) (i : Int) : Bool := decide (i ∉ out) && ((U[i.toNat]?).getD []).all (fun j => decide (j ∈ out))
def topo (U : Gr) : Nat → List Int → List Int
  | 0, out => out
  | k + 1, out => match first (rdy U out) U.length 0 with
    | some i => topo U k (out ++ [i])
    | none => out
noncomputable def ordr (m : GMod) : List Int × Int × Int := if (wr m).2 = 0 then (topo (gr m) m.names.length [], 0, 0) else ([], (wr m).1, (wr m).2)
theorem no_cycle {m : GMod} (w : WF m) (h : (wr m).2 = 0) : ∀ i, ¬ Reach (gr m) i i := by
  intro i hr
  have hi : 0 ≤ i ∧ i < (gr m).length := by
    cases hr with
    | one e => exact (gr_ok w).ed e
    | tail _ e => exact (gr_ok w).ed e
  rw [gr_len w] at hi
  unfold wr at h
  split at h
  · cases h
  split at h
  · cases h
  split at h
  · cases h
  · rename_i h3
    have := first_none h3 i hi.1 (by omega)
    have h4 : cycle m i = true := cycle_of (b := true) ⟨fun _ => hr, fun _ => rfl⟩
    rw [this] at h4; cases h4
theorem first_rdy {m : GMod} (w : WF m) (h : (wr m).2 = 0) {out : List Int} (hl : out.length < m.names.length) : first (rdy (gr m) out) (gr m).length 0 ≠ none := by
  intro hn
  obtain ⟨i, h1, h2, h3, h4⟩ := exists_ready (gr_ok w) (no_cycle w h) out (by rw [gr_len w]; exact hl)
  have := first_none hn i h1 (by omega)
  unfold rdy at this
  rw [decide_eq_true h3, Bool.true_and] at this
  have ha : ((gr m)[i.toNat]?.getD []).all (fun j => decide (j ∈ out)) = true := by
    rw [List.all_eq_true]
    intro j hj
    rw [List.getElem?_eq_getElem (by omega)] at hj
    exact decide_eq_true (h4 j ⟨h1, _, List.getElem?_eq_getElem (by omega), hj⟩)
  rw [this] at ha; cases ha
def Tp (m : GMod) (out : List Int) : Prop := out.length ≤ m.names.length ∧ topo (gr m) (m.names.length - out.length) out = topo (gr m) m.names.length []
theorem Tp.nil (m : GMod) : Tp m [] := ⟨Nat.zero_le _, rfl⟩
theorem Tp.next {m : GMod} {out : List Int} {i : Int} (h : Tp m out) (hl : out.length < m.names.length) (hf : first (rdy (gr m) out) (gr m).length 0 = some i) : Tp m (out ++ [i]) := by
  obtain ⟨h1, h2⟩ := h
  have e : m.names.length - out.length = (m.names.length - (out ++ [i]).length) + 1 := by rw [List.length_append, List.length_singleton]; omega
  rw [e, topo, hf] at h2
  exact ⟨by rw [List.length_append, List.length_singleton]; omega, h2⟩
theorem Tp.done {m : GMod} {out : List Int} (h : Tp m out) (hl : ¬ (out.length : Int) < m.names.length) : out = topo (gr m) m.names.length [] := by
  obtain ⟨h1, h2⟩ := h
  have e : m.names.length - out.length = 0 := by omega
  rw [e] at h2
  exact h2

end Go.Proofs.YtnnijoepfgnlfaaDoor


namespace Go.Proofs.YtnnijoepfgnlfaaDoor
open Go.Sy
set_option maxRecDepth 4000
def h_Digits_F (h_Digits' : UInt64 → Option (Str)) (a_v : UInt64) : Option (Str) :=
  br (decide (a_v < (10 : UInt64))) (some ((Str.mk ([((48 : UInt64) + a_v).toUInt8] : (List UInt8))))) (jp (ι := Str) (fun J3 => asr (!decide ((10 : UInt64) = 0)) <| asr (!decide ((10 : UInt64) = 0)) <| cal (h_Digits' (a_v / (10 : UInt64))) fun y6 => asr (Nat.ble (y6.b.length + (Str.mk ([((48 : UInt64) + (a_v % (10 : UInt64))).toUInt8] : (List UInt8))).b.length) 4611686018427387904) <| J3 ((Str.mk (y6.b ++ (Str.mk ([((48 : UInt64) + (a_v % (10 : UInt64))).toUInt8] : (List UInt8))).b)))) (fun q2 => some (q2)))
def h_Digits_grp : Nat → (UInt64 → Option (Str))
  | 0 => (fun _ => none)
  | n + 1 => let p := h_Digits_grp n; (h_Digits_F p)
def h_Digits (n : Nat) : UInt64 → Option (Str) := (h_Digits_grp n)
end Go.Proofs.YtnnijoepfgnlfaaDoor


namespace Go.Proofs.YtnnijoepfgnlfaaDoor
open Go.Sy
set_option maxRecDepth 4000
def refs_of (a_m : GMod) (a_at_ : Int) : Option (Int) :=
  br (decide ((a_m.types.length : Int) ≤ a_at_)) (some ((-1 : Int))) (cal (getI a_m.types a_at_) fun y1 => some (y1))

def slices_Index_Lstring_string (a_s : (List Str)) (a_v : Str) : Option (Int) :=
  lp (ι := Int) (fun L2 q1 => br (decide (q1 < (a_s.length : Int))) (cal (getI a_s q1) fun y5 => br (decide (a_v = y5)) (some (q1)) (ck ((q1 + (1 : Int))) <| L2 ((q1 + (1 : Int))))) (some ((-1 : Int)))) (((0 : Int)))

def slices_Contains_Lstring_string (a_s : (List Str)) (a_v : Str) : Option (Bool) :=
  cal (slices_Index_Lstring_string a_s a_v) fun y1 => some ((decide ((0 : Int) ≤ y1)))

def refs_with (a_l : (List Str)) (a_more : (List Str)) : Option ((List Str)) :=
  lp (ι := (List Str) × Int) (fun L2 q1 => br (decide (q1.2 < (a_more.length : Int))) (jp (ι := (List Str)) (fun J12 => cal (getI a_more q1.2) fun y13 => cal (slices_Contains_Lstring_string q1.1 y13) fun y14 => br (!y14) (asr (Nat.ble (q1.1.length + ([y13] : (List Str)).length) 68719476736) <| J12 ((q1.1 ++ ([y13] : (List Str))))) (J12 (q1.1))) (fun q11 => ck ((q1.2 + (1 : Int))) <| L2 (q11, (q1.2 + (1 : Int))))) (some (q1.1))) ((a_l, (0 : Int)))

def refs_refers_c1 (a_n_ : GNode) (a_a1 : (List Str)) : Option ((List Str)) :=
  br (decide (a_n_.kind = (11 : Int))) (cal (refs_with a_a1 ([a_n_.name] : (List Str))) fun y3 => some (y3)) (some (a_a1))

def refs_walk_F (refs_walk' : GMod → Int → (List Bool) → (List Str) → Option ((List Bool) × (List Str))) (a_m : GMod) (a_node : Int) (a_seen : (List Bool)) (a_do__0 : (List Str)) : Option ((List Bool) × (List Str)) :=
  jp (ι := Bool) (fun J3 => br (decide (a_node < (0 : Int))) (J3 (true)) (J3 ((decide ((a_m.nodes.length : Int) ≤ a_node))))) (fun q2 => jp (ι := Bool) (fun J6 => br q2 (J6 (true)) (asr (decide (0 ≤ a_node ∧ a_node < ((a_seen.length : Nat) : Int))) <| cal (a_seen[a_node.toNat]?) fun y9 => J6 (y9))) (fun q5 => br q5 (some (a_seen, a_do__0)) (asr (decide (0 ≤ a_node ∧ a_node < ((a_seen.length : Nat) : Int))) <| cal (a_seen[a_node.toNat]?) fun y11 => cal (getI a_m.nodes a_node) fun y12 => cal (refs_refers_c1 y12 a_do__0) fun y14 => br (decide (y12.kind = (11 : Int))) (some ((a_seen.set a_node.toNat true), y14)) (lp (ι := (List Bool) × Int × (List Str)) (fun L17 q16 => br (decide (q16.2.1 < (y12.fields.length : Int))) (cal (getI y12.fields q16.2.1) fun y27 => cal (refs_walk' a_m y27.ty q16.1 q16.2.2) fun y29 => asr (decide (y29.1.length = q16.1.length)) <| ck ((q16.2.1 + (1 : Int))) <| L17 (y29.1, (q16.2.1 + (1 : Int)), y29.2)) (br (decide (y12.kind = (10 : Int))) (cal (refs_walk' a_m y12.of q16.1 q16.2.2) fun y33 => asr (decide (y33.1.length = q16.1.length)) <| some (y33.1, y33.2)) (some (q16.1, q16.2.2)))) (((a_seen.set a_node.toNat true), (0 : Int), y14))))))
def refs_walk_grp : Nat → (GMod → Int → (List Bool) → (List Str) → Option ((List Bool) × (List Str)))
  | 0 => (fun _ _ _ _ => none)
  | n + 1 => let p := refs_walk_grp n; (refs_walk_F p)
def refs_walk (n : Nat) : GMod → Int → (List Bool) → (List Str) → Option ((List Bool) × (List Str)) := (refs_walk_grp n)

def refs_refers (a_m : GMod) (a_node : Int) : Option ((List Str)) :=
  asr (decide (0 ≤ (a_m.nodes.length : Int) ∧ (a_m.nodes.length : Int) ≤ 68719476736)) <| cal (refs_walk fuel a_m a_node (List.replicate ((a_m.nodes.length : Int)).toNat false) ([] : (List Str))) fun y5 => asr (decide (y5.1.length = (List.replicate ((a_m.nodes.length : Int)).toNat false).length)) <| some (y5.2)

def refs_Find (a_m : GMod) (a_name : Str) : Option (Int) :=
  cal (slices_Index_Lstring_string a_m.names a_name) fun y1 => some (y1)

def refs_Uses (a_m : GMod) (a_node : Int) : Option ((List Int)) :=
  cal (refs_refers a_m a_node) fun y1 => lp (ι := (List Int) × Int) (fun L3 q2 => br (decide (q2.2 < (y1.length : Int))) (jp (ι := (List Int)) (fun J14 => cal (getI y1 q2.2) fun y15 => cal (refs_Find a_m y15) fun y16 => br (decide ((0 : Int) ≤ y16)) (asr (Nat.ble (q2.1.length + ([y16] : (List Int)).length) 68719476736) <| J14 ((q2.1 ++ ([y16] : (List Int))))) (J14 (q2.1))) (fun q13 => ck ((q2.2 + (1 : Int))) <| L3 (q13, (q2.2 + (1 : Int))))) (some (q2.1))) ((([] : (List Int)), (0 : Int)))

def refs_lost_c1 (a_s : Str) (a_a1 : GMod) : Option (Bool) :=
  cal (refs_Find a_a1 a_s) fun y1 => some ((decide (y1 < (0 : Int))))

def slices_IndexFunc_Lstring_string (a_s : (List Str)) (a_f_0 : GMod) : Option (Int) :=
  lp (ι := Int) (fun L2 q1 => br (decide (q1 < (a_s.length : Int))) (cal (getI a_s q1) fun y6 => cal (refs_lost_c1 y6 a_f_0) fun y7 => br y7 (some (q1)) (ck ((q1 + (1 : Int))) <| L2 ((q1 + (1 : Int))))) (some ((-1 : Int)))) (((0 : Int)))

def slices_ContainsFunc_Lstring_string (a_s : (List Str)) (a_f_0 : GMod) : Option (Bool) :=
  cal (slices_IndexFunc_Lstring_string a_s a_f_0) fun y1 => some ((decide ((0 : Int) ≤ y1)))

def refs_lost (a_m : GMod) (a_node : Int) : Option (Bool) :=
  cal (refs_refers a_m a_node) fun y1 => cal (slices_ContainsFunc_Lstring_string y1 a_m) fun y2 => some (y2)

def refs_reaches_F (refs_reaches' : (List (List Int)) → Int → (List Bool) → Option ((List Bool))) (a_uses : (List (List Int))) (a_at_ : Int) (a_seen : (List Bool)) : Option ((List Bool)) :=
  cal (getI a_uses a_at_) fun y1 => lp (ι := (List Bool) × Int) (fun L3 q2 => br (decide (q2.2 < (y1.length : Int))) (jp (ι := (List Bool)) (fun J15 => cal (getI y1 q2.2) fun y16 => asr (decide (0 ≤ y16 ∧ y16 < ((q2.1.length : Nat) : Int))) <| cal (q2.1[y16.toNat]?) fun y18 => br (!y18) (asr (decide (0 ≤ y16 ∧ y16 < ((q2.1.length : Nat) : Int))) <| cal (q2.1[y16.toNat]?) fun y20 => cal (refs_reaches' a_uses y16 (q2.1.set y16.toNat true)) fun y21 => asr (decide (y21.length = q2.1.length)) <| J15 (y21)) (J15 (q2.1))) (fun q14 => ck ((q2.2 + (1 : Int))) <| L3 (q14, (q2.2 + (1 : Int))))) (some (q2.1))) ((a_seen, (0 : Int)))
def refs_reaches_grp : Nat → ((List (List Int)) → Int → (List Bool) → Option ((List Bool)))
  | 0 => (fun _ _ _ => none)
  | n + 1 => let p := refs_reaches_grp n; (refs_reaches_F p)
def refs_reaches (n : Nat) : (List (List Int)) → Int → (List Bool) → Option ((List Bool)) := (refs_reaches_grp n)

def refs_wrong (a_m : GMod) (a_uses : (List (List Int))) : Option (Int × Int) :=
  lp (ι := Int) (fun L2 q1 => br (decide (q1 < (a_m.names.length : Int))) (cal (getI a_m.names q1) fun y49 => cal (refs_Find a_m y49) fun y50 => br (decide (y50 < q1)) (some (q1, (8 : Int))) (ck ((q1 + (1 : Int))) <| L2 ((q1 + (1 : Int))))) (lp (ι := Int) (fun L53 q52 => br (decide (q52 < (a_m.names.length : Int))) (cal (refs_of a_m q52) fun y74 => cal (refs_lost a_m y74) fun y75 => br y75 (some (q52, (9 : Int))) (ck ((q52 + (1 : Int))) <| L53 ((q52 + (1 : Int))))) (lp (ι := Int) (fun L78 q77 => br (decide (q77 < (a_m.names.length : Int))) (asr (decide (0 ≤ (a_m.names.length : Int) ∧ (a_m.names.length : Int) ≤ 68719476736)) <| cal (refs_reaches fuel a_uses q77 (List.replicate ((a_m.names.length : Int)).toNat false)) fun y88 => asr (decide (y88.length = (List.replicate ((a_m.names.length : Int)).toNat false).length)) <| asr (decide (0 ≤ q77 ∧ q77 < ((y88.length : Nat) : Int))) <| cal (y88[q77.toNat]?) fun y91 => br y91 (some (q77, (10 : Int))) (ck ((q77 + (1 : Int))) <| L78 ((q77 + (1 : Int))))) (some ((0 : Int), (0 : Int)))) (((0 : Int))))) (((0 : Int))))) (((0 : Int)))

def slices_Index_Lint_int (a_s : (List Int)) (a_v : Int) : Option (Int) :=
  lp (ι := Int) (fun L2 q1 => br (decide (q1 < (a_s.length : Int))) (cal (getI a_s q1) fun y5 => br (decide (a_v = y5)) (some (q1)) (ck ((q1 + (1 : Int))) <| L2 ((q1 + (1 : Int))))) (some ((-1 : Int)))) (((0 : Int)))

def slices_Contains_Lint_int (a_s : (List Int)) (a_v : Int) : Option (Bool) :=
  cal (slices_Index_Lint_int a_s a_v) fun y1 => some ((decide ((0 : Int) ≤ y1)))

def refs_Order_c1 (a_k : Int) (a_a1 : (List Int)) : Option (Bool × (List Int)) :=
  cal (slices_Contains_Lint_int a_a1 a_k) fun y2 => some ((!y2), a_a1)

def slices_IndexFunc_Lint_int (a_s : (List Int)) (a_f_0 : (List Int)) : Option (Int × (List Int)) :=
  lp (ι := Int × (List Int)) (fun L3 q2 => br (decide (q2.1 < (a_s.length : Int))) (cal (getI a_s q2.1) fun y8 => cal (refs_Order_c1 y8 q2.2) fun y9 => br y9.1 (some (q2.1, y9.2)) (ck ((q2.1 + (1 : Int))) <| L3 ((q2.1 + (1 : Int)), y9.2))) (some ((-1 : Int), q2.2))) (((0 : Int), a_f_0))

def slices_ContainsFunc_Lint_int (a_s : (List Int)) (a_f_0 : (List Int)) : Option (Bool × (List Int)) :=
  cal (slices_IndexFunc_Lint_int a_s a_f_0) fun y2 => some ((decide ((0 : Int) ≤ y2.1)), y2.2)

def refs_Order (a_m : GMod) : Option ((List Int) × Int × Int) :=
  lp (ι := (List (List Int)) × Int) (fun L2 q1 => br (decide (q1.2 < (a_m.names.length : Int))) (cal (refs_of a_m q1.2) fun y65 => cal (refs_Uses a_m y65) fun y66 => asr (Nat.ble (q1.1.length + ([y66] : (List (List Int))).length) 68719476736) <| ck ((q1.2 + (1 : Int))) <| L2 ((q1.1 ++ ([y66] : (List (List Int)))), (q1.2 + (1 : Int)))) (cal (refs_wrong a_m q1.1) fun y71 => br (!decide (y71.2 = (0 : Int))) (some (([] : (List Int)), y71.1, y71.2)) (lp (ι := (List Int)) (fun L75 q74 => br (decide ((q74.length : Int) < (a_m.names.length : Int))) (lp (ι := Int × (List Int)) (fun L102 q101 => br (decide (q101.1 < (a_m.names.length : Int))) (cal (slices_Contains_Lint_int q101.2 q101.1) fun y114 => jp (ι := Bool × (List Int)) (fun J116 => br (!y114) (cal (getI q1.1 q101.1) fun y118 => cal (slices_ContainsFunc_Lint_int y118 q101.2) fun y119 => J116 ((!y119.1), y119.2)) (J116 (false, q101.2))) (fun q115 => br q115.1 (asr (Nat.ble (q115.2.length + ([q101.1] : (List Int)).length) 68719476736) <| L75 ((q115.2 ++ ([q101.1] : (List Int))))) (ck ((q101.1 + (1 : Int))) <| L102 ((q101.1 + (1 : Int)), q115.2)))) (L75 (q101.2))) (((0 : Int), q74))) (some (q74, (0 : Int), (0 : Int)))) ((([] : (List Int))))))) ((([] : (List (List Int))), (0 : Int)))

def law07_awake  : Option (Bool) :=
  cal (r05_Parse (Str.mk [77, 32, 68, 69, 70, 73, 78, 73, 84, 73, 79, 78, 83, 32, 58, 58, 61, 32, 66, 69, 71, 73, 78, 32, 65, 32, 58, 58, 61, 32, 66, 32, 66, 32, 58, 58, 61, 32, 78, 85, 76, 76, 32, 69, 78, 68])) fun y1 => cal (refs_Order y1.1) fun y3 => jp (ι := Bool) (fun J5 => br (decide (y3.2.2 = (0 : Int))) (J5 ((decide ((y3.1.length : Int) = (2 : Int))))) (J5 (false))) (fun q4 => jp (ι := Bool) (fun J8 => br q4 (cal (getI y3.1 (0 : Int)) fun y10 => J8 ((decide (y10 = (1 : Int))))) (J8 (false))) (fun q7 => jp (ι := Bool) (fun J12 => br q7 (cal (refs_Find y1.1 (Str.mk [66])) fun y14 => J12 ((decide (y14 = (1 : Int))))) (J12 (false))) (fun q11 => some (q11))))

def law07_RefsChain (a_turns : (List Int)) : Option (Bool) :=
  jp (ι := Bool) (fun J2 => br (decide ((a_turns.length : Int) = (0 : Int))) (J2 (true)) (J2 ((decide ((15 : Int) < (a_turns.length : Int)))))) (fun q1 => br q1 (cal (law07_awake ) fun y4 => some (y4)) (lp (ι := (List Int) × Int) (fun L7 q6 => br (decide (q6.2 < (a_turns.length : Int))) (asr (Nat.ble (q6.1.length + ([q6.2] : (List Int)).length) 68719476736) <| ck ((q6.2 + (1 : Int))) <| L7 ((q6.1 ++ ([q6.2] : (List Int))), (q6.2 + (1 : Int)))) (lp (ι := (List Int) × Int) (fun L449 q448 => br (decide (q448.2 < (a_turns.length : Int))) (cal (getI a_turns q448.2) fun y736 => asr (!decide ((UInt64.ofNat ((a_turns.length : Int) % 18446744073709551616).toNat) = 0)) <| ck ((((UInt64.ofNat (y736 % 18446744073709551616).toNat) % (UInt64.ofNat ((a_turns.length : Int) % 18446744073709551616).toNat)).toNat : Int)) <| asr (decide (0 ≤ (((UInt64.ofNat (y736 % 18446744073709551616).toNat) % (UInt64.ofNat ((a_turns.length : Int) % 18446744073709551616).toNat)).toNat : Int) ∧ (((UInt64.ofNat (y736 % 18446744073709551616).toNat) % (UInt64.ofNat ((a_turns.length : Int) % 18446744073709551616).toNat)).toNat : Int) < ((q448.1.length : Nat) : Int))) <| asr (decide (0 ≤ q448.2 ∧ q448.2 < ((q448.1.length : Nat) : Int))) <| cal (q448.1[(((UInt64.ofNat (y736 % 18446744073709551616).toNat) % (UInt64.ofNat ((a_turns.length : Int) % 18446744073709551616).toNat)).toNat : Int).toNat]?) fun y741 => cal (q448.1[q448.2.toNat]?) fun y742 => asr (decide (0 ≤ q448.2 ∧ q448.2 < ((q448.1.length : Nat) : Int))) <| cal (q448.1[q448.2.toNat]?) fun y744 => asr (decide (0 ≤ (((UInt64.ofNat (y736 % 18446744073709551616).toNat) % (UInt64.ofNat ((a_turns.length : Int) % 18446744073709551616).toNat)).toNat : Int) ∧ (((UInt64.ofNat (y736 % 18446744073709551616).toNat) % (UInt64.ofNat ((a_turns.length : Int) % 18446744073709551616).toNat)).toNat : Int) < ((q448.1.length : Nat) : Int))) <| cal ((q448.1.set q448.2.toNat y741)[(((UInt64.ofNat (y736 % 18446744073709551616).toNat) % (UInt64.ofNat ((a_turns.length : Int) % 18446744073709551616).toNat)).toNat : Int).toNat]?) fun y746 => ck ((q448.2 + (1 : Int))) <| L449 (((q448.1.set q448.2.toNat y741).set ((((UInt64.ofNat (y736 % 18446744073709551616).toNat) % (UInt64.ofNat ((a_turns.length : Int) % 18446744073709551616).toNat)).toNat : Int).toNat) y742), (q448.2 + (1 : Int)))) (lp (ι := Str × Int) (fun L749 q748 => br (decide (q748.2 < (a_turns.length : Int))) (asr (decide (0 ≤ q748.2 ∧ q748.2 < ((q448.1.length : Nat) : Int))) <| cal (q448.1[q748.2.toNat]?) fun y815 => ck ((y815 + (1 : Int))) <| jp (ι := Str) (fun J818 => br (decide ((y815 + (1 : Int)) < (a_turns.length : Int))) (asr (decide (0 ≤ q748.2 ∧ q748.2 < ((q448.1.length : Nat) : Int))) <| cal (q448.1[q748.2.toNat]?) fun y820 => ck ((y820 + (1 : Int))) <| cal (h_Digits fuel (UInt64.ofNat ((y820 + (1 : Int)) % 18446744073709551616).toNat)) fun y822 => asr (Nat.ble ((Str.mk [83, 69, 81, 85, 69, 78, 67, 69, 32, 79, 70, 32, 84]).b.length + y822.b.length) 4611686018427387904) <| J818 ((Str.mk ((Str.mk [83, 69, 81, 85, 69, 78, 67, 69, 32, 79, 70, 32, 84]).b ++ y822.b)))) (J818 ((Str.mk [78, 85, 76, 76])))) (fun q817 => asr (Nat.ble (q748.1.b.length + (Str.mk [32, 84]).b.length) 4611686018427387904) <| asr (decide (0 ≤ q748.2 ∧ q748.2 < ((q448.1.length : Nat) : Int))) <| cal (q448.1[q748.2.toNat]?) fun y826 => cal (h_Digits fuel (UInt64.ofNat (y826 % 18446744073709551616).toNat)) fun y827 => asr (Nat.ble ((Str.mk (q748.1.b ++ (Str.mk [32, 84]).b)).b.length + y827.b.length) 4611686018427387904) <| asr (Nat.ble ((Str.mk ((Str.mk (q748.1.b ++ (Str.mk [32, 84]).b)).b ++ y827.b)).b.length + (Str.mk [32, 58, 58, 61, 32]).b.length) 4611686018427387904) <| asr (Nat.ble ((Str.mk ((Str.mk ((Str.mk (q748.1.b ++ (Str.mk [32, 84]).b)).b ++ y827.b)).b ++ (Str.mk [32, 58, 58, 61, 32]).b)).b.length + q817.b.length) 4611686018427387904) <| ck ((q748.2 + (1 : Int))) <| L749 ((Str.mk ((Str.mk ((Str.mk ((Str.mk (q748.1.b ++ (Str.mk [32, 84]).b)).b ++ y827.b)).b ++ (Str.mk [32, 58, 58, 61, 32]).b)).b ++ q817.b)), (q748.2 + (1 : Int))))) (asr (Nat.ble ((Str.mk [77, 32, 68, 69, 70, 73, 78, 73, 84, 73, 79, 78, 83, 32, 58, 58, 61, 32, 66, 69, 71, 73, 78]).b.length + q748.1.b.length) 4611686018427387904) <| asr (Nat.ble ((Str.mk ((Str.mk [77, 32, 68, 69, 70, 73, 78, 73, 84, 73, 79, 78, 83, 32, 58, 58, 61, 32, 66, 69, 71, 73, 78]).b ++ q748.1.b)).b.length + (Str.mk [32, 69, 78, 68]).b.length) 4611686018427387904) <| cal (r05_Parse (Str.mk ((Str.mk ((Str.mk [77, 32, 68, 69, 70, 73, 78, 73, 84, 73, 79, 78, 83, 32, 58, 58, 61, 32, 66, 69, 71, 73, 78]).b ++ q748.1.b)).b ++ (Str.mk [32, 69, 78, 68]).b))) fun y834 => cal (refs_Order y834.1) fun y836 => cal (law07_awake ) fun y837 => jp (ι := Bool) (fun J839 => br (!y837) (J839 (true)) (J839 ((!decide (y834.2.2 = (0 : Int)))))) (fun q838 => jp (ι := Bool) (fun J842 => br q838 (J842 (true)) (J842 ((!decide (y836.2.2 = (0 : Int)))))) (fun q841 => jp (ι := Bool) (fun J845 => br q841 (J845 (true)) (J845 ((!decide ((y836.1.length : Int) = (a_turns.length : Int)))))) (fun q844 => br q844 (some (false)) (lp (ι := Int) (fun L848 q847 => br (decide (q847 < (a_turns.length : Int))) (cal (getI y836.1 q847) fun y863 => jp (ι := Bool) (fun J865 => br (decide (y863 < (0 : Int))) (J865 (true)) (cal (getI y836.1 q847) fun y867 => J865 ((decide ((a_turns.length : Int) ≤ y867))))) (fun q864 => jp (ι := Bool) (fun J869 => br q864 (J869 (true)) (cal (getI y836.1 q847) fun y871 => asr (decide (0 ≤ y871 ∧ y871 < ((q448.1.length : Nat) : Int))) <| cal (q448.1[y871.toNat]?) fun y873 => ck (((a_turns.length : Int) - (1 : Int))) <| ck ((((a_turns.length : Int) - (1 : Int)) - q847)) <| J869 ((!decide (y873 = (((a_turns.length : Int) - (1 : Int)) - q847)))))) (fun q868 => br q868 (some (false)) (ck ((q847 + (1 : Int))) <| L848 ((q847 + (1 : Int))))))) (some (true))) (((0 : Int))))))))) (((Str.mk []), (0 : Int))))) ((q6.1, (0 : Int))))) ((([] : (List Int)), (0 : Int)))))
end Go.Proofs.YtnnijoepfgnlfaaDoor


namespace Go.Proofs.YtnnijoepfgnlfaaDoor
open Go.Sy
set_option linter.unusedVariables false

section lists
variable {α β : Type} [DecidableEq α] [DecidableEq β]
end lists

/-! ### Places of names -/
theorem index_eq (l : List Str) (s : Str) (hl : l.length ≤ 1000000) : slices_Index_Lstring_string l s = some (fnd l s) := by
  refine T.eqs ?_
  unfold slices_Index_Lstring_string
  refine T.lp (fun (k : Int) => 0 ≤ k ∧ k ≤ (l.length : Int) ∧ fnd l s = fndFrom (l.drop k.toNat) s k) (fun (k : Int) => ((l.length : Int) - k).toNat) ⟨Int.le_refl _, by omega, rfl⟩ (by omega) fun L k ⟨h1, h2, h3⟩ hL => ?_
  refine T.br (fun hb => ?_) fun hb => T.some ?_
  · have hb := of_decide_eq_true hb
    refine T.get h1 hb fun y hy => ?_
    have hd : l.drop k.toNat = y :: l.drop (k.toNat + 1) := by
      rw [List.drop_eq_getElem_cons (by omega)]
      rw [List.getElem?_eq_getElem (by omega)] at hy
      rw [Option.some.inj hy]
    rw [hd] at h3
    unfold fndFrom at h3
    refine T.br (fun he => T.some ?_) fun he => T.ck (by omega) (hL _ ⟨by omega, by omega, ?_⟩ (by omega))
    · rw [h3, if_pos (of_decide_eq_true he).symm]
    · have e : (k + 1).toNat = k.toNat + 1 := by omega
      rw [h3, if_neg (fun h => of_decide_eq_false he h.symm), e]
  · have hb := of_decide_eq_false hb
    rw [List.drop_eq_nil_of_le (by omega)] at h3
    exact h3.symm
theorem find_eq (m : GMod) (s : Str) (hl : m.names.length ≤ 1000000) : refs_Find m s = some (fnd m.names s) := by
  unfold refs_Find
  exact T.eqs (T.eq (index_eq _ _ hl) (T.some rfl))
theorem contains_eq (l : List Str) (s : Str) (hl : l.length ≤ 1000000) : slices_Contains_Lstring_string l s = some (decide (s ∈ l)) := by
  unfold slices_Contains_Lstring_string
  exact T.eqs (T.eq (index_eq _ _ hl) (T.some (fnd_mem l s)))
theorem with1_eq (l : List Str) (s : Str) (hl : l.length ≤ 10000) : refs_with l [s] = some (add l s) := by
  refine T.eqs ?_
  unfold refs_with
  refine T.lp (fun (q : List Str × Int) => (q.2 = 0 ∧ q.1 = l) ∨ (q.2 = 1 ∧ q.1 = add l s)) (fun (q : List Str × Int) => (1 - q.2).toNat) (.inl ⟨rfl, rfl⟩) (by dsimp only; omega) fun L q hq hL => ?_
  obtain ⟨l1, k⟩ := q
  dsimp only at hq ⊢
  refine T.br (fun hb => ?_) fun hb => T.some ?_
  · have hb : k < 1 := of_decide_eq_true hb
    rcases hq with ⟨h1, h2⟩ | ⟨h1, h2⟩
    · subst h1; subst h2
      refine T.jp (fun q => q = add l1 s) (fun J h => T.get (Int.le_refl _) (by simp) fun y hy => ?_) fun q hq => T.ck (by omega) (hL _ (.inr ⟨rfl, hq⟩) (by dsimp only; omega))
      have hy : s = y := by simpa using hy
      subst hy
      refine T.eq (contains_eq _ _ (by omega)) (T.br (fun h3 => T.abl (by simp only [List.length_singleton]; omega) (h _ ?_)) fun h3 => h _ ?_)
      · unfold add; rw [if_neg (by simpa using h3)]
      · unfold add; rw [if_pos (by simpa using h3)]
    · omega
  · have hb : ¬ k < 1 := of_decide_eq_false hb
    rcases hq with ⟨h1, h2⟩ | ⟨h1, h2⟩
    · omega
    · exact h2
end Go.Proofs.YtnnijoepfgnlfaaDoor


namespace Go.Proofs.YtnnijoepfgnlfaaDoor
open Go.Sy
set_option linter.unusedVariables false

/-! ### The program's walk -/
theorem refers1_eq (n : GNode) (acc : List Str) (hl : acc.length ≤ 10000) : refs_refers_c1 n acc = some (if n.kind = 11 then add acc n.name else acc) := by
  refine T.eqs ?_
  unfold refs_refers_c1
  refine T.br (fun h => T.eq (with1_eq _ _ hl) (T.some ?_)) fun h => T.some ?_
  · rw [if_pos (of_decide_eq_true h)]
  · rw [if_neg (of_decide_eq_false h)]
def WalkS (m : GMod) (f : GMod → Int → List Bool → List Str → Option (List Bool × List Str)) (h : Nat) : Prop := ∀ i j seen acc, Sub h m.nodes i j → j ≤ m.nodes.length → seen.length = m.nodes.length → (∀ k, i ≤ k → k < j → seen[k]? = some false) → acc.length ≤ i →
  T (fun r => r.1.length = seen.length ∧ (∀ k, j ≤ k → r.1[k]? = seen[k]?) ∧ r.2 = adds acc (nmx m.nodes h i) ∧ r.2.length ≤ j) (f m i seen acc)
theorem walk_step {m f h} (hl : m.nodes.length ≤ 300) (ih : WalkS m f h) : WalkS m (refs_walk_F f) (h + 1) := by
  intro i j seen acc hs hj hsl hsf hacc
  have hij := hs.lt
  obtain ⟨n, hn, hk⟩ := hs
  unfold refs_walk_F
  have hi : i < m.nodes.length := by omega
  have hsi := hsf i (Nat.le_refl _) hij
  have htn : ((i : Int)).toNat = i := by omega
  refine T.jp (fun b => b = false) (fun J k => T.br (fun hb => by have := of_decide_eq_true hb; omega) fun _ => k _ (decide_eq_false (by omega))) fun b hb => ?_
  subst hb
  refine T.jp (fun b => b = false) (fun J k => T.br (fun hb => by cases hb) fun _ => T.asd (by omega) (T.eq (y := false) (by rw [htn]; exact hsi) (k _ rfl))) fun b hb => ?_
  subst hb
  refine T.br (fun hb => by cases hb) fun _ => T.asd (by omega) (T.eq (y := false) (by rw [htn]; exact hsi) ?_)
  refine T.get (by omega) (by omega) fun n' hn' => ?_
  rw [htn, hn] at hn'
  cases hn'
  refine T.eq (refers1_eq _ _ (by omega)) ?_
  rw [nm_node hn]
  have hset : ∀ k, i + 1 ≤ k → (seen.set i true)[k]? = seen[k]? := fun k hk => List.getElem?_set_ne (by omega)
  refine T.br (fun hr => T.some ?_) fun hr => ?_
  · have hr := of_decide_eq_true hr
    rw [if_pos hr, if_pos hr]
    refine ⟨by rw [htn]; exact List.length_set, fun k hk => by rw [htn]; exact hset k (by omega), rfl, ?_⟩
    have := length_add acc n.name
    dsimp only
    omega
  · have hr := of_decide_eq_false hr
    rw [if_neg hr, if_neg hr]
    unfold kidsOf at hk ⊢
    rw [if_neg hr] at hk ⊢
    obtain ⟨c, hk1, hk2⟩ := Kids.append hk
    rw [List.flatMap_append]
    have hc := Kids.le (fun x y h => Nat.le_of_lt h.lt) hk2
    have hfl := hk1.length
    rw [List.length_map] at hfl
    refine T.lp (fun (q : List Bool × Int × List Str) => 0 ≤ q.2.1 ∧ q.2.1 ≤ (n.fields.length : Int) ∧ ∃ d, Kids (Sub h m.nodes) ((n.fields.drop q.2.1.toNat).map (fun f => f.ty)) d c ∧ i + 1 ≤ d ∧ q.1.length = seen.length ∧ (∀ k, d ≤ k → q.1[k]? = seen[k]?) ∧ adds q.2.2 (((n.fields.drop q.2.1.toNat).map (fun f => f.ty)).flatMap (nmx m.nodes h)) = adds acc ((n.fields.map (fun f => f.ty)).flatMap (nmx m.nodes h)) ∧ q.2.2.length ≤ d) (fun (q : List Bool × Int × List Str) => ((n.fields.length : Int) - q.2.1).toNat)
      ⟨Int.le_refl _, by dsimp only; omega, i + 1, hk1, Nat.le_refl _, by dsimp only; rw [htn]; exact List.length_set, fun k hk => by dsimp only; rw [htn]; exact hset k hk, rfl, by dsimp only; omega⟩ ?_ fun L q hq hL => ?_
    · dsimp only; omega
    · obtain ⟨s1, k, a1⟩ := q
      obtain ⟨q1, q2, d, q3, q4, q5, q6, q7, q8⟩ := hq
      dsimp only at q1 q2 q3 q5 q6 q7 q8 ⊢
      have hd := Kids.le (fun x y h => Nat.le_of_lt h.lt) q3
      refine T.br (fun hb => ?_) fun hb => ?_
      · have hb := of_decide_eq_true hb
        refine T.get q1 hb fun y hy => ?_
        have hdr : n.fields.drop k.toNat = y :: n.fields.drop (k.toNat + 1) := by
          rw [List.drop_eq_getElem_cons (by omega)]
          rw [List.getElem?_eq_getElem (by omega)] at hy
          rw [Option.some.inj hy]
        have ek : (k + 1).toNat = k.toNat + 1 := by omega
        rw [hdr, List.map_cons] at q3 q7
        obtain ⟨c1, e1, e2, e3⟩ := q3
        have hc1 := Kids.le (fun x y h => Nat.le_of_lt h.lt) e3
        have := e2.lt
        rw [e1]
        refine T.cal (ih d c1 s1 a1 e2 (by omega) (by omega) (fun k hk1 hk2 => by rw [q6 k hk1]; exact hsf k (by omega) (by omega)) q8) fun r _ ⟨r1, r2, r3, r4⟩ => T.asd r1 (T.ck (by omega) (hL _ ⟨by dsimp only; omega, by dsimp only; omega, c1, ?_, by omega, r1.trans q5, fun k hk => (r2 k hk).trans (q6 k (by omega)), ?_, r4⟩ (by dsimp only; omega)))
        · dsimp only; rw [ek]; exact e3
        · dsimp only
          rw [ek, r3, ← q7, List.flatMap_cons, adds_append, e1]
      · have hb := of_decide_eq_false hb
        rw [List.drop_eq_nil_of_le (by omega)] at q3 q7
        cases q3
        rw [adds_append, ← q7]
        refine T.br (fun hl10 => ?_) fun hl10 => T.some ?_
        · have h10 := of_decide_eq_true hl10
          rw [if_pos h10] at hk2 ⊢
          obtain ⟨c1, e1, e2, e3⟩ := hk2
          cases e3
          rw [e1]
          refine T.cal (ih c j s1 a1 e2 (by omega) (by omega) (fun k hk1 hk2 => by rw [q6 k hk1]; exact hsf k (by omega) (by omega)) q8) fun r _ ⟨r1, r2, r3, r4⟩ => T.asd r1 (T.some ⟨r1.trans q5, fun k hk => (r2 k hk).trans (q6 k (by omega)), ?_, r4⟩)
          rw [r3]
          simp [adds_nil]
        · have h10 := of_decide_eq_false hl10
          rw [if_neg h10] at hk2 ⊢
          cases hk2
          exact ⟨q5, q6, rfl, q8⟩
end Go.Proofs.YtnnijoepfgnlfaaDoor


namespace Go.Proofs.YtnnijoepfgnlfaaDoor
open Go.Sy
set_option linter.unusedVariables false

theorem walk_all (m : GMod) (hl : m.nodes.length ≤ 300) : ∀ h n, h ≤ n → WalkS m (refs_walk n) h := by
  intro h
  induction h with
  | zero => intro n _ i j seen acc hs; exact hs.elim
  | succ h ih =>
    intro n hn
    obtain ⟨n', rfl⟩ : ∃ n', n = n' + 1 := ⟨n - 1, by omega⟩
    exact walk_step hl (ih n' (by omega))
theorem walk_out {m n i seen acc} (hi : i < 0 ∨ (m.nodes.length : Int) ≤ i) : refs_walk (n + 1) m i seen acc = some (seen, acc) := by
  refine T.eqs ?_
  show T _ (refs_walk_F (refs_walk n) m i seen acc)
  unfold refs_walk_F
  refine T.jp (fun b => b = true) (fun J k => T.br (fun _ => k _ rfl) fun hb => k _ (decide_eq_true (by have := of_decide_eq_false hb; omega))) fun b hb => ?_
  subst hb
  refine T.jp (fun b => b = true) (fun J k => T.br (fun _ => k _ rfl) fun hb => by cases hb) fun b hb => ?_
  subst hb
  exact T.br (fun _ => T.some rfl) fun hb => by cases hb
theorem refers_eq {m : GMod} (w : WF m) (node : Int) : refs_refers m node = some (adds [] (nms m node)) := by
  refine T.eqs ?_
  unfold refs_refers
  have hl := w.nodes
  refine T.asd (by omega) ?_
  have hrep : (List.replicate ((m.nodes.length : Int)).toNat false).length = m.nodes.length := by rw [List.length_replicate]; omega
  by_cases hi : node < 0 ∨ (m.nodes.length : Int) ≤ node
  · obtain ⟨f', hf⟩ : ∃ f', fuel = f' + 1 := ⟨fuel - 1, by unfold fuel; omega⟩
    rw [hf]
    refine T.eq (walk_out hi) (T.asd rfl (T.some ?_))
    unfold nms
    rw [nm_out hi]; rfl
  · obtain ⟨i, rfl⟩ : ∃ i : Nat, node = (i : Int) := ⟨node.toNat, by omega⟩
    obtain ⟨h, j, h1, h2, h3⟩ := w.at (i := i) (by omega)
    refine T.cal (walk_all m hl h fuel (by unfold fuel; omega) i j _ _ h2 h3 hrep (fun k _ hk => ?_) (Nat.zero_le _)) fun r _ ⟨r1, r2, r3, r4⟩ => T.asd r1 (T.some ?_)
    · rw [List.getElem?_replicate_of_lt (by omega)]
    · rw [r3]; unfold nms; rw [nm_mono h2 h1]
theorem uses_eq {m : GMod} (w : WF m) (node : Int) : refs_Uses m node = some (uses m node) := by
  refine T.eqs ?_
  unfold refs_Uses
  refine T.eq (refers_eq w node) ?_
  have hn := w.names
  have hlen := length_adds (nms m node) []
  have hnl := nms_len w node
  rw [List.length_nil] at hlen
  have e0 : uses m node = ((adds [] (nms m node)).filterMap (idx m.names)) := by
    unfold uses; rw [filterMap_adds _ (idx_inj _)]; rfl
  rw [e0]
  generalize adds [] (nms m node) = l at hlen
  refine T.lp (fun (q : List Int × Int) => 0 ≤ q.2 ∧ q.2 ≤ (l.length : Int) ∧ q.1 ++ (l.drop q.2.toNat).filterMap (idx m.names) = l.filterMap (idx m.names) ∧ (q.1.length : Int) ≤ q.2) (fun (q : List Int × Int) => ((l.length : Int) - q.2).toNat) ⟨Int.le_refl _, by dsimp only; omega, rfl, by simp⟩ (by dsimp only; omega) fun L q ⟨h1, h2, h3, h4⟩ hL => ?_
  obtain ⟨o, k⟩ := q
  dsimp only at h1 h2 h3 h4 ⊢
  refine T.br (fun hb => ?_) fun hb => T.some ?_
  · have hb := of_decide_eq_true hb
    refine T.jp (fun o' => o' ++ (l.drop (k + 1).toNat).filterMap (idx m.names) = l.filterMap (idx m.names) ∧ (o'.length : Int) ≤ k + 1) (fun J h => T.get h1 hb fun y hy => ?_) fun o' ho => T.ck (by omega) (hL _ ⟨by dsimp only; omega, by dsimp only; omega, ho.1, ho.2⟩ (by dsimp only; omega))
    rw [drop_cons h1 hy] at h3
    refine T.eq (find_eq m y (by omega)) (T.br (fun hf => T.abl (by simp only [List.length_singleton]; omega) (h _ ⟨?_, by simp only [List.length_append, List.length_singleton]; omega⟩)) fun hf => h _ ⟨?_, by omega⟩)
    · have hf := of_decide_eq_true hf
      have : idx m.names y = some (fnd m.names y) := by unfold idx; rw [if_neg (by omega)]
      rw [List.filterMap_cons_some this] at h3
      rw [← h3]; simp
    · have hf := of_decide_eq_false hf
      have : idx m.names y = none := by unfold idx; rw [if_pos (by omega)]
      rw [List.filterMap_cons_none this] at h3
      exact h3
  · have hb := of_decide_eq_false hb
    rw [List.drop_eq_nil_of_le (by omega)] at h3
    simpa using h3
theorem lost_eq {m : GMod} (w : WF m) (node : Int) : refs_lost m node = some (lost m node) := by
  refine T.eqs ?_
  unfold refs_lost
  refine T.eq (refers_eq w node) ?_
  have hn := w.names
  have hlen := length_adds (nms m node) []
  have hnl := nms_len w node
  rw [List.length_nil] at hlen
  have e0 : lost m node = (adds [] (nms m node)).any (fun s => decide (fnd m.names s < 0)) := by
    unfold lost
    rw [Bool.eq_iff_iff, List.any_eq_true, List.any_eq_true]
    exact ⟨fun ⟨x, h1, h2⟩ => ⟨x, mem_adds.2 (.inr h1), h2⟩, fun ⟨x, h1, h2⟩ => ⟨x, by simpa using mem_adds.1 h1, h2⟩⟩
  rw [e0]
  generalize adds [] (nms m node) = l at hlen
  have key : T (fun r => decide ((0 : Int) ≤ r) = l.any (fun s => decide (fnd m.names s < 0))) (slices_IndexFunc_Lstring_string l m) := by
    unfold slices_IndexFunc_Lstring_string
    refine T.lp (fun (q : Int) => 0 ≤ q ∧ q ≤ (l.length : Int) ∧ l.any (fun s => decide (fnd m.names s < 0)) = (l.drop q.toNat).any (fun s => decide (fnd m.names s < 0))) (fun (q : Int) => ((l.length : Int) - q).toNat) ⟨Int.le_refl _, by omega, rfl⟩ (by omega) fun L k ⟨h1, h2, h4⟩ hL => ?_
    refine T.br (fun hb => ?_) fun hb => T.some ?_
    · have hb := of_decide_eq_true hb
      refine T.get h1 hb fun y hy => ?_
      rw [drop_cons h1 hy, List.any_cons] at h4
      refine T.eq (y := decide (fnd m.names y < 0)) (T.eqs (by unfold refs_lost_c1; exact T.eq (find_eq _ _ (by omega)) (T.some rfl))) (T.br (fun hf => T.some ?_) fun hf => T.ck (by omega) (hL _ ⟨by omega, by omega, ?_⟩ (by omega)))
      · rw [h4, hf]; simpa using h1
      · rw [h4, hf]; rfl
    · have hb := of_decide_eq_false hb
      rw [List.drop_eq_nil_of_le (by omega)] at h4
      rw [h4]; rfl
  unfold slices_ContainsFunc_Lstring_string
  refine T.cal (Q := fun r => r = l.any (fun s => decide (fnd m.names s < 0))) (T.cal key fun r _ hr => T.some hr) fun r _ hr => T.some (by rw [hr])
end Go.Proofs.YtnnijoepfgnlfaaDoor


namespace Go.Proofs.YtnnijoepfgnlfaaDoor
open Go.Sy
set_option linter.unusedVariables false

/-! ### By depth -/
def DepS (U : Gr) (f : Gr → Int → List Bool → Option (List Bool)) (n : Nat) : Prop := ∀ (i : Int) s, 0 ≤ i → i < U.length → s.length = U.length → cf s < n → T (fun r => Dep U i s r ∧ ∀ j, Ed U i j → On r j) (f U i s)
theorem dep_step {U f n} (g : GOk U) (ih : DepS U f n) : DepS U (refs_reaches_F f) (n + 1) := by
  intro i s hi0 hi hs hcf
  unfold refs_reaches_F
  refine T.get hi0 hi fun l hl => ?_
  have hgl := g.len
  obtain ⟨hll, hlr⟩ := g.ok l (List.mem_of_getElem? hl)
  have hed : ∀ j, Ed U i j ↔ j ∈ l := fun j => ⟨fun ⟨_, l', h1, h2⟩ => by rw [hl] at h1; cases h1; exact h2, fun h => ⟨hi0, l, hl, h⟩⟩
  refine T.lp (fun (q : List Bool × Int) => 0 ≤ q.2 ∧ q.2 ≤ (l.length : Int) ∧ Dep U i s q.1 ∧ ∀ j ∈ l, j ∈ l.drop q.2.toNat ∨ On q.1 j) (fun (q : List Bool × Int) => ((l.length : Int) - q.2).toNat) ⟨Int.le_refl _, by dsimp only; omega, ⟨rfl, fun _ h => h, fun _ h => .inl h, Nat.le_refl _⟩, fun j hj => .inl hj⟩ (by dsimp only; omega) fun L q ⟨h1, h2, h3, h4⟩ hL => ?_
  obtain ⟨s1, k⟩ := q
  dsimp only at h1 h2 h3 h4 ⊢
  refine T.br (fun hb => ?_) fun hb => T.some ⟨h3, fun j hj => ?_⟩
  · have hb := of_decide_eq_true hb
    refine T.jp (fun s2 => Dep U i s s2 ∧ ∀ j ∈ l, j ∈ l.drop (k + 1).toNat ∨ On s2 j) (fun J kk => T.get h1 hb fun y hy => ?_) fun s2 ⟨hs2, hj2⟩ => T.ck (by omega) (hL _ ⟨by dsimp only; omega, by dsimp only; omega, hs2, hj2⟩ (by dsimp only; omega))
    have hyl := List.mem_of_getElem? hy
    obtain ⟨hy0, hy1⟩ := hlr y hyl
    have hlen := h3.len
    rw [drop_cons h1 hy] at h4
    refine T.asd (by omega) ?_
    have hget : ∃ b, s1[y.toNat]? = some b := ⟨_, List.getElem?_eq_getElem (by omega)⟩
    obtain ⟨b, hbq⟩ := hget
    refine T.eq hbq (T.br (fun hnb => T.asd (by omega) (T.eq hbq ?_)) fun hnb => kk _ ⟨h3, fun j hj => ?_⟩)
    · have hbf : b = false := by simpa using hnb
      subst hbf
      have hcs := cf_set hbq
      have hcf3 := h3.cf
      refine T.cal (ih y (s1.set y.toNat true) hy0 hy1 (by rw [List.length_set]; omega) (by omega)) fun r _ ⟨hr, hre⟩ => T.asd (by rw [hr.len, List.length_set]) (kk _ ⟨⟨?_, fun v hv => ?_, fun v hv => ?_, ?_⟩, fun j hj => ?_⟩)
      · rw [hr.len, List.length_set]; exact hlen
      · exact hr.mono v ((On.set hy0 (by omega)).2 (.inl (h3.mono v hv)))
      · rcases hr.new v hv with h5 | ⟨h5, h6⟩
        · rcases (On.set hy0 (by omega)).1 h5 with h7 | h7
          · rcases h3.new v h7 with h8 | ⟨h8, h9⟩
            · exact .inl h8
            · exact .inr ⟨h8, fun j hj => hr.mono j ((On.set hy0 (by omega)).2 (.inl (h9 j hj)))⟩
          · subst h7
            exact .inr ⟨.one ((hed _).2 hyl), hre⟩
        · exact .inr ⟨(Reach.one ((hed _).2 hyl)).trans h5, h6⟩
      · have := hr.cf
        omega
      · rcases h4 j hj with h5 | h5
        · rcases List.mem_cons.1 h5 with h6 | h6
          · subst h6
            exact .inr (hr.mono _ ((On.set hy0 (by omega)).2 (.inr rfl)))
          · exact .inl h6
        · exact .inr (hr.mono _ ((On.set hy0 (by omega)).2 (.inl h5)))
    · have hbt : b = true := by simpa using hnb
      subst hbt
      rcases h4 j hj with h5 | h5
      · rcases List.mem_cons.1 h5 with h6 | h6
        · subst h6
          exact .inr ⟨hy0, hbq⟩
        · exact .inl h6
      · exact .inr h5
  · have hb := of_decide_eq_false hb
    rcases h4 j ((hed j).1 hj) with h5 | h5
    · rw [List.drop_eq_nil_of_le (by omega)] at h5; cases h5
    · exact h5
theorem dep_all {U} (g : GOk U) : ∀ n, DepS U (refs_reaches n) n := by
  intro n
  induction n with
  | zero => intro i s _ _ _ h; omega
  | succ n ih => exact dep_step g ih
theorem reaches_tot {U} (g : GOk U) {i : Int} (hi : 0 ≤ i) (hi1 : i < U.length) (n : Nat) (hn : n = U.length) : T (fun r => r.length = n ∧ (On r i ↔ Reach U i i)) (refs_reaches fuel U i (List.replicate n false)) := by
  have hgl := g.len
  subst hn
  have hc := cf_le (List.replicate U.length false)
  rw [List.length_replicate] at hc
  refine (dep_all g fuel i _ hi hi1 (List.length_replicate) (by unfold fuel; omega)).mono fun r ⟨h1, h2⟩ => ⟨by rw [h1.len, List.length_replicate], fun h => ?_, fun h => ?_⟩
  · rcases h1.new i h with h3 | h3
    · exact absurd h3 on_rep
    · exact h3.1
  · have key : ∀ a b, Reach U a b → a = i → On r b := by
      intro a b hab
      induction hab with
      | one e => intro ea; subst ea; exact h2 _ e
      | tail _ e ih =>
        intro ea
        rcases h1.new _ (ih ea) with h3 | h3
        · exact absurd h3 on_rep
        · exact h3.2 _ e
    exact key _ _ h rfl

/-! ### By breadth -/
/-! ### One that is ready -/
end Go.Proofs.YtnnijoepfgnlfaaDoor


namespace Go.Proofs.YtnnijoepfgnlfaaDoor
open Go.Sy
set_option linter.unusedVariables false

/-! ### What is wrong first -/
open Classical in
theorem of_eq {m : GMod} {i : Int} {t : Int} (h : 0 ≤ i) (ht : m.types[i.toNat]? = some t) : refs_of m i = some t := by
  have hlt : i.toNat < m.types.length := by
    rcases Nat.lt_or_ge i.toNat m.types.length with h1 | h1
    · exact h1
    · rw [List.getElem?_eq_none h1] at ht; cases ht
  refine T.eqs ?_
  unfold refs_of
  refine T.br (fun hb => by have := of_decide_eq_true hb; omega) fun hb => T.get h (by omega) fun y hy => T.some ?_
  rw [ht] at hy; cases hy; rfl
theorem wrong_tot {m : GMod} (w : WF m) : refs_wrong m (gr m) = some (wr m) := by
  have hn := w.names
  have ht := w.types
  have hgl := gr_len w
  refine T.eqs ?_
  unfold refs_wrong
  refine T.lp (fun (k : Int) => At (twice m) m.names.length k) (fun (k : Int) => ((m.names.length : Int) - k).toNat) (At.zero _ _) (by omega) fun L k hk hL => ?_
  have hk0 := hk.1
  refine T.br (fun hb => ?_) fun hb => ?_
  · have hb := of_decide_eq_true hb
    refine T.get hk0 hb fun s hs => T.eq (find_eq m s (by omega)) ?_
    have e : twice m k = decide (fnd m.names s < k) := by unfold twice; rw [hs]
    refine T.br (fun h => T.some ?_) fun h => T.ck (by omega) (hL _ (hk.next hb (by rw [e]; exact h)) (by omega))
    unfold wr; rw [hk.hit hb (by rw [e]; exact h)]
  have m1 := hk.miss (of_decide_eq_false hb)
  refine T.lp (fun (k : Int) => At (none_ m) m.names.length k) (fun (k : Int) => ((m.names.length : Int) - k).toNat) (At.zero _ _) (by omega) fun L k hk hL => ?_
  have hk0 := hk.1
  refine T.br (fun hb => ?_) fun hb => ?_
  · have hb := of_decide_eq_true hb
    obtain ⟨t, htt⟩ : ∃ t, m.types[k.toNat]? = some t := ⟨_, List.getElem?_eq_getElem (by omega)⟩
    refine T.eq (of_eq hk0 htt) (T.eq (lost_eq w t) ?_)
    have e : none_ m k = lost m t := by unfold none_; rw [htt]
    refine T.br (fun h => T.some ?_) fun h => T.ck (by omega) (hL _ (hk.next hb (by rw [e]; exact h)) (by omega))
    unfold wr; rw [m1, hk.hit hb (by rw [e]; exact h)]
  have m2 := hk.miss (of_decide_eq_false hb)
  refine T.lp (fun (k : Int) => At (cycle m) m.names.length k) (fun (k : Int) => ((m.names.length : Int) - k).toNat) (At.zero _ _) (by omega) fun L k hk hL => ?_
  have hk0 := hk.1
  refine T.br (fun hb => ?_) fun hb => T.some ?_
  · have hb := of_decide_eq_true hb
    have en : ((m.names.length : Int)).toNat = m.names.length := by omega
    refine T.asd (by omega) (T.cal (reaches_tot (gr_ok w) hk0 (by omega) _ (by omega)) fun r _ ⟨r1, r2⟩ => T.asd (by rw [List.length_replicate]; exact r1) (T.asd (by omega) ?_))
    obtain ⟨b, hbq⟩ : ∃ b, r[k.toNat]? = some b := ⟨_, List.getElem?_eq_getElem (by omega)⟩
    have e : cycle m k = b := cycle_of (by
      rw [← r2]
      unfold On
      rw [hbq]
      exact ⟨fun h => ⟨hk0, by rw [h]⟩, fun h => Option.some.inj h.2⟩)
    refine T.eq hbq (T.br (fun h => T.some ?_) fun h => T.ck (by omega) (hL _ (hk.next hb (by rw [e]; exact h)) (by omega)))
    unfold wr; rw [m1, m2, hk.hit hb (by rw [e]; exact h)]
  · unfold wr; rw [m1, m2, hk.miss (of_decide_eq_false hb)]
end Go.Proofs.YtnnijoepfgnlfaaDoor


namespace Go.Proofs.YtnnijoepfgnlfaaDoor
open Go.Sy
set_option linter.unusedVariables false

/-! ### The program's order -/
theorem index_int_tot (l : List Int) (v : Int) (hl : l.length ≤ 1000000) : T (fun r => decide ((0 : Int) ≤ r) = decide (v ∈ l)) (slices_Index_Lint_int l v) := by
  unfold slices_Index_Lint_int
  refine T.lp (fun (k : Int) => 0 ≤ k ∧ k ≤ (l.length : Int) ∧ (v ∈ l ↔ v ∈ l.drop k.toNat)) (fun (k : Int) => ((l.length : Int) - k).toNat) ⟨Int.le_refl _, by omega, Iff.rfl⟩ (by omega) fun L k ⟨h1, h2, h3⟩ hL => ?_
  refine T.br (fun hb => ?_) fun hb => T.some ?_
  · have hb := of_decide_eq_true hb
    refine T.get h1 hb fun y hy => ?_
    rw [drop_cons h1 hy, List.mem_cons] at h3
    refine T.br (fun he => T.some ?_) fun he => T.ck (by omega) (hL _ ⟨by omega, by omega, ?_⟩ (by omega))
    · rw [decide_eq_true h1, decide_eq_true (h3.2 (.inl (of_decide_eq_true he)))]
    · rw [h3]
      exact ⟨fun h => h.elim (fun e => absurd e (of_decide_eq_false he)) fun h => h, .inr⟩
  · have hb := of_decide_eq_false hb
    rw [List.drop_eq_nil_of_le (by omega)] at h3
    rw [decide_eq_false (show ¬ v ∈ l from fun h => by cases h3.1 h)]
    rfl
theorem contains_int_eq (l : List Int) (v : Int) (hl : l.length ≤ 1000000) : slices_Contains_Lint_int l v = some (decide (v ∈ l)) := by
  refine T.eqs ?_
  unfold slices_Contains_Lint_int
  exact T.cal (index_int_tot l v hl) fun r _ hr => T.some hr
theorem containsF_int_eq (l out : List Int) (hl : l.length ≤ 1000000) (ho : out.length ≤ 1000000) : slices_ContainsFunc_Lint_int l out = some (!l.all (fun j => decide (j ∈ out)), out) := by
  have key : T (fun r => r.2 = out ∧ decide ((0 : Int) ≤ r.1) = !l.all (fun j => decide (j ∈ out))) (slices_IndexFunc_Lint_int l out) := by
    unfold slices_IndexFunc_Lint_int
    refine T.lp (fun (q : Int × List Int) => 0 ≤ q.1 ∧ q.1 ≤ (l.length : Int) ∧ q.2 = out ∧ l.all (fun j => decide (j ∈ out)) = (l.drop q.1.toNat).all (fun j => decide (j ∈ out))) (fun (q : Int × List Int) => ((l.length : Int) - q.1).toNat) ⟨Int.le_refl _, by dsimp only; omega, rfl, rfl⟩ (by dsimp only; omega) fun L q ⟨h1, h2, h3, h4⟩ hL => ?_
    obtain ⟨k, o⟩ := q
    dsimp only at h1 h2 h3 h4 ⊢
    subst h3
    refine T.br (fun hb => ?_) fun hb => T.some ⟨rfl, ?_⟩
    · have hb := of_decide_eq_true hb
      refine T.get h1 hb fun y hy => ?_
      rw [drop_cons h1 hy, List.all_cons] at h4
      refine T.eq (y := (!decide (y ∈ o), o)) (T.eqs (by unfold refs_Order_c1; exact T.eq (contains_int_eq _ _ (by omega)) (T.some rfl))) (T.br (fun hf => T.some ⟨rfl, ?_⟩) fun hf => T.ck (by omega) (hL _ ⟨by dsimp only; omega, by dsimp only; omega, rfl, ?_⟩ (by dsimp only; omega)))
      · have hf' : decide (y ∈ o) = false := by simpa using hf
        dsimp only
        rw [h4, hf', decide_eq_true h1]; rfl
      · have hf' : decide (y ∈ o) = true := by simpa using hf
        dsimp only
        rw [h4, hf', Bool.true_and]
    · have hb := of_decide_eq_false hb
      rw [List.drop_eq_nil_of_le (by omega)] at h4
      rw [h4]; rfl
  refine T.eqs ?_
  unfold slices_ContainsFunc_Lint_int
  exact T.cal key fun r _ hr => T.some (by rw [hr.1, hr.2])
theorem order_eq {m : GMod} (w : WF m) : refs_Order m = some (ordr m) := by
  have hn := w.names
  have ht := w.types
  have hgl := gr_len w
  have hgo := gr_ok w
  refine T.eqs ?_
  unfold refs_Order
  refine T.lp (fun (q : List (List Int) × Int) => 0 ≤ q.2 ∧ q.2 ≤ (m.names.length : Int) ∧ (q.1.length : Int) = q.2 ∧ q.1 ++ (m.types.drop q.2.toNat).map (uses m) = gr m) (fun (q : List (List Int) × Int) => ((m.names.length : Int) - q.2).toNat) ⟨Int.le_refl _, by dsimp only; omega, rfl, rfl⟩ (by dsimp only; omega) fun L q ⟨h1, h2, h3, h4⟩ hL => ?_
  obtain ⟨U, k⟩ := q
  dsimp only at h1 h2 h3 h4 ⊢
  refine T.br (fun hb => ?_) fun hb => ?_
  · have hb := of_decide_eq_true hb
    obtain ⟨t, htt⟩ : ∃ t, m.types[k.toNat]? = some t := ⟨_, List.getElem?_eq_getElem (by omega)⟩
    rw [drop_cons h1 htt, List.map_cons] at h4
    refine T.eq (of_eq h1 htt) (T.eq (uses_eq w t) (T.abl (by simp only [List.length_singleton]; omega) (T.ck (by omega) (hL _ ⟨by dsimp only; omega, by dsimp only; omega, by dsimp only; rw [List.length_append, List.length_singleton]; omega, ?_⟩ (by dsimp only; omega)))))
    dsimp only
    rw [← h4]; simp
  have hb := of_decide_eq_false hb
  rw [List.drop_eq_nil_of_le (by omega), List.map_nil, List.append_nil] at h4
  subst h4
  refine T.eq (wrong_tot w) (T.br (fun he => T.some ?_) fun he => ?_)
  · unfold ordr; rw [if_neg (by simpa using he)]
  have he : (wr m).2 = 0 := by simpa using he
  refine T.lp (fun (out : List Int) => Tp m out) (fun (out : List Int) => m.names.length - out.length) (Tp.nil m) (by omega) fun L out ho hL => ?_
  have hol := ho.1
  refine T.br (fun hb => ?_) fun hb => T.some ?_
  · have hb := of_decide_eq_true hb
    have hlt : out.length < m.names.length := by omega
    refine T.lp (fun (q : Int × List Int) => At (rdy (gr m) out) (gr m).length q.1 ∧ q.2 = out) (fun (q : Int × List Int) => ((m.names.length : Int) - q.1).toNat) ⟨At.zero _ _, rfl⟩ (by dsimp only; omega) fun L2 q ⟨hk, hq⟩ hL2 => ?_
    obtain ⟨k, o⟩ := q
    dsimp only at hk hq ⊢
    subst hq
    have hk0 := hk.1
    refine T.br (fun hb2 => ?_) fun hb2 => ?_
    · have hb2 := of_decide_eq_true hb2
      refine T.eq (contains_int_eq o k (by omega)) (T.jp (fun (q : Bool × List Int) => q.1 = rdy (gr m) o k ∧ q.2 = o) (fun J kk => T.br (fun hin => T.get hk0 (by omega) fun l hl => ?_) fun hin => kk _ ⟨?_, rfl⟩) fun q ⟨hq1, hq2⟩ => ?_)
      · have := (hgo.ok l (List.mem_of_getElem? hl)).1
        refine T.eq (containsF_int_eq l o (by omega) (by omega)) (kk _ ⟨?_, rfl⟩)
        have hin : k ∉ o := by simpa using hin
        unfold rdy
        dsimp only
        rw [hl, decide_eq_true hin]
        simp
      · have hin : k ∈ o := by simpa using hin
        unfold rdy
        dsimp only
        rw [decide_eq_false (fun h => h hin)]; rfl
      · obtain ⟨b, o2⟩ := q
        dsimp only at hq1 hq2 ⊢
        subst hq2
        refine T.br (fun hr => T.abl (by simp only [List.length_singleton]; omega) (hL _ (ho.next hlt (hk.hit (by omega) (by rw [← hq1]; exact hr))) (by rw [List.length_append, List.length_singleton]; omega))) fun hr => T.ck (by omega) (hL2 _ ⟨hk.next (by omega) (by rw [← hq1]; exact hr), rfl⟩ (by dsimp only; omega))
    · have hb2 := of_decide_eq_false hb2
      exact absurd (hk.miss (by omega)) (first_rdy w he hlt)
  · unfold ordr; rw [if_pos he, ho.done (of_decide_eq_false hb)]

/-! ### The document's order -/
end Go.Proofs.YtnnijoepfgnlfaaDoor


namespace Go.Proofs.YtnnijoepfgnlfaaDoor
open Go.Sy
set_option linter.unusedVariables false

def Good (U : Gr) (out : List Int) : Prop := ∀ (k : Nat) (i : Int), out[k]? = some i → 0 ≤ i ∧ i < U.length ∧ i ∉ out.take k ∧ ∀ j ∈ (U[i.toNat]?).getD [], j ∈ out.take k
theorem Good.nil (U : Gr) : Good U [] := fun k i h => by simp at h
theorem Good.next {U : Gr} {out : List Int} {i : Int} (h : Good U out) (hf : first (rdy U out) U.length 0 = some i) : Good U (out ++ [i]) := by
  obtain ⟨h1, h2, h3⟩ := first_some hf
  unfold rdy at h3
  rw [Bool.and_eq_true] at h3
  intro k x hk
  rcases Nat.lt_trichotomy k out.length with e | e | e
  · rw [List.getElem?_append_left e] at hk
    rw [List.take_append_of_le_length (by omega)]
    exact h k x hk
  · subst e
    rw [List.getElem?_append_right (Nat.le_refl _)] at hk
    simp at hk
    subst hk
    rw [List.take_append_of_le_length (Nat.le_refl _), List.take_length]
    exact ⟨h1, by omega, of_decide_eq_true h3.1, fun j hj => of_decide_eq_true (List.all_eq_true.1 h3.2 j hj)⟩
  · rw [List.getElem?_append_right (by omega), List.getElem?_eq_none (by simp; omega)] at hk
    cases hk
theorem topo_good (U : Gr) : ∀ k out, Good U out → Good U (topo U k out) := by
  intro k
  induction k with
  | zero => intro out h; exact h
  | succ k ih =>
    intro out h
    unfold topo
    split
    · rename_i i hi; exact ih _ (h.next hi)
    · exact h
theorem topo_full {m : GMod} (w : WF m) (h : (wr m).2 = 0) : ∀ k out, out.length + k = m.names.length → (topo (gr m) k out).length = m.names.length := by
  intro k
  induction k with
  | zero => intro out h; exact h
  | succ k ih =>
    intro out hl
    unfold topo
    split
    · rename_i i hi; exact ih _ (by rw [List.length_append, List.length_singleton]; omega)
    · rename_i hn; exact absurd hn (first_rdy w h (by omega))
theorem ranks {m : GMod} (w : WF m) (h : (wr m).2 = 0) : ∃ rk : Int → Nat, (∀ i, rk i ≤ m.names.length) ∧ ∀ i j, Ed (gr m) i j → rk j < rk i := by
  have hl := topo_full w h m.names.length [] (by simp)
  have hg := topo_good (gr m) m.names.length [] (Good.nil _)
  generalize topo (gr m) m.names.length [] = out at hl hg
  have hgl := gr_len w
  have hnd : out.Nodup := by
    rw [List.nodup_iff_pairwise_ne, List.pairwise_iff_getElem]
    intro i j hi hj hij he
    have h1 := (hg j (out[j]) (List.getElem?_eq_getElem hj)).2.2.1
    refine h1 ?_
    rw [← he]
    exact List.mem_take_iff_getElem.2 ⟨i, by omega, rfl⟩
  have hsub : ∀ x ∈ out, x ∈ nums m.names.length := fun x hx => by
    obtain ⟨k, hk⟩ := List.mem_iff_getElem?.1 hx
    have := hg k x hk
    exact mem_nums.2 ⟨this.1, by omega⟩
  have hall : ∀ i : Int, 0 ≤ i → i < m.names.length → i ∈ out := fun i h0 h1 => by
    refine Classical.byContradiction fun hno => ?_
    have := length_le_of_nodup (a := i :: out) (b := nums m.names.length) (List.nodup_cons.2 ⟨hno, hnd⟩) (fun x hx => by
      rcases List.mem_cons.1 hx with e | e
      · rw [e]; exact mem_nums.2 ⟨h0, h1⟩
      · exact hsub x e)
    rw [length_nums, List.length_cons] at this
    omega
  refine ⟨fun i => out.idxOf i, fun i => by rw [← hl]; exact List.idxOf_le_length, fun i j ⟨h0, l, h1, h2⟩ => ?_⟩
  have hi : i < m.names.length := by
    have := (List.getElem?_eq_some_iff.1 h1).1
    omega
  have hio := hall i h0 hi
  have hlt := List.idxOf_lt_length_of_mem hio
  have hk := hg (out.idxOf i) i (by rw [List.getElem?_eq_getElem hlt, List.getElem_idxOf])
  have hj := hk.2.2.2 j (by rw [h1]; exact h2)
  obtain ⟨n, hn, he⟩ := List.mem_take_iff_getElem.1 hj
  have hn2 : n < out.length := by omega
  have : out.idxOf j ≤ n := by
    rw [← he]
    rw [hnd.idxOf_getElem n hn2]
    exact Nat.le_refl _
  show out.idxOf j < out.idxOf i
  omega
end Go.Proofs.YtnnijoepfgnlfaaDoor


namespace Go.Proofs.YtnnijoepfgnlfaaDoor
open Go.Sy
set_option linter.unusedVariables false

theorem tx {β : Type} {o : Option β} {x : β} (h : T (fun r => r = x) o) : o = some x := by
  obtain ⟨r, h1, h2⟩ := h; rw [h1, h2]
def hd : List UInt8 → UInt8
  | [] => 0
  | c :: _ => c
theorem hd_drop (b : List UInt8) (n : Nat) : hd (b.drop n) = (b[n]?).getD 0 := by
  rcases Nat.lt_or_ge n b.length with h | h
  · rw [List.drop_eq_getElem_cons h, List.getElem?_eq_getElem h]; rfl
  · rw [List.drop_eq_nil_of_le h, List.getElem?_eq_none h]; rfl
theorem dropc {b : List UInt8} {n : Nat} {y : UInt8} (h : b[n]? = some y) : b.drop n = y :: b.drop (n + 1) := by
  obtain ⟨h1, h2⟩ := List.getElem?_eq_some_iff.1 h
  rw [List.drop_eq_getElem_cons h1, h2]
theorem at_eq (s : Str) (i : Int) (h : 0 ≤ i) : r04_at s i = some (hd (s.b.drop i.toNat)) := by
  obtain ⟨r, h1, h2⟩ := at_tot s i
  rw [h1, h2, if_pos h, hd_drop]

/-! ### White -/
inductive Wst where
  | out
  | start
  | ins
  | fin
def isWh (c : UInt8) : Bool := decide (c = 32) || decide (c = 9) || decide (c = 10) || decide (c = 13)
def wh : Wst → List UInt8 → List UInt8
  | _, [] => []
  | .out, c :: r => bif isWh c then wh .out r else bif decide (c = 45) && decide (hd r = 45) then wh .start r else c :: r
  | .start, _ :: r => wh .ins r
  | .ins, c :: r => bif decide (c = 10) then wh .out r else bif decide (c = 45) && decide (hd r = 45) then wh .fin r else wh .ins r
  | .fin, _ :: r => wh .out r
theorem hd_ne {b : List UInt8} {n : Nat} (h : hd (b.drop n) = 45) : n < b.length := by
  rcases Nat.lt_or_ge n b.length with h2 | h2
  · exact h2
  · rw [List.drop_eq_nil_of_le h2] at h; cases h
theorem skip1 {b : List UInt8} {n : Nat} (h : n < b.length) : ∃ c, b.drop n = c :: b.drop (n + 1) := ⟨_, List.drop_eq_getElem_cons h⟩
theorem white_eq (s : Str) (i : Int) (h0 : 0 ≤ i) (h1 : i ≤ s.b.length) (hl : s.b.length ≤ 1000000) : r04_white s i = some ((s.b.length : Int) - ((wh .out (s.b.drop i.toNat)).length : Int)) := by
  refine tx ?_
  unfold r04_white
  refine T.lp (fun k => i ≤ k ∧ k ≤ s.b.length ∧ wh .out (s.b.drop k.toNat) = wh .out (s.b.drop i.toNat)) (fun k => (s.b.length - k).toNat) ⟨Int.le_refl _, h1, rfl⟩ (by omega) fun L k ⟨k1, k2, k3⟩ hL => ?_
  rw [← k3] at hL ⊢
  refine T.br (fun hb => ?_) (fun hb => T.some ?_)
  rotate_left
  · have hb := of_decide_eq_false hb
    rw [List.drop_eq_nil_of_le (by omega)]
    simp only [wh, List.length_nil]; omega
  have hb := of_decide_eq_true hb
  refine T.get (by omega) hb fun y hy => ?_
  have e := dropc hy
  have e1 : (k + 1).toNat = k.toNat + 1 := by omega
  refine T.jp (fun q => q = (decide (y = 32) || decide (y = 9))) (fun J h => T.br (fun h2 => h _ (by rw [h2]; rfl)) fun h2 => T.get (by omega) hb fun y' hy' => h _ (by rw [hy] at hy'; cases hy'; rw [h2]; rfl)) fun q hq => ?_
  refine T.jp (fun q' => q' = (q || decide (y = 10))) (fun J h => T.br (fun h2 => h _ (by rw [h2]; rfl)) fun h2 => T.get (by omega) hb fun y' hy' => h _ (by rw [hy] at hy'; cases hy'; rw [h2]; rfl)) fun q' hq' => ?_
  refine T.jp (fun q2 => q2 = (q' || decide (y = 13))) (fun J h => T.br (fun h2 => h _ (by rw [h2]; rfl)) fun h2 => T.get (by omega) hb fun y' hy' => h _ (by rw [hy] at hy'; cases hy'; rw [h2]; rfl)) fun q2 hq2 => ?_
  have hw : q2 = isWh y := by rw [hq2, hq', hq]; rfl
  refine T.br (fun h2 => T.ck (by omega) ?_) fun h2 => ?_
  · refine hL _ ⟨by omega, by omega, ?_⟩ (by omega)
    rw [e1, e]; simp only [wh, ← hw, h2, cond_true]
  refine T.get (by omega) hb fun y' hy' => ?_
  rw [hy] at hy'; cases hy'
  refine T.jp (fun q => q = (decide (y = 45) && decide (hd (s.b.drop (k.toNat + 1)) = 45))) (fun J h => T.br (fun h3 => T.ck (by omega) (T.eq (at_eq s _ (by omega)) (h _ (by rw [h3, e1]; rfl)))) fun h3 => h _ (by rw [h3]; rfl)) fun q3 hq3 => ?_
  refine T.br (fun h3 => T.ck (by omega) ?_) (fun h3 => T.some ?_)
  rotate_left
  · rw [e]; simp only [wh, ← hw, h2, cond_false, ← hq3, h3, List.length_cons, List.length_drop]; omega
  have h45 : hd (s.b.drop (k.toNat + 1)) = 45 := by rw [hq3] at h3; simpa using (Bool.and_eq_true_iff.1 h3).2
  have hlt := hd_ne h45
  obtain ⟨c, ec⟩ := skip1 hlt
  have e2 : (k + 2).toNat = k.toNat + 1 + 1 := by omega
  have hins : wh .out (s.b.drop k.toNat) = wh .ins (s.b.drop (k + 2).toNat) := by
    rw [e, e2]; simp only [wh, ← hw, h2, cond_false, ← hq3, h3, cond_true]; rw [ec]; simp only [wh]
  refine T.lp (fun j => k + 2 ≤ j ∧ j ≤ s.b.length ∧ wh .out (s.b.drop k.toNat) = wh .ins (s.b.drop j.toNat)) (fun j => (s.b.length - j).toNat) ⟨Int.le_refl _, by omega, hins⟩ (by omega) fun L2 j ⟨j1, j2, j3⟩ hL2 => ?_
  refine T.jp (fun q => (q = true → j < s.b.length ∧ ∀ y, s.b[j.toNat]? = some y → y ≠ 10) ∧ (q = false → wh .out (s.b.drop j.toNat) = wh .ins (s.b.drop j.toNat))) (fun J h => T.br (fun h4 => ?_) fun h4 => h _ ⟨(fun h => by cases h), fun _ => ?_⟩) fun q hq => ?_
  · have h4 := of_decide_eq_true h4
    refine T.get (by omega) h4 fun y2 hy2 => h _ ⟨fun h5 => ⟨h4, fun y3 hy3 => ?_⟩, fun h5 => ?_⟩
    · rw [hy2] at hy3; cases hy3; simpa using h5
    · have h6 : y2 = 10 := by simpa using h5
      subst h6
      rw [dropc hy2]
      simp [wh, isWh]
  · have h4 := of_decide_eq_false h4
    rw [List.drop_eq_nil_of_le (by omega)]; simp only [wh]
  refine T.br (fun h4 => ?_) (fun h4 => hL _ ⟨by omega, j2, by rw [hq.2 h4, j3]⟩ (by omega))
  obtain ⟨hj, hne⟩ := hq.1 h4
  refine T.get (by omega) hj fun y2 hy2 => ?_
  have hy10 := hne y2 hy2
  have f := dropc hy2
  have f1 : (j + 1).toNat = j.toNat + 1 := by omega
  refine T.jp (fun q => q = (decide (y2 = 45) && decide (hd (s.b.drop (j.toNat + 1)) = 45))) (fun J h => T.br (fun h3 => T.ck (by omega) (T.eq (at_eq s _ (by omega)) (h _ (by rw [h3, f1]; rfl)))) fun h3 => h _ (by rw [h3]; rfl)) fun q4 hq4 => ?_
  refine T.br (fun h5 => T.ck (by omega) ?_) (fun h5 => T.ck (by omega) (hL2 _ ⟨by omega, by omega, ?_⟩ (by omega)))
  · have h46 : hd (s.b.drop (j.toNat + 1)) = 45 := by rw [hq4] at h5; simpa using (Bool.and_eq_true_iff.1 h5).2
    have hlt2 := hd_ne h46
    obtain ⟨c2, ec2⟩ := skip1 hlt2
    have f2 : (j + 2).toNat = j.toNat + 1 + 1 := by omega
    refine hL _ ⟨by omega, by omega, ?_⟩ (by omega)
    rw [j3, f, f2]; simp only [wh, decide_eq_false hy10, cond_false, ← hq4, h5, cond_true]; rw [ec2]; simp only [wh]
  · rw [j3, f, f1]; simp only [wh, decide_eq_false hy10, cond_false, ← hq4, h5]

/-! ### Names -/
def inName (c : UInt8) (r : List UInt8) : Bool := isLetter c || isDigit c || (decide (c = 45) && !decide (hd r = 45))
def nm : List UInt8 → Nat
  | [] => 0
  | c :: r => bif inName c r then nm r + 1 else 0
theorem nm_cons (c : UInt8) (r : List UInt8) : nm (c :: r) = bif inName c r then nm r + 1 else 0 := rfl
theorem nm_le : ∀ b : List UInt8, nm b ≤ b.length
  | [] => Nat.le_refl _
  | c :: r => by
    have := nm_le r
    unfold nm
    cases inName c r <;> simp <;> omega
def nmBad (b : List UInt8) : Bool := decide ((b.take (nm b)).getLast? = some 45) || decide (60 < nm b)
theorem last_take {b : List UInt8} {n : Nat} {y : UInt8} (hn : 0 < n) (hy : b[n - 1]? = some y) : (b.take n).getLast? = some y := by
  have hlt := (List.getElem?_eq_some_iff.1 hy).1
  rw [List.getLast?_eq_getElem?, List.length_take, List.getElem?_take, Nat.min_eq_left (by omega), if_pos (by omega), hy]
theorem name_eq (s : Str) (i : Int) (h0 : 0 ≤ i) (h1 : i < s.b.length) (hl : s.b.length ≤ 1000000) (hc : isLetter (hd (s.b.drop i.toNat)) = true) :
    r04_name s i = some (bif nmBad (s.b.drop i.toNat) then -1 else i + nm (s.b.drop i.toNat)) := by
  refine tx ?_
  unfold r04_name
  have hi0 : 0 < nm (s.b.drop i.toNat) := by
    obtain ⟨c, ec⟩ := skip1 (b := s.b) (n := i.toNat) (by omega)
    rw [ec] at hc ⊢
    unfold nm inName
    simp only [hd] at hc
    rw [hc]; simp
  refine T.lp (fun k => i ≤ k ∧ k ≤ s.b.length ∧ (nm (s.b.drop i.toNat) : Int) = k - i + nm (s.b.drop k.toNat)) (fun k => (s.b.length - k).toNat) ⟨Int.le_refl _, by omega, by omega⟩ (by omega) fun L k ⟨k1, k2, k3⟩ hL => ?_
  refine T.jp (fun q => (q = true → k < s.b.length ∧ (nm (s.b.drop i.toNat) : Int) = k + 1 - i + nm (s.b.drop (k + 1).toNat)) ∧ (q = false → (nm (s.b.drop i.toNat) : Int) = k - i)) (fun J h => ?_) fun q hq => ?_
  · refine T.br (fun hb => ?_) (fun hb => h _ ⟨(fun h => by cases h), fun _ => by
      have := of_decide_eq_false hb
      rw [List.drop_eq_nil_of_le (as := s.b) (i := k.toNat) (by omega)] at k3
      simpa [nm] using k3⟩)
    have hb := of_decide_eq_true hb
    refine T.get (by omega) hb fun y hy => ?_
    have e := dropc hy
    have e1 : (k + 1).toNat = k.toNat + 1 := by omega
    refine T.eq (letter_eq y) ?_
    refine T.jp (fun q => q = (isLetter y || isDigit y)) (fun J2 h2 => T.br (fun h3 => h2 _ (by rw [h3]; rfl)) fun h3 => T.get (by omega) hb fun y2 hy2 => T.eq (digit_eq y2) (h2 _ (by rw [hy] at hy2; cases hy2; rw [h3]; rfl))) fun q hq => ?_
    refine T.jp (fun q2 => q2 = inName y (s.b.drop (k.toNat + 1))) (fun J2 h2 => T.br (fun h3 => h2 _ (by unfold inName; rw [← hq, h3]; rfl)) fun h3 => T.get (by omega) hb fun y2 hy2 => ?_) fun q2 hq2 => ?_
    · rw [hy] at hy2; cases hy2
      refine T.jp (fun q3 => q3 = (decide (y = 45) && !decide (hd (s.b.drop (k.toNat + 1)) = 45))) (fun J3 h4 => T.br (fun h5 => T.ck (by omega) (T.eq (at_eq s _ (by omega)) (h4 _ (by rw [h5, e1]; rfl)))) fun h5 => h4 _ (by rw [h5]; rfl)) fun q3 hq3 => h2 _ ?_
      unfold inName; rw [← hq, h3, hq3]; rfl
    · rw [e, nm_cons] at k3
      refine h _ ⟨fun h3 => ⟨hb, ?_⟩, fun h3 => ?_⟩
      · rw [← hq2, h3, cond_true] at k3
        rw [e1]; omega
      · rw [← hq2, h3, cond_false] at k3
        omega
  refine T.br (fun hb => T.ck (by have := hq.1 hb; omega) (hL _ ⟨by omega, by have := hq.1 hb; omega, (hq.1 hb).2⟩ (by have := hq.1 hb; omega))) fun hb => ?_
  have hn := hq.2 hb
  refine T.ck (by omega) (T.get (by omega) (by omega) fun y hy => ?_)
  have hlast : ((s.b.drop i.toNat).take (nm (s.b.drop i.toNat))).getLast? = some y := by
    refine last_take hi0 ?_
    rw [List.getElem?_drop]
    have : i.toNat + (nm (s.b.drop i.toNat) - 1) = (k - 1).toNat := by omega
    rw [this, hy]
  refine T.jp (fun q => q = nmBad (s.b.drop i.toNat)) (fun J h => T.br (fun h3 => h _ ?_) fun h3 => T.ck (by omega) (h _ ?_)) fun q hq => ?_
  · unfold nmBad
    rw [hlast]
    have := of_decide_eq_true h3
    subst this; rfl
  · unfold nmBad
    rw [hlast]
    have := of_decide_eq_false h3
    have e : decide (some y = some (45 : UInt8)) = false := by simpa using this
    rw [e, Bool.false_or, decide_eq_decide]
    omega
  · rw [← hq]
    exact T.br (fun h3 => T.some (by rw [h3]; rfl)) fun h3 => T.some (by rw [h3, cond_false]; omega)
end Go.Proofs.YtnnijoepfgnlfaaDoor


namespace Go.Proofs.YtnnijoepfgnlfaaDoor
open Go.Sy
set_option linter.unusedVariables false

theorem seg {b : List UInt8} {i k : Nat} : (b.take k).drop i = (b.drop i).take (k - i) := by rw [List.drop_take]
theorem get_drop {b : List UInt8} {i n : Nat} {y : UInt8} (h : b[i + n]? = some y) : (b.drop i)[n]? = some y := by rw [List.getElem?_drop, h]
theorem take_snoc {b : List UInt8} {n : Nat} {y : UInt8} (h : b[n]? = some y) : b.take (n + 1) = b.take n ++ [y] := by rw [List.take_add_one, h]; rfl

/-! ### Numbers -/
def dg : List UInt8 → Nat
  | [] => 0
  | c :: r => bif isDigit c then dg r + 1 else 0
theorem dg_cons (c : UInt8) (r : List UInt8) : dg (c :: r) = bif isDigit c then dg r + 1 else 0 := rfl
theorem dg_le : ∀ b : List UInt8, dg b ≤ b.length
  | [] => Nat.le_refl _
  | c :: r => by
    have := dg_le r
    rw [dg_cons]
    cases isDigit c <;> simp <;> omega
def numBad (m : Bool) (d : List UInt8) : Bool :=
  decide (dg d < 1) || decide (19 < dg d) || (decide (1 < dg d) && decide (hd d = 48)) || (m && decide (hd d = 48)) || isLetter (hd (d.drop (dg d))) ||
    decide (9223372036854775808 < uval (d.take (dg d))) || (!m && decide (uval (d.take (dg d)) = 9223372036854775808))
def numLen (b : List UInt8) : Option Nat :=
  bif decide (hd b = 45) then bif numBad true (b.drop 1) then none else some (dg (b.drop 1) + 1)
  else bif numBad false b then none else some (dg b)
theorem number_eq (s : Str) (i : Int) (h0 : 0 ≤ i) (h1 : i < s.b.length) (hl : s.b.length ≤ 1000000) :
    r04_number s i = some (match numLen (s.b.drop i.toNat) with
      | none => -1
      | some n => i + (n : Int)) := by
  refine tx ?_
  unfold r04_number
  refine T.get h0 h1 fun y1 hy1 => ?_
  have hd1 : hd (s.b.drop i.toNat) = y1 := by rw [dropc hy1]; rfl
  refine T.jp (fun f => i ≤ f ∧ f ≤ i + 1 ∧ numLen (s.b.drop i.toNat) = (bif numBad (decide (y1 = 45)) (s.b.drop f.toNat) then none else some (dg (s.b.drop f.toNat) + (f - i).toNat))) (fun J h => T.br (fun hb => T.ck (by omega) (h _ ⟨by omega, by omega, ?_⟩)) fun hb => h _ ⟨by omega, by omega, ?_⟩) fun f ⟨f1, f2, f3⟩ => ?_
  · have e1 : (i + 1).toNat = i.toNat + 1 := by omega
    have e2 : (i + 1 - i).toNat = 1 := by omega
    unfold numLen
    rw [hd1, hb, cond_true, e1, e2, List.drop_drop]
  · have e2 : (i - i).toNat = 0 := by omega
    unfold numLen
    rw [hd1, hb, cond_false, e2, Nat.add_zero]
  have hfl : f ≤ s.b.length := by omega
  have hgoal : ∀ k : Int, (dg (s.b.drop f.toNat) : Int) = k - f → (match numLen (s.b.drop i.toNat) with
      | none => -1
      | some n => i + (n : Int)) = bif numBad (decide (y1 = 45)) (s.b.drop f.toNat) then -1 else k := by
    intro k hk
    rw [f3]
    cases numBad (decide (y1 = 45)) (s.b.drop f.toNat) with
    | true => rfl
    | false =>
      show i + ((dg (s.b.drop f.toNat) + (f - i).toNat : Nat) : Int) = k
      omega
  refine T.lp (ι := Int × UInt64) (fun q => f ≤ q.1 ∧ q.1 ≤ s.b.length ∧ (dg (s.b.drop f.toNat) : Int) = q.1 - f + dg (s.b.drop q.1.toNat) ∧ (q.1 - f ≤ 19 → q.2 = uval ((s.b.drop f.toNat).take (q.1.toNat - f.toNat)))) (fun q => (s.b.length - q.1).toNat)
    ⟨Int.le_refl _, hfl, by dsimp only; omega, fun _ => by rw [Nat.sub_self]; rfl⟩ (by simp only; omega) fun L q hq hL => ?_
  obtain ⟨k, v⟩ := q
  obtain ⟨hq1, hq2, hq3, hq4⟩ := hq
  simp only at hq1 hq2 hq3 hq4 ⊢
  refine T.jp (fun b => (b = true → k < s.b.length ∧ (dg (s.b.drop f.toNat) : Int) = k + 1 - f + dg (s.b.drop (k + 1).toNat)) ∧ (b = false → (dg (s.b.drop f.toNat) : Int) = k - f)) (fun J h => ?_) fun b hb => ?_
  · refine T.br (fun h2 => ?_) fun h2 => h _ ⟨(fun h => by cases h), fun _ => ?_⟩
    · have h2 := of_decide_eq_true h2
      have ek : (k + 1).toNat = k.toNat + 1 := by omega
      refine T.get (by omega) h2 fun y hy => T.eq (digit_eq y) (h _ ?_)
      rw [dropc hy, dg_cons] at hq3
      rw [ek]
      refine ⟨fun hd => ⟨h2, ?_⟩, fun hd => ?_⟩
      · rw [hd, cond_true] at hq3; omega
      · rw [hd, cond_false] at hq3; omega
    · have h2 := of_decide_eq_false h2
      rw [List.drop_eq_nil_of_le (as := s.b) (i := k.toNat) (by omega)] at hq3
      simpa [dg] using hq3
  refine T.br (fun h2 => ?_) fun h2 => ?_
  · obtain ⟨hk, hd⟩ := hb.1 h2
    obtain ⟨y, hy⟩ : ∃ y, s.b[k.toNat]? = some y := ⟨_, List.getElem?_eq_getElem (by omega)⟩
    have hsn := take_snoc (b := s.b.drop f.toNat) (n := k.toNat - f.toNat) (y := y) (get_drop (by rw [show f.toNat + (k.toNat - f.toNat) = k.toNat by omega, hy]))
    have hk1 : (k + 1).toNat - f.toNat = k.toNat - f.toNat + 1 := by omega
    refine T.ck (by omega) (T.jp (fun u => k - f < 19 → u = 10 * v + (y - 48).toUInt64) (fun J h => T.br (fun _ => ?_) fun h3 => h _ fun h4 => by have := of_decide_eq_false h3; omega) fun u hu => T.ck (by omega) (hL _ ?_ (by simp only; omega)))
    · exact T.get (by omega) hk fun y' hy' => h _ fun _ => by rw [hy] at hy'; cases hy'; rfl
    · refine ⟨by simp only; omega, by simp only; omega, hd, fun h19 => ?_⟩
      simp only at h19 ⊢
      rw [hk1, hsn, uval_snoc, hu (by omega), hq4 (by omega)]
  have hn := hb.2 h2
  rw [hgoal k hn]
  refine T.ck (by omega) ?_
  have hdn : dg (s.b.drop f.toNat) = k.toNat - f.toNat := by omega
  have hyf : 1 ≤ k - f → ∀ y, s.b[f.toNat]? = some y → hd (s.b.drop f.toNat) = y := fun _ y hy => by rw [dropc hy]; rfl
  refine T.jp (fun b => b = (decide (dg (s.b.drop f.toNat) < 1) || decide (19 < dg (s.b.drop f.toNat)))) (fun J h => T.br (fun h3 => h _ ?_) fun h3 => h _ ?_) fun b1 hb1 => ?_
  · have := of_decide_eq_true h3; rw [decide_eq_true (by omega)]; rfl
  · have := of_decide_eq_false h3; rw [decide_eq_false (show ¬ dg (s.b.drop f.toNat) < 1 by omega), Bool.false_or, decide_eq_decide]; omega
  refine T.jp (fun b => b = (b1 || (decide (1 < dg (s.b.drop f.toNat)) && decide (hd (s.b.drop f.toNat) = 48)))) (fun J h => T.br (fun h3 => h _ (by rw [h3]; rfl)) fun h3 => ?_) fun b2 hb2 => ?_
  · refine T.jp (fun b => b = (decide (1 < dg (s.b.drop f.toNat)) && decide (hd (s.b.drop f.toNat) = 48))) (fun J3 h4 => T.br (fun h5 => ?_) fun h5 => h4 _ ?_) fun b hb => h _ (by rw [h3, hb]; rfl)
    · have h5 := of_decide_eq_true h5
      exact T.get (by omega) (by omega) fun y hy => h4 _ (by rw [decide_eq_true (show 1 < dg (s.b.drop f.toNat) by omega), hyf (by omega) y hy]; rfl)
    · have h5 := of_decide_eq_false h5
      rw [decide_eq_false (show ¬ 1 < dg (s.b.drop f.toNat) by omega)]; rfl
  refine T.jp (fun b => b = (b2 || (decide (y1 = 45) && decide (hd (s.b.drop f.toNat) = 48)))) (fun J h => T.br (fun h3 => h _ (by rw [h3]; rfl)) fun h3 => ?_) fun b3 hb3 => ?_
  · have hge : 1 ≤ k - f := by
      have e1 := (Bool.or_eq_false_iff.1 (hb2.symm.trans h3)).1
      have := of_decide_eq_false (Bool.or_eq_false_iff.1 (hb1.symm.trans e1)).1
      omega
    refine T.jp (fun b => b = (decide (y1 = 45) && decide (hd (s.b.drop f.toNat) = 48))) (fun J3 h4 => T.br (fun h5 => ?_) fun h5 => h4 _ (by rw [h5]; rfl)) fun b hb => h _ (by rw [h3, hb]; rfl)
    exact T.get (by omega) (by omega) fun y hy => h4 _ (by rw [h5, hyf hge y hy]; rfl)
  have hat : r04_at s k = some (hd ((s.b.drop f.toNat).drop (dg (s.b.drop f.toNat)))) := by
    rw [at_eq s k (by omega), List.drop_drop, hdn]
    congr 3; omega
  refine T.jp (fun b => b = (b3 || isLetter (hd ((s.b.drop f.toNat).drop (dg (s.b.drop f.toNat)))))) (fun J h => T.br (fun h3 => h _ (by rw [h3]; rfl)) fun h3 => T.eq hat (T.eq (letter_eq _) (h _ (by rw [h3]; rfl)))) fun b4 hb4 => ?_
  have hv : b4 = false → v = uval ((s.b.drop f.toNat).take (dg (s.b.drop f.toNat))) := fun h => by
    have e3 := (Bool.or_eq_false_iff.1 (hb4.symm.trans h)).1
    have e2 := (Bool.or_eq_false_iff.1 (hb3.symm.trans e3)).1
    have e1 := (Bool.or_eq_false_iff.1 (hb2.symm.trans e2)).1
    have := of_decide_eq_false (Bool.or_eq_false_iff.1 (hb1.symm.trans e1)).2
    rw [hdn]; exact hq4 (by omega)
  refine T.jp (fun b => b = (b4 || decide (9223372036854775808 < uval ((s.b.drop f.toNat).take (dg (s.b.drop f.toNat)))))) (fun J h => T.br (fun h3 => h _ (by rw [h3]; rfl)) fun h3 => h _ (by rw [h3, hv h3]; rfl)) fun b5 hb5 => ?_
  refine T.jp (fun b => b = (b5 || (!decide (y1 = 45) && decide (uval ((s.b.drop f.toNat).take (dg (s.b.drop f.toNat))) = 9223372036854775808)))) (fun J h => T.br (fun h3 => h _ (by rw [h3]; rfl)) fun h3 => ?_) fun b6 hb6 => ?_
  · have e4 := (Bool.or_eq_false_iff.1 (hb5.symm.trans h3)).1
    refine T.jp (fun b => b = (!decide (y1 = 45) && decide (uval ((s.b.drop f.toNat).take (dg (s.b.drop f.toNat))) = 9223372036854775808))) (fun J3 h4 => T.br (fun h5 => h4 _ (by rw [h5, hv e4]; rfl)) fun h5 => h4 _ (by rw [h5]; rfl)) fun b hb => h _ (by rw [h3, hb]; rfl)
  have hall : b6 = numBad (decide (y1 = 45)) (s.b.drop f.toNat) := by
    rw [hb6, hb5, hb4, hb3, hb2, hb1]; rfl
  rw [← hall]
  exact T.br (fun h3 => T.some (by rw [h3]; rfl)) fun h3 => T.some (by rw [h3]; rfl)

/-! ### Hexes -/
def isHex (c : UInt8) : Bool := isDigit c || (decide (65 ≤ c) && decide (c ≤ 70))
def hx : List UInt8 → Nat
  | [] => 0
  | c :: r => bif isHex c then hx r + 1 else 0
theorem hx_cons (c : UInt8) (r : List UInt8) : hx (c :: r) = bif isHex c then hx r + 1 else 0 := rfl
def hexBad (r : List UInt8) : Bool := !decide (hx r % 2 = 0) || !decide (hd (r.drop (hx r)) = 39) || !decide (hd (r.drop (hx r + 1)) = 72)
theorem hd_lt {b : List UInt8} {n : Nat} (h : hd (b.drop n) ≠ 0) : n < b.length := by
  rcases Nat.lt_or_ge n b.length with h2 | h2
  · exact h2
  · rw [List.drop_eq_nil_of_le h2] at h; exact absurd rfl h
theorem hex_eq (s : Str) (i : Int) (h0 : 0 ≤ i) (h1 : i < s.b.length) (hl : s.b.length ≤ 1000000) :
    r04_hex s i = some (bif hexBad (s.b.drop (i.toNat + 1)) then (-1, ⟨[]⟩) else (i + 1 + (hx (s.b.drop (i.toNat + 1)) : Int) + 2, ⟨(s.b.drop (i.toNat + 1)).take (hx (s.b.drop (i.toNat + 1)))⟩)) := by
  refine tx ?_
  unfold r04_hex
  have e0 : (i + 1).toNat = i.toNat + 1 := by omega
  refine T.ck (by omega) (T.lp (fun (k : Int) => i + 1 ≤ k ∧ k ≤ (s.b.length : Int) ∧ (hx (s.b.drop (i.toNat + 1)) : Int) = k - (i + 1) + hx (s.b.drop k.toNat)) (fun (k : Int) => ((s.b.length : Int) - k).toNat) ⟨Int.le_refl _, by omega, by rw [e0]; omega⟩ (by omega) fun L k ⟨k1, k2, k3⟩ hL => ?_)
  refine T.jp (fun b => (b = true → k < s.b.length ∧ (hx (s.b.drop (i.toNat + 1)) : Int) = k + 1 - (i + 1) + hx (s.b.drop (k + 1).toNat)) ∧ (b = false → (hx (s.b.drop (i.toNat + 1)) : Int) = k - (i + 1))) (fun J h => T.br (fun h2 => ?_) fun h2 => h _ ⟨(fun h => by cases h), fun _ => ?_⟩) fun b hb => ?_
  · have h2 := of_decide_eq_true h2
    refine T.get (by omega) h2 fun y hy => T.eq (digit_eq y) ?_
    have ek : (k + 1).toNat = k.toNat + 1 := by omega
    refine T.jp (fun q => q = isHex y) (fun J2 h3 => T.br (fun h4 => h3 _ (by unfold isHex; rw [h4]; rfl)) fun h4 => T.get (by omega) h2 fun y' hy' => ?_) fun q hq => h _ ?_
    · rw [hy] at hy'; cases hy'
      refine T.jp (fun q => q = (decide (65 ≤ y) && decide (y ≤ 70))) (fun J4 h5 => T.br (fun h6 => T.get (by omega) h2 fun y' hy' => h5 _ (by rw [hy] at hy'; cases hy'; rw [h6]; rfl)) fun h6 => h5 _ (by rw [h6]; rfl)) fun q hq => h3 _ (by unfold isHex; rw [h4, hq]; rfl)
    · subst hq
      rw [dropc hy, hx_cons] at k3
      rw [ek]
      refine ⟨fun hd => ⟨h2, ?_⟩, fun hd => ?_⟩
      · rw [hd, cond_true] at k3; omega
      · rw [hd, cond_false] at k3; omega
  · have h2 := of_decide_eq_false h2
    rw [List.drop_eq_nil_of_le (as := s.b) (i := k.toNat) (by omega)] at k3
    simpa [hx] using k3
  refine T.br (fun h2 => T.ck (by have := hb.1 h2; omega) (hL _ ⟨by have := hb.1 h2; omega, by have := hb.1 h2; omega, (hb.1 h2).2⟩ (by have := hb.1 h2; omega))) fun h2 => ?_
  have hn := hb.2 h2
  have hdk : (s.b.drop (i.toNat + 1)).drop (hx (s.b.drop (i.toNat + 1))) = s.b.drop k.toNat := by rw [List.drop_drop]; congr 1; omega
  have hdk1 : (s.b.drop (i.toNat + 1)).drop (hx (s.b.drop (i.toNat + 1)) + 1) = s.b.drop (k + 1).toNat := by rw [List.drop_drop]; congr 1; omega
  refine T.ck (by omega) (T.asr rfl ?_)
  have hmod : decide ((k - (i + 1)).tmod 2 = 0) = decide (hx (s.b.drop (i.toNat + 1)) % 2 = 0) := by
    rw [decide_eq_decide, Int.tmod_eq_emod_of_nonneg (by omega)]
    omega
  refine T.jp (fun b => b = (!decide (hx (s.b.drop (i.toNat + 1)) % 2 = 0) || !decide (hd (s.b.drop k.toNat) = 39))) (fun J h => T.br (fun h3 => h _ (by rw [← hmod, h3]; rfl)) fun h3 => T.eq (at_eq s k (by omega)) (h _ (by rw [← hmod, h3]; rfl))) fun b1 hb1 => ?_
  refine T.jp (fun b => b = hexBad (s.b.drop (i.toNat + 1))) (fun J h => T.br (fun h3 => h _ ?_) fun h3 => T.ck (by omega) (T.eq (at_eq s (k + 1) (by omega)) (h _ ?_))) fun b2 hb2 => ?_
  · unfold hexBad; rw [hdk, ← hb1, h3]; rfl
  · unfold hexBad; rw [hdk, hdk1, ← hb1, h3]; rfl
  rw [← hb2]
  refine T.br (fun h3 => T.some (by rw [h3]; rfl)) fun h3 => ?_
  have hlt : k + 1 < s.b.length := by
    rw [h3] at hb2
    unfold hexBad at hb2
    have := (Bool.or_eq_false_iff.1 hb2.symm).2
    have h72 : hd (s.b.drop (k + 1).toNat) = 72 := by rw [hdk1] at this; simpa using this
    have := hd_lt (b := s.b) (n := (k + 1).toNat) (by rw [h72]; decide)
    omega
  refine T.ck (by omega) (T.asd (by omega) (T.some ?_))
  rw [h3, cond_false, seg, e0]
  have e5 : k.toNat - (i.toNat + 1) = hx (s.b.drop (i.toNat + 1)) := by omega
  rw [e5, hn]
  have e6 : i + 1 + (k - (i + 1)) + 2 = k + 2 := by omega
  rw [e6]

/-! ### Strings -/
def qd : Bool → List UInt8 → List UInt8 → Option (List UInt8 × List UInt8)
  | _, [], _ => none
  | true, _ :: r, acc => qd false r (acc ++ [34])
  | false, c :: r, acc => bif decide (c = 34) then bif decide (hd r = 34) then qd true r acc else bif Lib.validD acc then some (acc, r) else none else qd false r (acc ++ [c])
theorem quoted_eq (s : Str) (i : Int) (h0 : 0 ≤ i) (h1 : i < s.b.length) (hl : s.b.length ≤ 1000000) :
    r04_quoted s i = some (match qd false (s.b.drop (i.toNat + 1)) [] with
      | none => (-1, ⟨[]⟩)
      | some (t, r) => ((s.b.length : Int) - (r.length : Int), ⟨t⟩)) := by
  refine tx ?_
  unfold r04_quoted
  have e0 : (i + 1).toNat = i.toNat + 1 := by omega
  refine T.ck (by omega) (T.lp (ι := Int × Str) (fun q => i + 1 ≤ q.1 ∧ q.1 ≤ s.b.length + 1 ∧ (q.2.b.length : Int) < q.1 ∧ qd false (s.b.drop (i.toNat + 1)) [] = qd false (s.b.drop q.1.toNat) q.2.b) (fun q => (s.b.length + 1 - q.1).toNat) ⟨Int.le_refl _, by dsimp only; omega, by dsimp only; simp only [List.length_nil]; omega, by dsimp only; rw [e0]⟩ (by dsimp only; omega) fun L q hq hL => ?_)
  obtain ⟨k, o⟩ := q
  obtain ⟨hq1, hq2, hq3, hq4⟩ := hq
  simp only at hq1 hq2 hq3 hq4 ⊢
  rw [hq4] at hL ⊢
  refine T.br (fun h2 => ?_) fun h2 => T.some ?_
  rotate_left
  · have h2 := of_decide_eq_false h2
    rw [List.drop_eq_nil_of_le (by omega)]; simp only [qd]
  have h2 := of_decide_eq_true h2
  have ek : (k + 1).toNat = k.toNat + 1 := by omega
  refine T.jp (fun (q : Int × Str) => k ≤ q.1 ∧ q.1 < (s.b.length : Int) ∧ (q.2.b.length : Int) < q.1 + 1 ∧ qd false (s.b.drop k.toNat) o.b = qd false (s.b.drop (q.1 + 1).toNat) q.2.b) (fun J h => ?_) fun q hq => ?_
  · refine T.get (by omega) h2 fun y hy => T.br (fun h3 => ?_) fun h3 => ?_
    · have h34 : decide (y = 34) = false := by simpa using h3
      have ey : (s.b.take (k + 1).toNat).drop k.toNat = [y] := by
        rw [seg, ek, dropc hy, show k.toNat + 1 - k.toNat = 1 by omega]; rfl
      refine T.ck (by omega) (T.asd (by omega) (T.abl ?_ (h _ ⟨Int.le_refl _, h2, ?_, ?_⟩)))
      · simp only [List.length_drop, List.length_take]; omega
      · simp only [List.length_append, List.length_drop, List.length_take]; omega
      · dsimp only
        rw [ey, ek]
        conv => lhs; rw [dropc hy]
        simp only [qd, h34, cond_false]
    · have h34 : decide (y = 34) = true := by simpa using h3
      refine T.ck (by omega) (T.eq (at_eq s (k + 1) (by omega)) (T.br (fun h4 => ?_) fun h4 => ?_))
      · have hn : decide (hd (s.b.drop (k.toNat + 1)) = 34) = false := by rw [ek] at h4; simpa using h4
        refine T.eq rfl (T.br (fun h5 => T.some ?_) fun h5 => T.ck (by omega) (T.some ?_))
        · have h5 : Lib.validD o.b = false := by simpa using h5
          conv => rhs; rw [dropc hy]
          simp only [qd, h34, cond_true, hn, cond_false, h5]
        · have h5 : Lib.validD o.b = true := by simpa using h5
          conv => rhs; rw [dropc hy]
          simp only [qd, h34, cond_true, hn, cond_false, h5, List.length_drop]
          congr 1; omega
      · have hn : hd (s.b.drop (k.toNat + 1)) = 34 := by rw [ek] at h4; simpa using h4
        have hlt := hd_lt (b := s.b) (n := k.toNat + 1) (by rw [hn]; decide)
        obtain ⟨c, ec⟩ := skip1 hlt
        refine T.abl ?_ (T.ck (by omega) (h _ ⟨by dsimp only; omega, by dsimp only; omega, ?_, ?_⟩))
        · simp only [List.length_cons, List.length_nil]; omega
        · simp only [List.length_append, List.length_cons, List.length_nil]; omega
        · dsimp only
          rw [show (k + 1 + 1).toNat = k.toNat + 1 + 1 by omega]
          conv => lhs; rw [dropc hy]
          simp only [qd, h34, cond_true, decide_eq_true hn]
          rw [ec]; simp only [qd]
  · exact T.ck (by omega) (hL _ ⟨by dsimp only; omega, by dsimp only; omega, hq.2.2.1, hq.2.2.2⟩ (by dsimp only; omega))
end Go.Proofs.YtnnijoepfgnlfaaDoor


namespace Go.Proofs.YtnnijoepfgnlfaaDoor
open Go.Sy
set_option linter.unusedVariables false

/-! ### Signs -/
def isPre : List UInt8 → List UInt8 → Bool
  | [], _ => true
  | _ :: _, [] => false
  | p :: ps, c :: r => bif decide (p = c) then isPre ps r else false
def sgF : List (List UInt8) → List UInt8 → Nat
  | [], _ => 0
  | p :: ps, b => bif isPre p b then p.length else sgF ps b
def sgs : List (List UInt8) := [[58, 58, 61], [46, 46, 46], [46, 46], [91, 91], [93, 93], [123], [125], [91], [93], [40], [41], [44], [58]]
def sg (b : List UInt8) : Nat := sgF sgs b
theorem isPre_iff : ∀ (p b : List UInt8), isPre p b = true ↔ p.length ≤ b.length ∧ b.take p.length = p
  | [], b => by simp [isPre]
  | _ :: _, [] => by simp [isPre]
  | p :: ps, c :: r => by
    have ih := isPre_iff ps r
    unfold isPre
    by_cases h : p = c
    · subst h; simp [ih]
    · simp only [decide_eq_false h, cond_false, List.length_cons, List.take_succ_cons, List.cons.injEq]
      exact ⟨(fun h => by cases h), fun h2 => absurd h2.2.1.symm h⟩
theorem sgs_get {k : Nat} {y : Str} (h : ([(Str.mk [58, 58, 61]), (Str.mk [46, 46, 46]), (Str.mk [46, 46]), (Str.mk [91, 91]), (Str.mk [93, 93]), (Str.mk [123]), (Str.mk [125]), (Str.mk [91]), (Str.mk [93]), (Str.mk [40]), (Str.mk [41]), (Str.mk [44]), (Str.mk [58])] : List Str)[k]? = some y) : sgs.drop k = y.b :: sgs.drop (k + 1) := by
  have e : ([(Str.mk [58, 58, 61]), (Str.mk [46, 46, 46]), (Str.mk [46, 46]), (Str.mk [91, 91]), (Str.mk [93, 93]), (Str.mk [123]), (Str.mk [125]), (Str.mk [91]), (Str.mk [93]), (Str.mk [40]), (Str.mk [41]), (Str.mk [44]), (Str.mk [58])] : List Str) = sgs.map Str.mk := rfl
  rw [e, List.getElem?_map] at h
  obtain ⟨z, h1, h2⟩ := Option.map_eq_some_iff.1 h
  subst h2
  obtain ⟨h3, h4⟩ := List.getElem?_eq_some_iff.1 h1
  rw [List.drop_eq_getElem_cons h3, h4]
theorem sign_eq (s : Str) (i : Int) (h0 : 0 ≤ i) (h1 : i < s.b.length) (hl : s.b.length ≤ 1000000) : r04_sign s i = some ((sg (s.b.drop i.toNat) : Nat) : Int) := by
  refine tx ?_
  unfold r04_sign
  refine T.asd (by omega) (T.lp (fun (k : Int) => 0 ≤ k ∧ k ≤ 13 ∧ sgF (sgs.drop k.toNat) (s.b.drop i.toNat) = sg (s.b.drop i.toNat)) (fun (k : Int) => (13 - k).toNat) ⟨Int.le_refl _, by omega, rfl⟩ (by omega) fun L k ⟨k1, k2, k3⟩ hL => ?_)
  have er : (s.b.take ((s.b.length : Int)).toNat).drop i.toNat = s.b.drop i.toNat := by rw [List.take_of_length_le (by omega)]
  refine T.br (fun h2 => ?_) fun h2 => T.some ?_
  rotate_left
  · have h2 : ¬ k < 13 := of_decide_eq_false h2
    have : k = 13 := by omega
    subst this
    rw [← k3]; rfl
  have h2 := of_decide_eq_true h2
  refine T.get k1 h2 fun y hy => ?_
  have hs := sgs_get hy
  rw [hs] at k3
  unfold sgF at k3
  rw [er]
  refine T.jp (fun b => b = isPre y.b (s.b.drop i.toNat)) (fun J h => T.br (fun h3 => ?_) fun h3 => h _ ?_) fun b hb => ?_
  · have h3 := of_decide_eq_true h3
    refine T.asd ⟨Int.le_refl _, by omega, h3⟩ (T.get k1 h2 fun y2 hy2 => h _ ?_)
    rw [hy] at hy2; cases hy2
    have h4 : y.b.length ≤ (s.b.drop i.toNat).length := by simp only [List.length_drop] at h3 ⊢; omega
    rw [Bool.eq_iff_iff, decide_eq_true_eq, isPre_iff]
    constructor
    · intro h5
      refine ⟨h4, ?_⟩
      have := congrArg Str.b h5
      simpa using this
    · intro h5
      obtain ⟨yb⟩ := y
      simp only [Str.mk.injEq]
      simpa using h5.2
  · have h3 := of_decide_eq_false h3
    symm
    rw [Bool.eq_false_iff]
    intro h5
    have := (isPre_iff _ _).1 h5
    simp only [List.length_drop] at h3 this
    omega
  · rw [hb]
    refine T.br (fun h3 => T.some ?_) fun h3 => T.ck (by have h2 : k < 13 := h2; omega) (hL _ ⟨by omega, by have h2 : k < 13 := h2; omega, ?_⟩ (by have h2 : k < 13 := h2; omega))
    · rw [h3, cond_true] at k3; rw [← k3]
    · rw [h3, cond_false] at k3
      have e : (k + 1).toNat = k.toNat + 1 := by omega
      rw [e, k3]

/-! ### Words -/
def wordsL : List Str := [(Str.mk [68, 69, 70, 73, 78, 73, 84, 73, 79, 78, 83]), (Str.mk [69, 88, 80, 76, 73, 67, 73, 84]), (Str.mk [73, 77, 80, 76, 73, 67, 73, 84]), (Str.mk [65, 85, 84, 79, 77, 65, 84, 73, 67]), (Str.mk [84, 65, 71, 83]), (Str.mk [66, 69, 71, 73, 78]), (Str.mk [69, 78, 68]), (Str.mk [66, 79, 79, 76, 69, 65, 78]), (Str.mk [73, 78, 84, 69, 71, 69, 82]), (Str.mk [69, 78, 85, 77, 69, 82, 65, 84, 69, 68]), (Str.mk [78, 85, 76, 76]), (Str.mk [79, 67, 84, 69, 84]), (Str.mk [83, 84, 82, 73, 78, 71]), (Str.mk [85, 84, 70, 56, 83, 116, 114, 105, 110, 103]), (Str.mk [83, 69, 81, 85, 69, 78, 67, 69]), (Str.mk [83, 69, 84]), (Str.mk [67, 72, 79, 73, 67, 69]), (Str.mk [79, 70]), (Str.mk [79, 80, 84, 73, 79, 78, 65, 76]), (Str.mk [68, 69, 70, 65, 85, 76, 84]), (Str.mk [83, 73, 90, 69]), (Str.mk [77, 73, 78]), (Str.mk [77, 65, 88]), (Str.mk [84, 82, 85, 69]), (Str.mk [70, 65, 76, 83, 69])]
def sameB : List UInt8 → List UInt8 → Bool
  | [], [] => true
  | a :: r, b :: t => bif decide (a = b) then sameB r t else false
  | _, _ => false
theorem sameB_iff : ∀ a b : List UInt8, sameB a b = true ↔ a = b
  | [], [] => by simp [sameB]
  | [], _ :: _ => by simp [sameB]
  | _ :: _, [] => by simp [sameB]
  | a :: r, b :: t => by
    have ih := sameB_iff r t
    unfold sameB
    by_cases h : a = b
    · subst h; simp [ih]
    · simp [h]
def isWord (t : List UInt8) : Bool := wordsL.any fun w => sameB w.b t
theorem word_eq (s : Str) : r04_Word s = some (isWord s.b) := by
  refine tx ?_
  unfold r04_Word
  refine T.eq (y := wordsL) rfl (T.cal (in_string_tot wordsL s (by decide)) fun y _ hy => T.some ?_)
  rw [hy, Bool.eq_iff_iff, decide_eq_true_eq]
  unfold isWord
  rw [List.any_eq_true]
  constructor
  · intro h; exact ⟨s, h, (sameB_iff _ _).2 rfl⟩
  · rintro ⟨w, h1, h2⟩
    have := (sameB_iff _ _).1 h2
    obtain ⟨wb⟩ := w; obtain ⟨sb⟩ := s
    simp only at this; subst this; exact h1

/-! ### One sign, all signs -/
/-- The kind and the text of what comes first, and what is left behind it. -/
def oneS (b : List UInt8) : Option (Int × List UInt8 × List UInt8) :=
  let c := hd b
  bif isLetter c then bif nmBad b then none else some (bif isWord (b.take (nm b)) then 5 else bif decide (c ≤ 90) then 1 else 2, b.take (nm b), b.drop (nm b))
  else bif isDigit c || (decide (c = 45) && isDigit (hd (b.drop 1))) then match numLen b with
    | none => none
    | some n => some (3, b.take n, b.drop n)
  else bif decide (c = 39) then bif hexBad (b.drop 1) then none else some (4, (b.drop 1).take (hx (b.drop 1)), (b.drop 1).drop (hx (b.drop 1) + 2))
  else bif decide (c = 34) then match qd false (b.drop 1) [] with
    | none => none
    | some (t, r) => some (7, t, r)
  else bif decide (0 < sg b) then some (6, b.take (sg b), b.drop (sg b)) else none
theorem qd_len : ∀ (b : List UInt8) (f : Bool) (acc t r : List UInt8), qd f b acc = some (t, r) → r.length < b.length
  | [], f, acc, t, r, h => by cases f <;> simp [qd] at h
  | c :: b, true, acc, t, r, h => by
    simp only [qd] at h
    have := qd_len b _ _ _ _ h
    simp; omega
  | c :: b, false, acc, t, r, h => by
    simp only [qd] at h
    by_cases h1 : c = 34
    · simp only [decide_eq_true h1, cond_true] at h
      by_cases h2 : hd b = 34
      · simp only [decide_eq_true h2, cond_true] at h
        have := qd_len b _ _ _ _ h
        simp; omega
      · simp only [decide_eq_false h2, cond_false] at h
        cases hv : Lib.validD acc with
        | true => rw [hv] at h; simp at h; rw [← h.2]; simp
        | false => rw [hv] at h; cases h
    · simp only [decide_eq_false h1, cond_false] at h
      have := qd_len b _ _ _ _ h
      simp; omega
theorem numLen_bd {b : List UInt8} {n : Nat} (h : numLen b = some n) : 0 < n ∧ n ≤ b.length := by
  unfold numLen at h
  by_cases h1 : hd b = 45
  · simp only [decide_eq_true h1, cond_true] at h
    cases hb : numBad true (b.drop 1) with
    | true => rw [hb] at h; cases h
    | false =>
      rw [hb] at h; simp only [cond_false, Option.some.injEq] at h
      have := dg_le (b.drop 1)
      rw [List.length_drop] at this
      have : b ≠ [] := fun e => by rw [e] at h1; cases h1
      have := List.length_pos_iff.2 this
      omega
  · simp only [decide_eq_false h1, cond_false] at h
    cases hb : numBad false b with
    | true => rw [hb] at h; cases h
    | false =>
      rw [hb] at h; simp at h
      have := dg_le b
      have : decide (dg b < 1) = false := by
        unfold numBad at hb
        simp only [Bool.or_eq_false_iff] at hb
        exact hb.1.1.1.1.1.1
      have := of_decide_eq_false this
      omega
theorem nm_pos {b : List UInt8} (h : isLetter (hd b) = true) : 0 < nm b := by
  cases b with
  | nil => simp [hd, isLetter] at h
  | cons c r =>
    rw [nm_cons]
    simp only [hd] at h
    unfold inName
    rw [h]; simp
theorem sg_le : ∀ (l : List (List UInt8)) (b : List UInt8), sgF l b ≤ b.length
  | [], b => Nat.zero_le _
  | p :: ps, b => by
    unfold sgF
    cases h : isPre p b with
    | true => exact ((isPre_iff _ _).1 h).1
    | false => exact sg_le ps b
theorem oneS_len {b t r : List UInt8} {k : Int} (h : oneS b = some (k, t, r)) : r.length < b.length := by
  unfold oneS at h
  simp only at h
  cases h1 : isLetter (hd b) with
  | true =>
    rw [h1, cond_true] at h
    cases h2 : nmBad b with
    | true => rw [h2] at h; cases h
    | false =>
      rw [h2] at h
      simp only [cond_false, Option.some.injEq, Prod.mk.injEq] at h
      rw [← h.2.2, List.length_drop]
      have := nm_pos h1
      have := nm_le b
      omega
  | false =>
    rw [h1, cond_false] at h
    cases h2 : isDigit (hd b) || (decide (hd b = 45) && isDigit (hd (b.drop 1))) with
    | true =>
      rw [h2, cond_true] at h
      cases h3 : numLen b with
      | none => rw [h3] at h; cases h
      | some n =>
        rw [h3] at h
        simp only [Option.some.injEq, Prod.mk.injEq] at h
        have := numLen_bd h3
        rw [← h.2.2, List.length_drop]; omega
    | false =>
      rw [h2, cond_false] at h
      by_cases h3 : hd b = 39
      · rw [decide_eq_true h3, cond_true] at h
        cases h4 : hexBad (b.drop 1) with
        | true => rw [h4] at h; cases h
        | false =>
          rw [h4] at h
          simp only [cond_false, Option.some.injEq, Prod.mk.injEq] at h
          have : b ≠ [] := fun e => by rw [e] at h3; cases h3
          have := List.length_pos_iff.2 this
          rw [← h.2.2, List.length_drop, List.length_drop]; omega
      · rw [decide_eq_false h3, cond_false] at h
        by_cases h4 : hd b = 34
        · rw [decide_eq_true h4, cond_true] at h
          cases h5 : qd false (b.drop 1) [] with
          | none => rw [h5] at h; cases h
          | some q =>
            rw [h5] at h
            obtain ⟨t', r'⟩ := q
            simp only [Option.some.injEq, Prod.mk.injEq] at h
            have := qd_len _ _ _ _ _ h5
            rw [List.length_drop] at this
            rw [← h.2.2]; omega
        · rw [decide_eq_false h4, cond_false] at h
          by_cases h5 : 0 < sg b
          · rw [decide_eq_true h5, cond_true] at h
            simp only [Option.some.injEq, Prod.mk.injEq] at h
            have := sg_le sgs b
            have e : sgF sgs b = sg b := rfl
            rw [← h.2.2, List.length_drop]; omega
          · rw [decide_eq_false h5] at h; cases h
theorem one_eq (s : Str) (i : Int) (h0 : 0 ≤ i) (h1 : i < s.b.length) (hl : s.b.length ≤ 1000000) :
    T (fun (q : GTok × Int) => match oneS (s.b.drop i.toNat) with
      | none => q.2 < 0
      | some (k, t, r) => q = (⟨k, ⟨t⟩, i⟩, (s.b.length : Int) - (r.length : Int))) (r04_one s i) := by
  unfold r04_one
  refine T.get h0 h1 fun y hy => ?_
  have ed := dropc hy
  have hy0 : hd (s.b.drop i.toNat) = y := by rw [ed]; rfl
  have ed1 : (s.b.drop i.toNat).drop 1 = s.b.drop (i.toNat + 1) := by rw [List.drop_drop]
  have elen : (s.b.drop i.toNat).length = s.b.length - i.toNat := List.length_drop
  have etake : ∀ (n : Nat), (s.b.take (i + (n : Int)).toNat).drop i.toNat = (s.b.drop i.toNat).take n := fun n => by
    rw [seg]; congr 1; omega
  have erest : ∀ (n : Nat), n ≤ (s.b.drop i.toNat).length → i + (n : Int) = (s.b.length : Int) - (((s.b.drop i.toNat).drop n).length : Int) := fun n hn => by
    rw [List.length_drop, elen]; rw [elen] at hn; omega
  refine T.jp (ι := Int × GTok) (fun (q : Int × GTok) => match oneS (s.b.drop i.toNat) with
      | none => q.1 < 0
      | some (k, t, r) => (q.2, q.1) = (⟨k, ⟨t⟩, i⟩, (s.b.length : Int) - (r.length : Int))) (fun J h => ?_) fun q hq => T.some hq
  unfold oneS at h ⊢
  simp only [hy0] at h ⊢
  refine T.eq (letter_eq y) (T.br (fun hle => ?_) fun hle => T.eq (digit_eq y) ?_)
  · rw [hle, cond_true] at h ⊢
    have hcl : isLetter (hd (s.b.drop i.toNat)) = true := by rw [hy0]; exact hle
    refine T.eq (name_eq s i h0 h1 hl hcl) ?_
    cases hb : nmBad (s.b.drop i.toNat) with
    | true =>
      rw [hb, cond_true] at h
      simp only [cond_true] at h ⊢
      exact T.br (fun _ => T.some (by dsimp only; omega)) fun hn => by have := of_decide_eq_false hn; omega
    | false =>
      rw [hb, cond_false] at h
      simp only [cond_false] at h ⊢
      have hnl := nm_le (s.b.drop i.toNat)
      rw [elen] at hnl
      refine T.br (fun hn => by have := of_decide_eq_true hn; omega) fun _ => T.asd (by omega) ?_
      rw [etake]
      refine T.jp (ι := GTok) (fun t => t = ⟨bif decide (y ≤ 90) then 1 else 2, ⟨(s.b.drop i.toNat).take (nm (s.b.drop i.toNat))⟩, i⟩) (fun J2 h2 => T.br (fun h3 => h2 _ (by rw [h3]; rfl)) fun h3 => h2 _ (by rw [h3]; rfl)) fun t ht => ?_
      subst ht
      refine T.eq (word_eq _) (T.br (fun h3 => h _ ?_) fun h3 => h _ ?_)
      · dsimp only at h3 ⊢; rw [h3, ← erest _ (nm_le _)]; rfl
      · dsimp only at h3 ⊢; rw [h3, ← erest _ (nm_le _)]; rfl
  · rw [hle, cond_false] at h ⊢
    refine T.jp (fun b => b = (isDigit y || (decide (y = 45) && isDigit (hd ((s.b.drop i.toNat).drop 1))))) (fun J2 h2 => T.br (fun h3 => h2 _ (by rw [h3]; rfl)) fun h3 => ?_) fun b hb => ?_
    · refine T.jp (fun b => b = (decide (y = 45) && isDigit (hd ((s.b.drop i.toNat).drop 1)))) (fun J3 h4 => T.br (fun h5 => T.ck (by omega) (T.eq (at_eq s (i + 1) (by omega)) (T.eq (digit_eq _) (h4 _ ?_)))) fun h5 => h4 _ (by rw [h5]; rfl)) fun b hb => h2 _ (by rw [h3, hb]; rfl)
      rw [h5, ed1, show (i + 1).toNat = i.toNat + 1 by omega]; rfl
    rw [← hb] at h ⊢
    refine T.br (fun h3 => T.eq (number_eq s i h0 h1 hl) ?_) fun h3 => ?_
    · rw [h3, cond_true] at h ⊢
      cases hn : numLen (s.b.drop i.toNat) with
      | none =>
        simp only [hn] at h ⊢
        exact T.br (fun _ => T.some (by dsimp only; omega)) fun hn => by have := of_decide_eq_false hn; omega
      | some n =>
        simp only [hn] at h ⊢
        have hbd := numLen_bd hn
        have hbd2 := hbd.2
        rw [elen] at hbd2
        refine T.br (fun hn => by have := of_decide_eq_true hn; omega) fun _ => T.asd (by omega) (h _ ?_)
        rw [etake, ← erest n hbd.2]
    · rw [h3, cond_false] at h ⊢
      refine T.br (fun h4 => T.eq (hex_eq s i h0 h1 hl) (h _ ?_)) fun h4 => ?_
      · rw [h4, cond_true, ed1]
        cases hb : hexBad (s.b.drop (i.toNat + 1)) with
        | true => simp only [cond_true]; omega
        | false =>
          simp only [cond_false]
          have h5 : hx (s.b.drop (i.toNat + 1)) + 1 < (s.b.drop (i.toNat + 1)).length := by
            unfold hexBad at hb
            have := (Bool.or_eq_false_iff.1 hb).2
            have h72 : hd ((s.b.drop (i.toNat + 1)).drop (hx (s.b.drop (i.toNat + 1)) + 1)) = 72 := by simpa using this
            exact hd_lt (by rw [h72]; decide)
          rw [List.length_drop] at h5
          rw [List.length_drop, List.length_drop]
          have e : i + 1 + (hx (s.b.drop (i.toNat + 1)) : Int) + 2 = (s.b.length : Int) - ((s.b.length - (i.toNat + 1) - (hx (s.b.drop (i.toNat + 1)) + 2) : Nat) : Int) := by omega
          rw [e]
      · rw [h4, cond_false] at h ⊢
        refine T.br (fun h5 => T.eq (quoted_eq s i h0 h1 hl) (h _ ?_)) fun h5 => ?_
        · rw [h5, cond_true, ed1]
          cases hq : qd false (s.b.drop (i.toNat + 1)) [] with
          | none => simp only; omega
          | some q => rfl
        · rw [h5, cond_false] at h ⊢
          refine T.eq (sign_eq s i h0 h1 hl) (T.br (fun h6 => ?_) fun h6 => h _ ?_)
          · have h6 := of_decide_eq_true h6
            have hsl := sg_le sgs (s.b.drop i.toNat)
            have esg : sgF sgs (s.b.drop i.toNat) = sg (s.b.drop i.toNat) := rfl
            have hpos : 0 < sg (s.b.drop i.toNat) := by omega
            have hsl2 := hsl
            rw [elen] at hsl2
            refine T.ck (by omega) (T.asd (by omega) (T.ck (by omega) (h _ ?_)))
            rw [decide_eq_true hpos, cond_true]
            dsimp only
            rw [etake, ← erest (sg (s.b.drop i.toNat)) hsl]
          · have h6 := of_decide_eq_false h6
            rw [decide_eq_false (show ¬ 0 < sg (s.b.drop i.toNat) by omega)]
            simp only [cond_false]; omega

def toksF (n : Nat) : Nat → List UInt8 → List GTok → List GTok × Int × Int
  | 0, _, _ => ([], 0, 0)
  | f + 1, b, acc => match wh .out b with
    | [] => (acc ++ [⟨0, ⟨[]⟩, (n : Int)⟩], 0, 0)
    | c :: r => match oneS (c :: r) with
      | none => ([], (n : Int) - ((c :: r).length : Int), 6)
      | some (k, t, r') => toksF n f r' (acc ++ [⟨k, ⟨t⟩, (n : Int) - ((c :: r).length : Int)⟩])
theorem toksF_succ (n f : Nat) (b : List UInt8) (acc : List GTok) : toksF n (f + 1) b acc = match wh .out b with
    | [] => (acc ++ [⟨0, ⟨[]⟩, (n : Int)⟩], 0, 0)
    | c :: r => match oneS (c :: r) with
      | none => ([], (n : Int) - ((c :: r).length : Int), 6)
      | some (k, t, r') => toksF n f r' (acc ++ [⟨k, ⟨t⟩, (n : Int) - ((c :: r).length : Int)⟩]) := rfl
def toks (b : List UInt8) : List GTok × Int × Int := bif decide (8000 < b.length) then ([], 0, 5) else toksF b.length (b.length + 1) b []
theorem wh_len : ∀ (b : List UInt8) (st : Wst), (wh st b).length ≤ b.length
  | [], st => by cases st <;> simp [wh]
  | c :: r, .out => by
    have h1 := wh_len r .out
    have h2 := wh_len r .start
    simp only [wh]
    cases isWh c <;> simp only [cond_true, cond_false]
    · cases decide (c = 45) && decide (hd r = 45) <;> simp only [cond_true, cond_false, List.length_cons] <;> omega
    · simp only [List.length_cons]; omega
  | c :: r, .start => by have := wh_len r .ins; simp only [wh, List.length_cons]; omega
  | c :: r, .ins => by
    have h1 := wh_len r .out
    have h2 := wh_len r .fin
    have h3 := wh_len r .ins
    simp only [wh, List.length_cons]
    cases decide (c = 10) <;> simp only [cond_true, cond_false]
    · cases decide (c = 45) && decide (hd r = 45) <;> simp only [cond_true, cond_false] <;> omega
    · omega
  | c :: r, .fin => by have := wh_len r .out; simp only [wh, List.length_cons]; omega
theorem wh_suf : ∀ (b : List UInt8) (st : Wst), ∃ n, wh st b = b.drop n
  | [], st => ⟨0, by cases st <;> simp [wh]⟩
  | c :: r, .out => by
    obtain ⟨n1, h1⟩ := wh_suf r .out
    obtain ⟨n2, h2⟩ := wh_suf r .start
    simp only [wh]
    cases isWh c <;> simp only [cond_true, cond_false]
    · cases decide (c = 45) && decide (hd r = 45) <;> simp only [cond_true, cond_false]
      · exact ⟨0, rfl⟩
      · exact ⟨n2 + 1, h2⟩
    · exact ⟨n1 + 1, h1⟩
  | c :: r, .start => by obtain ⟨n, h⟩ := wh_suf r .ins; exact ⟨n + 1, h⟩
  | c :: r, .ins => by
    obtain ⟨n1, h1⟩ := wh_suf r .out
    obtain ⟨n2, h2⟩ := wh_suf r .fin
    obtain ⟨n3, h3⟩ := wh_suf r .ins
    simp only [wh]
    cases decide (c = 10) <;> simp only [cond_true, cond_false]
    · cases decide (c = 45) && decide (hd r = 45) <;> simp only [cond_true, cond_false]
      · exact ⟨n3 + 1, h3⟩
      · exact ⟨n2 + 1, h2⟩
    · exact ⟨n1 + 1, h1⟩
  | c :: r, .fin => by obtain ⟨n, h⟩ := wh_suf r .out; exact ⟨n + 1, h⟩
theorem qd_suf : ∀ (b : List UInt8) (f : Bool) (acc t r : List UInt8), qd f b acc = some (t, r) → ∃ n, r = b.drop n
  | [], f, acc, t, r, h => by cases f <;> simp [qd] at h
  | c :: b, true, acc, t, r, h => by
    simp only [qd] at h
    obtain ⟨n, e⟩ := qd_suf b _ _ _ _ h
    exact ⟨n + 1, e⟩
  | c :: b, false, acc, t, r, h => by
    simp only [qd] at h
    by_cases h1 : c = 34
    · simp only [decide_eq_true h1, cond_true] at h
      by_cases h2 : hd b = 34
      · simp only [decide_eq_true h2, cond_true] at h
        obtain ⟨n, e⟩ := qd_suf b _ _ _ _ h
        exact ⟨n + 1, e⟩
      · simp only [decide_eq_false h2, cond_false] at h
        cases hv : Lib.validD acc with
        | true => rw [hv] at h; simp at h; exact ⟨1, h.2.symm⟩
        | false => rw [hv] at h; cases h
    · simp only [decide_eq_false h1, cond_false] at h
      obtain ⟨n, e⟩ := qd_suf b _ _ _ _ h
      exact ⟨n + 1, e⟩
theorem oneS_suf {b t r : List UInt8} {k : Int} (h : oneS b = some (k, t, r)) : ∃ n, r = b.drop n := by
  unfold oneS at h
  simp only at h
  cases h1 : isLetter (hd b) with
  | true =>
    rw [h1, cond_true] at h
    cases h2 : nmBad b with
    | true => rw [h2] at h; cases h
    | false =>
      rw [h2] at h
      simp only [cond_false, Option.some.injEq, Prod.mk.injEq] at h
      exact ⟨_, h.2.2.symm⟩
  | false =>
    rw [h1, cond_false] at h
    cases h2 : isDigit (hd b) || (decide (hd b = 45) && isDigit (hd (b.drop 1))) with
    | true =>
      rw [h2, cond_true] at h
      cases h3 : numLen b with
      | none => rw [h3] at h; cases h
      | some n =>
        rw [h3] at h
        simp only [Option.some.injEq, Prod.mk.injEq] at h
        exact ⟨_, h.2.2.symm⟩
    | false =>
      rw [h2, cond_false] at h
      by_cases h3 : hd b = 39
      · rw [decide_eq_true h3, cond_true] at h
        cases h4 : hexBad (b.drop 1) with
        | true => rw [h4] at h; cases h
        | false =>
          rw [h4] at h
          simp only [cond_false, Option.some.injEq, Prod.mk.injEq, List.drop_drop] at h
          exact ⟨_, h.2.2.symm⟩
      · rw [decide_eq_false h3, cond_false] at h
        by_cases h4 : hd b = 34
        · rw [decide_eq_true h4, cond_true] at h
          cases h5 : qd false (b.drop 1) [] with
          | none => rw [h5] at h; cases h
          | some q =>
            rw [h5] at h
            obtain ⟨t', r'⟩ := q
            simp only [Option.some.injEq, Prod.mk.injEq] at h
            obtain ⟨n, e⟩ := qd_suf _ _ _ _ _ h5
            rw [List.drop_drop] at e
            exact ⟨_, h.2.2.symm.trans e⟩
        · rw [decide_eq_false h4, cond_false] at h
          by_cases h5 : 0 < sg b
          · rw [decide_eq_true h5, cond_true] at h
            simp only [Option.some.injEq, Prod.mk.injEq] at h
            exact ⟨_, h.2.2.symm⟩
          · rw [decide_eq_false h5] at h; cases h
theorem suf_drop {b r : List UInt8} {n : Nat} (h : r = b.drop n) : b.drop (b.length - r.length) = r := by
  subst h
  rw [List.length_drop]
  rcases Nat.lt_or_ge b.length n with h2 | h2
  · rw [List.drop_eq_nil_of_le (show b.length ≤ n by omega), List.drop_eq_nil_of_le (by omega)]
  · congr 1; omega

theorem tokens_eq (s : Str) : r04_Tokens s = some (toks s.b) := by
  refine tx ?_
  unfold r04_Tokens toks
  refine T.br (fun h => T.some ?_) fun h => ?_
  · have h := of_decide_eq_true h
    rw [decide_eq_true (show 8000 < s.b.length by omega)]; rfl
  have hl := of_decide_eq_false h
  rw [decide_eq_false (show ¬ 8000 < s.b.length by omega), cond_false]
  refine T.lp (ι := List GTok × Int) (fun (q : List GTok × Int) => 0 ≤ q.2 ∧ q.2 ≤ (s.b.length : Int) ∧ (q.1.length : Int) ≤ q.2 ∧ ∃ f, (s.b.drop q.2.toNat).length < f ∧ toksF s.b.length (s.b.length + 1) s.b [] = toksF s.b.length f (s.b.drop q.2.toNat) q.1) (fun (q : List GTok × Int) => ((s.b.length : Int) - q.2).toNat) ⟨Int.le_refl _, by dsimp only; omega, by simp, s.b.length + 1, by simp, rfl⟩ (by dsimp only; omega) fun L q hq hL => ?_
  obtain ⟨l, k⟩ := q
  obtain ⟨h1, h2, h3, f, h4, h5⟩ := hq
  simp only at h1 h2 h3 h4 h5 ⊢
  rw [h5] at hL ⊢
  cases f with
  | zero => omega
  | succ f =>
    have hwl := wh_len (s.b.drop k.toNat) .out
    rw [List.length_drop] at hwl h4
    obtain ⟨nw, hw⟩ := wh_suf (s.b.drop k.toNat) .out
    rw [List.drop_drop] at hw
    have hsw := suf_drop hw
    refine T.eq (white_eq s k h1 h2 (by omega)) ?_
    rw [toksF_succ] at hL ⊢
    cases hwh : wh .out (s.b.drop k.toNat) with
    | nil =>
      simp only [hwh] at hL ⊢
      refine T.br (fun _ => T.abl (by simp only [List.length_cons, List.length_nil]; omega) (T.some rfl)) fun h6 => ?_
      have := of_decide_eq_false h6
      simp at this
    | cons c r =>
      simp only [hwh] at hL ⊢ 
      rw [hwh] at hwl hsw
      have hcl : 0 < (c :: r).length := by simp
      refine T.br (fun h6 => by have := of_decide_eq_true h6; omega) fun _ => ?_
      have hi : ((s.b.length : Int) - ((c :: r).length : Int)).toNat = s.b.length - (c :: r).length := by omega
      refine T.cal (one_eq s ((s.b.length : Int) - ((c :: r).length : Int)) (by omega) (by omega) (by omega)) fun q _ hq => ?_
      rw [hi, hsw] at hq
      cases ho : oneS (c :: r) with
      | none =>
        rw [ho] at hq
        simp only [ho] at hL ⊢
        simp only at hq
        exact T.br (fun _ => T.some rfl) fun h7 => by have := of_decide_eq_false h7; omega
      | some p =>
        obtain ⟨kd, t, r'⟩ := p
        rw [ho] at hq
        simp only [ho] at hL ⊢
        simp only at hq
        subst hq
        have hol := oneS_len ho
        obtain ⟨no, hso⟩ := oneS_suf ho
        have hso2 : r' = s.b.drop (s.b.length - (c :: r).length + no) := by rw [hso, ← List.drop_drop, hsw]
        have hsd := suf_drop hso2
        refine T.br (fun h7 => by have := of_decide_eq_true h7; dsimp only at this; omega) fun _ => T.abl (by simp only [List.length_cons, List.length_nil]; omega) (hL _ ⟨by dsimp only; omega, by dsimp only; omega, ?_, f, ?_, ?_⟩ (by dsimp only; omega))
        · dsimp only; rw [List.length_append, List.length_singleton]; omega
        · dsimp only
          rw [show ((s.b.length : Int) - (r'.length : Int)).toNat = s.b.length - r'.length by omega, hsd]
          omega
        · dsimp only
          rw [show ((s.b.length : Int) - (r'.length : Int)).toNat = s.b.length - r'.length by omega, hsd]
end Go.Proofs.YtnnijoepfgnlfaaDoor


/- From a law's statement to its walk: arguments that can be read are data as they lie in memory. No condition: general lemmas. -/
import Derived.Test.YtdcdndflfhaejaaDoorLib11
import Derived.ProofKit
import Derived.OpenShut
import Derived.SizedLaws
namespace Go.Sy
open Go.ChangeShapes Go.WideShapes Go.ChangeAt Go.RowKit

/-- All that lies in memory now. -/
def snap (W : World) : Frz := fun b => match W.heap[b]? with
  | some (.cells c _ _) => some c.toList
  | _ => none
theorem snap_sub (W : World) : (snap W).sub W := fun b cs h => by
  unfold snap at h
  split at h
  · rename_i c T fr hw; cases h; exact ⟨c, T, fr, hw, List.prefix_refl _⟩
  · cases h

theorem add_bo (a : Addr) (k : Nat) : (a.add k).block = a.block ∧ (a.add k).off = a.off + k := by
  unfold Addr.add; split
  · rename_i h; subst h; exact ⟨rfl, rfl⟩
  · exact ⟨rfl, rfl⟩

theorem cell_snap {W : World} {a : Addr} {v : Value} (h : W.cell? a = some v) : a.spot = none ∧ ∃ c, snap W a.block = some c ∧ c[a.off]? = some v := by
  unfold World.cell? at h
  split at h
  · rename_i c T fr hw
    split at h
    · cases h
    · rename_i hs
      refine ⟨by simpa using hs, c.toList, by unfold snap; rw [hw], by simpa using h⟩
  · cases h

/-- What can be read as a type's data is data of a kind. -/
structure Opn (P : Program) (T : TypeId) (α : Type) [Rep α] : Prop where
  op : ∀ {H : Type} {enc : TypeId × Value → H} {W : World} {base : Nat} {spare : Nat → Bool} {held : Bool} {fuel : Nat} {cs : List Value} {x : DataW H × List MemPlace},
    DataW.trod enc P W base spare held fuel T cs = some x → (∀ k ∈ x.1.weights P T, k ≤ reachBytes) → ∃ y : α, Rep.rd (snap W) cs y
  shape : ∀ {W : World} {r : Reach} {base : Nat} {v : Value}, Value.okWide P W r base T v → Value.isAgg' v = Rep.agg α

theorem Opn.int {P : Program} {T : TypeId} (h : P.underlying T = some (.int .i64)) : Opn P T Int where
  op := fun ht _ => by
    obtain ⟨n, rfl, _, hwf⟩ := DataW.trod_int h ht
    exact ⟨n, rfl, bounds_i64 hwf⟩
  shape := fun {_ _ _ v} hv => by simp only [Value.okWide, h, Cell.okWide] at hv; cases v <;> simp_all [Cell.ok, Value.isAgg', Rep.agg]
theorem Opn.bool {P : Program} {T : TypeId} (h : P.underlying T = some .bool) : Opn P T Bool where
  op := fun ht _ => by
    obtain ⟨b, rfl, _⟩ := DataW.trod_bool h ht
    exact ⟨b, rfl⟩
  shape := fun {_ _ _ v} hv => by simp only [Value.okWide, h, Cell.okWide] at hv; cases v <;> simp_all [Cell.ok, Value.isAgg', Rep.agg]
theorem Opn.str {P : Program} {T : TypeId} (h : P.underlying T = some .string) : Opn P T Str where
  op := fun ht hw => by
    obtain ⟨s, rfl, rfl, _⟩ := DataW.trod_string h ht
    have h1 := hw s.data.toList.length (by unfold DataW.weights; exact List.mem_singleton.2 rfl)
    exact ⟨⟨s.data.toList⟩, by simp [Str.ba], Nat.le_trans h1 (by decide)⟩
  shape := fun {_ _ _ v} hv => by simp only [Value.okWide, h, Cell.okWide] at hv; cases v <;> simp_all [Cell.ok, Value.isAgg', Rep.agg]

/-- The parts of a struct, one behind the other. -/
inductive OpnFs (P : Program) : List Field → Nat → (σ : Type) → [Rep σ] → Prop
  | one {α : Type} [Rep α] {f : Field} : Opn P f.type α → P.cellsOf f.type = Rep.n α → OpnFs P [f] f.offset α
  | cons {α β : Type} [Rep α] [Rep β] {f : Field} {fs : List Field} : Opn P f.type α → P.cellsOf f.type = Rep.n α → OpnFs P fs (f.offset + Rep.n α) β → OpnFs P (f :: fs) f.offset (α × β)

theorem OpnFs.op {P : Program} {fs : List Field} {off : Nat} {σ : Type} [I : Rep σ] (h : OpnFs P fs off σ) {H : Type} {enc : TypeId × Value → H} {W : World} {base : Nat} {spare : Nat → Bool} {held : Bool} {fuel : Nat} {cs : List Value}
    (hf : ∀ f ∈ fs, ∃ x, DataW.trod enc P W base spare held fuel f.type ((cs.drop f.offset).take (P.cellsOf f.type)) = some x ∧ ∀ k ∈ x.1.weights P f.type, k ≤ reachBytes) :
    ∃ y : σ, Rep.rd (snap W) ((cs.drop off).take (Rep.n σ)) y := by
  induction h with
  | one ho hn =>
    obtain ⟨x, h1, h2⟩ := hf _ (List.mem_cons_self ..)
    rw [hn] at h1
    exact ho.op h1 h2
  | @cons α β _ _ f fs ho hn _ ih =>
    obtain ⟨x, h1, h2⟩ := hf _ (List.mem_cons_self ..)
    rw [hn] at h1
    obtain ⟨y1, k1⟩ := ho.op h1 h2
    obtain ⟨y2, k2⟩ := ih fun g hg => hf g (List.mem_cons_of_mem _ hg)
    refine ⟨(y1, y2), _, _, ?_, k1, k2⟩
    show (cs.drop f.offset).take (Rep.n α + Rep.n β) = _
    rw [List.take_add, List.drop_drop]

theorem weights_agg {H : Type} {P : Program} {T : TypeId} {fs : Array Field} (h : P.underlying T = some (.struct fs)) (parts : List (DataW H)) :
    (DataW.agg parts).weights P T = DataW.weightsEach P (fs.toList.map (·.type)) parts := by
  simp [DataW.weights, h]

theorem Opn.struct {P : Program} {T : TypeId} {α σ : Type} [Rep σ] {to : α → σ} {fs : Array Field} (hu : P.underlying T = some (.struct fs)) (hn : P.cellsOf T = Rep.n σ) (hof : OpnFs P fs.toList 0 σ) (of : σ → α) (hto : ∀ s, to (of s) = s) : @Opn P T α (Rep.iso to) :=
  @Opn.mk P T α (Rep.iso to) (fun {H enc W base spare held fuel cs x} ht hw => by
    obtain ⟨xs, n, hfu, hx, hl, hxl, hx2⟩ := DataW.trod_struct hu ht
    have := hof.op (enc := enc) (W := W) (base := base) (spare := spare) (held := held) (fuel := n) (cs := cs) fun f hf => by
      obtain ⟨i, hi⟩ := List.mem_iff_getElem?.1 hf
      have hi' : fs[i]? = some f := by simpa using hi
      have h1 := hx2 i f hi'
      have hlt : i < xs.length := by rw [hxl]; exact (Array.getElem?_eq_some_iff.1 hi').1
      refine ⟨xs[i], by rw [h1, List.getElem?_eq_getElem hlt], fun k hk => hw k ?_⟩
      rw [hx, weights_agg hu]
      exact DataW.weights_mem_each (j := i) (t := f.type) (d := xs[i].1) (by rw [List.getElem?_map, hi]; rfl) (by rw [List.getElem?_map, List.getElem?_eq_getElem hlt]; rfl) k hk
    obtain ⟨y, hy⟩ := this
    refine ⟨of y, ?_⟩
    show Rep.rd (snap W) cs (to (of y))
    rw [hto, ← hn, List.drop_zero, ← hl, List.take_length] at *
    exact hy) (fun {_ _ _ v} hv => by
    simp only [Value.okWide, hu] at hv
    obtain ⟨cs, rfl, _⟩ := hv
    rfl)

theorem rdL_of_each {α : Type} {r : List Value → α → Prop} : ∀ (l : List (List Value)), (∀ c ∈ l, ∃ y, r c y) → ∃ ys : List α, ys.length = l.length ∧ rdL r ys l.flatten
  | [], _ => ⟨[], rfl, rfl⟩
  | c :: l, h => by
    obtain ⟨y, hy⟩ := h c (List.mem_cons_self ..)
    obtain ⟨ys, h1, h2⟩ := rdL_of_each l fun d hd => h d (List.mem_cons_of_mem _ hd)
    exact ⟨y :: ys, by simp [h1], c, l.flatten, by simp, hy, h2⟩

theorem Opn.list {P : Program} {T e : TypeId} {α : Type} [Rep α] (hu : P.underlying T = some (.slice e)) (ho : Opn P e α) (hn : P.cellsOf e = Rep.n α) (hn0 : Nat.blt 0 (Rep.n α) = true) (hb : Nat.blt 0 (P.bytesOf e) = true) : Opn P T (List α) where
  shape := fun {_ _ _ v} hv => by simp only [Value.okWide, hu, Cell.okWide] at hv; cases v <;> simp_all [Cell.ok, Value.isAgg', Rep.agg]
  op := fun {H enc W base spare held fuel cs x} ht hw => by
    have hn0' : 0 < Rep.n α := by simpa using hn0
    have hb' : 0 < P.bytesOf e := by simpa using hb
    rcases DataW.trod_slice hu ht with ⟨rfl, _⟩ | ⟨a, len, cap, elems, rest, n, _, rfl, rfl, _, hlc, hcm, hel, hall, _, _⟩
    · exact ⟨[], _, rfl, none, 0, rfl, Nat.le_refl _, Nat.zero_le _, .inl rfl⟩
    have hwl : (elems.length + rest.length) * P.bytesOf e ≤ reachBytes := hw _ (by simp [DataW.weights, hu])
    have hlenb : len ≤ maxList := by
      have h1 : (elems.length + rest.length) * 1 ≤ (elems.length + rest.length) * P.bytesOf e := Nat.mul_le_mul_left _ hb'
      unfold reachBytes at hwl; unfold maxList; omega
    have each : ∀ i, i < len → ∃ ci, W.cells? base (a.add (i * Rep.n α)) (Rep.n α) = some ci ∧ ∃ y : α, Rep.rd (snap W) ci y := fun i hi => by
      have h1 := hall i hi
      rw [hn] at h1
      have hlt : i < elems.length := by omega
      rw [List.getElem?_eq_getElem hlt, Option.bind_eq_some_iff] at h1
      obtain ⟨ci, h2, h3⟩ := h1
      refine ⟨ci, h2, ho.op h3 fun k hk => hw k ?_⟩
      simp only [DataW.weights, hu]
      refine List.mem_cons_of_mem _ (List.mem_append_left _ ?_)
      have : ∀ (l : List (DataW H)) d, d ∈ l → ∀ k ∈ d.weights P e, k ∈ DataW.weightsAll P e l := by
        intro l
        induction l with
        | nil => intro d hd; cases hd
        | cons b l ih =>
          intro d hd k hk
          simp only [DataW.weightsAll]
          rcases List.mem_cons.1 hd with h | h
          · subst h; exact List.mem_append_left _ hk
          · exact List.mem_append_right _ (ih d h k hk)
      exact this _ elems[i].1 (List.mem_map.2 ⟨_, List.getElem_mem hlt, rfl⟩) k hk
    by_cases h0 : len = 0
    · subst h0
      exact ⟨[], _, rfl, some a, cap, rfl, Nat.zero_le _, Nat.zero_le _, .inl rfl⟩
    -- the block
    obtain ⟨c0, hc0, _⟩ := each 0 (by omega)
    have hadd0 : a.add (0 * Rep.n α) = a := by rw [Nat.zero_mul]; rfl
    rw [hadd0] at hc0
    obtain ⟨_, hl0, hc0'⟩ := World.cells?_some hc0
    have hcell0 : ∃ v, W.cell? a = some v := by
      have := hc0' 0 hn0'
      have h2 : ∃ v, c0[0]? = some v := ⟨c0[0]'(by omega), List.getElem?_eq_getElem (by omega)⟩
      obtain ⟨v, hv⟩ := h2
      exact ⟨v, by rw [show a.add 0 = a from rfl] at this; rw [this, hv]⟩
    obtain ⟨v0, hv0⟩ := hcell0
    obtain ⟨hspot, blk, hblk, _⟩ := cell_snap hv0
    have hcellk : ∀ i j, i < len → j < Rep.n α → ∃ v, blk[a.off + (i * Rep.n α + j)]? = some v ∧ ∀ ci, W.cells? base (a.add (i * Rep.n α)) (Rep.n α) = some ci → ci[j]? = some v := fun i j hi hj => by
      obtain ⟨ci, h1, _⟩ := each i hi
      obtain ⟨_, hl, hc⟩ := World.cells?_some h1
      have h2 := hc j hj
      have h3 : ci[j]? = some (ci[j]'(by omega)) := List.getElem?_eq_getElem (by omega)
      rw [h3] at h2
      obtain ⟨_, blk', hb1, hb2⟩ := cell_snap h2
      have hbb : ((a.add (i * Rep.n α)).add j).block = a.block ∧ ((a.add (i * Rep.n α)).add j).off = a.off + (i * Rep.n α + j) :=
        ⟨(add_bo _ _).1.trans (add_bo _ _).1, by rw [(add_bo _ _).2, (add_bo _ _).2]; omega⟩
      rw [hbb.1] at hb1
      rw [hblk] at hb1; cases hb1
      rw [hbb.2] at hb2
      exact ⟨_, hb2, fun ci' h' => by rw [h1] at h'; cases h'; exact h3⟩
    have hbl : a.off + len * Rep.n α ≤ blk.length := by
      obtain ⟨v, hv, _⟩ := hcellk (len - 1) (Rep.n α - 1) (by omega) (by omega)
      have := (List.getElem?_eq_some_iff.1 hv).1
      have e : (len - 1) * Rep.n α + (Rep.n α - 1) + 1 = len * Rep.n α := by
        obtain ⟨m, rfl⟩ : ∃ m, len = m + 1 := ⟨len - 1, by omega⟩
        rw [Nat.add_sub_cancel, Nat.add_mul]; omega
      omega
    have hcs : ∀ i, i < len → W.cells? base (a.add (i * Rep.n α)) (Rep.n α) = some ((blk.drop (a.off + i * Rep.n α)).take (Rep.n α)) := fun i hi => by
      obtain ⟨ci, h1, _⟩ := each i hi
      rw [h1]
      obtain ⟨_, hl, _⟩ := World.cells?_some h1
      congr 1
      apply List.ext_getElem?
      intro j
      by_cases hj : j < Rep.n α
      · obtain ⟨v, hv, h2⟩ := hcellk i j hi hj
        rw [h2 ci h1, List.getElem?_take, if_pos hj, List.getElem?_drop, ← hv, Nat.add_assoc]
      · rw [List.getElem?_eq_none (by omega), List.getElem?_eq_none (by rw [List.length_take]; omega)]
    obtain ⟨ys, hy1, hy2⟩ := rdL_of_each (r := Rep.rd (snap W)) ((List.range len).map fun i => (blk.drop (a.off + i * Rep.n α)).take (Rep.n α)) fun c hc => by
      obtain ⟨i, hi, rfl⟩ := List.mem_map.1 hc
      have hi' := List.mem_range.1 hi
      obtain ⟨ci, h1, h2⟩ := each i hi'
      rw [hcs i hi'] at h1; cases h1
      exact h2
    have hyl : ys.length = len := by simpa using hy1
    have hflat : ∀ m, m ≤ len → ((List.range m).map fun i => (blk.drop (a.off + i * Rep.n α)).take (Rep.n α)).flatten = (blk.drop a.off).take (m * Rep.n α) := by
      intro m
      induction m with
      | zero => simp
      | succ m ih =>
        intro hm
        rw [List.range_succ, List.map_append, List.flatten_append, ih (by omega), Nat.add_mul, Nat.one_mul, List.take_add, List.drop_drop]
        simp
    rw [hflat len (Nat.le_refl _)] at hy2
    subst hyl
    refine ⟨ys, _, rfl, some a, cap, rfl, hlc, hlenb, .inr ⟨a, (blk.drop a.off).take (ys.length * Rep.n α), rfl, ⟨hspot, blk, hblk, fun j u hj => ?_⟩, ?_, hy2⟩⟩
    · rw [List.getElem?_take] at hj
      split at hj
      · rw [List.getElem?_drop] at hj; exact hj
      · cases hj
    · rw [List.length_take, List.length_drop]; omega

/-! ### A law's statement -/
theorem trodAll_stays {H : Type} {enc : TypeId × Value → H} {P : Program} (hl : laidOutB P = true) {W W' : World} (hb : RowKit.Below W.heap.size W W') {sp : Nat → Bool} : ∀ {ts : List TypeId} {vs : List Value} {ds : List (DataW H)} {ps : List MemPlace},
    (ts.all fun t => P.readableRec t && decide (t < P.types.size)) = true → DataW.TrodAll enc P W 0 (fun _ => true) true ts vs ds ps → (∀ x ∈ ps, x.block < W.heap.size) → (∀ x ∈ ps, sp x.block = true) → DataW.TrodAll enc P W' 0 sp true ts vs ds ps
  | [], [], [], _, _, h, _, _ => h
  | t :: ts, v :: vs, d :: ds, _, hr, ⟨p, q, h1, h2, e⟩, hlt, hsp => by
    subst e
    simp only [List.all_cons, Bool.and_eq_true, decide_eq_true_eq] at hr
    exact ⟨p, q, WideElems.Trod_stays hl hr.1.1 hr.1.2 h1 (fun x hx => hb.same (hlt x (List.mem_append_left _ hx))) (fun x hx => hsp x (List.mem_append_left _ hx)),
      trodAll_stays hl hb hr.2 h2 (fun x hx => hlt x (List.mem_append_right _ hx)) (fun x hx => hsp x (List.mem_append_right _ hx)), rfl⟩

theorem law_lift {H : Type} {enc : TypeId × Value → H} {a : Assume} {C : Checked} {os : Os} {f : FuncId} {fn : Func} {s : ChangeSpec} {B : TypeId} {apart fresh handsOn : Bool}
    (own : ownKnob C.prog.godebug = none) (started : os.Started) (noInit : C.prog.inits.idxOf? f = none) (hfn : C.prog.funcs[f]? = some fn)
    (witness : ∃ (w : World) (tape : Tape) (i : Input), w.os = os ∧ (w.forCall tape i).Shaped C.prog ∧ i.vars = [] ∧ Input.okWide C.prog (w.forCall tape i) .any w.heap.size f i ∧
      s.pre6 enc C.prog fn [] apart (w.forCall tape i).memory i.args ∧ a.holds C.prog (lone (Frame.enter C.prog f i.args .normal) [] (w.forCall tape i)))
    (hl : laidOutB C.prog = true) (hr : (fn.params.toList.all fun t => C.prog.readableRec t && decide (t < C.prog.types.size)) = true) (hv : s.vars = []) (hres : fn.resultTypes = #[B]) (hB : C.prog.underlying B = some .bool)
    (hs : ∀ ds : List (DataW H), ds.length = fn.params.size → s.fn H ds = { results := [.lit (.bool true)], args := ds })
    (run : ∀ (W : World) (vs : List Value) (ds : List (DataW H)) (p : List MemPlace), DataW.TrodAll enc C.prog W 0 (fun _ => true) true fn.params.toList vs ds p → (∀ k ∈ DataW.weightsEach C.prog fn.params.toList ds, k ≤ reachBytes) → (∃ base, ∀ (j : Nat) t v, fn.params.toList[j]? = some t → vs[j]? = some v → Value.okWide C.prog W .any base t v) →
      Calls C.prog f vs.toArray W fun e W' => e = .returned (.bool true) ∧ Keep [] W W') :
    ReturnsInHanded a C os f .any (s.pre6 enc C.prog fn [] apart) (s.post enc C.prog fn apart fresh handsOn false) := by
  refine returnsInHanded_of_calls own started noInit witness ?_
  intro w tape i _ _ _ hok hpre hholds
  obtain ⟨_, _, _, fn', hfn', _, _, _, _, hval⟩ := hok
  have e : fn' = fn := Option.some.inj (hfn'.symm.trans hfn)
  subst e
  obtain ⟨⟨ds, gs, before, hw, hc⟩, hz⟩ := hpre
  have hw' := DataW.Whole.of_heap (w' := w.forCall tape i) (by rfl) hw
  have hwt := hz.weights hw
  have hlt := hw'.lt
  have hW := hw'
  obtain ⟨p, q, hA, hV, rfl, hfz, hnd⟩ := hw'
  rw [hv] at hV
  have hgs : gs = [] ∧ q = [] := by
    cases gs with
    | nil => exact ⟨rfl, hV⟩
    | cons _ _ => exact hV.elim
  obtain ⟨rfl, rfl⟩ := hgs
  have hlen : ds.length = fn'.params.size := by
    have : ∀ {ts : List TypeId} {vs : List Value} {ds : List (DataW H)} {ps : List MemPlace}, DataW.TrodAll enc C.prog (w.forCall tape i) 0 (fun _ => true) true ts vs ds ps → ds.length = ts.length := by
      intro ts
      induction ts with
      | nil => intro vs ds ps h; cases vs <;> cases ds <;> simp_all [DataW.TrodAll]
      | cons t ts ih =>
        intro vs ds ps h
        cases vs <;> cases ds <;> simp only [DataW.TrodAll] at h
        obtain ⟨_, _, _, h2, _⟩ := h
        simp [ih h2]
    simpa using this hA
  have hvt : s.plain.varTypes C.prog = [] := by
    simp [ChangeSpec.plain, DataSpec.varTypes, hv]
  have hvt' : (OpenSpec.ofChange s).bare.plain.varTypes C.prog = [] := by
    simp [OpenSpec.ofChange, OpenSpec.bare, ChangeSpec.plain, DataSpec.varTypes, hv]
  rw [hvt', List.append_nil, List.append_nil] at hwt
  refine (run (w.forCall tape i) i.args.toList ds p hA (fun k hk => by simpa using List.all_eq_true.1 hwt k hk) ⟨w.heap.size, fun j t v hj hv' => hval j t v (by simpa using hj) (by simpa using hv')⟩).mono fun e W' ⟨he, hk⟩ => ?_
  subst he
  have hb := hk.below
  refine ChangeSpec.post_blind ⟨ds, [], p ++ [], [], p, [], hW, ?_, ?_, ?_, hb.frame _, fun h => by cases h⟩
  · rw [List.append_nil, hs ds hlen, hres]
    exact trodAll_mk1 (shut_bool hB true)
  · rw [List.append_nil, hs ds hlen]
    exact trodAll_stays hl hb hr hA (fun x hx => hlt x (List.mem_append_left _ hx)) (fun x hx => by simpa using hlt x (List.mem_append_left _ hx))
  · rw [hv]
    rw [List.append_nil, hs ds hlen]
    exact rfl

theorem arg_isv {H : Type} {enc : TypeId × Value → H} {P : Program} {T : TypeId} {α : Type} [Rep α] (ho : Opn P T α) {W : World} {base : Nat} {v : Value} {d : DataW H} {p : List MemPlace} (h : DataW.Trod enc P W 0 (fun _ => true) true T v d p) (hw : ∀ k ∈ d.weights P T, k ≤ reachBytes)
    (hk : Value.okWide P W .any base T v) : ∃ x : α, (isv x).p (snap W) v := by
  obtain ⟨fuel, hf⟩ := h
  obtain ⟨x, hx⟩ := ho.op hf hw
  exact ⟨x, ho.shape hk, hx⟩

theorem ctr_run {P : Program} {f : FuncId} {args : List VP} (h : Ctr P f args [] (pureP true)) {W : World} {vs : List Value} (hT : Tabs P (snap W)) (hv : VPs (snap W) args vs) : Calls P f vs.toArray W fun e W' => e = .returned (.bool true) ∧ Keep [] W W' :=
  (h.calls (snap W) W vs hT (snap_sub W) hv (owns_nil _ _ _ _)).mono fun e W' ⟨v, S', R, H', ⟨hR, hH⟩, he, hp, hst, _⟩ => by
    subst hR
    have := isv_bool.1 hp
    subst this
    exact ⟨he, hst.keep⟩

theorem weights_cons {H : Type} {P : Program} {t : TypeId} {ts : List TypeId} {d : DataW H} {ds : List (DataW H)} (h : ∀ k ∈ DataW.weightsEach P (t :: ts) (d :: ds), k ≤ reachBytes) : (∀ k ∈ d.weights P t, k ≤ reachBytes) ∧ ∀ k ∈ DataW.weightsEach P ts ds, k ≤ reachBytes := by
  simp only [DataW.weightsEach, List.mem_append] at h
  exact ⟨fun k hk => h k (.inl hk), fun k hk => h k (.inr hk)⟩

theorem tcons {H : Type} {enc : TypeId × Value → H} {P : Program} {W : World} {t : TypeId} {ts : List TypeId} {vs : List Value} {ds : List (DataW H)} {p : List MemPlace} (h : DataW.TrodAll enc P W 0 (fun _ => true) true (t :: ts) vs ds p) :
    ∃ v vs' d ds' p' q, vs = v :: vs' ∧ ds = d :: ds' ∧ DataW.Trod enc P W 0 (fun _ => true) true t v d p' ∧ DataW.TrodAll enc P W 0 (fun _ => true) true ts vs' ds' q := by
  cases vs <;> cases ds <;> simp only [DataW.TrodAll] at h
  obtain ⟨p', q, h1, h2, _⟩ := h
  exact ⟨_, _, _, _, p', q, rfl, rfl, h1, h2⟩
theorem tnil {H : Type} {enc : TypeId × Value → H} {P : Program} {W : World} {vs : List Value} {ds : List (DataW H)} {p : List MemPlace} (h : DataW.TrodAll enc P W 0 (fun _ => true) true [] vs ds p) : vs = [] ∧ ds = [] := by
  cases vs <;> cases ds <;> simp_all [DataW.TrodAll]

section runs
variable {H : Type} {enc : TypeId × Value → H} {P : Program} {f : FuncId} {α β γ δ : Type} [Rep α] [Rep β] [Rep γ] [Rep δ] {t1 t2 t3 t4 : TypeId} {W : World} {vs : List Value} {ds : List (DataW H)} {p : List MemPlace}

theorem run1 (hT : Tabs P (snap W)) (h : ∀ (a : α), Ctr P f [isv a] [] (pureP true)) (o1 : Opn P t1 α)
    (ht : DataW.TrodAll enc P W 0 (fun _ => true) true [t1] vs ds p) (hw : ∀ k ∈ DataW.weightsEach P [t1] ds, k ≤ reachBytes) (hk : ∃ base, ∀ (j : Nat) t v, [t1][j]? = some t → vs[j]? = some v → Value.okWide P W .any base t v) :
    Calls P f vs.toArray W fun e W' => e = .returned (.bool true) ∧ Keep [] W W' := by
  obtain ⟨base, hk⟩ := hk
  obtain ⟨v1, vs1, d1, ds1, p1, q1, rfl, rfl, h1, ht1⟩ := tcons ht
  obtain ⟨rfl, rfl⟩ := tnil ht1
  obtain ⟨a, ha⟩ := arg_isv o1 h1 (weights_cons hw).1 (hk 0 _ _ rfl rfl)
  exact ctr_run (h a) hT ⟨ha, trivial⟩

theorem run2 (hT : Tabs P (snap W)) (h : ∀ (a : α) (b : β), Ctr P f [isv a, isv b] [] (pureP true)) (o1 : Opn P t1 α) (o2 : Opn P t2 β)
    (ht : DataW.TrodAll enc P W 0 (fun _ => true) true [t1, t2] vs ds p) (hw : ∀ k ∈ DataW.weightsEach P [t1, t2] ds, k ≤ reachBytes) (hk : ∃ base, ∀ (j : Nat) t v, [t1, t2][j]? = some t → vs[j]? = some v → Value.okWide P W .any base t v) :
    Calls P f vs.toArray W fun e W' => e = .returned (.bool true) ∧ Keep [] W W' := by
  obtain ⟨base, hk⟩ := hk
  obtain ⟨v1, vs1, d1, ds1, p1, q1, rfl, rfl, h1, ht1⟩ := tcons ht
  obtain ⟨v2, vs2, d2, ds2, p2, q2, rfl, rfl, h2, ht2⟩ := tcons ht1
  obtain ⟨rfl, rfl⟩ := tnil ht2
  obtain ⟨w1, hw'⟩ := weights_cons hw
  obtain ⟨a, ha⟩ := arg_isv o1 h1 w1 (hk 0 _ _ rfl rfl)
  obtain ⟨b, hb⟩ := arg_isv o2 h2 (weights_cons hw').1 (hk 1 _ _ rfl rfl)
  exact ctr_run (h a b) hT ⟨ha, hb, trivial⟩

theorem run3 (hT : Tabs P (snap W)) (h : ∀ (a : α) (b : β) (c : γ), Ctr P f [isv a, isv b, isv c] [] (pureP true)) (o1 : Opn P t1 α) (o2 : Opn P t2 β) (o3 : Opn P t3 γ)
    (ht : DataW.TrodAll enc P W 0 (fun _ => true) true [t1, t2, t3] vs ds p) (hw : ∀ k ∈ DataW.weightsEach P [t1, t2, t3] ds, k ≤ reachBytes) (hk : ∃ base, ∀ (j : Nat) t v, [t1, t2, t3][j]? = some t → vs[j]? = some v → Value.okWide P W .any base t v) :
    Calls P f vs.toArray W fun e W' => e = .returned (.bool true) ∧ Keep [] W W' := by
  obtain ⟨base, hk⟩ := hk
  obtain ⟨v1, vs1, d1, ds1, p1, q1, rfl, rfl, h1, ht1⟩ := tcons ht
  obtain ⟨v2, vs2, d2, ds2, p2, q2, rfl, rfl, h2, ht2⟩ := tcons ht1
  obtain ⟨v3, vs3, d3, ds3, p3, q3, rfl, rfl, h3, ht3⟩ := tcons ht2
  obtain ⟨rfl, rfl⟩ := tnil ht3
  obtain ⟨w1, hw'⟩ := weights_cons hw
  obtain ⟨w2, hw''⟩ := weights_cons hw'
  obtain ⟨a, ha⟩ := arg_isv o1 h1 w1 (hk 0 _ _ rfl rfl)
  obtain ⟨b, hb⟩ := arg_isv o2 h2 w2 (hk 1 _ _ rfl rfl)
  obtain ⟨c, hc⟩ := arg_isv o3 h3 (weights_cons hw'').1 (hk 2 _ _ rfl rfl)
  exact ctr_run (h a b c) hT ⟨ha, hb, hc, trivial⟩

theorem run4 (hT : Tabs P (snap W)) (h : ∀ (a : α) (b : β) (c : γ) (d : δ), Ctr P f [isv a, isv b, isv c, isv d] [] (pureP true)) (o1 : Opn P t1 α) (o2 : Opn P t2 β) (o3 : Opn P t3 γ) (o4 : Opn P t4 δ)
    (ht : DataW.TrodAll enc P W 0 (fun _ => true) true [t1, t2, t3, t4] vs ds p) (hw : ∀ k ∈ DataW.weightsEach P [t1, t2, t3, t4] ds, k ≤ reachBytes) (hk : ∃ base, ∀ (j : Nat) t v, [t1, t2, t3, t4][j]? = some t → vs[j]? = some v → Value.okWide P W .any base t v) :
    Calls P f vs.toArray W fun e W' => e = .returned (.bool true) ∧ Keep [] W W' := by
  obtain ⟨base, hk⟩ := hk
  obtain ⟨v1, vs1, d1, ds1, p1, q1, rfl, rfl, h1, ht1⟩ := tcons ht
  obtain ⟨v2, vs2, d2, ds2, p2, q2, rfl, rfl, h2, ht2⟩ := tcons ht1
  obtain ⟨v3, vs3, d3, ds3, p3, q3, rfl, rfl, h3, ht3⟩ := tcons ht2
  obtain ⟨v4, vs4, d4, ds4, p4, q4, rfl, rfl, h4, ht4⟩ := tcons ht3
  obtain ⟨rfl, rfl⟩ := tnil ht4
  obtain ⟨w1, hw'⟩ := weights_cons hw
  obtain ⟨w2, hw''⟩ := weights_cons hw'
  obtain ⟨w3, hw'''⟩ := weights_cons hw''
  obtain ⟨a, ha⟩ := arg_isv o1 h1 w1 (hk 0 _ _ rfl rfl)
  obtain ⟨b, hb⟩ := arg_isv o2 h2 w2 (hk 1 _ _ rfl rfl)
  obtain ⟨c, hc⟩ := arg_isv o3 h3 w3 (hk 2 _ _ rfl rfl)
  obtain ⟨d, hd⟩ := arg_isv o4 h4 (weights_cons hw''').1 (hk 3 _ _ rfl rfl)
  exact ctr_run (h a b c d) hT ⟨ha, hb, hc, hd, trivial⟩
end runs
end Go.Sy

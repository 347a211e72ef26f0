/- for every value of its arguments the law returns true, and each argument reads behind the call as it read before; what the listed variables hold is tied to the program's text -/
import Derived.Test.YtbinnmophpfmlaaDoorLsA
import Derived.Test.YtbinnmophpfmlaaDoorLsB
import Derived.Test.YtbinnmophpfmlaaDoorLsC
import Derived.Lib.LaidIn
import Derived.Lib.LaidU8T
import Derived.Deep.DeepHandedRow
import Derived.Deep.DeepWitnessRowRef
import Derived.ProofKit
import Derived.KernelRfl
import Derived.Test.YtbinnmophpfmlaaDoorRows
import Derived.Test.YtbinnmophpfmlaaDoorTie
import Derived.Test.YtbinnmophpfmlaaDoorCards
import Derived.SevenTiedAt
set_option linter.unusedVariables false
set_option linter.unusedSimpArgs false

namespace Go.Sy
open Go.Shelf Go.Lib Go.ChangeShapes Go.WideShapes Go.ChangeAt Go.RowKit

theorem cell_sub {W w : World} {a : Addr} {v : Value} (h : W.cell? a = some v) (hs : (snap W).sub w) : w.cell? a = some v := by
  obtain ⟨h1, c, h2, h3⟩ := cell_snap h
  obtain ⟨c', T, fr, h4, h5⟩ := hs _ _ h2
  unfold World.cell?
  rw [h4]
  simp only [h1]
  obtain ⟨t, ht⟩ := h5
  rw [← Array.getElem?_toList, ← ht, List.getElem?_append_left (by
    rcases Nat.lt_or_ge a.off c.length with h6 | h6
    · exact h6
    · rw [List.getElem?_eq_none h6] at h3; cases h3)]
  exact h3
theorem tabs_of {P : Program} {g1 g2 : Nat} {W : World} (h : Lib.Utf8Tabs g1 g2 W) (e1 : P.globals.findIdx? (·.name == "unicode/utf8.first") = some g1) (e2 : P.globals.findIdx? (·.name == "unicode/utf8.acceptRanges") = some g2) (he : ∀ w, (snap W).sub w → ErrsW P w) : Tabs P (snap W) := by
  intro w hw
  refine ⟨fun k1 k2 h1 h2 => ?_, he w hw⟩
  rw [e1] at h1; cases h1
  rw [e2] at h2; cases h2
  exact ⟨fun c hc => cell_sub (h.1 c hc) hw, fun i hi => ⟨cell_sub (h.2 i hi).1 hw, cell_sub (h.2 i hi).2 hw⟩⟩

theorem law_laid {H : Type} {enc : TypeId × Value → H} {a : Assume} {C : Checked} {os : Os} {f : FuncId} {fn : Func} {s : OpenSpec} {F : Stop.Interp} {B : TypeId} {apart fresh handsOn : Bool} {laid : List (String × DataW Unit)}
    (own : ownKnob C.prog.godebug = none) (started : os.Started) (noInit : C.prog.inits.idxOf? f = none) (hfn : C.prog.funcs[f]? = some fn)
    (witness : ∃ (w : World) (tape : Tape) (i : Input), w.os = os ∧ (w.forCall tape i).Shaped C.prog ∧ i.vars = [] ∧ Input.okWide C.prog (w.forCall tape i) .any w.heap.size f i ∧
      s.preRow enc C.prog fn [] apart laid (w.forCall tape i).memory i.args ∧ a.holds C.prog (lone (Frame.enter C.prog f i.args .normal) [] (w.forCall tape i)))
    (hl : laidOutB C.prog = true) (hr : (fn.params.toList.all fun t => C.prog.readableRec t && decide (t < C.prog.types.size)) = true) (hv : s.vars = []) (hres : fn.resultTypes = #[B]) (hB : C.prog.underlying B = some .bool)
    (hs : ∀ ds : List (DataW H), ds.length = fn.params.size → (s.at F).fn H ds = { results := [.lit (.bool true)], args := ds })
    (tabs : ∀ W, laidMetH C.prog laid W → Tabs C.prog (snap W))
    (run : ∀ (W : World) (vs : List Value) (ds : List (DataW H)) (p : List MemPlace), Tabs C.prog (snap W) → DataW.TrodAll enc C.prog W 0 (fun _ => true) true fn.params.toList vs ds p → (∀ k ∈ DataW.weightsEach C.prog fn.params.toList ds, k ≤ reachBytes) → (∃ base, ∀ (j : Nat) t v, fn.params.toList[j]? = some t → vs[j]? = some v → Value.okWide C.prog W .any base t v) →
      Calls C.prog f vs.toArray W fun e W' => e = .returned (.bool true) ∧ Keep [] W W') :
    ReturnsInHanded a C os f .any (s.preRow enc C.prog fn [] apart laid) ((s.at F).post enc C.prog fn apart fresh handsOn false) := by
  refine returnsInHanded_of_row own started noInit hfn witness ?_
  intro W base args ds gs before hval hW _ _ hwt hL _ _
  have hlt := hW.lt
  have hW0 := hW
  obtain ⟨p, q, hA, hV, rfl, hfz, hnd⟩ := hW
  rw [hv] at hV
  have hgs : gs = [] ∧ q = [] := by
    cases gs with
    | nil => exact ⟨rfl, hV⟩
    | cons _ _ => exact hV.elim
  obtain ⟨rfl, rfl⟩ := hgs
  have hlen : ds.length = fn.params.size := by
    have : ∀ {ts : List TypeId} {vs : List Value} {ds : List (DataW H)} {ps : List MemPlace}, DataW.TrodAll enc C.prog W 0 (fun _ => true) true ts vs ds ps → ds.length = ts.length := by
      intro ts
      induction ts with
      | nil => intro vs ds ps h; cases vs <;> cases ds <;> simp_all [DataW.TrodAll]
      | cons t ts ih =>
        intro vs ds ps h
        cases vs <;> cases ds <;> simp only [DataW.TrodAll] at h
        obtain ⟨_, _, _, h2, _⟩ := h
        simp [ih h2]
    simpa using this hA
  have hvt' : s.bare.plain.varTypes C.prog = [] := by
    simp [OpenSpec.bare, ChangeSpec.plain, DataSpec.varTypes, hv]
  rw [hvt', List.append_nil, List.append_nil] at hwt
  have hrun := run W args.toList ds p (tabs W hL) hA (fun k hk => by simpa using List.all_eq_true.1 hwt k hk) ⟨base, fun j t v hj hv' => hval j t v (by simpa using hj) (by simpa using hv')⟩
  refine hrun.mono fun e W' ⟨he, hk⟩ => ?_
  subst he
  have hb := hk.below
  refine ⟨_, rfl, ds, [], p ++ [], [], p, [], hW0, ?_, ?_, ?_, hb.frame _, fun h => by cases h⟩
  · rw [List.append_nil, hs ds hlen, hres]
    exact trodAll_mk1 (shut_bool hB true)
  · rw [List.append_nil, hs ds hlen]
    exact trodAll_stays hl hb hr hA (fun x hx => hlt x (List.mem_append_left _ hx)) (fun x hx => by simpa using hlt x (List.mem_append_left _ hx))
  · show DataW.TrodVars enc C.prog W' _ s.vars _ _
    rw [hv]
    rw [List.append_nil, hs ds hlen]
    exact rfl
end Go.Sy


namespace Go.Proofs.YtbinnmophpfmlaaDoor
open Go.Sy Go.Shelf Go.Lib Go.ChangeShapes Go.WideShapes Go.ChangeAt Go.RowKit

theorem own : ownKnob Tryd.prog.godebug = none := by kernel_rfl
theorem laidOut : laidOutB Tryd.prog = true := by kernel_rfl

def laidSeven : List (String × DataW Unit) := [("math/bits.deBruijn32tab", Rows.laid_math_bits_deBruijn32tab), ("math/bits.deBruijn64tab", Rows.laid_math_bits_deBruijn64tab), ("internal/strconv.uint64pow10", Rows.laid_internal_strconv_uint64pow10), ("unicode/utf8.acceptRanges", Lib.acceptData), ("strconv.ErrRange", Rows.laid_strconv_ErrRange), ("strconv.ErrSyntax", Rows.laid_strconv_ErrSyntax), ("unicode/utf8.first", Lib.firstData)]
def flat : DataW Unit → Array Value
  | .agg l => (l.map fun
    | .lit (.int k z) => Value.int k z
    | _ => .nilIface).toArray
  | _ => #[]
noncomputable def laidWorld (os : Os) : World :=
  let w0 := World.holding Tryd.prog os ⟨#[.cells #[.string ⟨#[118, 97, 108, 117, 101, 32, 111, 117, 116, 32, 111, 102, 32, 114, 97, 110, 103, 101]⟩] 90 (0, 0), .cells #[.string ⟨#[105, 110, 118, 97, 108, 105, 100, 32, 115, 121, 110, 116, 97, 120]⟩] 90 (0, 0)], #[], []⟩
  let put (h : Array Obj) (g : Nat) (cs : Array Value) : Array Obj := h.modify g fun
    | .cells _ t frozen => .cells cs t frozen
    | o => o
  let h1 := put w0.heap 0 (Lib.firstTab.map fun z => Value.int .u8 z).toArray
  let h2 := put h1 1 ((List.range 16).flatMap fun i => [Value.int .u8 (Lib.accLo i), Value.int .u8 (Lib.accHi i)]).toArray
  let h3 := put h2 2 #[.iface 88 (.pointer (some ⟨w0.heap.size - 1, 0, none⟩))]
  let h4 := put h3 3 #[.iface 88 (.pointer (some ⟨w0.heap.size - 2, 0, none⟩))]
  let h5 := put h4 4 (flat Rows.laid_internal_strconv_uint64pow10)
  let h6 := put h5 5 (flat Rows.laid_math_bits_deBruijn32tab)
  let h7 := put h6 6 (flat Rows.laid_math_bits_deBruijn64tab)
  { w0 with heap := h7 }
theorem laid_met (os : Os) (args : Array Value) : laidMet Tryd.prog laidSeven ((laidWorld os).forCall (fun _ _ => 0) ⟨#[], args, []⟩).memory :=
  (LaidIn.of_run [0, 1, 2, 3, 4, 5, 6, (laidWorld os).heap.size - 1, (laidWorld os).heap.size - 2] 8 (by kernel_rfl) (by kernel_rfl) (by kernel_rfl) (by kernel_rfl)).met

theorem trod_if {P : Program} {w : World} {fuel : Nat} {t : TypeId} {cs : List Value} {d : DataW Unit} {p : List MemPlace} (ht : ∃ m, P.underlying t = some (.interface m))
    (h : DataW.trod (fun _ => ()) P w 0 (fun _ => true) false fuel t cs = some (d, p)) : ∃ ev, cs = [ev] ∧ (ev = .nilIface ∨ ∃ te pe, ev = .iface te pe) := by
  obtain ⟨m, ht⟩ := ht
  cases fuel with
  | zero => simp [DataW.trod] at h
  | succ fuel =>
    match cs, h with
    | [], h => simp [DataW.trod, ht] at h
    | [v], h => cases v <;> first | exact ⟨_, rfl, .inl rfl⟩ | exact ⟨_, rfl, .inr ⟨_, _, rfl⟩⟩ | simp [DataW.trod, ht] at h
    | _ :: _ :: _, h => simp [DataW.trod, ht] at h
theorem ifErr : ∃ m, Tryd.prog.underlying 69 = some (.interface m) := by
  have h : (match Tryd.prog.underlying 69 with | some (.interface _) => true | _ => false) = true := by kernel_rfl
  split at h
  · rename_i m hm
    exact ⟨m, hm⟩
  · cases h
theorem errs_one {W : World} {n : String} {d : DataW Unit} {g : Nat} (hg : Tryd.prog.globalNamed n = some g) (ht : ∃ t, (Tryd.prog.globals[g]?).map (·.type) = some t ∧ ∃ m, Tryd.prog.underlying t = some (.interface m)) (h : Lib.VarReads Tryd.prog W n d) :
    ∃ ev, W.cell? ⟨g, 0, none⟩ = some ev ∧ (ev = .nilIface ∨ ∃ te pe, ev = .iface te pe) := by
  obtain ⟨g', t', cs, fuel, p, h1, h2, h3, h4⟩ := h
  rw [hg] at h1
  obtain rfl := Option.some.inj h1
  obtain ⟨t, ht1, ht2⟩ := ht
  rw [ht1] at h2
  obtain rfl := Option.some.inj h2
  obtain ⟨ev, he1, he2⟩ := trod_if ht2 h4
  unfold World.var? at h3
  rw [hg] at h3
  simp only [Option.bind_some] at h3
  refine ⟨ev, ?_, he2⟩
  unfold World.cell?
  split at h3
  · rename_i c t' f hc
    obtain rfl := Option.some.inj h3
    simp only [hc, Option.isSome_none, Bool.false_eq_true, if_false]
    rw [← Array.getElem?_toList, he1]; rfl
  · cases h3
theorem tabs_laid (W : World) (h : laidMetH Tryd.prog laidSeven W) : Tabs Tryd.prog (snap W) :=
  have h : laidMet Tryd.prog laidSeven W := h
  tabs_of (utf8Tabs_of_readsT (U8Types.of196 valLays) ⟨by kernel_rfl, by kernel_rfl, by kernel_rfl, by kernel_rfl, by kernel_rfl, by kernel_rfl, by kernel_rfl⟩
    (Lib.laidMet.reads h (.tail _ (.tail _ (.tail _ (.tail _ (.tail _ (.tail _ (.head _))))))) ) (Lib.laidMet.reads h (.tail _ (.tail _ (.tail _ (.head _)))))) valLays.g3 valLays.g4
    (fun w hw g hg => by
      have e1 : Tryd.prog.globals.findIdx? (·.name == "strconv.ErrSyntax") = some 2 := by kernel_rfl
      have e2 : Tryd.prog.globals.findIdx? (·.name == "strconv.ErrRange") = some 3 := by kernel_rfl
      rcases hg with hg | hg
      · rw [e1] at hg; obtain rfl := Option.some.inj hg
        obtain ⟨ev, k1, k2⟩ := errs_one (g := 2) (by kernel_rfl) ⟨69, by kernel_rfl, ifErr⟩ (Lib.laidMet.reads h (.tail _ (.tail _ (.tail _ (.tail _ (.tail _ (.head _)))))))
        exact ⟨ev, cell_sub k1 hw, k2⟩
      · rw [e2] at hg; obtain rfl := Option.some.inj hg
        obtain ⟨ev, k1, k2⟩ := errs_one (g := 3) (by kernel_rfl) ⟨69, by kernel_rfl, ifErr⟩ (Lib.laidMet.reads h (.tail _ (.tail _ (.tail _ (.tail _ (.head _))))))
        exact ⟨ev, cell_sub k1 hw, k2⟩)
end Go.Proofs.YtbinnmophpfmlaaDoor


namespace Go.Sy
theorem Opn.u8 {P : Program} {T : TypeId} (h : P.underlying T = some (.int .u8)) : Opn P T UInt8 where
  op := fun ht _ => by
    obtain ⟨n, rfl, _, hwf⟩ := DataW.trod_int h ht
    unfold Lit.wf at hwf
    rw [Bool.and_eq_true] at hwf
    have h1 : (0 : Int) ≤ n := of_decide_eq_true hwf.1
    have h2 : n ≤ 255 := of_decide_eq_true hwf.2
    refine ⟨UInt8.ofNat n.toNat, ?_⟩
    show [Value.int .u8 n] = [Value.int .u8 (((UInt8.ofNat n.toNat).toNat : Nat) : Int)]
    rw [UInt8.toNat_ofNat', Nat.mod_eq_of_lt (by omega)]
    have : ((n.toNat : Nat) : Int) = n := by omega
    rw [this]
  shape := fun {_ _ _ v} hv => by simp only [Value.okWide, h, Cell.okWide] at hv; cases v <;> simp_all [Cell.ok, Value.isAgg', Rep.agg]
structure OpB (P : Program) (T : TypeId) (α : Type) [Rep α] (N : Nat) : Prop where
  op : ∀ {H : Type} {enc : TypeId × Value → H} {W : World} {base : Nat} {spare : Nat → Bool} {held : Bool} {fuel : Nat} {cs : List Value} {x : DataW H × List MemPlace},
    fuel < N → DataW.trod enc P W base spare held fuel T cs = some x → (∀ k ∈ x.1.weights P T, k ≤ reachBytes) → ∃ y : α, Rep.rd (snap W) cs y
theorem OpB.of {P : Program} {T : TypeId} {α : Type} [Rep α] {N : Nat} (h : Opn P T α) : OpB P T α N := ⟨fun _ h1 h2 => h.op h1 h2⟩
theorem OpB.list {P : Program} {T e : TypeId} {α : Type} [Rep α] {N : Nat} (hu : P.underlying T = some (.slice e)) (ho : OpB P e α N) (hn : P.cellsOf e = Rep.n α) (hn0 : Nat.blt 0 (Rep.n α) = true) (hb : Nat.blt 0 (P.bytesOf e) = true) : OpB P T (List α) (N + 1) where
  op := fun {H enc W base spare held fuel cs x} hN ht hw => by
    have hn0' : 0 < Rep.n α := by simpa using hn0
    have hb' : 0 < P.bytesOf e := by simpa using hb
    rcases DataW.trod_slice hu ht with ⟨rfl, _⟩ | ⟨a, len, cap, elems, rest, n, hfu, rfl, rfl, _, hlc, hcm, hel, hall, _, _⟩
    · exact ⟨[], _, rfl, none, 0, rfl, Nat.le_refl _, Nat.zero_le _, .inl rfl⟩
    have hwl : (elems.length + rest.length) * P.bytesOf e ≤ reachBytes := hw _ (by simp [DataW.weights, hu])
    have hlenb : len ≤ maxList := by
      have h1 : (elems.length + rest.length) * 1 ≤ (elems.length + rest.length) * P.bytesOf e := Nat.mul_le_mul_left _ hb'
      unfold reachBytes at hwl; unfold maxList; omega
    have each : ∀ i, i < len → ∃ ci, W.cells? base (a.add (i * Rep.n α)) (Rep.n α) = some ci ∧ ∃ y : α, Rep.rd (snap W) ci y := fun i hi => by
      have h1 := hall i hi
      rw [hn] at h1
      have hlt : i < elems.length := by omega
      rw [List.getElem?_eq_getElem hlt, Option.bind_eq_some_iff] at h1
      obtain ⟨ci, h2, h3⟩ := h1
      refine ⟨ci, h2, ho.op (show n < N by omega) h3 fun k hk => hw k ?_⟩
      simp only [DataW.weights, hu]
      refine List.mem_cons_of_mem _ (List.mem_append_left _ ?_)
      have : ∀ (l : List (DataW H)) d, d ∈ l → ∀ k ∈ d.weights P e, k ∈ DataW.weightsAll P e l := by
        intro l
        induction l with
        | nil => intro d hd; cases hd
        | cons b l ih =>
          intro d hd k hk
          simp only [DataW.weightsAll]
          rcases List.mem_cons.1 hd with h | h
          · subst h; exact List.mem_append_left _ hk
          · exact List.mem_append_right _ (ih d h k hk)
      exact this _ elems[i].1 (List.mem_map.2 ⟨_, List.getElem_mem hlt, rfl⟩) k hk
    by_cases h0 : len = 0
    · subst h0
      exact ⟨[], _, rfl, some a, cap, rfl, Nat.zero_le _, Nat.zero_le _, .inl rfl⟩
    -- the block
    obtain ⟨c0, hc0, _⟩ := each 0 (by omega)
    have hadd0 : a.add (0 * Rep.n α) = a := by rw [Nat.zero_mul]; rfl
    rw [hadd0] at hc0
    obtain ⟨_, hl0, hc0'⟩ := World.cells?_some hc0
    have hcell0 : ∃ v, W.cell? a = some v := by
      have := hc0' 0 hn0'
      have h2 : ∃ v, c0[0]? = some v := ⟨c0[0]'(by omega), List.getElem?_eq_getElem (by omega)⟩
      obtain ⟨v, hv⟩ := h2
      exact ⟨v, by rw [show a.add 0 = a from rfl] at this; rw [this, hv]⟩
    obtain ⟨v0, hv0⟩ := hcell0
    obtain ⟨hspot, blk, hblk, _⟩ := cell_snap hv0
    have hcellk : ∀ i j, i < len → j < Rep.n α → ∃ v, blk[a.off + (i * Rep.n α + j)]? = some v ∧ ∀ ci, W.cells? base (a.add (i * Rep.n α)) (Rep.n α) = some ci → ci[j]? = some v := fun i j hi hj => by
      obtain ⟨ci, h1, _⟩ := each i hi
      obtain ⟨_, hl, hc⟩ := World.cells?_some h1
      have h2 := hc j hj
      have h3 : ci[j]? = some (ci[j]'(by omega)) := List.getElem?_eq_getElem (by omega)
      rw [h3] at h2
      obtain ⟨_, blk', hb1, hb2⟩ := cell_snap h2
      have hbb : ((a.add (i * Rep.n α)).add j).block = a.block ∧ ((a.add (i * Rep.n α)).add j).off = a.off + (i * Rep.n α + j) :=
        ⟨(add_bo _ _).1.trans (add_bo _ _).1, by rw [(add_bo _ _).2, (add_bo _ _).2]; omega⟩
      rw [hbb.1] at hb1
      rw [hblk] at hb1; cases hb1
      rw [hbb.2] at hb2
      exact ⟨_, hb2, fun ci' h' => by rw [h1] at h'; cases h'; exact h3⟩
    have hbl : a.off + len * Rep.n α ≤ blk.length := by
      obtain ⟨v, hv, _⟩ := hcellk (len - 1) (Rep.n α - 1) (by omega) (by omega)
      have := (List.getElem?_eq_some_iff.1 hv).1
      have e : (len - 1) * Rep.n α + (Rep.n α - 1) + 1 = len * Rep.n α := by
        obtain ⟨m, rfl⟩ : ∃ m, len = m + 1 := ⟨len - 1, by omega⟩
        rw [Nat.add_sub_cancel, Nat.add_mul]; omega
      omega
    have hcs : ∀ i, i < len → W.cells? base (a.add (i * Rep.n α)) (Rep.n α) = some ((blk.drop (a.off + i * Rep.n α)).take (Rep.n α)) := fun i hi => by
      obtain ⟨ci, h1, _⟩ := each i hi
      rw [h1]
      obtain ⟨_, hl, _⟩ := World.cells?_some h1
      congr 1
      apply List.ext_getElem?
      intro j
      by_cases hj : j < Rep.n α
      · obtain ⟨v, hv, h2⟩ := hcellk i j hi hj
        rw [h2 ci h1, List.getElem?_take, if_pos hj, List.getElem?_drop, ← hv, Nat.add_assoc]
      · rw [List.getElem?_eq_none (by omega), List.getElem?_eq_none (by rw [List.length_take]; omega)]
    obtain ⟨ys, hy1, hy2⟩ := rdL_of_each (r := Rep.rd (snap W)) ((List.range len).map fun i => (blk.drop (a.off + i * Rep.n α)).take (Rep.n α)) fun c hc => by
      obtain ⟨i, hi, rfl⟩ := List.mem_map.1 hc
      have hi' := List.mem_range.1 hi
      obtain ⟨ci, h1, h2⟩ := each i hi'
      rw [hcs i hi'] at h1; cases h1
      exact h2
    have hyl : ys.length = len := by simpa using hy1
    have hflat : ∀ m, m ≤ len → ((List.range m).map fun i => (blk.drop (a.off + i * Rep.n α)).take (Rep.n α)).flatten = (blk.drop a.off).take (m * Rep.n α) := by
      intro m
      induction m with
      | zero => simp
      | succ m ih =>
        intro hm
        rw [List.range_succ, List.map_append, List.flatten_append, ih (by omega), Nat.add_mul, Nat.one_mul, List.take_add, List.drop_drop]
        simp
    rw [hflat len (Nat.le_refl _)] at hy2
    subst hyl
    refine ⟨ys, _, rfl, some a, cap, rfl, hlc, hlenb, .inr ⟨a, (blk.drop a.off).take (ys.length * Rep.n α), rfl, ⟨hspot, blk, hblk, fun j u hj => ?_⟩, ?_, hy2⟩⟩
    · rw [List.getElem?_take] at hj
      split at hj
      · rw [List.getElem?_drop] at hj; exact hj
      · cases hj
    · rw [List.length_take, List.length_drop]; omega

/-! ### A law's statement -/
/-- The parts of a struct, one behind the other, in so many steps. -/
inductive OpBs (P : Program) (N : Nat) : List Field → Nat → (σ : Type) → [Rep σ] → Prop
  | one {α : Type} [Rep α] {f : Field} : OpB P f.type α N → P.cellsOf f.type = Rep.n α → OpBs P N [f] f.offset α
  | cons {α β : Type} [Rep α] [Rep β] {f : Field} {fs : List Field} : OpB P f.type α N → P.cellsOf f.type = Rep.n α → OpBs P N fs (f.offset + Rep.n α) β → OpBs P N (f :: fs) f.offset (α × β)
theorem OpBs.op {P : Program} {N : Nat} {fs : List Field} {off : Nat} {σ : Type} [I : Rep σ] (h : OpBs P N fs off σ) {H : Type} {enc : TypeId × Value → H} {W : World} {base : Nat} {spare : Nat → Bool} {held : Bool} {fuel : Nat} {cs : List Value} (hN : fuel < N)
    (hf : ∀ f ∈ fs, ∃ x, DataW.trod enc P W base spare held fuel f.type ((cs.drop f.offset).take (P.cellsOf f.type)) = some x ∧ ∀ k ∈ x.1.weights P f.type, k ≤ reachBytes) :
    ∃ y : σ, Rep.rd (snap W) ((cs.drop off).take (Rep.n σ)) y := by
  induction h with
  | one ho hn =>
    obtain ⟨x, h1, h2⟩ := hf _ (List.mem_cons_self ..)
    rw [hn] at h1
    exact ho.op hN h1 h2
  | @cons α β _ _ f fs ho hn _ ih =>
    obtain ⟨x, h1, h2⟩ := hf _ (List.mem_cons_self ..)
    rw [hn] at h1
    obtain ⟨y1, k1⟩ := ho.op hN h1 h2
    obtain ⟨y2, k2⟩ := ih fun g hg => hf g (List.mem_cons_of_mem _ hg)
    refine ⟨(y1, y2), _, _, ?_, k1, k2⟩
    show (cs.drop f.offset).take (Rep.n α + Rep.n β) = _
    rw [List.take_add, List.drop_drop]
theorem Opn.val {P : Program} {T : TypeId} {fs : Array Field} (hu : P.underlying T = some (.struct fs)) (hn : P.cellsOf T = 6)
    (hof : ∀ N, OpB P T Val N → OpBs P (N + 1) fs.toList 0 (Int × Int × List UInt8 × List Val × Int × List Raw)) : Opn P T Val := by
  have key : ∀ N, OpB P T Val N := by
    intro N
    induction N with
    | zero => exact ⟨fun h => absurd h (Nat.not_lt_zero _)⟩
    | succ N ih =>
      refine ⟨fun {H enc W base spare held fuel cs x} hN ht hw => ?_⟩
      obtain ⟨xs, n, hfu, hx, hl, hxl, hx2⟩ := DataW.trod_struct hu ht
      have := (hof N ih).op (enc := enc) (W := W) (base := base) (spare := spare) (held := held) (fuel := n) (cs := cs) (by omega) fun f hf => by
        obtain ⟨i, hi⟩ := List.mem_iff_getElem?.1 hf
        have hi' : fs[i]? = some f := by simpa using hi
        have h1 := hx2 i f hi'
        have hlt : i < xs.length := by rw [hxl]; exact (Array.getElem?_eq_some_iff.1 hi').1
        refine ⟨xs[i], by rw [h1, List.getElem?_eq_getElem hlt], fun k hk => hw k ?_⟩
        rw [hx, weights_agg hu]
        exact DataW.weights_mem_each (j := i) (t := f.type) (d := xs[i].1) (by rw [List.getElem?_map, hi]; rfl) (by rw [List.getElem?_map, List.getElem?_eq_getElem hlt]; rfl) k hk
      obtain ⟨⟨k, n', b, l, r, m⟩, hy⟩ := this
      refine ⟨Val.mk k n' b l r m, Val.rd_to.2 ?_⟩
      rw [hn] at hl
      have e : (cs.drop 0).take (Rep.n (Int × Int × List UInt8 × List Val × Int × List Raw)) = cs := by
        rw [List.drop_zero]
        exact List.take_of_length_le (by rw [hl]; exact Nat.le_refl _)
      rw [e] at hy
      exact hy
  exact ⟨fun {H enc W base spare held fuel cs x} ht hw => (key (fuel + 1)).op (Nat.lt_succ_self _) ht hw, fun {_ _ _ v} hv => by
    simp only [Value.okWide, hu] at hv
    obtain ⟨cs, rfl, _⟩ := hv
    rfl⟩
inductive FineM : Val → Prop
  | mk {v : Val} : v.b.length ≤ 281474976710656 → v.l.length ≤ 281474976710656 → v.more.length ≤ 281474976710656 → (∀ r ∈ v.more, r.b.length ≤ 281474976710656) → (∀ w ∈ v.l, FineM w) → FineM v
theorem FineM.b {v : Val} (h : FineM v) : v.b.length ≤ 281474976710656 := by cases h; assumption
theorem FineM.l {v : Val} (h : FineM v) : v.l.length ≤ 281474976710656 := by cases h; assumption
theorem FineM.more {v : Val} (h : FineM v) : v.more.length ≤ 281474976710656 := by cases h; assumption
end Go.Sy


namespace Go.Proofs.YtbinnmophpfmlaaDoor
open Go.Sy Go.Shelf Go.Lib Go.ChangeShapes Go.WideShapes Go.ChangeAt Go.RowKit

theorem lexStrings_laid : Rows.lexStringsRow.laid = laidSeven := by kernel_rfl
theorem lexStrings_ctr (a0 : Str) (a1 : List UInt8) : Ctr Tryd.prog 8 [isv a0, isv a1] [] (pureP true) := law04_LexStrings_w (strings_true a0 a1)

theorem lexStrings_witness (os : Os) {H : Type} (enc : TypeId × Value → H) :
    (OpenSpec.ofChange Rows.lexStringsSpec).preRow enc Tryd.prog Tryd.f8 [] false laidSeven ((laidWorld os).forCall (fun _ _ => 0) ⟨#[], #[.string ⟨#[]⟩, .slice none 0 0], []⟩).memory #[.string ⟨#[]⟩, .slice none 0 0] := by
  have hw : (DataW.whole enc Tryd.prog ((laidWorld os).forCall (fun _ _ => 0) ⟨#[], #[.string ⟨#[]⟩, .slice none 0 0], []⟩).memory Tryd.f8.params.toList (OpenSpec.ofChange Rows.lexStringsSpec).vars false #[Value.string ⟨#[]⟩, .slice none 0 0].toList 8).map (fun x => (x.1, x.2.1)) =
      some ([.lit (.string []), .nil], []) := by kernel_rfl
  obtain ⟨⟨x1, x2, x3⟩, hx, hx1⟩ := Option.map_eq_some_iff.1 hw
  simp only [Prod.mk.injEq] at hx1
  obtain ⟨rfl, rfl⟩ := hx1
  exact OpenSpec.preRow_of_cond 8 hx (by kernel_rfl) (fun k hk => by cases hk) (by kernel_rfl) (laid_met os _)

set_option maxRecDepth 100000 in
theorem lexStrings_lifted (os : Os) (started : os.Started) (H : Type) (enc : TypeId × Value → H) (F : Stop.Interp) :
    ReturnsInHanded {} Tryd.checked os 8 .any ((OpenSpec.ofChange Rows.lexStringsSpec).preRow enc Tryd.prog Tryd.f8 [] false laidSeven) (((OpenSpec.ofChange Rows.lexStringsSpec).at F).post enc Tryd.prog Tryd.f8 false true false false) :=
  law_laid (C := Tryd.checked) (B := 4) own started (by kernel_rfl) Tryd.func8
    (witness_row_atRef (enc := enc) (C := Tryd.checked) false (laidWorld os) _ rfl (by kernel_rfl) (by kernel_rfl) (by kernel_rfl) (lexStrings_witness os enc))
    laidOut (by kernel_rfl) rfl rfl Tryd.underlying4
    (fun ds h => by
      match ds, h with
      | [_, _], _ => rfl)
    tabs_laid
    (fun W vs ds p hT ht hw hk => run2 (t1 := 9) (t2 := 42) hT lexStrings_ctr (Opn.str Tryd.underlying9) (Opn.list Tryd.underlying42 (Opn.u8 Tryd.underlying5) (by kernel_rfl) rfl (by kernel_rfl)) ht hw hk)

theorem lexStrings_said : Rows.LexStringsSaid :=
  OpenClaim.holds_of_cond 8 Tryd.f8 rfl rfl rfl rfl rfl rfl rfl ⟨rfl, rfl, rfl, rfl, rfl⟩ rfl rfl rfl rfl rfl (by kernel_rfl) Tryd.func8 (by kernel_rfl)
    (of_decide_eq_true (by kernel_rfl)) (by unfold Func.isWrapper; rw [if_neg (of_decide_eq_false (by kernel_rfl))]; exact ⟨rfl, rfl⟩)
    (fun os started H enc _ F0 => by rw [OpenClaim.pre_eq_preRow, lexStrings_laid]; exact lexStrings_lifted os started H enc F0)

theorem lexStrings_card : Rows.LexStringsCardSaid :=
  Claim7.holds_tied_plain_at .later [] [.data, .data, .data, .data, .sentinel, .sentinel, .pinned] true (true, "cf443e31984b912d577cc7b628c6cf029ed79d55b22f4ef6aac21c1c00183ec4") true
    lexStrings_said (fun _ h => by cases h) (by kernel_rfl) (fun _ h => by cases h) lexStrings_row_tie rfl ⟨rfl, rfl⟩ (by kernel_rfl) rfl
    (fun f fn hf hfn => by
      obtain rfl : f = 8 := Option.some.inj ((show Tryd.prog.funcNamed Rows.lexStringsRow.func = some 8 by kernel_rfl).symm.trans hf) |>.symm
      obtain rfl : fn = Tryd.f8 := (Option.some.inj (Tryd.func8.symm.trans hfn)).symm
      exact ⟨by kernel_rfl, fun j t ht => by
        have e : (Tryd.f8.params.toList.all fun t => !Tryd.prog.wantsStandIn t) = true := by kernel_rfl
        have := List.all_eq_true.1 e t (List.mem_of_getElem? (i := j) (by simpa using ht))
        exact (by simpa using this : Tryd.prog.wantsStandIn t = false)⟩)
    (by kernel_rfl)
end Go.Proofs.YtbinnmophpfmlaaDoor



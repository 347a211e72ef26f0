/- for every value of its arguments the law returns true, and each argument reads behind the call as it read before; what the listed variables hold is tied to the program's text -/
import Derived.Test.YtbinnmophpfmlaaDoorLwA
import Derived.Test.YtbinnmophpfmlaaDoorLwB
import Derived.Test.YtbinnmophpfmlaaDoorLwC
import Derived.Lib.LaidIn
import Derived.Lib.LaidU8T
import Derived.Deep.DeepHandedRow
import Derived.Deep.DeepWitnessRowRef
import Derived.ProofKit
import Derived.KernelRfl
import Derived.Test.YtbinnmophpfmlaaDoorRows
import Derived.Test.YtbinnmophpfmlaaDoorTie
import Derived.Test.YtbinnmophpfmlaaDoorCards
import Derived.SevenTiedAt
set_option linter.unusedVariables false
set_option linter.unusedSimpArgs false

namespace Go.Sy
open Go.Shelf Go.Lib Go.ChangeShapes Go.WideShapes Go.ChangeAt Go.RowKit

theorem cell_sub {W w : World} {a : Addr} {v : Value} (h : W.cell? a = some v) (hs : (snap W).sub w) : w.cell? a = some v := by
  obtain ⟨h1, c, h2, h3⟩ := cell_snap h
  obtain ⟨c', T, fr, h4, h5⟩ := hs _ _ h2
  unfold World.cell?
  rw [h4]
  simp only [h1]
  obtain ⟨t, ht⟩ := h5
  rw [← Array.getElem?_toList, ← ht, List.getElem?_append_left (by
    rcases Nat.lt_or_ge a.off c.length with h6 | h6
    · exact h6
    · rw [List.getElem?_eq_none h6] at h3; cases h3)]
  exact h3
theorem tabs_of {P : Program} {g1 g2 : Nat} {W : World} (h : Lib.Utf8Tabs g1 g2 W) (e1 : P.globals.findIdx? (·.name == "unicode/utf8.first") = some g1) (e2 : P.globals.findIdx? (·.name == "unicode/utf8.acceptRanges") = some g2) (he : ∀ w, (snap W).sub w → ErrsW P w) : Tabs P (snap W) := by
  intro w hw
  refine ⟨fun k1 k2 h1 h2 => ?_, he w hw⟩
  rw [e1] at h1; cases h1
  rw [e2] at h2; cases h2
  exact ⟨fun c hc => cell_sub (h.1 c hc) hw, fun i hi => ⟨cell_sub (h.2 i hi).1 hw, cell_sub (h.2 i hi).2 hw⟩⟩

theorem law_laid {H : Type} {enc : TypeId × Value → H} {a : Assume} {C : Checked} {os : Os} {f : FuncId} {fn : Func} {s : OpenSpec} {F : Stop.Interp} {B : TypeId} {apart fresh handsOn : Bool} {laid : List (String × DataW Unit)}
    (own : ownKnob C.prog.godebug = none) (started : os.Started) (noInit : C.prog.inits.idxOf? f = none) (hfn : C.prog.funcs[f]? = some fn)
    (witness : ∃ (w : World) (tape : Tape) (i : Input), w.os = os ∧ (w.forCall tape i).Shaped C.prog ∧ i.vars = [] ∧ Input.okWide C.prog (w.forCall tape i) .any w.heap.size f i ∧
      s.preRow enc C.prog fn [] apart laid (w.forCall tape i).memory i.args ∧ a.holds C.prog (lone (Frame.enter C.prog f i.args .normal) [] (w.forCall tape i)))
    (hl : laidOutB C.prog = true) (hr : (fn.params.toList.all fun t => C.prog.readableRec t && decide (t < C.prog.types.size)) = true) (hv : s.vars = []) (hres : fn.resultTypes = #[B]) (hB : C.prog.underlying B = some .bool)
    (hs : ∀ ds : List (DataW H), ds.length = fn.params.size → (s.at F).fn H ds = { results := [.lit (.bool true)], args := ds })
    (tabs : ∀ W, laidMetH C.prog laid W → Tabs C.prog (snap W))
    (run : ∀ (W : World) (vs : List Value) (ds : List (DataW H)) (p : List MemPlace), Tabs C.prog (snap W) → DataW.TrodAll enc C.prog W 0 (fun _ => true) true fn.params.toList vs ds p → (∀ k ∈ DataW.weightsEach C.prog fn.params.toList ds, k ≤ reachBytes) → (∃ base, ∀ (j : Nat) t v, fn.params.toList[j]? = some t → vs[j]? = some v → Value.okWide C.prog W .any base t v) →
      Calls C.prog f vs.toArray W fun e W' => e = .returned (.bool true) ∧ Keep [] W W') :
    ReturnsInHanded a C os f .any (s.preRow enc C.prog fn [] apart laid) ((s.at F).post enc C.prog fn apart fresh handsOn false) := by
  refine returnsInHanded_of_row own started noInit hfn witness ?_
  intro W base args ds gs before hval hW _ _ hwt hL _ _
  have hlt := hW.lt
  have hW0 := hW
  obtain ⟨p, q, hA, hV, rfl, hfz, hnd⟩ := hW
  rw [hv] at hV
  have hgs : gs = [] ∧ q = [] := by
    cases gs with
    | nil => exact ⟨rfl, hV⟩
    | cons _ _ => exact hV.elim
  obtain ⟨rfl, rfl⟩ := hgs
  have hlen : ds.length = fn.params.size := by
    have : ∀ {ts : List TypeId} {vs : List Value} {ds : List (DataW H)} {ps : List MemPlace}, DataW.TrodAll enc C.prog W 0 (fun _ => true) true ts vs ds ps → ds.length = ts.length := by
      intro ts
      induction ts with
      | nil => intro vs ds ps h; cases vs <;> cases ds <;> simp_all [DataW.TrodAll]
      | cons t ts ih =>
        intro vs ds ps h
        cases vs <;> cases ds <;> simp only [DataW.TrodAll] at h
        obtain ⟨_, _, _, h2, _⟩ := h
        simp [ih h2]
    simpa using this hA
  have hvt' : s.bare.plain.varTypes C.prog = [] := by
    simp [OpenSpec.bare, ChangeSpec.plain, DataSpec.varTypes, hv]
  rw [hvt', List.append_nil, List.append_nil] at hwt
  have hrun := run W args.toList ds p (tabs W hL) hA (fun k hk => by simpa using List.all_eq_true.1 hwt k hk) ⟨base, fun j t v hj hv' => hval j t v (by simpa using hj) (by simpa using hv')⟩
  refine hrun.mono fun e W' ⟨he, hk⟩ => ?_
  subst he
  have hb := hk.below
  refine ⟨_, rfl, ds, [], p ++ [], [], p, [], hW0, ?_, ?_, ?_, hb.frame _, fun h => by cases h⟩
  · rw [List.append_nil, hs ds hlen, hres]
    exact trodAll_mk1 (shut_bool hB true)
  · rw [List.append_nil, hs ds hlen]
    exact trodAll_stays hl hb hr hA (fun x hx => hlt x (List.mem_append_left _ hx)) (fun x hx => by simpa using hlt x (List.mem_append_left _ hx))
  · show DataW.TrodVars enc C.prog W' _ s.vars _ _
    rw [hv]
    rw [List.append_nil, hs ds hlen]
    exact rfl
end Go.Sy


namespace Go.Proofs.YtbinnmophpfmlaaDoor
open Go.Sy Go.Shelf Go.Lib Go.ChangeShapes Go.WideShapes Go.ChangeAt Go.RowKit

theorem own : ownKnob Tryd.prog.godebug = none := by kernel_rfl
theorem laidOut : laidOutB Tryd.prog = true := by kernel_rfl

def laidSeven : List (String × DataW Unit) := [("math/bits.deBruijn32tab", Rows.laid_math_bits_deBruijn32tab), ("math/bits.deBruijn64tab", Rows.laid_math_bits_deBruijn64tab), ("internal/strconv.uint64pow10", Rows.laid_internal_strconv_uint64pow10), ("unicode/utf8.acceptRanges", Lib.acceptData), ("strconv.ErrRange", Rows.laid_strconv_ErrRange), ("strconv.ErrSyntax", Rows.laid_strconv_ErrSyntax), ("unicode/utf8.first", Lib.firstData)]
def flat : DataW Unit → Array Value
  | .agg l => (l.map fun
    | .lit (.int k z) => Value.int k z
    | _ => .nilIface).toArray
  | _ => #[]
noncomputable def laidWorld (os : Os) : World :=
  let w0 := World.holding Tryd.prog os ⟨#[.cells #[.string ⟨#[118, 97, 108, 117, 101, 32, 111, 117, 116, 32, 111, 102, 32, 114, 97, 110, 103, 101]⟩] 90 (0, 0), .cells #[.string ⟨#[105, 110, 118, 97, 108, 105, 100, 32, 115, 121, 110, 116, 97, 120]⟩] 90 (0, 0)], #[], []⟩
  let put (h : Array Obj) (g : Nat) (cs : Array Value) : Array Obj := h.modify g fun
    | .cells _ t frozen => .cells cs t frozen
    | o => o
  let h1 := put w0.heap 0 (Lib.firstTab.map fun z => Value.int .u8 z).toArray
  let h2 := put h1 1 ((List.range 16).flatMap fun i => [Value.int .u8 (Lib.accLo i), Value.int .u8 (Lib.accHi i)]).toArray
  let h3 := put h2 2 #[.iface 88 (.pointer (some ⟨w0.heap.size - 1, 0, none⟩))]
  let h4 := put h3 3 #[.iface 88 (.pointer (some ⟨w0.heap.size - 2, 0, none⟩))]
  let h5 := put h4 4 (flat Rows.laid_internal_strconv_uint64pow10)
  let h6 := put h5 5 (flat Rows.laid_math_bits_deBruijn32tab)
  let h7 := put h6 6 (flat Rows.laid_math_bits_deBruijn64tab)
  { w0 with heap := h7 }
theorem laid_met (os : Os) (args : Array Value) : laidMet Tryd.prog laidSeven ((laidWorld os).forCall (fun _ _ => 0) ⟨#[], args, []⟩).memory :=
  (LaidIn.of_run [0, 1, 2, 3, 4, 5, 6, (laidWorld os).heap.size - 1, (laidWorld os).heap.size - 2] 8 (by kernel_rfl) (by kernel_rfl) (by kernel_rfl) (by kernel_rfl)).met

theorem trod_if {P : Program} {w : World} {fuel : Nat} {t : TypeId} {cs : List Value} {d : DataW Unit} {p : List MemPlace} (ht : ∃ m, P.underlying t = some (.interface m))
    (h : DataW.trod (fun _ => ()) P w 0 (fun _ => true) false fuel t cs = some (d, p)) : ∃ ev, cs = [ev] ∧ (ev = .nilIface ∨ ∃ te pe, ev = .iface te pe) := by
  obtain ⟨m, ht⟩ := ht
  cases fuel with
  | zero => simp [DataW.trod] at h
  | succ fuel =>
    match cs, h with
    | [], h => simp [DataW.trod, ht] at h
    | [v], h => cases v <;> first | exact ⟨_, rfl, .inl rfl⟩ | exact ⟨_, rfl, .inr ⟨_, _, rfl⟩⟩ | simp [DataW.trod, ht] at h
    | _ :: _ :: _, h => simp [DataW.trod, ht] at h
theorem ifErr : ∃ m, Tryd.prog.underlying 69 = some (.interface m) := by
  have h : (match Tryd.prog.underlying 69 with | some (.interface _) => true | _ => false) = true := by kernel_rfl
  split at h
  · rename_i m hm
    exact ⟨m, hm⟩
  · cases h
theorem errs_one {W : World} {n : String} {d : DataW Unit} {g : Nat} (hg : Tryd.prog.globalNamed n = some g) (ht : ∃ t, (Tryd.prog.globals[g]?).map (·.type) = some t ∧ ∃ m, Tryd.prog.underlying t = some (.interface m)) (h : Lib.VarReads Tryd.prog W n d) :
    ∃ ev, W.cell? ⟨g, 0, none⟩ = some ev ∧ (ev = .nilIface ∨ ∃ te pe, ev = .iface te pe) := by
  obtain ⟨g', t', cs, fuel, p, h1, h2, h3, h4⟩ := h
  rw [hg] at h1
  obtain rfl := Option.some.inj h1
  obtain ⟨t, ht1, ht2⟩ := ht
  rw [ht1] at h2
  obtain rfl := Option.some.inj h2
  obtain ⟨ev, he1, he2⟩ := trod_if ht2 h4
  unfold World.var? at h3
  rw [hg] at h3
  simp only [Option.bind_some] at h3
  refine ⟨ev, ?_, he2⟩
  unfold World.cell?
  split at h3
  · rename_i c t' f hc
    obtain rfl := Option.some.inj h3
    simp only [hc, Option.isSome_none, Bool.false_eq_true, if_false]
    rw [← Array.getElem?_toList, he1]; rfl
  · cases h3
theorem tabs_laid (W : World) (h : laidMetH Tryd.prog laidSeven W) : Tabs Tryd.prog (snap W) :=
  have h : laidMet Tryd.prog laidSeven W := h
  tabs_of (utf8Tabs_of_readsT (U8Types.of196 valLays) ⟨by kernel_rfl, by kernel_rfl, by kernel_rfl, by kernel_rfl, by kernel_rfl, by kernel_rfl, by kernel_rfl⟩
    (Lib.laidMet.reads h (.tail _ (.tail _ (.tail _ (.tail _ (.tail _ (.tail _ (.head _))))))) ) (Lib.laidMet.reads h (.tail _ (.tail _ (.tail _ (.head _)))))) valLays.g3 valLays.g4
    (fun w hw g hg => by
      have e1 : Tryd.prog.globals.findIdx? (·.name == "strconv.ErrSyntax") = some 2 := by kernel_rfl
      have e2 : Tryd.prog.globals.findIdx? (·.name == "strconv.ErrRange") = some 3 := by kernel_rfl
      rcases hg with hg | hg
      · rw [e1] at hg; obtain rfl := Option.some.inj hg
        obtain ⟨ev, k1, k2⟩ := errs_one (g := 2) (by kernel_rfl) ⟨69, by kernel_rfl, ifErr⟩ (Lib.laidMet.reads h (.tail _ (.tail _ (.tail _ (.tail _ (.tail _ (.head _)))))))
        exact ⟨ev, cell_sub k1 hw, k2⟩
      · rw [e2] at hg; obtain rfl := Option.some.inj hg
        obtain ⟨ev, k1, k2⟩ := errs_one (g := 3) (by kernel_rfl) ⟨69, by kernel_rfl, ifErr⟩ (Lib.laidMet.reads h (.tail _ (.tail _ (.tail _ (.tail _ (.head _))))))
        exact ⟨ev, cell_sub k1 hw, k2⟩)
end Go.Proofs.YtbinnmophpfmlaaDoor


namespace Go.Proofs.YtbinnmophpfmlaaDoor
open Go.Sy Go.Shelf Go.Lib Go.ChangeShapes Go.WideShapes Go.ChangeAt Go.RowKit

theorem lexWhite_laid : Rows.lexWhiteRow.laid = laidSeven := by kernel_rfl
theorem lexWhite_ctr (a0 : Str) (a1 : List Int) : Ctr Tryd.prog 7 [isv a0, isv a1] [] (pureP true) := law04_LexWhite_w (white_true a0 a1)

theorem lexWhite_witness (os : Os) {H : Type} (enc : TypeId × Value → H) :
    (OpenSpec.ofChange Rows.lexWhiteSpec).preRow enc Tryd.prog Tryd.f7 [] false laidSeven ((laidWorld os).forCall (fun _ _ => 0) ⟨#[], #[.string ⟨#[]⟩, .slice none 0 0], []⟩).memory #[.string ⟨#[]⟩, .slice none 0 0] := by
  have hw : (DataW.whole enc Tryd.prog ((laidWorld os).forCall (fun _ _ => 0) ⟨#[], #[.string ⟨#[]⟩, .slice none 0 0], []⟩).memory Tryd.f7.params.toList (OpenSpec.ofChange Rows.lexWhiteSpec).vars false #[Value.string ⟨#[]⟩, .slice none 0 0].toList 8).map (fun x => (x.1, x.2.1)) =
      some ([.lit (.string []), .nil], []) := by kernel_rfl
  obtain ⟨⟨x1, x2, x3⟩, hx, hx1⟩ := Option.map_eq_some_iff.1 hw
  simp only [Prod.mk.injEq] at hx1
  obtain ⟨rfl, rfl⟩ := hx1
  exact OpenSpec.preRow_of_cond 8 hx (by kernel_rfl) (fun k hk => by cases hk) (by kernel_rfl) (laid_met os _)

set_option maxRecDepth 100000 in
theorem lexWhite_lifted (os : Os) (started : os.Started) (H : Type) (enc : TypeId × Value → H) (F : Stop.Interp) :
    ReturnsInHanded {} Tryd.checked os 7 .any ((OpenSpec.ofChange Rows.lexWhiteSpec).preRow enc Tryd.prog Tryd.f7 [] false laidSeven) (((OpenSpec.ofChange Rows.lexWhiteSpec).at F).post enc Tryd.prog Tryd.f7 false true false false) :=
  law_laid (C := Tryd.checked) (B := 4) own started (by kernel_rfl) Tryd.func7
    (witness_row_atRef (enc := enc) (C := Tryd.checked) false (laidWorld os) _ rfl (by kernel_rfl) (by kernel_rfl) (by kernel_rfl) (lexWhite_witness os enc))
    laidOut (by kernel_rfl) rfl rfl Tryd.underlying4
    (fun ds h => by
      match ds, h with
      | [_, _], _ => rfl)
    tabs_laid
    (fun W vs ds p hT ht hw hk => run2 (t1 := 9) (t2 := 35) hT lexWhite_ctr (Opn.str Tryd.underlying9) (Opn.list Tryd.underlying35 (Opn.int Tryd.underlying3) (by kernel_rfl) rfl (by kernel_rfl)) ht hw hk)

theorem lexWhite_said : Rows.LexWhiteSaid :=
  OpenClaim.holds_of_cond 7 Tryd.f7 rfl rfl rfl rfl rfl rfl rfl ⟨rfl, rfl, rfl, rfl, rfl⟩ rfl rfl rfl rfl rfl (by kernel_rfl) Tryd.func7 (by kernel_rfl)
    (of_decide_eq_true (by kernel_rfl)) (by unfold Func.isWrapper; rw [if_neg (of_decide_eq_false (by kernel_rfl))]; exact ⟨rfl, rfl⟩)
    (fun os started H enc _ F0 => by rw [OpenClaim.pre_eq_preRow, lexWhite_laid]; exact lexWhite_lifted os started H enc F0)

theorem lexWhite_card : Rows.LexWhiteCardSaid :=
  Claim7.holds_tied_plain_at .later [] [.data, .data, .data, .data, .sentinel, .sentinel, .pinned] true (true, "cf443e31984b912d577cc7b628c6cf029ed79d55b22f4ef6aac21c1c00183ec4") true
    lexWhite_said (fun _ h => by cases h) (by kernel_rfl) (fun _ h => by cases h) lexWhite_row_tie rfl ⟨rfl, rfl⟩ (by kernel_rfl) rfl
    (fun f fn hf hfn => by
      obtain rfl : f = 7 := Option.some.inj ((show Tryd.prog.funcNamed Rows.lexWhiteRow.func = some 7 by kernel_rfl).symm.trans hf) |>.symm
      obtain rfl : fn = Tryd.f7 := (Option.some.inj (Tryd.func7.symm.trans hfn)).symm
      exact ⟨by kernel_rfl, fun j t ht => by
        have e : (Tryd.f7.params.toList.all fun t => !Tryd.prog.wantsStandIn t) = true := by kernel_rfl
        have := List.all_eq_true.1 e t (List.mem_of_getElem? (i := j) (by simpa using ht))
        exact (by simpa using this : Tryd.prog.wantsStandIn t = false)⟩)
    (by kernel_rfl)
end Go.Proofs.YtbinnmophpfmlaaDoor



/- TableDefaults: for every value of its arguments the law returns true, and each argument reads behind the call as it read before; what the tables of utf8 hold is tied to the program's text. No condition. -/
import Derived.Test.YtiibmpdjkdjbiaaGreatDoorTdA
import Derived.Test.YtiibmpdjkdjbiaaGreatDoorTdB
import Derived.Test.YtiibmpdjkdjbiaaGreatDoorTdC
import Derived.Test.YtiibmpdjkdjbiaaGreatDoorTdD
import Derived.Test.YtiibmpdjkdjbiaaGreatDoorTdE
import Derived.Lib.LaidIn
import Derived.Lib.LaidU8T
import Derived.Deep.DeepHandedRow
import Derived.Deep.DeepWitnessRowRef
import Derived.ProofKit
import Derived.KernelRfl
import Derived.Test.YtiibmpdjkdjbiaaGreatDoorRows
import Derived.Test.YtiibmpdjkdjbiaaGreatDoorTie
import Derived.Test.YtiibmpdjkdjbiaaGreatDoorCards
import Derived.SevenTiedAt
set_option linter.unusedVariables false
set_option linter.unusedSimpArgs false

namespace Go.Sy
open Go.Shelf Go.Lib Go.ChangeShapes Go.WideShapes Go.ChangeAt Go.RowKit

theorem cell_sub {W w : World} {a : Addr} {v : Value} (h : W.cell? a = some v) (hs : (snap W).sub w) : w.cell? a = some v := by
  obtain ⟨h1, c, h2, h3⟩ := cell_snap h
  obtain ⟨c', T, fr, h4, h5⟩ := hs _ _ h2
  unfold World.cell?
  rw [h4]
  simp only [h1]
  obtain ⟨t, ht⟩ := h5
  rw [← Array.getElem?_toList, ← ht, List.getElem?_append_left (by
    rcases Nat.lt_or_ge a.off c.length with h6 | h6
    · exact h6
    · rw [List.getElem?_eq_none h6] at h3; cases h3)]
  exact h3
theorem tabs_of {P : Program} {g1 g2 : Nat} {W : World} (h : Lib.Utf8Tabs g1 g2 W) (e1 : P.globals.findIdx? (·.name == "unicode/utf8.first") = some g1) (e2 : P.globals.findIdx? (·.name == "unicode/utf8.acceptRanges") = some g2) : Tabs P (snap W) := by
  intro w hw k1 k2 h1 h2
  rw [e1] at h1; cases h1
  rw [e2] at h2; cases h2
  exact ⟨fun c hc => cell_sub (h.1 c hc) hw, fun i hi => ⟨cell_sub (h.2 i hi).1 hw, cell_sub (h.2 i hi).2 hw⟩⟩

theorem law_laid {H : Type} {enc : TypeId × Value → H} {a : Assume} {C : Checked} {os : Os} {f : FuncId} {fn : Func} {s : OpenSpec} {F : Stop.Interp} {B : TypeId} {apart fresh handsOn : Bool} {laid : List (String × DataW Unit)}
    (own : ownKnob C.prog.godebug = none) (started : os.Started) (noInit : C.prog.inits.idxOf? f = none) (hfn : C.prog.funcs[f]? = some fn)
    (witness : ∃ (w : World) (tape : Tape) (i : Input), w.os = os ∧ (w.forCall tape i).Shaped C.prog ∧ i.vars = [] ∧ Input.okWide C.prog (w.forCall tape i) .any w.heap.size f i ∧
      s.preRow enc C.prog fn [] apart laid (w.forCall tape i).memory i.args ∧ a.holds C.prog (lone (Frame.enter C.prog f i.args .normal) [] (w.forCall tape i)))
    (hl : laidOutB C.prog = true) (hr : (fn.params.toList.all fun t => C.prog.readableRec t && decide (t < C.prog.types.size)) = true) (hv : s.vars = []) (hres : fn.resultTypes = #[B]) (hB : C.prog.underlying B = some .bool)
    (hs : ∀ ds : List (DataW H), ds.length = fn.params.size → (s.at F).fn H ds = { results := [.lit (.bool true)], args := ds })
    (tabs : ∀ W, laidMetH C.prog laid W → Tabs C.prog (snap W))
    (run : ∀ (W : World) (vs : List Value) (ds : List (DataW H)) (p : List MemPlace), Tabs C.prog (snap W) → DataW.TrodAll enc C.prog W 0 (fun _ => true) true fn.params.toList vs ds p → (∀ k ∈ DataW.weightsEach C.prog fn.params.toList ds, k ≤ reachBytes) → (∃ base, ∀ (j : Nat) t v, fn.params.toList[j]? = some t → vs[j]? = some v → Value.okWide C.prog W .any base t v) →
      Calls C.prog f vs.toArray W fun e W' => e = .returned (.bool true) ∧ Keep [] W W') :
    ReturnsInHanded a C os f .any (s.preRow enc C.prog fn [] apart laid) ((s.at F).post enc C.prog fn apart fresh handsOn false) := by
  refine returnsInHanded_of_row own started noInit hfn witness ?_
  intro W base args ds gs before hval hW _ _ hwt hL _ _
  have hlt := hW.lt
  have hW0 := hW
  obtain ⟨p, q, hA, hV, rfl, hfz, hnd⟩ := hW
  rw [hv] at hV
  have hgs : gs = [] ∧ q = [] := by
    cases gs with
    | nil => exact ⟨rfl, hV⟩
    | cons _ _ => exact hV.elim
  obtain ⟨rfl, rfl⟩ := hgs
  have hlen : ds.length = fn.params.size := by
    have : ∀ {ts : List TypeId} {vs : List Value} {ds : List (DataW H)} {ps : List MemPlace}, DataW.TrodAll enc C.prog W 0 (fun _ => true) true ts vs ds ps → ds.length = ts.length := by
      intro ts
      induction ts with
      | nil => intro vs ds ps h; cases vs <;> cases ds <;> simp_all [DataW.TrodAll]
      | cons t ts ih =>
        intro vs ds ps h
        cases vs <;> cases ds <;> simp only [DataW.TrodAll] at h
        obtain ⟨_, _, _, h2, _⟩ := h
        simp [ih h2]
    simpa using this hA
  have hvt' : s.bare.plain.varTypes C.prog = [] := by
    simp [OpenSpec.bare, ChangeSpec.plain, DataSpec.varTypes, hv]
  rw [hvt', List.append_nil, List.append_nil] at hwt
  have hrun := run W args.toList ds p (tabs W hL) hA (fun k hk => by simpa using List.all_eq_true.1 hwt k hk) ⟨base, fun j t v hj hv' => hval j t v (by simpa using hj) (by simpa using hv')⟩
  refine hrun.mono fun e W' ⟨he, hk⟩ => ?_
  subst he
  have hb := hk.below
  refine ⟨_, rfl, ds, [], p ++ [], [], p, [], hW0, ?_, ?_, ?_, hb.frame _, fun h => by cases h⟩
  · rw [List.append_nil, hs ds hlen, hres]
    exact trodAll_mk1 (shut_bool hB true)
  · rw [List.append_nil, hs ds hlen]
    exact trodAll_stays hl hb hr hA (fun x hx => hlt x (List.mem_append_left _ hx)) (fun x hx => by simpa using hlt x (List.mem_append_left _ hx))
  · show DataW.TrodVars enc C.prog W' _ s.vars _ _
    rw [hv]
    rw [List.append_nil, hs ds hlen]
    exact rfl
end Go.Sy


namespace Go.Proofs.YtiibmpdjkdjbiaaGreatDoor
open Go.Sy Go.Shelf Go.Lib Go.ChangeShapes Go.WideShapes Go.ChangeAt Go.RowKit

theorem own : ownKnob Tryz.prog.godebug = none := by kernel_rfl
theorem laidOut : laidOutB Tryz.prog = true := by kernel_rfl

noncomputable def laidWorld (os : Os) : World :=
  let w0 := World.holding Tryz.prog os ⟨#[], #[], []⟩
  let put (h : Array Obj) (g : Nat) (cs : Array Value) : Array Obj := h.modify g fun
    | .cells _ t frozen => .cells cs t frozen
    | o => o
  let h1 := put w0.heap 0 (Lib.firstTab.map fun z => Value.int .u8 z).toArray
  let h2 := put h1 1 ((List.range 16).flatMap fun i => [Value.int .u8 (Lib.accLo i), Value.int .u8 (Lib.accHi i)]).toArray
  { w0 with heap := h2 }
def laidTwo : List (String × DataW Unit) := [("unicode/utf8.acceptRanges", Lib.acceptData), ("unicode/utf8.first", Lib.firstData)]
theorem laid_met (os : Os) (args : Array Value) : laidMet Tryz.prog laidTwo ((laidWorld os).forCall (fun _ _ => 0) ⟨#[], args, []⟩).memory :=
  (LaidIn.of_run [0, 1] 8 (by kernel_rfl) (by kernel_rfl) (by kernel_rfl) (by kernel_rfl)).met
theorem tabs_laid (W : World) (h : laidMetH Tryz.prog laidTwo W) : Tabs Tryz.prog (snap W) :=
  tabs_of (utf8Tabs_of_readsT (U8Types.of196 valLays) ⟨by kernel_rfl, by kernel_rfl, by kernel_rfl, by kernel_rfl, by kernel_rfl, by kernel_rfl, by kernel_rfl⟩ (Lib.laidMet.reads h (.tail _ (.head _))) (Lib.laidMet.reads h (.head _))) valLays.g3 valLays.g4
end Go.Proofs.YtiibmpdjkdjbiaaGreatDoor


namespace Go.Sy
open Go.Shelf Go.Lib Go.ChangeShapes Go.WideShapes Go.ChangeAt Go.RowKit
theorem run5 {H : Type} {enc : TypeId × Value → H} {P : Program} {f : FuncId} {α β γ δ ε : Type} [Rep α] [Rep β] [Rep γ] [Rep δ] [Rep ε] {t1 t2 t3 t4 t5 : TypeId} {W : World} {vs : List Value} {ds : List (DataW H)} {p : List MemPlace}
    (hT : Tabs P (snap W)) (h : ∀ (a : α) (b : β) (c : γ) (d : δ) (e : ε), Ctr P f [isv a, isv b, isv c, isv d, isv e] [] (pureP true)) (o1 : Opn P t1 α) (o2 : Opn P t2 β) (o3 : Opn P t3 γ) (o4 : Opn P t4 δ) (o5 : Opn P t5 ε)
    (ht : DataW.TrodAll enc P W 0 (fun _ => true) true [t1, t2, t3, t4, t5] vs ds p) (hw : ∀ k ∈ DataW.weightsEach P [t1, t2, t3, t4, t5] ds, k ≤ reachBytes) (hk : ∃ base, ∀ (j : Nat) t v, [t1, t2, t3, t4, t5][j]? = some t → vs[j]? = some v → Value.okWide P W .any base t v) :
    Calls P f vs.toArray W fun e W' => e = .returned (.bool true) ∧ Keep [] W W' := by
  obtain ⟨base, hk⟩ := hk
  obtain ⟨v1, vs1, d1, ds1, p1, q1, rfl, rfl, h1, ht1⟩ := tcons ht
  obtain ⟨v2, vs2, d2, ds2, p2, q2, rfl, rfl, h2, ht2⟩ := tcons ht1
  obtain ⟨v3, vs3, d3, ds3, p3, q3, rfl, rfl, h3, ht3⟩ := tcons ht2
  obtain ⟨v4, vs4, d4, ds4, p4, q4, rfl, rfl, h4, ht4⟩ := tcons ht3
  obtain ⟨v5, vs5, d5, ds5, p5, q5, rfl, rfl, h5, ht5⟩ := tcons ht4
  obtain ⟨rfl, rfl⟩ := tnil ht5
  obtain ⟨w1, hw2⟩ := weights_cons hw
  obtain ⟨w2, hw3⟩ := weights_cons hw2
  obtain ⟨w3, hw4⟩ := weights_cons hw3
  obtain ⟨w4, hw5⟩ := weights_cons hw4
  obtain ⟨a, ha⟩ := arg_isv o1 h1 w1 (hk 0 _ _ rfl rfl)
  obtain ⟨b, hb⟩ := arg_isv o2 h2 w2 (hk 1 _ _ rfl rfl)
  obtain ⟨c, hc⟩ := arg_isv o3 h3 w3 (hk 2 _ _ rfl rfl)
  obtain ⟨d, hd⟩ := arg_isv o4 h4 w4 (hk 3 _ _ rfl rfl)
  obtain ⟨e, he⟩ := arg_isv o5 h5 (weights_cons hw5).1 (hk 4 _ _ rfl rfl)
  exact ctr_run (h a b c d e) hT ⟨ha, hb, hc, hd, he, trivial⟩
end Go.Sy
namespace Go.Proofs.YtiibmpdjkdjbiaaGreatDoor
open Go.Sy Go.Shelf Go.Lib Go.ChangeShapes Go.WideShapes Go.ChangeAt Go.RowKit

theorem tableDefaults_laid : Rows.tableDefaultsRow.laid = laidTwo := by kernel_rfl
theorem tableDefaults_ctr (a0 : Int) (a1 : Int) (a2 : Int) (a3 : Int) (a4 : Int) : Ctr Tryz.prog 9 [isv a0, isv a1, isv a2, isv a3, isv a4] [] (pureP true) := ctr_know ⟨Tryz.f9, Tryz.func9, by decide +kernel, by rfl⟩ (p := inI64 a0 ∧ inI64 a1 ∧ inI64 a2) (fun S vs h => by
    match vs, h with
    | [_, _, _, _, _], h => exact ⟨(isv_int.1 h.1).2, (isv_int.1 h.2.1).2, (isv_int.1 h.2.2.1).2⟩) fun hm => law10_TableDefaults_w (defaults_true a0 a1 a2 a3 a4 hm.1 hm.2.1 hm.2.2)

theorem tableDefaults_witness (os : Os) {H : Type} (enc : TypeId × Value → H) :
    (OpenSpec.ofChange Rows.tableDefaultsSpec).preRow enc Tryz.prog Tryz.f9 [] false laidTwo ((laidWorld os).forCall (fun _ _ => 0) ⟨#[], #[.int .i64 0, .int .i64 0, .int .i64 0, .int .i64 0, .int .i64 0], []⟩).memory #[.int .i64 0, .int .i64 0, .int .i64 0, .int .i64 0, .int .i64 0] := by
  have hw : (DataW.whole enc Tryz.prog ((laidWorld os).forCall (fun _ _ => 0) ⟨#[], #[.int .i64 0, .int .i64 0, .int .i64 0, .int .i64 0, .int .i64 0], []⟩).memory Tryz.f9.params.toList (OpenSpec.ofChange Rows.tableDefaultsSpec).vars false #[Value.int .i64 0, .int .i64 0, .int .i64 0, .int .i64 0, .int .i64 0].toList 8).map (fun x => (x.1, x.2.1)) =
      some ([.lit (.int .i64 0), .lit (.int .i64 0), .lit (.int .i64 0), .lit (.int .i64 0), .lit (.int .i64 0)], []) := by kernel_rfl
  obtain ⟨⟨x1, x2, x3⟩, hx, hx1⟩ := Option.map_eq_some_iff.1 hw
  simp only [Prod.mk.injEq] at hx1
  obtain ⟨rfl, rfl⟩ := hx1
  exact OpenSpec.preRow_of_cond 8 hx (by kernel_rfl) (fun k hk => by cases hk) (by kernel_rfl) (laid_met os _)

set_option maxRecDepth 100000 in
theorem tableDefaults_lifted (os : Os) (started : os.Started) (H : Type) (enc : TypeId × Value → H) (F : Stop.Interp) :
    ReturnsInHanded {} Tryz.checked os 9 .any ((OpenSpec.ofChange Rows.tableDefaultsSpec).preRow enc Tryz.prog Tryz.f9 [] false laidTwo) (((OpenSpec.ofChange Rows.tableDefaultsSpec).at F).post enc Tryz.prog Tryz.f9 false true false false) :=
  law_laid (C := Tryz.checked) (B := 4) own started (by kernel_rfl) Tryz.func9
    (witness_row_atRef (enc := enc) (C := Tryz.checked) false (laidWorld os) _ rfl (by kernel_rfl) (by kernel_rfl) (by kernel_rfl) (tableDefaults_witness os enc))
    laidOut (by kernel_rfl) rfl rfl Tryz.underlying4
    (fun ds h => by
      match ds, h with
      | [_, _, _, _, _], _ => rfl)
    tabs_laid
    (fun W vs ds p hT ht hw hk => run5 (t1 := 2) (t2 := 2) (t3 := 2) (t4 := 3) (t5 := 3) hT tableDefaults_ctr (Opn.int Tryz.underlying2) (Opn.int Tryz.underlying2) (Opn.int Tryz.underlying2) (Opn.int Tryz.underlying3) (Opn.int Tryz.underlying3) ht hw hk)

theorem tableDefaults_said : Rows.TableDefaultsSaid :=
  OpenClaim.holds_of_cond 9 Tryz.f9 rfl rfl rfl rfl rfl rfl rfl ⟨rfl, rfl, rfl, rfl, rfl⟩ rfl rfl rfl rfl rfl (by kernel_rfl) Tryz.func9 (by kernel_rfl)
    (of_decide_eq_true (by kernel_rfl)) (by unfold Func.isWrapper; rw [if_neg (of_decide_eq_false (by kernel_rfl))]; exact ⟨rfl, rfl⟩)
    (fun os started H enc _ F0 => by rw [OpenClaim.pre_eq_preRow, tableDefaults_laid]; exact tableDefaults_lifted os started H enc F0)

theorem tableDefaults_card : Rows.TableDefaultsCardSaid :=
  Claim7.holds_tied_plain_at .later [] [.data, .pinned] true (true, "d68c7f6d676e5c601faff1ed28a1aaa48876fb332ddfecd96e6c0d3de636bb5f") false
    tableDefaults_said (fun _ h => by cases h) (by kernel_rfl) (fun _ h => by cases h) tableDefaults_row_tie rfl ⟨rfl, rfl⟩ (by kernel_rfl) rfl
    (fun f fn hf hfn => by
      obtain rfl : f = 9 := Option.some.inj ((show Tryz.prog.funcNamed Rows.tableDefaultsRow.func = some 9 by kernel_rfl).symm.trans hf) |>.symm
      obtain rfl : fn = Tryz.f9 := (Option.some.inj (Tryz.func9.symm.trans hfn)).symm
      exact ⟨by kernel_rfl, fun j t ht => by
        have e : (Tryz.f9.params.toList.all fun t => !Tryz.prog.wantsStandIn t) = true := by kernel_rfl
        have := List.all_eq_true.1 e t (List.mem_of_getElem? (i := j) (by simpa using ht))
        exact (by simpa using this : Tryz.prog.wantsStandIn t = false)⟩)
    (by kernel_rfl)
end Go.Proofs.YtiibmpdjkdjbiaaGreatDoor



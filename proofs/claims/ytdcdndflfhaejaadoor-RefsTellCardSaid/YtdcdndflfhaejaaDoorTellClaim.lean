/- RefsTell: for every text, every name and every node, the law returns true, and each argument reads behind the call as it read before; what the tables of utf8 hold is tied to the program's text. No condition. -/
import Derived.Test.YtdcdndflfhaejaaDoorRows
import Derived.Test.YtdcdndflfhaejaaDoorTie
import Derived.Test.YtdcdndflfhaejaaDoorCards
import Derived.Test.YtdcdndflfhaejaaDoorW6
import Derived.Test.YtdcdndflfhaejaaDoorTell
import Derived.Test.YtdcdndflfhaejaaDoorLibL
import Derived.SevenTiedAt
namespace Go.Proofs.YtdcdndflfhaejaaDoor
open Go.Sy Go.Shelf Go.Lib Go.ChangeShapes Go.WideShapes Go.ChangeAt Go.RowKit

theorem own : ownKnob Tryd.prog.godebug = none := by kernel_rfl
theorem laidOut : laidOutB Tryd.prog = true := by kernel_rfl

/-- A world in which the two tables hold what their texts lay. -/
noncomputable def laidWorld (os : Os) : World :=
  let w0 := World.holding Tryd.prog os ⟨#[], #[], []⟩
  let put (h : Array Obj) (g : Nat) (cs : Array Value) : Array Obj := h.modify g fun
    | .cells _ t frozen => .cells cs t frozen
    | o => o
  let h1 := put w0.heap 0 (Lib.firstTab.map fun z => Value.int .u8 z).toArray
  let h2 := put h1 1 ((List.range 16).flatMap fun i => [Value.int .u8 (Lib.accLo i), Value.int .u8 (Lib.accHi i)]).toArray
  { w0 with heap := h2 }
/-- The two tables, as the rows list them. -/
def laidTwo : List (String × DataW Unit) := [("unicode/utf8.acceptRanges", Lib.acceptData), ("unicode/utf8.first", Lib.firstData)]
theorem laid_met (os : Os) (args : Array Value) : laidMet Tryd.prog laidTwo ((laidWorld os).forCall (fun _ _ => 0) ⟨#[], args, []⟩).memory :=
  (LaidIn.of_run [0, 1] 8 (by kernel_rfl) (by kernel_rfl) (by kernel_rfl) (by kernel_rfl)).met
theorem tabs_laid (W : World) (h : laidMetH Tryd.prog laidTwo W) : Tabs Tryd.prog (snap W) :=
  tabs_of (utf8Tabs_of_readsT (U8Types.of196 valLays) ⟨by kernel_rfl, by kernel_rfl, by kernel_rfl, by kernel_rfl, by kernel_rfl, by kernel_rfl, by kernel_rfl⟩ (Lib.laidMet.reads h (.tail _ (.head _))) (Lib.laidMet.reads h (.head _))) valLays.g3 valLays.g4

theorem tell_laid : Rows.refsTellRow.laid = laidTwo := by kernel_rfl
theorem tell_ctr (t n : Str) (k : Int) : Ctr Tryd.prog 3 [isv t, isv n, isv k] [] (pureP true) := law07_RefsTell_w (tell_true t n k)

theorem tell_witness (os : Os) {H : Type} (enc : TypeId × Value → H) :
    (OpenSpec.ofChange Rows.refsTellSpec).preRow enc Tryd.prog Tryd.f3 [] false laidTwo ((laidWorld os).forCall (fun _ _ => 0) ⟨#[], #[.string ⟨#[]⟩, .string ⟨#[]⟩, .int .i64 0], []⟩).memory #[.string ⟨#[]⟩, .string ⟨#[]⟩, .int .i64 0] := by
  have hw : (DataW.whole enc Tryd.prog ((laidWorld os).forCall (fun _ _ => 0) ⟨#[], #[.string ⟨#[]⟩, .string ⟨#[]⟩, .int .i64 0], []⟩).memory Tryd.f3.params.toList (OpenSpec.ofChange Rows.refsTellSpec).vars false #[Value.string ⟨#[]⟩, .string ⟨#[]⟩, .int .i64 0].toList 8).map (fun x => (x.1, x.2.1)) =
      some ([.lit (.string []), .lit (.string []), .lit (.int .i64 0)], []) := by kernel_rfl
  obtain ⟨⟨x1, x2, x3⟩, hx, hx1⟩ := Option.map_eq_some_iff.1 hw
  simp only [Prod.mk.injEq] at hx1
  obtain ⟨rfl, rfl⟩ := hx1
  exact OpenSpec.preRow_of_cond 8 hx (by kernel_rfl) (fun k hk => by cases hk) (by kernel_rfl) (laid_met os _)

set_option maxRecDepth 100000 in
theorem tell_lifted (os : Os) (started : os.Started) (H : Type) (enc : TypeId × Value → H) (F : Stop.Interp) :
    ReturnsInHanded {} Tryd.checked os 3 .any ((OpenSpec.ofChange Rows.refsTellSpec).preRow enc Tryd.prog Tryd.f3 [] false laidTwo) (((OpenSpec.ofChange Rows.refsTellSpec).at F).post enc Tryd.prog Tryd.f3 false true false false) :=
  law_laid (C := Tryd.checked) (B := 4) own started (by kernel_rfl) Tryd.func3
    (witness_row_atRef (enc := enc) (C := Tryd.checked) false (laidWorld os) _ rfl (by kernel_rfl) (by kernel_rfl) (by kernel_rfl) (tell_witness os enc))
    laidOut (by kernel_rfl) rfl rfl Tryd.underlying4
    (fun ds h => by
      match ds, h with
      | [_, _, _], _ => rfl)
    tabs_laid
    (fun W vs ds p hT ht hw hk => run3 (t1 := 9) (t2 := 9) (t3 := 3) hT tell_ctr (Opn.str Tryd.underlying9) (Opn.str Tryd.underlying9) (Opn.int Tryd.underlying3) ht hw hk)

theorem tell_said : Rows.RefsTellSaid :=
  OpenClaim.holds_of_cond 3 Tryd.f3 rfl rfl rfl rfl rfl rfl rfl ⟨rfl, rfl, rfl, rfl, rfl⟩ rfl rfl rfl rfl rfl (by kernel_rfl) Tryd.func3 (by kernel_rfl)
    (of_decide_eq_true (by kernel_rfl)) (by unfold Func.isWrapper; rw [if_neg (of_decide_eq_false (by kernel_rfl))]; exact ⟨rfl, rfl⟩)
    (fun os started H enc _ F0 => by rw [OpenClaim.pre_eq_preRow, tell_laid]; exact tell_lifted os started H enc F0)

theorem tell_card : Rows.RefsTellCardSaid :=
  Claim7.holds_tied_plain_at .later [] [.data, .pinned] true (true, "55d6e321a206e61f8cae08f4049c0d987a790ef90f2b8cfc2f38ddde01af33e9") false
    tell_said (fun _ h => by cases h) (by kernel_rfl) (fun _ h => by cases h) refsTell_row_tie rfl ⟨rfl, rfl⟩ (by kernel_rfl) rfl
    (fun f fn hf hfn => by
      obtain rfl : f = 3 := Option.some.inj ((show Tryd.prog.funcNamed "ogham/oghamlaw07.RefsTell" = some 3 by kernel_rfl).symm.trans hf) |>.symm
      obtain rfl : fn = Tryd.f3 := (Option.some.inj (Tryd.func3.symm.trans hfn)).symm
      exact ⟨by kernel_rfl, fun j t ht => by
        have h3 : t = 9 ∨ t = 3 := by
          have e : Tryd.f3.params = #[9, 9, 3] := by kernel_rfl
          rw [e] at ht
          rcases j with _ | _ | _ | j
          · left; simpa using ht.symm
          · left; simpa using ht.symm
          · right; simpa using ht.symm
          · simp at ht
        rcases h3 with rfl | rfl
        · exact (show Tryd.prog.wantsStandIn 9 = false by kernel_rfl)
        · exact (show Tryd.prog.wantsStandIn 3 = false by kernel_rfl)⟩)
    (by kernel_rfl)
end Go.Proofs.YtdcdndflfhaejaaDoor

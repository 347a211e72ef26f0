/- for every value of its arguments the law returns true, and each argument reads behind the call as it read before; what the tables of utf8 hold is tied to the program's text -/
import Derived.Test.YtndfkmgciajjnaaGreatDoorPbA
import Derived.Test.YtndfkmgciajjnaaGreatDoorPbB
import Derived.Test.YtndfkmgciajjnaaGreatDoorPbC
import Derived.Test.YtndfkmgciajjnaaGreatDoorPbD
import Derived.Test.YtndfkmgciajjnaaGreatDoorPbE
import Derived.Test.YtndfkmgciajjnaaGreatDoorPbF
import Derived.Lib.LaidIn
import Derived.Lib.LaidU8T
import Derived.Deep.DeepHandedRow
import Derived.Deep.DeepWitnessRowRef
import Derived.ProofKit
import Derived.KernelRfl
import Derived.Test.YtndfkmgciajjnaaGreatDoorRows
import Derived.Test.YtndfkmgciajjnaaGreatDoorTie
import Derived.Test.YtndfkmgciajjnaaGreatDoorCards
import Derived.SevenTiedAt
set_option linter.unusedVariables false
set_option linter.unusedSimpArgs false

namespace Go.Sy
open Go.Shelf Go.Lib Go.ChangeShapes Go.WideShapes Go.ChangeAt Go.RowKit

theorem zmR {W w:World} {a:Addr} {v:Value} (h:W.cell? a=some v) (hs:(snap W).sub w):w.cell? a=some v:=by
  obtain ⟨h1,c,h2,h3⟩:=zhu h
  obtain ⟨c',T,fr,h4,h5⟩:=hs _ _ h2
  unfold World.cell?
  rw [h4]
  simp only [h1]
  obtain ⟨t,ht⟩:=h5
  rw [← Array.getElem?_toList,← ht,List.getElem?_append_left (by
    rcases Nat.lt_or_ge a.off c.length with h6 | h6
    · exact h6
    · rw [List.getElem?_eq_none h6] at h3;cases h3)]
  exact h3
theorem zt7 {P : Program} {g1 g2 : Nat} {W : World} (h : Lib.Utf8Tabs g1 g2 W) (e1 : P.globals.findIdx? (·.name == "unicode/utf8.first") = some g1) (e2 : P.globals.findIdx? (·.name == "unicode/utf8.acceptRanges") = some g2) : Tabs P (snap W) := by
  intro w hw k1 k2 h1 h2
  rw [e1] at h1;cases h1
  rw [e2] at h2;cases h2
  exact ⟨fun c hc=>zmR (h.1 c hc) hw,fun i hi=>⟨zmR (h.2 i hi).1 hw,zmR (h.2 i hi).2 hw⟩⟩

theorem zsu {H:Type} {enc:TypeId × Value→H} {a:Assume} {C:Checked} {os:Os} {f:FuncId} {fn:Func} {s:OpenSpec} {F:Stop.Interp} {B:TypeId} {apart fresh handsOn:Bool} {laid:List (String × DataW Unit)}
    (own:ownKnob C.prog.godebug=none) (started:os.Started) (noInit:C.prog.inits.idxOf? f=none) (hfn:C.prog.funcs[f]?=some fn)
    (witness:∃ (w:World) (tape:Tape) (i:Input),w.os=os∧(w.forCall tape i).Shaped C.prog∧i.vars=[]∧Input.okWide C.prog (w.forCall tape i) .any w.heap.size f i ∧
      s.preRow enc C.prog fn [] apart laid (w.forCall tape i).memory i.args∧a.holds C.prog (lone (Frame.enter C.prog f i.args .normal) [] (w.forCall tape i)))
    (hl:laidOutB C.prog=true) (hr:(fn.params.toList.all fun t=>C.prog.readableRec t && decide (t < C.prog.types.size))=true) (hv:s.vars=[]) (hres:fn.resultTypes=#[B]) (hB:C.prog.underlying B=some .bool)
    (hs:∀ ds:List (DataW H),ds.length=fn.params.size→(s.at F).fn H ds={ results:=[.lit (.bool true)],args:=ds })
    (tabs:∀ W,laidMetH C.prog laid W→Tabs C.prog (snap W))
    (run:∀ (W:World) (vs:List Value) (ds:List (DataW H)) (p:List MemPlace),Tabs C.prog (snap W)→DataW.TrodAll enc C.prog W 0 (fun _=>true) true fn.params.toList vs ds p→(∀ k ∈ DataW.weightsEach C.prog fn.params.toList ds,k ≤ reachBytes)→(∃ base,∀ (j:Nat) t v,fn.params.toList[j]?=some t→vs[j]?=some v→Value.okWide C.prog W .any base t v) →
      Calls C.prog f vs.toArray W fun e W'=>e=.returned (.bool true)∧Keep [] W W') :
    ReturnsInHanded a C os f .any (s.preRow enc C.prog fn [] apart laid) ((s.at F).post enc C.prog fn apart fresh handsOn false):=by
  refine returnsInHanded_of_row own started noInit hfn witness ?_
  intro W base args ds gs before hval hW _ _ hwt hL _ _
  have hlt:=hW.lt
  have hW0:=hW
  obtain ⟨p,q,hA,hV,rfl,hfz,hnd⟩:=hW
  rw [hv] at hV
  have hgs:gs=[]∧q=[]:=by
    cases gs with
    | nil=>exact ⟨rfl,hV⟩
    | cons _ _=>exact hV.elim
  obtain ⟨rfl,rfl⟩:=hgs
  have hlen:ds.length=fn.params.size:=by
    have:∀ {ts:List TypeId} {vs:List Value} {ds:List (DataW H)} {ps:List MemPlace},DataW.TrodAll enc C.prog W 0 (fun _=>true) true ts vs ds ps→ds.length=ts.length:=by
      intro ts
      induction ts with
      | nil=>intro vs ds ps h;cases vs <;> cases ds <;> simp_all [DataW.TrodAll]
      | cons t ts ih =>
        intro vs ds ps h
        cases vs <;> cases ds <;> simp only [DataW.TrodAll] at h
        obtain ⟨_,_,_,h2,_⟩:=h
        simp [ih h2]
    simpa using this hA
  have hvt':s.bare.plain.varTypes C.prog=[]:=by
    simp [OpenSpec.bare,ChangeSpec.plain,DataSpec.varTypes,hv]
  rw [hvt',List.append_nil,List.append_nil] at hwt
  have hrun:=run W args.toList ds p (tabs W hL) hA (fun k hk=>by simpa using List.all_eq_true.1 hwt k hk) ⟨base,fun j t v hj hv'=>hval j t v (by simpa using hj) (by simpa using hv')⟩
  refine hrun.mono fun e W' ⟨he,hk⟩=>?_
  subst he
  have hb:=hk.below
  refine ⟨_,rfl,ds,[],p ++ [],[],p,[],hW0,?_,?_,?_,hb.frame _,fun h=>by cases h⟩
  · rw [List.append_nil,hs ds hlen,hres]
    exact trodAll_mk1 (shut_bool hB true)
  · rw [List.append_nil,hs ds hlen]
    exact zj8 hl hb hr hA (fun x hx=>hlt x (List.mem_append_left _ hx)) (fun x hx=>by simpa using hlt x (List.mem_append_left _ hx))
  · show DataW.TrodVars enc C.prog W' _ s.vars _ _
    rw [hv]
    rw [List.append_nil,hs ds hlen]
    exact rfl
end Go.Sy


namespace Go.Proofs.Q
open Go.Sy Go.Shelf Go.Lib Go.ChangeShapes Go.WideShapes Go.ChangeAt Go.RowKit

theorem own:ownKnob Tryz.prog.godebug=none:=by kernel_rfl
theorem laidOut:laidOutB Tryz.prog=true:=by kernel_rfl

noncomputable def zjQ (os:Os):World :=
  let w0:=World.holding Tryz.prog os ⟨#[],#[],[]⟩
  let put (h:Array Obj) (g:Nat) (cs:Array Value):Array Obj:=h.modify g fun
    | .cells _ t frozen=>.cells cs t frozen
    | o=>o
  let h1:=put w0.heap 0 (Lib.firstTab.map fun z=>Value.int .u8 z).toArray
  let h2:=put h1 1 ((List.range 16).flatMap fun i=>[Value.int .u8 (Lib.accLo i),Value.int .u8 (Lib.accHi i)]).toArray
  { w0 with heap:=h2 }
def laidTwo : List (String × DataW Unit) := [("unicode/utf8.acceptRanges", Lib.acceptData), ("unicode/utf8.first", Lib.firstData)]
theorem zs6 (os:Os) (args:Array Value):laidMet Tryz.prog laidTwo ((zjQ os).forCall (fun _ _=>0) ⟨#[],args,[]⟩).memory :=
  (LaidIn.of_run [0,1] 8 (by kernel_rfl) (by kernel_rfl) (by kernel_rfl) (by kernel_rfl)).met
theorem zri (W:World) (h:laidMetH Tryz.prog laidTwo W):Tabs Tryz.prog (snap W) :=
  zt7 (utf8Tabs_of_readsT (U8Types.of196 valLays) ⟨by kernel_rfl,by kernel_rfl,by kernel_rfl,by kernel_rfl,by kernel_rfl,by kernel_rfl,by kernel_rfl⟩ (Lib.laidMet.reads h (.tail _ (.head _))) (Lib.laidMet.reads h (.head _))) valLays.g3 valLays.g4
end Go.Proofs.Q


namespace Go.Proofs.YtndfkmgciajjnaaGreatDoor
open Go.Proofs.Q
open Go.Sy Go.Shelf Go.Lib Go.ChangeShapes Go.WideShapes Go.ChangeAt Go.RowKit

theorem bytesOpn : Opn Tryz.prog 22 (List UInt8) := Opn.list Tryz.underlying22 (Opn.u8 Tryz.underlying5) (by kernel_rfl) rfl (by kernel_rfl)
theorem rawOpn : Opn Tryz.prog 66 Raw := Opn.struct Tryz.underlying66 (by kernel_rfl) (OpnFs.cons (Opn.int Tryz.underlying3) (by kernel_rfl) (.one bytesOpn (by kernel_rfl))) (fun p => ⟨p.1, p.2⟩) (fun _ => rfl)
theorem valOpn : Opn Tryz.prog 26 Val := Opn.val Tryz.underlying26 (by kernel_rfl) fun N h => .cons (.of (Opn.int Tryz.underlying3)) (by kernel_rfl) (.cons (.of (Opn.int Tryz.underlying2)) (by kernel_rfl) (.cons (.of bytesOpn) (by kernel_rfl) (.cons (OpB.list Tryz.underlying23 h (by kernel_rfl) rfl (by kernel_rfl)) (by kernel_rfl) (.cons (.of (Opn.int Tryz.underlying3)) (by kernel_rfl) (.one (.of (Opn.list Tryz.underlying24 rawOpn (by kernel_rfl) rfl (by kernel_rfl))) (by kernel_rfl))))))
theorem projectBack_laid : Rows.projectBackRow.laid = laidTwo := by kernel_rfl
theorem projectBack_ctr (a0 : Str) (a1 : Str) (a2 : Int) (a3 : Val) : Ctr Tryz.prog 3 [isv a0, isv a1, isv a2, isv a3] [] (pureP true) := zsK ⟨Tryz.f3, Tryz.func3, by decide +kernel, by rfl⟩ (p := FineM a3) (fun S vs h => by
    match vs, h with
    | [_, _, _, _], h => exact zsl h.2.2.2.1) fun hm => zjX (zre a0 a1 a2 a3 hm)

theorem projectBack_witness (os : Os) {H : Type} (enc : TypeId × Value → H) :
    (OpenSpec.ofChange Rows.projectBackSpec).preRow enc Tryz.prog Tryz.f3 [] false laidTwo ((zjQ os).forCall (fun _ _ => 0) ⟨#[], #[.string ⟨#[]⟩, .string ⟨#[]⟩, .int .i64 0, .agg #[.int .i64 0, .int .i64 0, .slice none 0 0, .slice none 0 0, .int .i64 0, .slice none 0 0]], []⟩).memory #[.string ⟨#[]⟩, .string ⟨#[]⟩, .int .i64 0, .agg #[.int .i64 0, .int .i64 0, .slice none 0 0, .slice none 0 0, .int .i64 0, .slice none 0 0]] := by
  have hw : (DataW.whole enc Tryz.prog ((zjQ os).forCall (fun _ _ => 0) ⟨#[], #[.string ⟨#[]⟩, .string ⟨#[]⟩, .int .i64 0, .agg #[.int .i64 0, .int .i64 0, .slice none 0 0, .slice none 0 0, .int .i64 0, .slice none 0 0]], []⟩).memory Tryz.f3.params.toList (OpenSpec.ofChange Rows.projectBackSpec).vars false #[Value.string ⟨#[]⟩, .string ⟨#[]⟩, .int .i64 0, .agg #[.int .i64 0, .int .i64 0, .slice none 0 0, .slice none 0 0, .int .i64 0, .slice none 0 0]].toList 8).map (fun x => (x.1, x.2.1)) =
      some ([.lit (.string []), .lit (.string []), .lit (.int .i64 0), .agg [.lit (.int .i64 0), .lit (.int .i64 0), .nil, .nil, .lit (.int .i64 0), .nil]], []) := by kernel_rfl
  obtain ⟨⟨x1, x2, x3⟩, hx, hx1⟩ := Option.map_eq_some_iff.1 hw
  simp only [Prod.mk.injEq] at hx1
  obtain ⟨rfl, rfl⟩ := hx1
  exact OpenSpec.preRow_of_cond 8 hx (by kernel_rfl) (fun k hk => by cases hk) (by kernel_rfl) (zs6 os _)

set_option maxRecDepth 100000 in
theorem projectBack_lifted (os : Os) (started : os.Started) (H : Type) (enc : TypeId × Value → H) (F : Stop.Interp) :
    ReturnsInHanded {} Tryz.checked os 3 .any ((OpenSpec.ofChange Rows.projectBackSpec).preRow enc Tryz.prog Tryz.f3 [] false laidTwo) (((OpenSpec.ofChange Rows.projectBackSpec).at F).post enc Tryz.prog Tryz.f3 false true false false) :=
  zsu (C := Tryz.checked) (B := 4) own started (by kernel_rfl) Tryz.func3
    (witness_row_atRef (enc := enc) (C := Tryz.checked) false (zjQ os) _ rfl (by kernel_rfl) (by kernel_rfl) (by kernel_rfl) (projectBack_witness os enc))
    laidOut (by kernel_rfl) rfl rfl Tryz.underlying4
    (fun ds h => by
      match ds, h with
      | [_, _, _, _], _ => rfl)
    zri
    (fun W vs ds p hT ht hw hk => run4 (t1 := 9) (t2 := 9) (t3 := 3) (t4 := 26) hT projectBack_ctr (Opn.str Tryz.underlying9) (Opn.str Tryz.underlying9) (Opn.int Tryz.underlying3) valOpn ht hw hk)

theorem projectBack_said : Rows.ProjectBackSaid :=
  OpenClaim.holds_of_cond 3 Tryz.f3 rfl rfl rfl rfl rfl rfl rfl ⟨rfl, rfl, rfl, rfl, rfl⟩ rfl rfl rfl rfl rfl (by kernel_rfl) Tryz.func3 (by kernel_rfl)
    (of_decide_eq_true (by kernel_rfl)) (by unfold Func.isWrapper; rw [if_neg (of_decide_eq_false (by kernel_rfl))]; exact ⟨rfl, rfl⟩)
    (fun os started H enc _ F0 => by rw [OpenClaim.pre_eq_preRow, projectBack_laid]; exact projectBack_lifted os started H enc F0)

theorem projectBack_card : Rows.ProjectBackCardSaid :=
  Claim7.holds_tied_plain_at .later [] [.data, .pinned] true (true, "fb0043cd2338ec0f2d229eb58483afb3e08215f079567e1b013df0d73e89de89") false
    projectBack_said (fun _ h => by cases h) (by kernel_rfl) (fun _ h => by cases h) projectBack_row_tie rfl ⟨rfl, rfl⟩ (by kernel_rfl) rfl
    (fun f fn hf hfn => by
      obtain rfl : f = 3 := Option.some.inj ((show Tryz.prog.funcNamed Rows.projectBackRow.func = some 3 by kernel_rfl).symm.trans hf) |>.symm
      obtain rfl : fn = Tryz.f3 := (Option.some.inj (Tryz.func3.symm.trans hfn)).symm
      exact ⟨by kernel_rfl, fun j t ht => by
        have e : (Tryz.f3.params.toList.all fun t => !Tryz.prog.wantsStandIn t) = true := by kernel_rfl
        have := List.all_eq_true.1 e t (List.mem_of_getElem? (i := j) (by simpa using ht))
        exact (by simpa using this : Tryz.prog.wantsStandIn t = false)⟩)
    (by kernel_rfl)
end Go.Proofs.YtndfkmgciajjnaaGreatDoor



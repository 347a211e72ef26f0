/- for every value of its arguments the law returns true, and each argument reads behind the call as it read before; what the listed variables hold is tied to the program's text -/
import Derived.Test.YthafpblconbjkaaGreatDoorPqR
import Derived.Lib.LaidIn
import Derived.Lib.LaidU8T
import Derived.Deep.DeepHandedRow
import Derived.Deep.DeepWitnessRowRef
import Derived.ProofKit
import Derived.KernelRfl
import Derived.Test.YthafpblconbjkaaGreatDoorRows
import Derived.Test.YthafpblconbjkaaGreatDoorTie
import Derived.Test.YthafpblconbjkaaGreatDoorCards
import Derived.SevenTiedAt
set_option linter.unusedVariables false
set_option linter.unusedSimpArgs false
set_option maxRecDepth 4000
set_option maxHeartbeats 4000000
namespace Go.Sy
open Go.Shelf Go.Lib Go.ChangeShapes Go.WideShapes Go.ChangeAt Go.RowKit
theorem zkJ {W w:World} {a:Addr} {v:Value} (h:W.cell? a=some v) (hs:(zlm W).sub w):w.cell? a=some v:=by
 obtain ⟨h1,c,h2,h3⟩:=ztN h
 obtain ⟨c',T,fr,h4,h5⟩:=hs _ _ h2
 unfold World.cell?
 rw [h4]
 simp only [h1]
 obtain ⟨t,ht⟩:=h5
 rw [<- Array.getElem?_toList,<- ht,List.getElem?_append_left (by
  rcases Nat.lt_or_ge a.off c.length with h6 | h6
  ·exact h6
  ·rw [List.getElem?_eq_none h6] at h3;cases h3)]
 exact h3
theorem zxw {P : Program} {g1 g2 : Nat} {W : World} (h : Lib.Utf8Tabs g1 g2 W) (e1 : P.globals.findIdx? (·.name == "unicode/utf8.first") = some g1) (e2 : P.globals.findIdx? (·.name == "unicode/utf8.acceptRanges") = some g2) (he : ∀ w, (zlm W).sub w → zys P w) : zwF P (zlm W) := by
 intro w hw
 refine ⟨λk1 k2 h1 h2=>?_,he w hw⟩
 rw [e1] at h1;cases h1
 rw [e2] at h2;cases h2
 exact ⟨λc hc=>zkJ (h.1 c hc) hw,λi hi=>⟨zkJ (h.2 i hi).1 hw,zkJ (h.2 i hi).2 hw⟩⟩

theorem zwP {H:Type} {enc:TypeId × Value->H} {a:Assume} {C:Checked} {os:Os} {f:FuncId} {fn:Func} {s:OpenSpec} {F:Stop.Interp} {B:TypeId} {apart fresh handsOn:Bool} {laid:List (String × DataW Unit)}
    (own:ownKnob C.prog.godebug=none) (started:os.Started) (noInit:C.prog.inits.idxOf? f=none) (hfn:C.prog.funcs[f]?=some fn)
    (witness:∃ (w:World) (tape:Tape) (i:Input),w.os=os/\(w.forCall tape i).Shaped C.prog/\i.vars=[]/\Input.okWide C.prog (w.forCall tape i) .any w.heap.size f i /\
      s.preRow enc C.prog fn [] apart laid (w.forCall tape i).memory i.args/\a.holds C.prog (lone (Frame.enter C.prog f i.args .normal) [] (w.forCall tape i)))
    (hl:laidOutB C.prog=true) (hr:(fn.params.toList.all λt=>C.prog.readableRec t && decide (t < C.prog.types.size))=true) (hv:s.vars=[]) (hres:fn.resultTypes=#[B]) (hB:C.prog.underlying B=some .bool)
    (hs:∀ ds:List (DataW H),ds.length=fn.params.size->(s.at F).fn H ds={ results:=[.lit (.bool true)],args:=ds })
    (tabs:∀ W,laidMetH C.prog laid W->W.ShapedOpen C.prog->zlz C.prog (zlm W) W [])
    (run:∀ (W:World) (vs:List Value) (ds:List (DataW H)) (p:List MemPlace),zlz C.prog (zlm W) W []->DataW.TrodAll enc C.prog W 0 (λ_=>true) true fn.params.toList vs ds p->(∀ k ∈ DataW.weightsEach C.prog fn.params.toList ds,k <= reachBytes)->(∃ base,∀ (j:Nat) t v,fn.params.toList[j]?=some t->vs[j]?=some v->Value.okWide C.prog W .any base t v) ->
      Calls C.prog f vs.toArray W λe W'=>e=.returned (.bool true)/\zjn [] W W') :
    ReturnsInHanded a C os f .any (s.preRow enc C.prog fn [] apart laid) ((s.at F).post enc C.prog fn apart fresh handsOn false):=by
  refine returnsInHanded_of_row own started noInit hfn witness ?_
  intro W base args ds gs before hval hW _ _ hwt hL hSh _
  have hlt:=hW.lt
  have hW0:=hW
  obtain ⟨p,q,hA,hV,rfl,hfz,hnd⟩:=hW
  rw [hv] at hV
  have hgs:gs=[]/\q=[]:=by
    cases gs with
    | nil=>exact ⟨rfl,hV⟩
    | cons _ _=>exact hV.elim
  obtain ⟨rfl,rfl⟩:=hgs
  have hlen:ds.length=fn.params.size:=by
    have:∀ {ts:List TypeId} {vs:List Value} {ds:List (DataW H)} {ps:List MemPlace},DataW.TrodAll enc C.prog W 0 (λ_=>true) true ts vs ds ps->ds.length=ts.length:=by
      intro ts
      induction ts with
      | nil=>intro vs ds ps h;cases vs <;> cases ds <;> simp_all [DataW.TrodAll]
      | cons t ts ih =>
        intro vs ds ps h
        cases vs <;> cases ds <;> simp only [DataW.TrodAll] at h
        obtain ⟨_,_,_,h2,_⟩:=h
        simp [ih h2]
    simpa using this hA
  have hvt':s.bare.plain.varTypes C.prog=[]:=by
    simp [OpenSpec.bare,ChangeSpec.plain,DataSpec.varTypes,hv]
  rw [hvt',List.append_nil,List.append_nil] at hwt
  have hrun:=run W args.toList ds p (tabs W hL hSh) hA (λk hk=>by simpa using List.all_eq_true.1 hwt k hk) ⟨base,λj t v hj hv'=>hval j t v (by simpa using hj) (by simpa using hv')⟩
  refine hrun.mono λe W' ⟨he,hk⟩=>?_
  subst he
  have hb:=hk.below
  refine ⟨_,rfl,ds,[],p ++ [],[],p,[],hW0,?_,?_,?_,hb.frame _,λh=>by cases h⟩
  · rw [List.append_nil,hs ds hlen,hres]
    exact trodAll_mk1 (shut_bool hB true)
  · rw [List.append_nil,hs ds hlen]
    exact zly hl hb hr hA (λx hx=>hlt x (List.mem_append_left _ hx)) (λx hx=>by simpa using hlt x (List.mem_append_left _ hx))
  · show DataW.TrodVars enc C.prog W' _ s.vars _ _
    rw [hv]
    rw [List.append_nil,hs ds hlen]
    exact rfl
end Go.Sy
namespace Go.Proofs.Q
open Go.Sy Go.Shelf Go.Lib Go.ChangeShapes Go.WideShapes Go.ChangeAt Go.RowKit
theorem zqd {P:Program} {w:World} {g:Nat} {t:TypeId} {k:IntKind} {zero:Array Value} (h:w.ShapedOpen P) (hg:g < P.globals.size)
    (h0:((begin P (λ_ _=>0) default).world.heap[g]?).bind Obj.row?=some (zero,t)) (hz:zero.size=1)
    (hb:P.buildable t=true) (hc:P.cellTypes P.depth t=some [t]) (hu:P.underlying t=some (.int k)):∃ m,w.cell? ⟨g,0,none⟩=some (.int k m):=by
  obtain ⟨cs,hh,hs,hr⟩:=h.1 g zero t hg h0
  obtain ⟨ts,hts,_,hall⟩:=hr hb
  rw [hc] at hts
  cases hts
  have h1:0 < cs.size:=by omega
  obtain ⟨u,hu',hok⟩:=hall 0 cs[0] (by simp [h1])
  have:u=t:=by simpa using hu'.symm
  subst this
  have hcell:w.cell? ⟨g,0,none⟩=some cs[0]:=by simp [World.cell?,hh,h1]
  rw [hcell]
  unfold Cell.ok at hok
  rw [hu] at hok
  cases hv:cs[0] <;> rw [hv] at hok <;> first | (rename_i k' z;have hok2:k'=k/\k.has z:=hok;obtain ⟨e,_⟩:=hok2;subst e;exact ⟨_,rfl⟩) | exact hok.elim
theorem own:ownKnob Tryz.prog.godebug=none:=by kernel_rfl
theorem zxv:laidOutB Tryz.prog=true:=by kernel_rfl

def zih : List (String × DataW Unit) := [("math/bits.deBruijn32tab", Go.Proofs.YthafpblconbjkaaGreatDoor.Rows.laid_math_bits_deBruijn32tab), ("math/bits.deBruijn64tab", Go.Proofs.YthafpblconbjkaaGreatDoor.Rows.laid_math_bits_deBruijn64tab), ("internal/strconv.uint64pow10", Go.Proofs.YthafpblconbjkaaGreatDoor.Rows.laid_internal_strconv_uint64pow10), ("unicode/utf8.acceptRanges", Lib.acceptData), ("strconv.ErrRange", Go.Proofs.YthafpblconbjkaaGreatDoor.Rows.laid_strconv_ErrRange), ("strconv.ErrSyntax", Go.Proofs.YthafpblconbjkaaGreatDoor.Rows.laid_strconv_ErrSyntax), ("unicode/utf8.first", Lib.firstData)]
def flat:DataW Unit->Array Value
 | .agg l=>(l.map fun
  | .lit (.int k z)=>Value.int k z
  | _=>.nilIface).toArray
 | _=>#[]
noncomputable def zh6 (os:Os):World :=
 let w0:=World.holding Tryz.prog os ⟨#[.cells #[.string ⟨#[118,97,108,117,101,32,111,117,116,32,111,102,32,114,97,110,103,101]⟩] 264 (0,0),.cells #[.string ⟨#[105,110,118,97,108,105,100,32,115,121,110,116,97,120]⟩] 264 (0,0)],#[],[]⟩
 let put (h:Array Obj) (g:Nat) (cs:Array Value):Array Obj:=h.modify g fun
  | .cells _ t frozen=>.cells cs t frozen
  | o=>o
 let h1:=put w0.heap 0 (Lib.firstTab.map λz=>Value.int .u8 z).toArray
 let h2:=put h1 1 ((List.range 16).flatMap λi=>[Value.int .u8 (Lib.accLo i),Value.int .u8 (Lib.accHi i)]).toArray
 let h3:=put h2 2 #[.iface 262 (.pointer (some ⟨w0.heap.size - 1,0,none⟩))]
 let h4:=put h3 3 #[.iface 262 (.pointer (some ⟨w0.heap.size - 2,0,none⟩))]
 let h5:=put h4 4 (flat Go.Proofs.YthafpblconbjkaaGreatDoor.Rows.laid_internal_strconv_uint64pow10)
 let h6:=put h5 6 (flat Go.Proofs.YthafpblconbjkaaGreatDoor.Rows.laid_math_bits_deBruijn32tab)
 let h7:=put h6 7 (flat Go.Proofs.YthafpblconbjkaaGreatDoor.Rows.laid_math_bits_deBruijn64tab)
 { w0 with heap:=h7 }
theorem zvd (os:Os) (args:Array Value):laidMet Tryz.prog zih ((zh6 os).forCall (λ_ _=>0) ⟨#[],args,[]⟩).memory :=
 (LaidIn.of_run [0,1,2,3,4,6,7,(zh6 os).heap.size - 1,(zh6 os).heap.size - 2] 8 (by kernel_rfl) (by kernel_rfl) (by kernel_rfl) (by kernel_rfl)).met

theorem zw6 {P:Program} {w:World} {fuel:Nat} {t:TypeId} {cs:List Value} {d:DataW Unit} {p:List MemPlace} (ht:∃ m,P.underlying t=some (.interface m))
    (h:DataW.trod (λ_=>()) P w 0 (λ_=>true) false fuel t cs=some (d,p)):∃ ev,cs=[ev]/\(ev=.nilIface \/ ∃ te pe,ev=.iface te pe):=by
  obtain ⟨m,ht⟩:=ht
  cases fuel with
  | zero=>simp [DataW.trod] at h
  | succ fuel =>
    match cs,h with
    | [],h=>simp [DataW.trod,ht] at h
    | [v],h=>cases v <;> first | exact ⟨_,rfl,.inl rfl⟩ | exact ⟨_,rfl,.inr ⟨_,_,rfl⟩⟩ | simp [DataW.trod,ht] at h
    | _ :: _ :: _,h=>simp [DataW.trod,ht] at h
theorem zyu:∃ m,Tryz.prog.underlying 120=some (.interface m):=by
 have h:(match Tryz.prog.underlying 120 with | some (.interface _)=>true | _=>false)=true:=by kernel_rfl
 split at h
 ·rename_i m hm
  exact ⟨m,hm⟩
 ·cases h
theorem zr4 {W:World} {n:String} {d:DataW Unit} {g:Nat} (hg:Tryz.prog.globalNamed n=some g) (ht:∃ t,(Tryz.prog.globals[g]?).map (·.type)=some t/\∃ m,Tryz.prog.underlying t=some (.interface m)) (h:Lib.VarReads Tryz.prog W n d) :
    ∃ ev,W.cell? ⟨g,0,none⟩=some ev/\(ev=.nilIface \/ ∃ te pe,ev=.iface te pe):=by
  obtain ⟨g',t',cs,fuel,p,h1,h2,h3,h4⟩:=h
  rw [hg] at h1
  obtain rfl:=Option.some.inj h1
  obtain ⟨t,ht1,ht2⟩:=ht
  rw [ht1] at h2
  obtain rfl:=Option.some.inj h2
  obtain ⟨ev,he1,he2⟩:=zw6 ht2 h4
  unfold World.var? at h3
  rw [hg] at h3
  simp only [Option.bind_some] at h3
  refine ⟨ev,?_,he2⟩
  unfold World.cell?
  split at h3
  · rename_i c t' f hc
    obtain rfl:=Option.some.inj h3
    simp only [hc,Option.isSome_none,Bool.false_eq_true,if_false]
    rw [<- Array.getElem?_toList,he1];rfl
  · cases h3
theorem zy6 {W : World} (h : Lib.VarReads Tryz.prog W "internal/strconv.uint64pow10" Go.Proofs.YthafpblconbjkaaGreatDoor.Rows.laid_internal_strconv_uint64pow10) : W.var? Tryz.prog "internal/strconv.uint64pow10" = some zpJ := by
 obtain ⟨g,t,cs,fuel,p,h1,h2,h3,h4⟩:=h
 have e1 : Tryz.prog.globalNamed "internal/strconv.uint64pow10" = some 4 := by kernel_rfl
 rw [e1] at h1
 obtain rfl:=Option.some.inj h1
 have e2:(Tryz.prog.globals[4]?).map (·.type)=some 274:=by kernel_rfl
 rw [e2] at h2
 obtain rfl:=Option.some.inj h2
 have hd:(Go.Proofs.YthafpblconbjkaaGreatDoor.Rows.laid_internal_strconv_uint64pow10:DataW Unit)=Lib.tabData .u64 ((List.range 20).map λi=>((10 ^ i:Nat):Int)):=by kernel_rfl
 rw [hd] at h4
 have:=Lib.cells_of_tab (n:=20) (e:=178) (by kernel_rfl) (by kernel_rfl) (by kernel_rfl) (by kernel_rfl) h4
 rw [h3]
 refine congrArg some ?_
 rw [<- Array.toArray_toList (xs:=cs),this]
 unfold zpJ
 rw [List.map_map];rfl
theorem zpv:Tryz.prog.globals.size=8:=by kernel_rfl
theorem zwG:((List.range 8).all λg=>((((begin Tryz.prog (λ_ _=>0) default).world.heap[g]?).bind Obj.row?)).isSome)=true:=by kernel_rfl
theorem zwl:(((begin Tryz.prog (λ_ _=>0) default).world.heap[5]?).bind Obj.row?).map (λx=>(x.1.size,x.2))=some (1,3):=by kernel_rfl
theorem zx8 {W:World} (h:W.ShapedOpen Tryz.prog):∃ m,W.cell? ⟨5,0,none⟩=some (.int .i64 m):=by
 obtain ⟨⟨zero,t⟩,h1,h2⟩:=Option.map_eq_some_iff.1 zwl
 simp only [Prod.mk.injEq] at h2
 obtain ⟨hz,rfl⟩:=h2
 exact zqd h (by rw [zpv];decide) h1 hz (by kernel_rfl) (by kernel_rfl) Tryz.underlying3
theorem zuk {W : World} (h : W.ShapedOpen Tryz.prog) (hp : Lib.VarReads Tryz.prog W "internal/strconv.uint64pow10" Go.Proofs.YthafpblconbjkaaGreatDoor.Rows.laid_internal_strconv_uint64pow10) : zre Tryz.prog W [] := by
 refine ⟨λg hg=>⟨by simp,?_⟩,λ_=>zy6 hp,λg hg=>?_⟩
 ·have hg8:g < 8:=by rw [zpv] at hg;exact hg
  have:=List.all_eq_true.1 zwG g (List.mem_range.2 hg8)
  obtain ⟨⟨zero,t⟩,h1⟩:=Option.isSome_iff_exists.1 this
  obtain ⟨cs,hh,_⟩:=h.1 g zero t hg h1
  exact (Array.getElem?_eq_some_iff.1 hh).1
 ·have e : Tryz.prog.globals.findIdx? (·.name == "internal/bytealg.MaxLen") = some 5 := by kernel_rfl
  rw [e] at hg
  obtain rfl:=Option.some.inj hg
  exact zx8 h
theorem ztT (W:World) (h:laidMetH Tryz.prog zih W) (hS:W.ShapedOpen Tryz.prog):zlz Tryz.prog (zlm W) W [] :=
  have h:laidMet Tryz.prog zih W:=h
  ⟨zxw (utf8Tabs_of_readsT (U8Types.of196 zlc) ⟨by kernel_rfl,by kernel_rfl,by kernel_rfl,by kernel_rfl,by kernel_rfl,by kernel_rfl,by kernel_rfl⟩
    (Lib.laidMet.reads h (.tail _ (.tail _ (.tail _ (.tail _ (.tail _ (.tail _ (.head _))))))) ) (Lib.laidMet.reads h (.tail _ (.tail _ (.tail _ (.head _)))))) zlc.g3 zlc.g4
    (λw hw g hg=>by
      have e1 : Tryz.prog.globals.findIdx? (·.name == "strconv.ErrSyntax") = some 2 := by kernel_rfl
      have e2 : Tryz.prog.globals.findIdx? (·.name == "strconv.ErrRange") = some 3 := by kernel_rfl
      rcases hg with hg | hg
      · rw [e1] at hg;obtain rfl:=Option.some.inj hg
        obtain ⟨ev,k1,k2⟩:=zr4 (g:=2) (by kernel_rfl) ⟨120,by kernel_rfl,zyu⟩ (Lib.laidMet.reads h (.tail _ (.tail _ (.tail _ (.tail _ (.tail _ (.head _)))))))
        exact ⟨ev,zkJ k1 hw,k2⟩
      · rw [e2] at hg;obtain rfl:=Option.some.inj hg
        obtain ⟨ev,k1,k2⟩:=zr4 (g:=3) (by kernel_rfl) ⟨120,by kernel_rfl,zyu⟩ (Lib.laidMet.reads h (.tail _ (.tail _ (.tail _ (.tail _ (.head _))))))
        exact ⟨ev,zkJ k1 hw,k2⟩),
   zuk hS (Lib.laidMet.reads h (.tail _ (.tail _ (.head _))))⟩
end Go.Proofs.Q
namespace Go.Proofs.YthafpblconbjkaaGreatDoor
open Go.Proofs.Q
open Go.Sy Go.Shelf Go.Lib Go.ChangeShapes Go.WideShapes Go.ChangeAt Go.RowKit
theorem noteParses_laid : Rows.noteParsesRow.laid = zih := by kernel_rfl
theorem noteParses_ctr (a0 : Str) (a1 : Int) (a2 : Str) : Ctr Tryz.prog 3 [isv a0, isv a1, isv a2] [] (zwI true) := zlS (zrq a0 a1 a2)

theorem noteParses_witness (os : Os) {H : Type} (enc : TypeId × Value → H) :
    (OpenSpec.ofChange Rows.noteParsesSpec).preRow enc Tryz.prog Tryz.f3 [] false zih ((zh6 os).forCall (fun _ _ => 0) ⟨#[], #[.string ⟨#[]⟩, .int .i64 0, .string ⟨#[]⟩], []⟩).memory #[.string ⟨#[]⟩, .int .i64 0, .string ⟨#[]⟩] := by
  have hw : (DataW.whole enc Tryz.prog ((zh6 os).forCall (fun _ _ => 0) ⟨#[], #[.string ⟨#[]⟩, .int .i64 0, .string ⟨#[]⟩], []⟩).memory Tryz.f3.params.toList (OpenSpec.ofChange Rows.noteParsesSpec).vars false #[Value.string ⟨#[]⟩, .int .i64 0, .string ⟨#[]⟩].toList 8).map (fun x => (x.1, x.2.1)) =
      some ([.lit (.string []), .lit (.int .i64 0), .lit (.string [])], []) := by kernel_rfl
  obtain ⟨⟨x1, x2, x3⟩, hx, hx1⟩ := Option.map_eq_some_iff.1 hw
  simp only [Prod.mk.injEq] at hx1
  obtain ⟨rfl, rfl⟩ := hx1
  exact OpenSpec.preRow_of_cond 8 hx (by kernel_rfl) (fun k hk => by cases hk) (by kernel_rfl) (zvd os _)

set_option maxRecDepth 100000 in
theorem noteParses_lifted (os : Os) (started : os.Started) (H : Type) (enc : TypeId × Value → H) (F : Stop.Interp) :
    ReturnsInHanded {} Tryz.checked os 3 .any ((OpenSpec.ofChange Rows.noteParsesSpec).preRow enc Tryz.prog Tryz.f3 [] false zih) (((OpenSpec.ofChange Rows.noteParsesSpec).at F).post enc Tryz.prog Tryz.f3 false true false false) :=
  zwP (C := Tryz.checked) (B := 4) own started (by kernel_rfl) Tryz.func3
    (witness_row_atRef (enc := enc) (C := Tryz.checked) false (zh6 os) _ rfl (by kernel_rfl) (by kernel_rfl) (by kernel_rfl) (noteParses_witness os enc))
    zxv (by kernel_rfl) rfl rfl Tryz.underlying4
    (fun ds h => by
      match ds, h with
      | [_, _, _], _ => rfl)
    ztT
    (fun W vs ds p hT ht hw hk => run3 (t1 := 9) (t2 := 3) (t3 := 9) hT noteParses_ctr (Opn.str Tryz.underlying9) (Opn.int Tryz.underlying3) (Opn.str Tryz.underlying9) ht hw hk)

theorem noteParses_said : Rows.NoteParsesSaid :=
 OpenClaim.holds_of_cond 3 Tryz.f3 rfl rfl rfl rfl rfl rfl rfl ⟨rfl, rfl, rfl, rfl, rfl⟩ rfl rfl rfl rfl rfl (by kernel_rfl) Tryz.func3 (by kernel_rfl)
  (of_decide_eq_true (by kernel_rfl)) (by unfold Func.isWrapper; rw [if_neg (of_decide_eq_false (by kernel_rfl))]; exact ⟨rfl, rfl⟩)
  (fun os started H enc _ F0 => by rw [OpenClaim.pre_eq_preRow, noteParses_laid]; exact noteParses_lifted os started H enc F0)

theorem noteParses_card : Rows.NoteParsesCardSaid :=
 Claim7.holds_tied_plain_at .later [] [.data, .data, .data, .data, .sentinel, .sentinel, .pinned] true (true, "14a3f8c01342a6d576dd83adda367b2b63b17fe709eab516e739d09c6b1ab654") true
  noteParses_said (fun _ h => by cases h) (by kernel_rfl) (fun _ h => by cases h) noteParses_row_tie rfl ⟨rfl, rfl⟩ (by kernel_rfl) rfl
  (fun f fn hf hfn => by
   obtain rfl : f = 3 := Option.some.inj ((show Tryz.prog.funcNamed Rows.noteParsesRow.func = some 3 by kernel_rfl).symm.trans hf) |>.symm
   obtain rfl : fn = Tryz.f3 := (Option.some.inj (Tryz.func3.symm.trans hfn)).symm
   exact ⟨by kernel_rfl, fun j t ht => by
    have e : (Tryz.f3.params.toList.all fun t => !Tryz.prog.wantsStandIn t) = true := by kernel_rfl
    have := List.all_eq_true.1 e t (List.mem_of_getElem? (i := j) (by simpa using ht))
    exact (by simpa using this : Tryz.prog.wantsStandIn t = false)⟩)
  (by kernel_rfl)
end Go.Proofs.YthafpblconbjkaaGreatDoor

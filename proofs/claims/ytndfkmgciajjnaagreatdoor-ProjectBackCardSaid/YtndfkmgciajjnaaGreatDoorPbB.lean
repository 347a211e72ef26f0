/- Making tables: trees of types; by which tags they begin; whether fields can be told apart. No condition: general lemmas. -/
import Derived.Test.YtndfkmgciajjnaaGreatDoorPbA
import Derived.KernelRfl
import Derived.Lib.ValidU
set_option linter.unusedVariables false
set_option linter.unusedSimpArgs false

namespace Go.Sy

structure GAcc where
  lo:UInt8
  hi:UInt8
abbrev GAcc.to (x:GAcc):UInt8 × UInt8:=(x.lo,x.hi)
instance:Rep GAcc:=Rep.iso GAcc.to
@[reducible] def GAcc.f0:Fld GAcc (UInt8):=Fld.of GAcc.to pf0 (fun x=>x.lo) (fun x y=>{ x with lo:=y }) (fun _=>rfl) (fun _ _=>rfl)
@[reducible] def GAcc.f1:Fld GAcc (UInt8):=Fld.of GAcc.to pl1 (fun x=>x.hi) (fun x y=>{ x with hi:=y }) (fun _=>rfl) (fun _ _=>rfl)
@[reducible] def GAcc.zero:GAcc:=⟨0,0⟩

def tab1 (x:UInt8):UInt8:=UInt8.ofNat (Lib.firstT x.toNat)
def tab2 (x:UInt8):GAcc:=⟨UInt8.ofNat (Lib.accLo x.toNat),UInt8.ofNat (Lib.accHi x.toNat)⟩
theorem zsE (x:UInt8):(tab1 x).toNat=Lib.firstT x.toNat:=by
  unfold tab1
  rw [UInt8.toNat_ofNat']
  refine Nat.mod_eq_of_lt ?_
  unfold Lib.firstT
  repeat' split
  all_goals decide
theorem zs1 (i:Nat):Lib.accLo i < 256:=by
  unfold Lib.accLo
  repeat' split
  all_goals decide
theorem zsd (i:Nat):Lib.accHi i < 256:=by
  unfold Lib.accHi
  repeat' split
  all_goals decide

def t1v (P:Program) (x:UInt8):VP where
  p := fun _ v => ∃ g, P.globals.findIdx? (·.name == "unicode/utf8.first") = some g ∧ v = .pointer (some ⟨g, x.toNat, none⟩)
  mono:=fun _ h=>h
def t2v (P:Program) (x:UInt8):VP where
  p := fun _ v => ∃ g, P.globals.findIdx? (·.name == "unicode/utf8.acceptRanges") = some g ∧ v = .pointer (some ⟨g, 2 * x.toNat, none⟩)
  mono:=fun _ h=>h
def ArrB (P:Program) (T len n:Nat) (agg:Bool):Bool :=
  match P.underlying T with
  | some (.array l e)=>l == len && TyB P e n agg
  | _=>false
theorem ArrB.spec {P:Program} {T len n:Nat} {agg:Bool} (h:ArrB P T len n agg=true):∃ e,P.underlying T=some (.array len e)∧TyB P e n agg=true:=by
  unfold ArrB at h
  split at h
  · rename_i l e hu
    simp only [Bool.and_eq_true,beq_iff_eq] at h
    obtain ⟨rfl,h2⟩:=h
    exact ⟨e,hu,h2⟩
  · cases h
section ops
variable {c:Ctx} {ty:TypeId} {pos:String} {af:Array Edge} {gd:Option (Nat × Bool)} {σ:St} {d:Option Nat}
theorem zvc {x : Operand} {k : UInt8} {T g : Nat} (hg : c.P.globals.findIdx? (·.name == "unicode/utf8.first") = some g) (hT : ArrB c.P T 256 1 false = true) (hx : opnd σ.Γ x = some (isv k)) :
    OpV c ⟨d,.indexAddr T (.global g) x,ty,pos,af,gd⟩ σ (t1v c.P k):=fun S a w m=>by
  have h1:=zbi.1 (zp m hx)
  obtain ⟨e,hu,hte⟩:=ArrB.spec hT
  have hlt:=k.toNat_lt
  refine ⟨.pointer (some ⟨g,k.toNat,none⟩),⟨g,hg,rfl⟩,fun w' _=>?_⟩
  have hb:(k.toNat:Int) < 256:=by omega
  have hg2:a.eval (.global g)=.pointer (some ⟨g,0,none⟩):=rfl
  simp [execOp,h1,hg2,Instr.indexAt,asIntOf,underlying,hu,TyB.size hte,zca,Instr.sureAddr,hb]
  intro h;omega
theorem zvb {x : Operand} {k : UInt8} {T g : Nat} (hg : c.P.globals.findIdx? (·.name == "unicode/utf8.acceptRanges") = some g) (hT : ArrB c.P T 16 2 true = true) (hx : opnd σ.Γ x = some (isv k)) (hk : Nat.blt k.toNat 16 = true) :
    OpV c ⟨d,.indexAddr T (.global g) x,ty,pos,af,gd⟩ σ (t2v c.P k):=fun S a w m=>by
  have h1:=zbi.1 (zp m hx)
  obtain ⟨e,hu,hte⟩:=ArrB.spec hT
  have hlt:k.toNat < 16:=by simpa using hk
  refine ⟨.pointer (some ⟨g,2 * k.toNat,none⟩),⟨g,hg,rfl⟩,fun w' _=>?_⟩
  have hb:(k.toNat:Int) < 16:=by omega
  have hg2:a.eval (.global g)=.pointer (some ⟨g,0,none⟩):=rfl
  simp [execOp,h1,hg2,Instr.indexAt,asIntOf,underlying,hu,TyB.size hte,zca,Instr.sureAddr,hb,Nat.mul_comm]
  intro h;omega
theorem zqq (hT:Tabs c.P c.S0) {S:Frz} {a:Act} {w:World} (m:Models c σ S a w) {w':World} (h:cls c S w'):TabsW c.P w':=hT.mono m.grow.le w' h.1
theorem zuP {x : Operand} {k : UInt8} {T : Nat} (hT : Tabs c.P c.S0) (ht : TyB c.P T 1 false = true) (hx : opnd σ.Γ x = some (t1v c.P k)) (g2 : Nat) (h2 : c.P.globals.findIdx? (·.name == "unicode/utf8.acceptRanges") = some g2) :
    OpV c ⟨d,.load T x,ty,pos,af,gd⟩ σ (isv (tab1 k)):=fun S a w m=>by
  obtain ⟨g,hg,h1⟩:=zp m hx
  refine ⟨.int .u8 ((tab1 k).toNat:Int),zbi.2 rfl,fun w' hw'=>?_⟩
  obtain ⟨h3,_⟩:=zqq hT m hw' g g2 hg h2
  obtain ⟨v,hv,hrun⟩:=zdX (α:=UInt8) (S:=S) (cs:=[Value.int .u8 ((tab1 k).toNat:Int)]) (x:=tab1 k) (ad:=⟨g,k.toNat,none⟩) ht rfl
  have h4:=hrun w' fun i u hi=>by
    match i,hi with
    | 0,hi =>
      simp at hi;subst hi
      rw [zca,zsE]
      exact h3 _ k.toNat_lt
  simp only [execOp,h1,Instr.loadAt,Instr.sureAddr]
  have e:=zbi.1 hv
  subst e
  simp [h4]
theorem zuR {x : Operand} {k : UInt8} {T : Nat} (hT : Tabs c.P c.S0) (ht : TyB c.P T 2 true = true) (hx : opnd σ.Γ x = some (t2v c.P k)) (hk : Nat.blt k.toNat 16 = true) (g1 : Nat) (h1 : c.P.globals.findIdx? (·.name == "unicode/utf8.first") = some g1) :
    OpV c ⟨d,.load T x,ty,pos,af,gd⟩ σ (isv (tab2 k)):=fun S a w m=>by
  obtain ⟨g,hg,h2⟩:=zp m hx
  have hlt:k.toNat < 16:=by simpa using hk
  have hrd:Rep.rd S [Value.int .u8 (Lib.accLo k.toNat:Int),Value.int .u8 (Lib.accHi k.toNat:Int)] (tab2 k):=by
    refine ⟨[_],[_],rfl,?_,?_⟩
    · show _=_
      unfold tab2
      rw [UInt8.toNat_ofNat',Nat.mod_eq_of_lt (zs1 _)]
    · show _=_
      unfold tab2
      rw [UInt8.toNat_ofNat',Nat.mod_eq_of_lt (zsd _)]
  obtain ⟨v,hv,hrun⟩:=zdX (α:=GAcc) (S:=S) (x:=tab2 k) (ad:=⟨g,2 * k.toNat,none⟩) ht hrd
  refine ⟨v,hv,fun w' hw'=>?_⟩
  obtain ⟨_,h3⟩:=zqq hT m hw' g1 g h1 hg
  obtain ⟨h4,h5⟩:=h3 _ hlt
  have h6:=hrun w' fun i u hi=>by
    match i,hi with
    | 0,hi=>simp at hi;subst hi;rw [zca];exact h4
    | 1,hi=>simp at hi;subst hi;rw [zca];exact h5
  simp only [execOp,h2,Instr.loadAt,Instr.sureAddr]
  simp [h6]
theorem zuX {α:Type} [Rep α] {x hi mx:Operand} {l:List α} {R:VP} {q:Int} {T:Nat} (hx:opnd σ.Γ x=some R) (hc:∀ S v,R.p S v→(isv l).p S v) (hT:SlB c.P T (Rep.n α) (Rep.agg α)=true)
    (hhi:opnd σ.Γ hi=some (isv q)) (hmx:opnd σ.Γ mx=some (isv q)) (hq0:0 ≤ q) (hq:q ≤ l.length):OpV c ⟨d,.slice T x none (some hi) (some mx),ty,pos,af,gd⟩ σ (isv (l.take q.toNat)):=fun S a w m=>by
  obtain ⟨p,cap,h1,h2,h3,h4⟩:=zbh.1 (hc _ _ (zp m hx))
  obtain ⟨e,hu,hte⟩:=SlB.spec hT
  have hlen:(l.take q.toNat).length=q.toNat:=by rw [List.length_take];omega
  have b1:∀ (w':World) (code:BoundsCode),(Instr.sliceBound (a.eval mx) cap code).run c.P w'=.ok q.toNat w':=fun w' code=>by
    rw [(zap.1 (zp m hmx)).1];exact zdC (by omega) (by omega)
  have b2:∀ (w':World) (code:BoundsCode),(Instr.sliceBound (a.eval hi) q.toNat code).run c.P w'=.ok q.toNat w':=fun w' code=>by
    rw [(zap.1 (zp m hhi)).1];exact zdC (by omega) (by omega)
  refine ⟨.slice (if q.toNat=0 then p else p.map (·.add 0)) q.toNat q.toNat,zbh.2 ⟨_,q.toNat,by rw [hlen],by rw [hlen];exact Nat.le_refl _,by rw [hlen];omega,?_⟩,fun w' _=>?_⟩
  · by_cases he:l.take q.toNat=[]
    · exact .inl he
    right
    rcases h4 with h4 | ⟨ad,cs,h6,h7,h8,h9⟩
    · subst h4;simp at he
    subst h6
    have h10:q.toNat * Rep.n α ≤ l.length * Rep.n α:=Nat.mul_le_mul_right _ (by omega)
    refine ⟨ad,cs.take (q.toNat * Rep.n α),?_,Frz.has_take h7 _,by rw [hlen,List.length_take,h8,Nat.min_eq_left h10],zje (fun _ _ h=>Rep.len h) _ h9⟩
    split
    · rfl
    · show some (ad.add 0)=some ad
      unfold Addr.add;simp
  · simp [execOp,h1,Instr.sliceAt,Instr.slice,Instr.sliceBounds,underlying,hu,TyB.size hte,b1,b2]
end ops

section bits
variable {c:Ctx} {ty:TypeId} {pos:String} {af:Array Edge} {g:Option (Nat × Bool)} {σ:St} {d:Option Nat} {x y:Operand} {t u:TypeId}
theorem bv64 (p:UInt64):BitVec.ofInt 64 (p.toNat:Int)=p.toBitVec:=by
  apply BitVec.eq_of_toNat_eq
  rw [BitVec.toNat_ofInt]
  have h:=p.toNat_lt
  have e:p.toBitVec.toNat=p.toNat:=rfl
  rw [e]
  omega
theorem zeP {p q:UInt64} (hx:opnd σ.Γ x=some (isv p)) (hy:opnd σ.Γ y=some (isv q)):OpV c ⟨d,.binOp .or t x y u,ty,pos,af,g⟩ σ (isv (p ||| q)):=fun S a w m=>by
  have h1:=zaG.1 (zp m hx)
  have h2:=zaG.1 (zp m hy)
  have h:=(p ||| q).toNat_lt
  have e:(((p ||| q).toNat:Nat):Int)=((BitVec.ofInt 64 (p.toNat:Int) ||| BitVec.ofInt 64 (q.toNat:Int)).toNat:Int) % 18446744073709551616:=by
    rw [bv64,bv64]
    have:(p.toBitVec ||| q.toBitVec).toNat=(p ||| q).toNat:=rfl
    rw [this];omega
  exact ⟨.int .u64 ((p ||| q).toNat:Int),zaG.2 rfl,fun w' _=>by
    have hr:(Op.intBits .or .u64 (p.toNat:Int) (q.toNat:Int)).run c.P w'=.ok (.int .u64 ((p ||| q).toNat:Int)) w':=by
      rw [e];unfold Op.intBits;simp only [Sem.run_pure,zf4];rfl
    simp [execOp,binOp,eqGuard,h1,h2,hr]⟩
theorem znQ {p q:UInt64} (hx:opnd σ.Γ x=some (isv p)) (hy:opnd σ.Γ y=some (isv q)):OpV c ⟨d,.binOp .and t x y u,ty,pos,af,g⟩ σ (isv (p &&& q)):=fun S a w m=>by
  have h1:=zaG.1 (zp m hx)
  have h2:=zaG.1 (zp m hy)
  have h:=(p &&& q).toNat_lt
  have e:(((p &&& q).toNat:Nat):Int)=((BitVec.ofInt 64 (p.toNat:Int) &&& BitVec.ofInt 64 (q.toNat:Int)).toNat:Int) % 18446744073709551616:=by
    rw [bv64,bv64]
    have:(p.toBitVec &&& q.toBitVec).toNat=(p &&& q).toNat:=rfl
    rw [this];omega
  exact ⟨.int .u64 ((p &&& q).toNat:Int),zaG.2 rfl,fun w' _=>by
    have hr:(Op.intBits .and .u64 (p.toNat:Int) (q.toNat:Int)).run c.P w'=.ok (.int .u64 ((p &&& q).toNat:Int)) w':=by
      rw [e];unfold Op.intBits;simp only [Sem.run_pure,zf4];rfl
    simp [execOp,binOp,eqGuard,h1,h2,hr]⟩
def shl64 (x:UInt64) (n:Nat):UInt64:=UInt64.ofNat (x.toNat * 2 ^ n)
theorem zfo {p n:UInt64} (hx:opnd σ.Γ x=some (isv p)) (hy:opnd σ.Γ y=some (isv n)) (hn:Nat.ble n.toNat 64=true):OpV c ⟨d,.binOp .shl t x y u,ty,pos,af,g⟩ σ (isv (shl64 p n.toNat)):=fun S a w m=>by
  have h1:=zaG.1 (zp m hx)
  have h2:=zaG.1 (zp m hy)
  have hn':=Nat.le_of_ble_eq_true hn
  have e:(((shl64 p n.toNat).toNat:Nat):Int)=((p.toNat:Int) * 2 ^ n.toNat) % 18446744073709551616:=by
    unfold shl64
    rw [UInt64.toNat_ofNat']
    simp
  have hmin:min n.toNat 64=n.toNat:=Nat.min_eq_left hn'
  exact ⟨.int .u64 ((shl64 p n.toNat).toNat:Int),zaG.2 rfl,fun w' _=>by rw [e];simp [execOp,binOp,eqGuard,h1,h2,Op.shift,zf4,IntKind.bits,hmin]⟩
theorem zpZ {p:UInt8} {n:UInt64} (hx:opnd σ.Γ x=some (isv p)) (hy:opnd σ.Γ y=some (isv n)) (hn:Nat.ble n.toNat 8=true):OpV c ⟨d,.binOp .shr t x y u,ty,pos,af,g⟩ σ (isv (shr8 p n.toNat)):=fun S a w m=>by
  have h1:=zbi.1 (zp m hx)
  have h2:=zaG.1 (zp m hy)
  have hn':=Nat.le_of_ble_eq_true hn
  have hlt:p.toNat / 2 ^ n.toNat < 256:=Nat.lt_of_le_of_lt (Nat.div_le_self _ _) p.toNat_lt
  have e:(((shr8 p n.toNat).toNat:Nat):Int)=((p.toNat:Int)).fdiv (2 ^ n.toNat):=by
    unfold shr8
    rw [UInt8.toNat_ofNat',Nat.mod_eq_of_lt hlt,Int.fdiv_eq_ediv_of_nonneg _ (Int.pow_nonneg (by decide))]
    simp
  have hmin:min n.toNat 8=n.toNat:=Nat.min_eq_left hn'
  exact ⟨.int .u8 ((shr8 p n.toNat).toNat:Int),zbi.2 rfl,fun w' _=>by
    rw [e]
    simp [execOp,binOp,eqGuard,h1,h2,Op.shift,IntKind.bits,hmin]
    exact (Int.fdiv_eq_ediv_of_nonneg _ (Int.pow_nonneg (by decide))).symm⟩
end bits
end Go.Sy


namespace Go.Sy

theorem EqOk.u64 {P:Program} {T:TypeId}:EqOk P T UInt64:=by
  intro S v u x y hx hy X Y w
  have h1:=zaG.1 hx
  have h2:=zaG.1 hy
  subst h1;subst h2
  have hb:((x.toNat:Int) == (y.toNat:Int))=decide (x=y):=by
    by_cases h:x=y
    · simp [h]
    · have:x.toNat ≠ y.toNat:=fun e=>h (UInt64.toNat_inj.1 e)
      simp [h];omega
  refine ⟨by simp [eqGuard],by simp [eqGuard],?_,?_⟩
  · simp only [binOp,Op.intCmp,Sem.run_pure,hb,ne_eq,not_true,if_false]
  · have hb':((x.toNat:Int) != (y.toNat:Int))=!decide (x=y):=by rw [bne,hb]
    simp only [binOp,Op.intCmp,Sem.run_pure,hb',ne_eq,not_true,if_false]
section bits
variable {c:Ctx} {ty:TypeId} {pos:String} {af:Array Edge} {g:Option (Nat × Bool)} {σ:St} {d:Option Nat} {x y:Operand} {t u:TypeId}
theorem ztL {p q:UInt64} (hx:opnd σ.Γ x=some (isv p)) (hy:opnd σ.Γ y=some (isv q)):OpV c ⟨d,.binOp .geq t x y u,ty,pos,af,g⟩ σ (isv (decide (q ≤ p))):=fun S a w m=>by
  have h1:=zaG.1 (zp m hx)
  have h2:=zaG.1 (zp m hy)
  have e:decide (q ≤ p)=decide ((q.toNat:Int) ≤ (p.toNat:Int)):=by rw [decide_eq_decide,UInt64.le_iff_toNat_le];omega
  exact ⟨.bool (decide (q ≤ p)),za6.2 rfl,fun w' _=>by rw [e];simp [execOp,binOp,eqGuard,h1,h2,Op.intCmp]⟩
theorem zqZ {p q:UInt8} (hx:opnd σ.Γ x=some (isv p)) (hy:opnd σ.Γ y=some (isv q)):OpV c ⟨d,.binOp .andNot t x y u,ty,pos,af,g⟩ σ (isv (p &&& ~~~q)):=fun S a w m=>by
  have h1:=zbi.1 (zp m hx)
  have h2:=zbi.1 (zp m hy)
  have h:=(p &&& ~~~q).toNat_lt
  have e:(((p &&& ~~~q).toNat:Nat):Int)=((BitVec.ofInt 8 (p.toNat:Int) &&& ~~~BitVec.ofInt 8 (q.toNat:Int)).toNat:Int) % 256:=by
    rw [bv8,bv8]
    have:(p.toBitVec &&& ~~~q.toBitVec).toNat=(p &&& ~~~q).toNat:=rfl
    rw [this];omega
  exact ⟨.int .u8 ((p &&& ~~~q).toNat:Int),zbi.2 rfl,fun w' _=>by
    have hr:(Op.intBits .andNot .u8 (p.toNat:Int) (q.toNat:Int)).run c.P w'=.ok (.int .u8 ((p &&& ~~~q).toNat:Int)) w':=by
      rw [e];unfold Op.intBits;simp only [Sem.run_pure,zh6];rfl
    simp [execOp,binOp,eqGuard,h1,h2,hr]⟩
def andI (p q:Int):Int:=((p.toNat &&& q.toNat:Nat):Int)
theorem zn2 {p q:Int} (hx:opnd σ.Γ x=some (isv p)) (hy:opnd σ.Γ y=some (isv q)) (hp:0 ≤ p) (hq:0 ≤ q):OpV c ⟨d,.binOp .and t x y u,ty,pos,af,g⟩ σ (isv (andI p q)):=fun S a w m=>by
  obtain ⟨h1,i1⟩:=zap.1 (zp m hx)
  obtain ⟨h2,i2⟩:=zap.1 (zp m hy)
  obtain ⟨_,p2⟩:=i1
  obtain ⟨_,q2⟩:=i2
  have hn:p.toNat < 2 ^ 63:=by omega
  have hm:q.toNat < 2 ^ 63:=by omega
  have hle:p.toNat &&& q.toNat ≤ p.toNat:=Nat.and_le_left
  have e:andI p q=((BitVec.ofInt 64 p &&& BitVec.ofInt 64 q).toNat:Int):=by
    obtain ⟨p',rfl⟩:∃ n:Nat,p=(n:Int):=⟨p.toNat,by omega⟩
    obtain ⟨q',rfl⟩:∃ n:Nat,q=(n:Int):=⟨q.toNat,by omega⟩
    rw [Int.toNat_natCast] at hn hm
    unfold andI
    rw [BitVec.toNat_and,BitVec.ofInt_natCast,BitVec.ofInt_natCast,BitVec.toNat_ofNat,BitVec.toNat_ofNat,Nat.mod_eq_of_lt (by omega),Nat.mod_eq_of_lt (by omega),Int.toNat_natCast,Int.toNat_natCast]
  have hin:inI64 (andI p q):=zqI (by unfold andI;omega) (by unfold andI;omega)
  exact ⟨.int .i64 (andI p q),zap.2 ⟨rfl,hin⟩,fun w' _=>by
    have hr:(Op.intBits .and .i64 p q).run c.P w'=.ok (.int .i64 (andI p q)) w':=by
      have e2:Value.int .i64 (andI p q)=.int .i64 (IntKind.i64.wrap ((BitVec.ofInt 64 p &&& BitVec.ofInt 64 q).toNat:Int)):=by rw [← e,ze0 hin]
      rw [e2];rfl
    simp [execOp,binOp,eqGuard,h1,h2,hr]⟩
end bits
structure PtrB where
  b:Nat
instance:Rep PtrB where
  n:=1
  agg:=false
  rd:=fun _ cs x=>cs=[.pointer (some ⟨x.b,0,none⟩)]
  len:=fun h=>by rw [h];rfl
  mono:=fun _ h=>h
  cell:=fun h v hv=>by rw [h] at hv;simp at hv;subst hv;rfl
  one:=fun _=>rfl
theorem zo2 {S:Frz} {v:Value} {x:PtrB}:(isv x).p S v ↔ v=.pointer (some ⟨x.b,0,none⟩):=by
  constructor
  · intro h
    obtain ⟨_,h2⟩:=zdA h rfl
    have h3:[v]=[Value.pointer (some ⟨x.b,0,none⟩)]:=h2
    exact (List.cons.inj h3).1
  · intro h
    subst h
    exact ⟨rfl,rfl⟩
theorem zqy {α:Type} [Rep α] {b:Nat}:∀ (S:Frz) (v:Value),(ptrv b (Fld.id α)).p S v→(isv (PtrB.mk b)).p S v:=fun _ _ h=>zo2.2 h
theorem ztS {α:Type} [Rep α] {b:Nat}:∀ (S:Frz) (v:Value),(isv (PtrB.mk b)).p S v→(ptrv b (Fld.id α)).p S v:=fun _ _ h=>zo2.1 h
theorem zmB {α:Type} [Rep α] {c:Ctx} {ty:TypeId} {pos:String} {af:Array Edge} {g:Option (Nat × Bool)} {σ:St} {d:Option Nat} {b:Nat} {x:Operand} {T:TypeId} (ht:TyB c.P T (Rep.n PtrB) (Rep.agg PtrB)=true) (hx:opnd σ.Γ x=some (immv (PtrB.mk b))) :
    OpV c ⟨d,.load T x,ty,pos,af,g⟩ σ (ptrv b (Fld.id α)):=fun S a w m=>by
  obtain ⟨v,h1,h2⟩:=za (d:=d) (ty:=ty) (pos:=pos) (af:=af) (g:=g) ht hx S a w m
  exact ⟨v,ztS S v h1,h2⟩
/-! ### Lists of lists, the last one of which is appended to -/
structure NL (α:Type) where
  l:List α
  t:Option Tok
instance {α:Type} [Rep α]:Rep (NL α) where
  n:=1
  agg:=false
  rd:=fun S cs x=>match x.t with
    | none=>Rep.rd S cs x.l
    | some t=>Rep.rd S cs (TList.mk t x.l)
  len:=fun {S cs x} h=>by
    cases hx:x.t with
    | none=>simp only [hx] at h;exact Rep.len h
    | some t=>simp only [hx] at h;exact Rep.len h
  mono:=fun {S S' cs x} hS h=>by
    cases hx:x.t with
    | none=>simp only [hx] at h ⊢;exact Rep.mono hS h
    | some t=>simp only [hx] at h ⊢;exact Rep.mono hS h
  cell:=fun {S cs x} h=>by
    cases hx:x.t with
    | none=>simp only [hx] at h;exact Rep.cell h
    | some t=>simp only [hx] at h;exact Rep.cell h
  one:=fun _=>rfl
section nest0
variable {α:Type}
def nestL (t:Tok):List (List α)→List (NL α)
  | []=>[]
  | [x]=>[⟨x,some t⟩]
  | x :: y :: r=>⟨x,none⟩ :: nestL t (y :: r)
@[simp] theorem zd7 (t:Tok):∀ L:List (List α),(nestL t L).length=L.length
  | []=>rfl
  | [_]=>rfl
  | x :: y :: r=>by show (nestL t (y :: r)).length + 1=(y :: r).length + 1;rw [zd7 t (y :: r)]
theorem zgS {t:Tok} {y:List α}:∀ {L:List (List α)} {i:Nat},i + 1=L.length→L[i]?=some y→(nestL t L)[i]?=some ⟨y,some t⟩
  | [],i,h,_=>by cases h
  | [x],i,h,hy=>by
    have:i=0:=by simpa using h
    subst this
    cases hy;rfl
  | x :: z :: r,i,h,hy=>by
    cases i with
    | zero=>simp at h
    | succ i =>
      show (nestL t (z :: r))[i]?=_
      exact zgS (by simpa using h) (by simpa using hy)
theorem zlJ {t t':Tok} {y:List α}:∀ {L:List (List α)} {i:Nat},i + 1=L.length→(nestL t L).set i ⟨y,some t'⟩=nestL t' (L.set i y)
  | [],i,h=>by cases h
  | [x],i,h=>by
    have:i=0:=by simpa using h
    subst this;rfl
  | x :: z :: r,i,h=>by
    cases i with
    | zero=>simp at h
    | succ i =>
      have:=zlJ (t:=t) (t':=t') (y:=y) (L:=z :: r) (i:=i) (by simpa using h)
      cases i with
      | zero=>show _ :: (nestL t (z :: r)).set 0 _=_;rw [this];rfl
      | succ i=>show _ :: (nestL t (z :: r)).set (i + 1) _=_;rw [this];rfl
end nest0
section nest
variable {α:Type} [Rep α] {S:Frz} {v:Value} {c:Ctx}
theorem zto {t:Tok} {l:List α} (S:Frz) (v:Value) (h:(isv (NL.mk l (some t))).p S v):(appv t l).p S v:=isvT1 S v h
theorem zoB {t:Tok} {l:List α} (S:Frz) (v:Value) (h:(appv t l).p S v):(isv (NL.mk l (some t))).p S v:=isvT2 S v h
theorem zut {x:NL α} {cs:List Value} (h:Rep.rd S cs x):Rep.rd S cs x.l:=by
  obtain ⟨l,t⟩:=x
  cases t with
  | none=>exact h
  | some t =>
    obtain ⟨v,e,k⟩:=(show Rep.rd S cs (TList.mk t l) from h)
    exact ⟨v,e,k.1⟩
theorem zsn {t:Tok} {cs:List Value}:∀ {L:List (List α)},rdL (Rep.rd S) (nestL t L) cs→rdL (Rep.rd S) L cs:=by
  intro L
  induction L generalizing cs with
  | nil=>intro h;exact h
  | cons x r ih =>
    cases r with
    | nil=>intro ⟨c1,c2,e,h1,h2⟩;exact ⟨c1,c2,e,zut h1,h2⟩
    | cons y r=>intro ⟨c1,c2,e,h1,h2⟩;exact ⟨c1,c2,e,h1,ih h2⟩
theorem znq {t u:Tok} {x:List α} {cs:List Value}:∀ {L:List (List α)},rdL (Rep.rd S) (nestL t L ++ [NL.mk x (some u)]) cs→rdL (Rep.rd S) (nestL u (L ++ [x])) cs:=by
  intro L
  induction L generalizing cs with
  | nil=>intro h;exact h
  | cons z r ih =>
    cases r with
    | nil=>intro ⟨c1,c2,e,h1,h2⟩;exact ⟨c1,c2,e,(show Rep.rd S c1 (NL.mk z none) from (zut (x:=NL.mk z (some t)) h1:Rep.rd S c1 z)),h2⟩
    | cons y r=>intro ⟨c1,c2,e,h1,h2⟩;exact ⟨c1,c2,e,h1,ih h2⟩
theorem ziZ {t:Tok} {L:List (List α)} (S:Frz) (v:Value) (h:(isv (nestL t L)).p S v):(isv L).p S v:=by
  have h:=zbh.1 h
  refine zbh.2 ?_
  obtain ⟨p,cap,e,h1,h2,h3⟩:=h
  rw [zd7] at e h1 h2
  refine ⟨p,cap,e,h1,h2,?_⟩
  rcases h3 with h3 | ⟨a,cs,h4,h5,h6,h7⟩
  · left
    have:=zd7 t L
    rw [h3] at this
    exact List.length_eq_zero_iff.1 this.symm
  · rw [zd7] at h6
    exact .inr ⟨a,cs,h4,h5,h6,zsn h7⟩
theorem zpx {Γ:Slots} {H Hr:List Ent} {v:Vt} {t u:Tok} {L:List (List α)} {x:List α} (hp:Pick (vecE v (nestL t L ++ [NL.mk x (some u)])) H Hr):Upd c ⟨Γ,H⟩ ⟨Γ,vecE v (nestL u (L ++ [x])) :: Hr⟩:=fun S a w m=>by
  obtain ⟨S1,h1,m1⟩:=zhS (c:=c) (Γ:=Γ) hp S a w m
  have e:(nestL u (L ++ [x])).length=(nestL t L ++ [NL.mk x (some u)]).length:=by simp
  refine ⟨S1,h1,m1.ent rfl ?_⟩
  cases v with
  | none=>exact fun h=>h
  | some v =>
    obtain ⟨b,cap⟩:=v
    intro ⟨o,ho,hn,cs,T,e1,e2,e3,e4⟩
    exact ⟨o,ho,hn,cs,T,e1,e2,by rw [e];exact e3,by rw [e];exact znq e4⟩
theorem zoQ {β:Type} [Rep β] {Γ:Slots} {H Hr:List Ent} {v:Vt} {l l':List β} (hp:Pick (vecE v l) H Hr) (e:l=l'):Upd c ⟨Γ,H⟩ ⟨Γ,vecE v l' :: Hr⟩:=by
  subst e
  exact zhS hp
end nest
/-! ### Is a list nil? -/
/-- A bool that is true only if the list is empty. -/
def nqv {α:Type} (l:List α):VP where
  p:=fun _ v=>∃ b,v=.bool b∧(b=true→l=[])
  mono:=fun _ h=>h
section nilq
variable {c:Ctx} {ty:TypeId} {pos:String} {af:Array Edge} {g:Option (Nat × Bool)} {σ:St} {d:Option Nat}
theorem zrN {P:Program} {T e:TypeId} (h:P.underlying T=some (.slice e)) (p:Option Addr) (l k:Nat) (w:World):(Op.equal T (.slice p l k) (.slice none 0 0)).run P w=.ok p.isNone w:=by
  show (Op.equalIn (9999 + 1) T (.slice p l k) (.slice none 0 0)).run P w=_
  unfold Op.equalIn
  cases p <;> simp [underlying,h]
theorem zug {α:Type} [Rep α] {x y:Operand} {l:List α} {T U n:Nat} {agg:Bool} (hT:SlB c.P T n agg=true) (hx:opnd σ.Γ x=some (isv l)) (hy:opnd σ.Γ y=some nilv):OpV c ⟨d,.binOp .eql T x y U,ty,pos,af,g⟩ σ (nqv l):=fun S a w m=>by
  obtain ⟨p,cap,h1,_,_,h3⟩:=zbh.1 (zp m hx)
  have h2:a.eval y=.slice none 0 0:=zp m hy
  obtain ⟨e,hu,_⟩:=SlB.spec hT
  refine ⟨.bool p.isNone,⟨_,rfl,fun hp=>?_⟩,fun w' _=>by simp [execOp,binOp,eqGuard,h1,h2,zrN hu]⟩
  rcases h3 with h3 | ⟨ad,cs,h4,_⟩
  · exact h3
  · rw [h4] at hp;cases hp
theorem zqV {α:Type} {Q:Exit→Act→World→Prop} {x:Operand} {t e:Code} {l:List α} (hx:opnd σ.Γ x=some (nqv l)) (ht:l=[]→Wp c t σ Q) (he:Wp c e σ Q):Wp c (.cond x t e) σ Q:=fun S a w m=>by
  obtain ⟨b,hb,hl⟩:=zp m hx
  exact wp_cond_split hb (fun h=>ht (hl h) S a w m) (fun _=>he S a w m)
theorem ztT {α β:Type} {Q:Exit→Act→World→Prop} {x:Operand} {t e:Code} {l:List α} {A B:Option β} {r:β} (h:br l.isEmpty A B=some r) (hx:opnd σ.Γ x=some (nqv l)) (hAB:l=[]→A=B) (ht:l=[]→A=some r→Wp c t σ Q) (he:B=some r→Wp c e σ Q):Wp c (.cond x t e) σ Q:=by
  cases l with
  | nil=>exact zqV hx (fun hn=>ht hn h) (he ((hAB rfl).symm.trans h))
  | cons y l=>exact zqV hx (fun hn=>by cases hn) (he h)
end nilq
/-! ### An owned list, as one that is appended to -/
section vapp
variable {c:Ctx}
def vtok (n:Nat) (t:Vt) (k:Nat):Tok:=t.map fun x=>(x.1,k * n,x.2 * n)
theorem Models.vapp {α:Type} [Rep α] {σ:St} {S:Frz} {a:Act} {w:World} {t:Vt} {l:List α} {Hr:List Ent} (m:Models c σ S a w) (hp:Pick (vecE t l) σ.H Hr) :
    ∃ S':Frz,S.le S'∧Models c ⟨σ.Γ,tokE (vtok (Rep.n α) t l.length) :: Hr⟩ S' a w∧∀ v,(vecv t l.length).p S' v→(appv (vtok (Rep.n α) t l.length) l).p S' v:=by
  cases t with
  | none =>
    have m1:Models c ⟨σ.Γ,[tokE Option.none] ++ Hr⟩ S a w:=m.step (Hc:=[vecE Option.none l]) (H':=[tokE Option.none]) (Takes.cons hp .nil) ⟨Keep.refl _ _,Go.Sy.Grow.refl _ _ _,m.sub⟩ (zdT trivial fun b hb=>by simp [tokE] at hb)
    refine ⟨S,S.le_refl,m1,fun v hv=>?_⟩
    obtain ⟨_,rfl,h0⟩:=hv
    have:l=[]:=List.length_eq_zero_iff.1 h0
    subst this
    exact zbI _ _ rfl
  | some t =>
    obtain ⟨b,cap⟩:=t
    have hs:(vecE (Option.some (b,cap)) l).sat S w:=m.owns.get hp
    obtain ⟨o,ho,hnone,cs,T',e,hsz,hlc,hr⟩:=hs
    subst e
    have hlen:cs.toList.length=cs.size:=by simp
    have hle3:l.length * Rep.n α ≤ cap * Rep.n α:=Nat.mul_le_mul_right _ hlc
    have htl:(cs.toList.take (l.length * Rep.n α)).length=l.length * Rep.n α:=by rw [List.length_take];omega
    have hle:S.le (S.put b (cs.toList.take (l.length * Rep.n α))):=fun j d hj=>by
      have hne:j ≠ b:=by rintro rfl;rw [hnone] at hj;cases hj
      exact ⟨d,by unfold Frz.put;rw [if_neg hne];exact hj,List.prefix_refl _⟩
    have hst:Step (keys [vecE (Option.some (b,cap)) l]) S (S.put b (cs.toList.take (l.length * Rep.n α))) w w:=by
      refine ⟨Keep.refl _ _,⟨hle,fun j _ hj=>by unfold Frz.put;rw [if_neg (by simpa [keys,vecE] using hj)]⟩,fun j d hj=>?_⟩
      unfold Frz.put at hj
      split at hj
      · cases hj
        rename_i ej;subst ej
        exact ⟨cs,T',(0,0),ho,List.take_prefix _ _⟩
      · exact m.sub j d hj
    have m1:=m.step (Hc:=[vecE (Option.some (b,cap)) l]) (H':=[tokE (Option.some (b,l.length * Rep.n α,cap * Rep.n α))]) (Takes.cons hp .nil) hst
      (zdT ⟨_,ho,_,cs,T',if_pos rfl,htl,rfl,by omega⟩ fun b' hb'=>.inl (by
        have:b=b':=Option.some.inj hb'
        subst this
        simp [keys,vecE]))
    refine ⟨_,hle,m1,fun v hv=>?_⟩
    obtain ⟨hm,e⟩:=hv
    simp only at e
    subst e
    refine ⟨⟨_,_,rfl,hlc,hm,.inr ⟨⟨b,0,Option.none⟩,cs.toList.take (l.length * Rep.n α),rfl,⟨rfl,cs.toList.take (l.length * Rep.n α),if_pos rfl,fun j u hj=>by simpa using hj⟩,htl,zdz (fun _ _ h=>Rep.mono hle h) hr⟩⟩,0,cap,rfl,by simp,by simp⟩
theorem zsq {α:Type} [Rep α] {Γ:Slots} {H Hr:List Ent} {t:Vt} {n:Nat} {l:List α} (i:Nat) (hp:Pick (vecE t l) H Hr) (hi:look Γ i=some (vecv t n)) (hn:n=l.length):Upd c ⟨Γ,H⟩ ⟨(i,appv (vtok (Rep.n α) t l.length) l) :: Γ,tokE (vtok (Rep.n α) t l.length) :: Hr⟩:=fun S a w m=>by
  subst hn
  obtain ⟨S',hS,m',hv⟩:=m.vapp hp
  exact ⟨S',hS,m'.size,m'.dfr,m'.sub,m'.keep,m'.grow,fun j R hj=>by
    unfold look at hj
    cases hk:Nat.beq i j with
    | true =>
      rw [hk] at hj
      have e:i=j:=Nat.eq_of_beq_eq_true hk
      subst e
      cases hj
      obtain ⟨v,h1,h2⟩:=m'.env i _ hi
      exact ⟨v,h1,hv v h2⟩
    | false=>rw [hk] at hj;exact m'.env j R hj,m'.owns,m'.pins⟩
end vapp
structure Wr (α:Type) where
  v:α
instance {α:Type} [Rep α]:Rep (Wr α):=Rep.iso Wr.v
@[reducible] def Fld.wr (α:Type) [Rep α]:Fld (Wr α) α:=Fld.of Wr.v (Fld.id α) (fun x=>x.v) (fun _ y=>⟨y⟩) (fun _=>rfl) (fun _ _=>rfl)
theorem Cv.wr {α β:Type} [Rep α] [Rep β] {S:Frz} {y:α} {z:β} (h:Cv S y z):Cv S (Wr.mk y) (Wr.mk z):=h
/-! ### Shorter words for walks -/
theorem zun {c:Ctx} {ty:TypeId} {pos:String} {af:Array Edge} {g:Option (Nat × Bool)} {Γ:Slots} {H:List Ent} {f:FuncId} {xs:Array Operand} {ats:Array TypeId} {args:List VP} {Hc Hr:List Ent} {R0:VP} {H0:List Ent} {dd:Nat} {K:St→Prop} (hs:Ctr c.P f args Hc (fun R H=>R=R0∧H=H0)) (hT:Tabs c.P c.S0) (hx:Opnds Γ xs.toList args) (ht:Takes H Hc Hr)
    (k:K ⟨(dd,R0) :: Γ,H0 ++ Hr⟩) (hd:Nat.blt dd c.n=true:=by rfl) :
    OpT c ⟨some dd,.call ⟨.value (.func f),xs,ats⟩,ty,pos,af,g⟩ ⟨Γ,H⟩ K :=
  zlz hs hT hx ht (fun R H' hR=>by obtain ⟨rfl,rfl⟩:=hR;exact k) hd
theorem hI {α β:Type} {p:α→β→Prop} (a:α) (b:β) (h:p a b):p a b:=h
theorem k1 {a:Ent} {H:List Ent}:Takes (a :: H) [a] H:=.cons .here .nil
theorem k2 {a b:Ent} {H:List Ent}:Takes (a :: b :: H) [a,b] H:=.cons .here k1
theorem k3 {a b c:Ent} {H:List Ent}:Takes (a :: b :: c :: H) [a,b,c] H:=.cons .here k2
theorem k4 {a b c d:Ent} {H:List Ent}:Takes (a :: b :: c :: d :: H) [a,b,c,d] H:=.cons .here k3
theorem s1 {Γ:Slots} {x:Operand} {R:VP} (h:opnd Γ x=some R):Opnds Γ [x] [R]:=.same h .nil
theorem s2 {Γ:Slots} {x y:Operand} {R Q:VP} (h:opnd Γ x=some R) (k:opnd Γ y=some Q):Opnds Γ [x,y] [R,Q]:=.same h (s1 k)
theorem s3 {Γ:Slots} {x y z:Operand} {R Q T:VP} (h:opnd Γ x=some R) (k:opnd Γ y=some Q) (l:opnd Γ z=some T):Opnds Γ [x,y,z] [R,Q,T]:=.same h (s2 k l)
theorem s4 {Γ:Slots} {x y z u:Operand} {R Q T U:VP} (h:opnd Γ x=some R) (k:opnd Γ y=some Q) (l:opnd Γ z=some T) (m:opnd Γ u=some U):Opnds Γ [x,y,z,u] [R,Q,T,U]:=.same h (s3 k l m)
theorem zi {P:Program} {f:FuncId} {fn:Func} {code:Code} {args:List VP} {H:List Ent} {post:VP→List Ent→Prop}
    (hf:P.funcs[f]?=some fn) (hb:fn.body=some code)
    (h:∀ w0 S0,Tabs P S0→Wp ⟨P,fn.ntmps,w0,S0,keys H,[]⟩ code ⟨slotsOf 0 args,H⟩ (postQ P fn w0 S0 H post))
    (hn : (fn.name == "runtime.NumGoroutine") = false := by decide +kernel) (hl : Nat.ble args.length fn.ntmps = true := by rfl) : Ctr P f args H post := zqk hf hb hn hl h
end Go.Sy


namespace Go.Sy
open Go
section
variable {c:Ctx} {σ:St} {d:Nat} {ty:TypeId} {x y:Operand} {t u:TypeId} {p q:Int}
end
end Go.Sy


namespace Go.Sy
open Go
abbrev Pt (Rs:List VP) (Hs:List Ent):VP→List Ent→Prop:=fun R H=>R=oneOf Rs∧H=Hs
abbrev Pt1 {τ0:Type} (Rs:τ0→List VP) (Hs:τ0→List Ent):VP→List Ent→Prop:=fun R H=>∃ t0,R=oneOf (Rs t0)∧H=Hs t0
abbrev Pt2 {τ0 τ1:Type} (Rs:τ0→τ1→List VP) (Hs:τ0→τ1→List Ent):VP→List Ent→Prop:=fun R H=>∃ t0 t1,R=oneOf (Rs t0 t1)∧H=Hs t0 t1
abbrev Pt3 {τ0 τ1 τ2:Type} (Rs:τ0→τ1→τ2→List VP) (Hs:τ0→τ1→τ2→List Ent):VP→List Ent→Prop:=fun R H=>∃ t0 t1 t2,R=oneOf (Rs t0 t1 t2)∧H=Hs t0 t1 t2
abbrev Pt4 {τ0 τ1 τ2 τ3:Type} (Rs:τ0→τ1→τ2→τ3→List VP) (Hs:τ0→τ1→τ2→τ3→List Ent):VP→List Ent→Prop:=fun R H=>∃ t0 t1 t2 t3,R=oneOf (Rs t0 t1 t2 t3)∧H=Hs t0 t1 t2 t3
abbrev Pt5 {τ0 τ1 τ2 τ3 τ4:Type} (Rs:τ0→τ1→τ2→τ3→τ4→List VP) (Hs:τ0→τ1→τ2→τ3→τ4→List Ent):VP→List Ent→Prop:=fun R H=>∃ t0 t1 t2 t3 t4,R=oneOf (Rs t0 t1 t2 t3 t4)∧H=Hs t0 t1 t2 t3 t4
section
variable {c:Ctx} {ops:Array Oper} {Q:Exit→Act→World→Prop} {Γ:Slots} {H Hr Hc H0:List Ent} {d j i id:Nat} {want b:Bool} {op:Op} {o:Oper} {ty:TypeId} {pos:String} {af:Array Edge} {rest:List Oper} {π:Ord} {σ:St} {R:VP} {x y:Code} {u:Operand}
theorem ws (k:Rl c ops ops.toList σ (nxt c y Q)):Wp c (.seq (.region id ops false) y) σ Q:=zE (zm k)
theorem ss (k:Rl c ops ops.toList σ (nxt c x (nxt c y Q))):Wp c (.seq (.seq (.region id ops false) x) y) σ Q:=zE (ws k)
theorem rn (k:Wp c y σ Q):Rl c ops [] σ (nxt c y Q):=zK (zq k)
theorem wk (k:Wp c y σ Q):Wp c .skip σ (nxt c y Q):=zJ (zq k)
theorem rb (k:Fin c σ Q):Rl c ops [] σ (Exit.inBlock id Q):=zK (zx k)
theorem bn (k:Ret c σ Q):Ret c σ (Exit.inBlock id (nxt c y Q)):=zbm (zz k)
theorem xn (k:Exi c id σ Q):Wp c (.exit id) σ (nxt c y Q):=zmC (zqQ k)
theorem om (hx:opnd Γ u=some R) (k:Rl c ops rest ⟨(d,R) :: Γ,H⟩ Q) (hd:Nat.blt d c.n=true:=by rfl):Rl c ops (⟨some d,.move u,ty,pos,af,none⟩ :: rest) ⟨Γ,H⟩ Q:=oV (zo hx) k hd
theorem oa (hx:opnd Γ u=some R) (k:Rl c ops rest ⟨(d,R) :: Γ,H⟩ Q) (hd:Nat.blt d c.n=true:=by rfl):Rl c ops (⟨some d,.assign u,ty,pos,af,none⟩ :: rest) ⟨Γ,H⟩ Q:=oV (zaj hx) k hd
theorem an (hx:opnd Γ u=some R) (k:Wp c y ⟨(d,R) :: Γ,H⟩ Q) (hd:Nat.blt d c.n=true:=by rfl):Rl c ops [⟨some d,.assign u,ty,pos,af,none⟩] ⟨Γ,H⟩ (nxt c y Q):=oa hx (rn k) hd
theorem ar (hx:opnd Γ u=some R) (k:Ret c ⟨(d,R) :: Γ,H⟩ Q) (hd:Nat.blt d c.n=true:=by rfl):Rl c ops [⟨some d,.assign u,ty,pos,af,none⟩] ⟨Γ,H⟩ (nxt c .ret Q):=an hx (zaQ k) hd
def gl (ops:Array Oper) (j:Nat) (Γ:Slots):Option VP:=((ops[j]?).bind (·.dst)).bind (look Γ)
theorem zi9 (h:gl ops j Γ=some R):∃ dj,(ops[j]?).bind (·.dst)=some dj∧look Γ dj=some R:=Option.bind_eq_some_iff.1 h
theorem oG (hb:b=want) (h:OpV c ⟨some d,op,ty,pos,af,some (j,want)⟩ ⟨Γ,H⟩ R) (k:Rl c ops rest ⟨(d,R) :: Γ,H⟩ Q) (hl:gl ops j Γ=some (isv b):=by exact rfl) (hd:Nat.blt d c.n=true:=by rfl):Rl c ops (⟨some d,op,ty,pos,af,some (j,want)⟩ :: rest) ⟨Γ,H⟩ Q:=by
  obtain ⟨dj,h1,h2⟩:=zi9 hl;exact zqv rfl h1 h2 hb (OpV.t h k hd)
theorem oH {r:Option Nat} (hb:b=want) (h:OpT c ⟨r,op,ty,pos,af,some (j,want)⟩ σ fun σ'=>Rl c ops rest σ' Q) (hl:gl ops j σ.Γ=some (isv b):=by exact rfl):Rl c ops (⟨r,op,ty,pos,af,some (j,want)⟩ :: rest) σ Q:=by
  obtain ⟨dj,h1,h2⟩:=zi9 hl;exact zqv rfl h1 h2 hb h
theorem oN (hb:b=!want) (k:Rl c ops rest ⟨(d,undv) :: Γ,H⟩ Q) (hl:gl ops j Γ=some (isv b):=by exact rfl) (hd:Nat.blt d c.n=true:=by rfl):Rl c ops (⟨some d,op,ty,pos,af,some (j,want)⟩ :: rest) ⟨Γ,H⟩ Q:=by
  obtain ⟨dj,h1,h2⟩:=zi9 hl;exact zui h1 h2 hb k hd
theorem oU (k:Rl c ops rest ⟨(d,undv) :: Γ,H⟩ Q) (hl:gl ops j Γ=some undv:=by exact rfl) (hd:Nat.blt d c.n=true:=by rfl):Rl c ops (⟨some d,op,ty,pos,af,some (j,want)⟩ :: rest) ⟨Γ,H⟩ Q:=by
  obtain ⟨dj,h1,h2⟩:=zi9 hl;exact zsO h1 h2 k hd
theorem rm (ho:ops[i]?=some ⟨some d,.move u,ty,pos,af,none⟩) (hx:opnd Γ u=some R) (k:Rd c ops π ⟨(d,R) :: Γ,H⟩ Q) (hd:Nat.blt d c.n=true:=by rfl):Rd c ops (.v i π) ⟨Γ,H⟩ Q:=zj ho (zo hx) k hd
theorem rG (ho:ops[i]?=some ⟨some d,op,ty,pos,af,some (j,want)⟩) (hb:b=want) (h:OpV c ⟨some d,op,ty,pos,af,some (j,want)⟩ ⟨Γ,H⟩ R) (k:Rd c ops π ⟨(d,R) :: Γ,H⟩ Q) (hl:gl ops j Γ=some (isv b):=by exact rfl) (hd:Nat.blt d c.n=true:=by rfl):Rd c ops (.v i π) ⟨Γ,H⟩ Q:=by
  obtain ⟨dj,h1,h2⟩:=zi9 hl;exact zuS ho h1 h2 hb h k hd
theorem rP (ho:ops[i]?=some ⟨some d,op,ty,pos,af,some (j,want)⟩) (hb:b=!want) (k:Rd c ops π ⟨(d,undv) :: Γ,H⟩ Q) (hl:gl ops j Γ=some (isv b):=by exact rfl) (hd:Nat.blt d c.n=true:=by rfl):Rd c ops (.v i π) ⟨Γ,H⟩ Q:=by
  obtain ⟨dj,h1,h2⟩:=zi9 hl;exact zsx ho h1 h2 hb k hd
theorem rU (ho:ops[i]?=some ⟨some d,op,ty,pos,af,some (j,want)⟩) (k:Rd c ops π ⟨(d,undv) :: Γ,H⟩ Q) (hl:gl ops j Γ=some undv:=by exact rfl) (hd:Nat.blt d c.n=true:=by rfl):Rd c ops (.v i π) ⟨Γ,H⟩ Q:=by
  obtain ⟨dj,h1,h2⟩:=zi9 hl;exact zsb ho h1 h2 k hd
theorem rT (ho:ops[i]?=some o) (h:OpT c o σ fun σ'=>Rd c ops π σ' Q) (hg:o.guard=none:=by exact rfl):Rd c ops (.t i π) σ Q:=zvd ho hg h
theorem rH {r:Option Nat} (ho:ops[i]?=some ⟨r,op,ty,pos,af,some (j,want)⟩) (hb:b=want) (h:OpT c ⟨r,op,ty,pos,af,some (j,want)⟩ σ fun σ'=>Rd c ops π σ' Q) (hl:gl ops j σ.Γ=some (isv b):=by exact rfl):Rd c ops (.t i π) σ Q:=by
  obtain ⟨dj,h1,h2⟩:=zi9 hl;exact zu5 ho rfl h1 h2 hb h
end
section
variable {c:Ctx} {d:Option Nat} {ty:TypeId} {pos:String} {af:Array Edge} {g:Option (Nat × Bool)} {σ:St} {x i:Operand} {T f:Nat}
theorem vI {β γ:Type} [Rep β] [Rep γ] {y:β} (hx:opnd σ.Γ x=some (immv y)) (M:Fld β γ) (hf:FldB c.P T f M.off (Rep.n γ) (Rep.agg γ)=true) (z:γ) (hz:M.get y=z:=by exact rfl):OpV c ⟨d,.fieldAddr T x f,ty,pos,af,g⟩ σ (immv z):=zu7 hx M hf hz
theorem vN {α:Type} [Rep α] {l:List α} {n:Nat} {agg:Bool} (hx:opnd σ.Γ x=some (isv l)) (hT:SlB c.P T n agg=true):OpV c ⟨d,.call ⟨.builtin .len,#[x],#[T]⟩,ty,pos,af,g⟩ σ (isv (l.length:Int)):=zlN hx (fun _ _ h=>h) hT
theorem vX {α:Type} [Rep α] {l:List α} {k:Int} {y:α} (hx:opnd σ.Γ x=some (isv l)) (hi:opnd σ.Γ i=some (isv k)) (hT:SlB c.P T (Rep.n α) (Rep.agg α)=true) (hy:getI l k=some y):OpV c ⟨d,.indexAddr T x i,ty,pos,af,g⟩ σ (immv y):=zk7 hx (fun _ _ h=>h) hi hT hy
theorem vP {α β:Type} [Rep α] [Rep β] {b:Nat} {L:Fld α β} {y:α} {T:TypeId} {o:Obj} (ht:TyB c.P T (Rep.n β) (Rep.agg β)=true) (hx:opnd σ.Γ x=some (pinv o b L y)) (hp:(b,o) ∈ c.pin) (z:β) (hz:L.get y=z:=by exact rfl):OpV c ⟨d,.load T x,ty,pos,af,g⟩ σ (isv z):=zqx ht hx hp (by subst hz;exact fun _ _ h=>h)
end
/-! ### What turns the world -/
theorem p0 {e:Ent} {l:List Ent}:Pick e (e :: l) l:=.here
theorem p1 {e a:Ent} {l:List Ent}:Pick e (a :: e :: l) (a :: l):=.there .here
theorem p2 {e a b:Ent} {l:List Ent}:Pick e (a :: b :: e :: l) (a :: b :: l):=.there p1
theorem p3 {e a b c:Ent} {l:List Ent}:Pick e (a :: b :: c :: e :: l) (a :: b :: c :: l):=.there p2
theorem p4 {e a b c d:Ent} {l:List Ent}:Pick e (a :: b :: c :: d :: e :: l) (a :: b :: c :: d :: l):=.there p3
theorem a0 {e:Ent} {H Hc Hr:List Ent} (h:Takes H Hc Hr):Takes (e :: H) (e :: Hc) Hr:=.cons .here h
theorem a1 {e a:Ent} {H Hc Hr:List Ent} (h:Takes (a :: H) Hc Hr):Takes (a :: e :: H) (e :: Hc) Hr:=.cons p1 h
theorem a2 {e a b:Ent} {H Hc Hr:List Ent} (h:Takes (a :: b :: H) Hc Hr):Takes (a :: b :: e :: H) (e :: Hc) Hr:=.cons p2 h
theorem a3 {e a b c:Ent} {H Hc Hr:List Ent} (h:Takes (a :: b :: c :: H) Hc Hr):Takes (a :: b :: c :: e :: H) (e :: Hc) Hr:=.cons p3 h
theorem a4 {e a b c d:Ent} {H Hc Hr:List Ent} (h:Takes (a :: b :: c :: d :: H) Hc Hr):Takes (a :: b :: c :: d :: e :: H) (e :: Hc) Hr:=.cons p4 h
theorem k0 {H:List Ent}:Takes H [] H:=.nil
theorem k5 {e1 e2 e3 e4 e5:Ent} {H:List Ent}:Takes (e1 :: e2 :: e3 :: e4 :: e5 :: H) [e1,e2,e3,e4,e5] H:=a0 k4
theorem k6 {e1 e2 e3 e4 e5 e6:Ent} {H:List Ent}:Takes (e1 :: e2 :: e3 :: e4 :: e5 :: e6 :: H) [e1,e2,e3,e4,e5,e6] H:=a0 k5
theorem k7 {e1 e2 e3 e4 e5 e6 e7:Ent} {H:List Ent}:Takes (e1 :: e2 :: e3 :: e4 :: e5 :: e6 :: e7 :: H) [e1,e2,e3,e4,e5,e6,e7] H:=a0 k6
section
variable {c:Ctx} {ty:TypeId} {pos:String} {af:Array Edge} {g:Option (Nat × Bool)} {Γ:Slots} {H Hr Hc:List Ent} {K:St→Prop} {x u:Operand} {T dd:Nat}
theorem tL {α β:Type} [Rep α] [Rep β] {b:Nat} {L:Fld α β} {y:α} (ht:TyB c.P T (Rep.n β) (Rep.agg β)=true) (hx:opnd Γ x=some (ptrv b L)) (hp:Pick (boxE b y) H Hr) (z:β) (k:K ⟨(dd,isv z) :: Γ,H⟩) (hz:L.get y=z:=by exact rfl) (hd:Nat.blt dd c.n=true:=by rfl) :
    OpT c ⟨some dd,.load T x,ty,pos,af,g⟩ ⟨Γ,H⟩ K:=zaz ht hx hp (by subst hz;exact fun _ _ h=>h) k hd
theorem tS {α β:Type} [Rep α] [Rep β] {b:Nat} {L:Fld α β} {y:α} {z:β} (ht:TyB c.P T (Rep.n β) (Rep.agg β)=true) (hx:opnd Γ x=some (ptrv b L)) (hu:opnd Γ u=some (isv z)) (hp:Pick (boxE b y) H Hr) (y':α) (k:K ⟨Γ,boxE b y' :: Hr⟩) (hy:L.set y z=y':=by exact rfl) :
    OpT c ⟨none,.store T x u,ty,pos,af,g⟩ ⟨Γ,H⟩ K:=zo4 ht hx hu (fun _ _ h=>h) hp hy k
theorem tR {α β:Type} [Rep α] [Rep β] {b:Nat} {L:Fld α β} {y:α} {z:β} {R:VP} (ht:TyB c.P T (Rep.n β) (Rep.agg β)=true) (hx:opnd Γ x=some (ptrv b L)) (hu:opnd Γ u=some R) (hc:∀ S v,R.p S v→(isv z).p S v) (hp:Pick (boxE b y) H Hr) (y':α) (hy:L.set y z=y') (k:K ⟨Γ,boxE b y' :: Hr⟩) :
    OpT c ⟨none,.store T x u,ty,pos,af,g⟩ ⟨Γ,H⟩ K:=zo4 ht hx hu hc hp hy k
theorem tB {α:Type} [Rep α] {y:α} (hx:opnd Γ x=some (isv y)) (k:K ⟨(dd,immv y) :: Γ,H⟩) (hd:Nat.blt dd c.n=true:=by rfl):OpT c ⟨some dd,.box T x,ty,pos,af,g⟩ ⟨Γ,H⟩ K:=znY hx (fun _ _ h=>h) k hd
section
variable {f:FuncId} {xs:Array Operand} {ats:Array TypeId} {args:List VP} {τ0 τ1 τ2 τ3 τ4:Type}
theorem tC {R0:List VP} {H0:List Ent} (hs:Ctr c.P f args Hc (Pt R0 H0)) (hT:Tabs c.P c.S0) (hx:Opnds Γ xs.toList args) (ht:Takes H Hc Hr) (k:K ⟨(dd,oneOf R0) :: Γ,H0 ++ Hr⟩) (hd:Nat.blt dd c.n=true:=by rfl) :
    OpT c ⟨some dd,.call ⟨.value (.func f),xs,ats⟩,ty,pos,af,g⟩ ⟨Γ,H⟩ K:=zun hs hT hx ht k hd
theorem tC1 {R0:τ0→List VP} {H0:τ0→List Ent} (hs:Ctr c.P f args Hc (Pt1 R0 H0)) (hT:Tabs c.P c.S0) (hx:Opnds Γ xs.toList args) (ht:Takes H Hc Hr) (k:∀ t0,K ⟨(dd,oneOf (R0 t0)) :: Γ,H0 t0 ++ Hr⟩) (hd:Nat.blt dd c.n=true:=by rfl) :
    OpT c ⟨some dd,.call ⟨.value (.func f),xs,ats⟩,ty,pos,af,g⟩ ⟨Γ,H⟩ K:=zlz hs hT hx ht (fun R H' hR=>by obtain ⟨t0,rfl,rfl⟩:=hR;exact k t0) hd
theorem tC2 {R0:τ0→τ1→List VP} {H0:τ0→τ1→List Ent} (hs:Ctr c.P f args Hc (Pt2 R0 H0)) (hT:Tabs c.P c.S0) (hx:Opnds Γ xs.toList args) (ht:Takes H Hc Hr) (k:∀ t0 t1,K ⟨(dd,oneOf (R0 t0 t1)) :: Γ,H0 t0 t1 ++ Hr⟩) (hd:Nat.blt dd c.n=true:=by rfl) :
    OpT c ⟨some dd,.call ⟨.value (.func f),xs,ats⟩,ty,pos,af,g⟩ ⟨Γ,H⟩ K:=zlz hs hT hx ht (fun R H' hR=>by obtain ⟨t0,t1,rfl,rfl⟩:=hR;exact k t0 t1) hd
theorem tC3 {R0:τ0→τ1→τ2→List VP} {H0:τ0→τ1→τ2→List Ent} (hs:Ctr c.P f args Hc (Pt3 R0 H0)) (hT:Tabs c.P c.S0) (hx:Opnds Γ xs.toList args) (ht:Takes H Hc Hr) (k:∀ t0 t1 t2,K ⟨(dd,oneOf (R0 t0 t1 t2)) :: Γ,H0 t0 t1 t2 ++ Hr⟩) (hd:Nat.blt dd c.n=true:=by rfl) :
    OpT c ⟨some dd,.call ⟨.value (.func f),xs,ats⟩,ty,pos,af,g⟩ ⟨Γ,H⟩ K:=zlz hs hT hx ht (fun R H' hR=>by obtain ⟨t0,t1,t2,rfl,rfl⟩:=hR;exact k t0 t1 t2) hd
theorem tC4 {R0:τ0→τ1→τ2→τ3→List VP} {H0:τ0→τ1→τ2→τ3→List Ent} (hs:Ctr c.P f args Hc (Pt4 R0 H0)) (hT:Tabs c.P c.S0) (hx:Opnds Γ xs.toList args) (ht:Takes H Hc Hr) (k:∀ t0 t1 t2 t3,K ⟨(dd,oneOf (R0 t0 t1 t2 t3)) :: Γ,H0 t0 t1 t2 t3 ++ Hr⟩) (hd:Nat.blt dd c.n=true:=by rfl) :
    OpT c ⟨some dd,.call ⟨.value (.func f),xs,ats⟩,ty,pos,af,g⟩ ⟨Γ,H⟩ K:=zlz hs hT hx ht (fun R H' hR=>by obtain ⟨t0,t1,t2,t3,rfl,rfl⟩:=hR;exact k t0 t1 t2 t3) hd
theorem tC5 {R0:τ0→τ1→τ2→τ3→τ4→List VP} {H0:τ0→τ1→τ2→τ3→τ4→List Ent} (hs:Ctr c.P f args Hc (Pt5 R0 H0)) (hT:Tabs c.P c.S0) (hx:Opnds Γ xs.toList args) (ht:Takes H Hc Hr) (k:∀ t0 t1 t2 t3 t4,K ⟨(dd,oneOf (R0 t0 t1 t2 t3 t4)) :: Γ,H0 t0 t1 t2 t3 t4 ++ Hr⟩) (hd:Nat.blt dd c.n=true:=by rfl) :
    OpT c ⟨some dd,.call ⟨.value (.func f),xs,ats⟩,ty,pos,af,g⟩ ⟨Γ,H⟩ K:=zlz hs hT hx ht (fun R H' hR=>by obtain ⟨t0,t1,t2,t3,t4,rfl,rfl⟩:=hR;exact k t0 t1 t2 t3 t4) hd
end
end
theorem m0 {α:Type} {a:α} {l:List α}:a ∈ a :: l:=List.Mem.head _
theorem m1 {α:Type} {a b:α} {l:List α}:a ∈ b :: a :: l:=List.Mem.tail _ (List.Mem.head _)
theorem r1 {P:Program} {σ:St} {t:Nat} {R:VP} (h:look σ.Γ t=some R):Results P σ [.tmp t] [R]:=.tmp h .nil
theorem r2 {P:Program} {σ:St} {t u:Nat} {R S:VP} (h:look σ.Γ t=some R) (k:look σ.Γ u=some S):Results P σ [.tmp t,.tmp u] [R,S]:=.tmp h (.tmp k .nil)
/-! ### Joins, loops, what is returned -/
section
variable {c:Ctx} {ops:Array Oper} {Q:Exit→Act→World→Prop} {ι β γ:Type} {r:β} {Γ:Slots} {H Hc Hr:List Ent} {l:List Oper} {π:Ord} {σ:St} {B:(ι→Option β)→Option β} {R:ι→Option β} {x y:Code}
theorem MD {mod:Slots} (h:mods Γ mod:=by
  repeat first
  | exact zan
  | refine zB rfl (fun _ _ h=>h) ?_
  | refine zB rfl (by first | exact zG | exact zbI | exact zcU | exact isvT1 | exact fun _ _ _=>trivial | exact vecvE (by first | rfl | simp)) ?_):mods Γ mod:=h
theorem tk0:∃ Hx,Takes H [] Hx:=⟨_,.nil⟩
theorem tkC {e:Ent} {H1:List Ent} (h:Pick e H H1) (k:∃ Hx,Takes H1 Hc Hx):∃ Hx,Takes H (e :: Hc) Hx:=k.elim fun _ k=>⟨_,.cons h k⟩
theorem TK (h:∃ Hx,Takes H Hc Hx:=by
  repeat first
  | exact tk0
  | refine tkC .here ?_
  | refine tkC p1 ?_
  | refine tkC p2 ?_
  | refine tkC p3 ?_
  | refine tkC p4 ?_
  | refine tkC (.there p4) ?_
  | refine tkC (.there (.there p4)) ?_
  | refine tkC (.there (.there (.there p4))) ?_
  | refine tkC (.there (.there (.there (.there p4)))) ?_):∃ Hx,Takes H Hc Hx:=h
theorem oI {b:Bool} {T E:Option β} (h:br b T E=some r) (ht:b=true→T=some r→Rl c ops l σ Q) (hf:b=false→E=some r→Rl c ops l σ Q):Rl c ops l σ Q:=by
  cases b with
  | true=>exact ht rfl h
  | false=>exact hf rfl h
theorem rJ {b:Bool} {T E:Option β} (h:br b T E=some r) (ht:b=true→T=some r→Rd c ops π σ Q) (hf:b=false→E=some r→Rd c ops π σ Q):Rd c ops π σ Q:=by
  cases b with
  | true=>exact ht rfl h
  | false=>exact hf rfl h
def Jo (J:ι→Option β) (r:β) (P:St→Prop) (mod:ι→Slots) (ds:List Nat) (Γ:Slots) (Hr:List Ent):Prop :=
  ∀ {i},J i=some r→∀ (k:Nat) {Γ':Slots} {H':List Ent} (_:Γ'.drop k=Γ:=by exact rfl) (_:tailB (Γ'.take k) ds Γ=true:=by exact rfl) (_:mods Γ' (mod i):=by exact MD) (_:∃ Hx,Takes H' Hr Hx:=by exact TK),P ⟨Γ',H'⟩
def Jn (J:ι→Option β) (r:β) (P:St→Prop) (mod:ι→γ→Slots) (Hm:ι→γ→List Ent) (Γ:Slots) (Hr:List Ent):Prop :=
  ∀ {i},J i=some r→∀ (g:γ) (k:Nat) {Γ':Slots} {H':List Ent} (_:Γ'.drop k=Γ:=by exact rfl) (_:tailB (Γ'.take k) ((mod i g).map (·.1)) Γ=true:=by exact rfl) (_:mods Γ' (mod i g):=by exact MD) (_:∃ Hx,Takes H' (Hm i g ++ Hr) Hx:=by exact TK),P ⟨Γ',H'⟩
theorem jO [Rep ι] (n d:Nat) (h:jp B R=some r) (hk:∀ i,R i=some r→Rl c ops (l.drop n) ⟨(d,isv i) :: Γ,H⟩ Q)
    (hx:∀ J:ι→Option β,B J=some r→Jo J r (fun σ'=>Rl c ops (l.drop n) σ' Q) (fun i=>[(d,isv i)]) [d] Γ H→Rl c ops l ⟨Γ,H⟩ Q):Rl c ops l ⟨Γ,H⟩ Q :=
  zuW (γ:=Unit) (fun i _=>[(d,isv i)]) (fun _ _=>[]) .nil h n rfl (fun i _=>hk i) fun J h hJ=>hx J h (by intro i hi k Γ' H' h1 h2 h3 ⟨Hx,h4⟩;exact hJ i () hi _ (zfs (mod:=[(d,isv i)]) (Hm:=[]) k h1 h2 h3 h4))
theorem jD [Rep ι] (n d:Nat) (h:jp B R=some r) (hk:∀ i,R i=some r→Rd c ops (π.drop n) ⟨(d,isv i) :: Γ,H⟩ Q)
    (hx:∀ J:ι→Option β,B J=some r→Jo J r (fun σ'=>Rd c ops (π.drop n) σ' Q) (fun i=>[(d,isv i)]) [d] Γ H→Rd c ops π ⟨Γ,H⟩ Q):Rd c ops π ⟨Γ,H⟩ Q :=
  hx R h (by intro i hi k Γ' H' h1 h2 h3 ⟨Hx,h4⟩;exact fun S a w m=>hk i hi S a w (m.weak (zfs (mod:=[(d,isv i)]) (Hm:=[]) k h1 h2 h3 h4)))
theorem jW [Rep ι] (d:Nat) (h:jp B R=some r) (hk:∀ i,R i=some r→Wp c y ⟨(d,isv i) :: Γ,H⟩ Q)
    (hx:∀ J:ι→Option β,B J=some r→Jo J r (fun σ'=>Fin c σ' (nxt c y Q)) (fun i=>[(d,isv i)]) [d] Γ H→Wp c x ⟨Γ,H⟩ (nxt c y Q)):Wp c x ⟨Γ,H⟩ (nxt c y Q) :=
  hx R h (by intro i hi k Γ' H' h1 h2 h3 ⟨Hx,h4⟩;exact zq (zuo (zfs (mod:=[(d,isv i)]) (Hm:=[]) k h1 h2 h3 h4) (hk i hi)))
theorem jo (n:Nat) (h:jp B R=some r) (γ:Type) (mod:ι→γ→Slots) (Hm:ι→γ→List Ent) (hT:Takes H Hc Hr) (hk:∀ i g,R i=some r→Rl c ops (l.drop n) ⟨mod i g ++ Γ,Hm i g ++ Hr⟩ Q)
    (hx:∀ J:ι→Option β,B J=some r→Jn J r (fun σ'=>Rl c ops (l.drop n) σ' Q) mod Hm Γ Hr→Rl c ops l ⟨Γ,H⟩ Q):Rl c ops l ⟨Γ,H⟩ Q :=
  zuW mod Hm hT h n rfl hk fun J h hJ=>hx J h (by intro i hi g k Γ' H' h1 h2 h3 ⟨Hx,h4⟩;exact hJ i g hi _ (zfs k h1 h2 h3 h4))
theorem jd (n:Nat) (h:jp B R=some r) (γ:Type) (mod:ι→γ→Slots) (Hm:ι→γ→List Ent) (hT:Takes H Hc Hr) (hk:∀ i g,R i=some r→Rd c ops (π.drop n) ⟨mod i g ++ Γ,Hm i g ++ Hr⟩ Q)
    (hx:∀ J:ι→Option β,B J=some r→Jn J r (fun σ'=>Rd c ops (π.drop n) σ' Q) mod Hm Γ Hr→Rd c ops π ⟨Γ,H⟩ Q):Rd c ops π ⟨Γ,H⟩ Q :=
  zu9 mod Hm hT h n rfl hk fun J h hJ=>hx J h (by intro i hi g k Γ' H' h1 h2 h3 ⟨Hx,h4⟩;exact hJ i g hi _ (zfs k h1 h2 h3 h4))
theorem jw (h:jp B R=some r) (γ:Type) (mod:ι→γ→Slots) (Hm:ι→γ→List Ent) (hT:Takes H Hc Hr) (hk:∀ i g,R i=some r→Wp c y ⟨mod i g ++ Γ,Hm i g ++ Hr⟩ Q)
    (hx:∀ J:ι→Option β,B J=some r→Jn J r (fun σ'=>Fin c σ' (nxt c y Q)) mod Hm Γ Hr→Wp c x ⟨Γ,H⟩ (nxt c y Q)):Wp c x ⟨Γ,H⟩ (nxt c y Q) :=
  zvf mod Hm hT h hk fun J h hJ=>hx J h (by intro i hi g k Γ' H' h1 h2 h3 ⟨Hx,h4⟩;exact hJ i g hi _ (zfs k h1 h2 h3 h4))
theorem lP {F:(ι→Option β)→ι→Option β} {i0:ι} (h:lp F i0=some r) (γ:Type) (g0:γ) (mod:ι→γ→Slots) (Hm:ι→γ→List Ent) (hm:mods Γ (mod i0 g0)) (hT:Takes H (Hm i0 g0) Hr)
    (hx:∀ (L:ι→Option β) (i:ι) (g:γ) (Q':Exit→Act→World→Prop),F L i=some r→Jn L r (fun σ'=>Fin c σ' Q') mod Hm Γ Hr→(∀ id σ',Exi c id σ' Q→Exi c id σ' Q')→(∀ σ',Ret c σ' Q→Ret c σ' Q')→Wp c x ⟨mod i g ++ Γ,Hm i g ++ Hr⟩ Q'):Wp c (.loop x) ⟨Γ,H⟩ Q :=
  zuU mod Hm h g0 hm hT fun L i g Q' h hL hE hR=>hx L i g Q' h (by intro i hi g k Γ' H' h1 h2 h3 ⟨Hx,h4⟩;exact hL i g hi _ (zfs k h1 h2 h3 h4)) hE hR
theorem lO [Rep ι] {F:(ι→Option β)→ι→Option β} {i0:ι} (d:Nat) (h:lp F i0=some r) (hm:look Γ d=some (isv i0))
    (hx:∀ (L:ι→Option β) (i:ι) (Q':Exit→Act→World→Prop),F L i=some r→Jo L r (fun σ'=>Fin c σ' Q') (fun i=>[(d,isv i)]) [d] Γ H→(∀ id σ',Exi c id σ' Q→Exi c id σ' Q')→(∀ σ',Ret c σ' Q→Ret c σ' Q')→Wp c x ⟨(d,isv i) :: Γ,H⟩ Q'):Wp c (.loop x) ⟨Γ,H⟩ Q :=
  zuU (γ:=Unit) (fun i _=>[(d,isv i)]) (fun _ _=>[]) h () (zB hm (fun _ _ h=>h) zan) .nil fun L i _ Q' h hL hE hR=>hx L i Q' h (by intro i hi k Γ' H' h1 h2 h3 ⟨Hx,h4⟩;exact hL i () hi _ (zfs (mod:=[(d,isv i)]) (Hm:=[]) k h1 h2 h3 h4)) hE hR
theorem iS {s:β} (h:some s=some r):s=r:=Option.some.inj h
end
end Go.Sy


namespace Go.Proofs.Q
open Go.Sy
def utf8_ValidString (s:Str):Option Bool:=some (Lib.validD s.b)
end Go.Proofs.Q


namespace Go.Proofs.Q
open Go.Sy
set_option maxRecDepth 4000
def zfu (a_s:Str) (a_i:Int):Option (UInt8) :=
  jp (ι:=Bool) (fun J2=>br (decide (a_i < (0:Int))) (J2 (true)) (J2 ((decide ((a_s.b.length:Int) ≤ a_i))))) (fun q1=>br q1 (some ((0:UInt8))) (cal (getI a_s.b a_i) fun y4=>some (y4)))

def zfF (a_s:Str) (a_i:Int):Option (Int) :=
  lp (ι:=Int) (fun L2 q1=>br (decide (q1 < (a_s.b.length:Int))) (cal (getI a_s.b q1) fun y51=>jp (ι:=Bool) (fun J53=>br (decide (y51=(32:UInt8))) (J53 (true)) (cal (getI a_s.b q1) fun y55=>J53 ((decide (y55=(9:UInt8)))))) (fun q52=>jp (ι:=Bool) (fun J57=>br q52 (J57 (true)) (cal (getI a_s.b q1) fun y59=>J57 ((decide (y59=(10:UInt8)))))) (fun q56=>jp (ι:=Bool) (fun J61=>br q56 (J61 (true)) (cal (getI a_s.b q1) fun y63=>J61 ((decide (y63=(13:UInt8)))))) (fun q60=>br q60 (ck ((q1 + (1:Int))) <| L2 ((q1 + (1:Int)))) (cal (getI a_s.b q1) fun y65=>jp (ι:=Bool) (fun J67=>br (decide (y65=(45:UInt8))) (ck ((q1 + (1:Int))) <| cal (zfu a_s (q1 + (1:Int))) fun y70=>J67 ((decide (y70=(45:UInt8))))) (J67 (false))) (fun q66=>br q66 (ck ((q1 + (2:Int))) <| lp (ι:=Int) (fun L73 q72=>jp (ι:=Bool) (fun J87=>br (decide (q72 < (a_s.b.length:Int))) (cal (getI a_s.b q72) fun y89=>J87 ((!decide (y89=(10:UInt8))))) (J87 (false))) (fun q86=>br q86 (cal (getI a_s.b q72) fun y90=>jp (ι:=Bool) (fun J92=>br (decide (y90=(45:UInt8))) (ck ((q72 + (1:Int))) <| cal (zfu a_s (q72 + (1:Int))) fun y95=>J92 ((decide (y95=(45:UInt8))))) (J92 (false))) (fun q91=>br q91 (ck ((q72 + (2:Int))) <| L2 ((q72 + (2:Int)))) (ck ((q72 + (1:Int))) <| L73 ((q72 + (1:Int)))))) (L2 (q72)))) (((q1 + (2:Int))))) (some (q1)))))))) (some (q1))) ((a_i))

def zeL (a_c:UInt8):Option (Bool) :=
  jp (ι:=Bool) (fun J2=>br (decide ((97:UInt8) ≤ a_c)) (J2 ((decide (a_c ≤ (122:UInt8))))) (J2 (false))) (fun q1=>jp (ι:=Bool) (fun J5=>br q1 (J5 (true)) (jp (ι:=Bool) (fun J8=>br (decide ((65:UInt8) ≤ a_c)) (J8 ((decide (a_c ≤ (90:UInt8))))) (J8 (false))) (fun q7=>J5 (q7)))) (fun q4=>some (q4)))

def zd8 (a_c:UInt8):Option (Bool) :=
  jp (ι:=Bool) (fun J2=>br (decide ((48:UInt8) ≤ a_c)) (J2 ((decide (a_c ≤ (57:UInt8))))) (J2 (false))) (fun q1=>some (q1))

def zg2 (a_s:Str) (a_i:Int):Option (Int) :=
  lp (ι:=Int) (fun L2 q1=>jp (ι:=Bool) (fun J30=>br (decide (q1 < (a_s.b.length:Int))) (cal (getI a_s.b q1) fun y32=>cal (zeL y32) fun y33=>jp (ι:=Bool) (fun J35=>br y33 (J35 (true)) (cal (getI a_s.b q1) fun y37=>cal (zd8 y37) fun y38=>J35 (y38))) (fun q34=>jp (ι:=Bool) (fun J40=>br q34 (J40 (true)) (cal (getI a_s.b q1) fun y42=>jp (ι:=Bool) (fun J44=>br (decide (y42=(45:UInt8))) (ck ((q1 + (1:Int))) <| cal (zfu a_s (q1 + (1:Int))) fun y47=>J44 ((!decide (y47=(45:UInt8))))) (J44 (false))) (fun q43=>J40 (q43)))) (fun q39=>J30 (q39)))) (J30 (false))) (fun q29=>br q29 (ck ((q1 + (1:Int))) <| L2 ((q1 + (1:Int)))) (ck ((q1 - (1:Int))) <| cal (getI a_s.b (q1 - (1:Int))) fun y50=>jp (ι:=Bool) (fun J52=>br (decide (y50=(45:UInt8))) (J52 (true)) (ck ((q1 - a_i)) <| J52 ((decide ((60:Int) < (q1 - a_i)))))) (fun q51=>br q51 (some ((-1:Int))) (some (q1)))))) ((a_i))

def zhC :Option ((List Str)) :=
  some (([(Str.mk [68,69,70,73,78,73,84,73,79,78,83]),(Str.mk [69,88,80,76,73,67,73,84]),(Str.mk [73,77,80,76,73,67,73,84]),(Str.mk [65,85,84,79,77,65,84,73,67]),(Str.mk [84,65,71,83]),(Str.mk [66,69,71,73,78]),(Str.mk [69,78,68]),(Str.mk [66,79,79,76,69,65,78]),(Str.mk [73,78,84,69,71,69,82]),(Str.mk [69,78,85,77,69,82,65,84,69,68]),(Str.mk [78,85,76,76]),(Str.mk [79,67,84,69,84]),(Str.mk [83,84,82,73,78,71]),(Str.mk [85,84,70,56,83,116,114,105,110,103]),(Str.mk [83,69,81,85,69,78,67,69]),(Str.mk [83,69,84]),(Str.mk [67,72,79,73,67,69]),(Str.mk [79,70]),(Str.mk [79,80,84,73,79,78,65,76]),(Str.mk [68,69,70,65,85,76,84]),(Str.mk [83,73,90,69]),(Str.mk [77,73,78]),(Str.mk [77,65,88]),(Str.mk [84,82,85,69]),(Str.mk [70,65,76,83,69])]:(List Str)))

def zeS (a_l:(List Str)) (a_x:Str):Option (Bool) :=
  lp (ι:=Int) (fun L2 q1=>br (decide (q1 < (a_l.length:Int))) (cal (getI a_l q1) fun y5=>br (decide (y5=a_x)) (some (true)) (ck ((q1 + (1:Int))) <| L2 ((q1 + (1:Int))))) (some (false))) (((0:Int)))

def zgO (a_s:Str):Option (Bool) :=
  cal (zhC ) fun y1=>cal (zeS y1 a_s) fun y2=>some (y2)

def zeQ (a_s:Str) (a_i:Int):Option (Int) :=
  cal (getI a_s.b a_i) fun y1=>jp (ι:=Int) (fun J3=>br (decide (y1=(45:UInt8))) (ck ((a_i + (1:Int))) <| J3 ((a_i + (1:Int)))) (J3 (a_i))) (fun q2=>lp (ι:=Int × UInt64) (fun L6 q5=>jp (ι:=Bool) (fun J50=>br (decide (q5.1 < (a_s.b.length:Int))) (cal (getI a_s.b q5.1) fun y52=>cal (zd8 y52) fun y53=>J50 (y53)) (J50 (false))) (fun q49=>br q49 (ck ((q5.1 - q2)) <| jp (ι:=UInt64) (fun J56=>br (decide ((q5.1 - q2) < (19:Int))) (cal (getI a_s.b q5.1) fun y57=>J56 ((((10:UInt64) * q5.2) + (y57 - (48:UInt8)).toUInt64))) (J56 (q5.2))) (fun q55=>ck ((q5.1 + (1:Int))) <| L6 ((q5.1 + (1:Int)),q55))) (ck ((q5.1 - q2)) <| jp (ι:=Bool) (fun J61=>br (decide ((q5.1 - q2) < (1:Int))) (J61 (true)) (J61 ((decide ((19:Int) < (q5.1 - q2)))))) (fun q60=>jp (ι:=Bool) (fun J64=>br q60 (J64 (true)) (jp (ι:=Bool) (fun J67=>br (decide ((1:Int) < (q5.1 - q2))) (cal (getI a_s.b q2) fun y69=>J67 ((decide (y69=(48:UInt8))))) (J67 (false))) (fun q66=>J64 (q66)))) (fun q63=>jp (ι:=Bool) (fun J71=>br q63 (J71 (true)) (jp (ι:=Bool) (fun J74=>br (decide (y1=(45:UInt8))) (cal (getI a_s.b q2) fun y76=>J74 ((decide (y76=(48:UInt8))))) (J74 (false))) (fun q73=>J71 (q73)))) (fun q70=>jp (ι:=Bool) (fun J78=>br q70 (J78 (true)) (cal (zfu a_s q5.1) fun y80=>cal (zeL y80) fun y81=>J78 (y81))) (fun q77=>jp (ι:=Bool) (fun J83=>br q77 (J83 (true)) (J83 ((decide ((9223372036854775808:UInt64) < q5.2))))) (fun q82=>jp (ι:=Bool) (fun J86=>br q82 (J86 (true)) (jp (ι:=Bool) (fun J89=>br (!(decide (y1=(45:UInt8)))) (J89 ((decide (q5.2=(9223372036854775808:UInt64))))) (J89 (false))) (fun q88=>J86 (q88)))) (fun q85=>br q85 (some ((-1:Int))) (some (q5.1))))))))))) ((q2,(0:UInt64))))

def zh8 (a_s:Str) (a_i:Int):Option (Int × Str) :=
  ck ((a_i + (1:Int))) <| lp (ι:=Int) (fun L3 q2=>jp (ι:=Bool) (fun J32=>br (decide (q2 < (a_s.b.length:Int))) (cal (getI a_s.b q2) fun y34=>cal (zd8 y34) fun y35=>jp (ι:=Bool) (fun J37=>br y35 (J37 (true)) (cal (getI a_s.b q2) fun y39=>jp (ι:=Bool) (fun J41=>br (decide ((65:UInt8) ≤ y39)) (cal (getI a_s.b q2) fun y43=>J41 ((decide (y43 ≤ (70:UInt8))))) (J41 (false))) (fun q40=>J37 (q40)))) (fun q36=>J32 (q36))) (J32 (false))) (fun q31=>br q31 (ck ((q2 + (1:Int))) <| L3 ((q2 + (1:Int)))) (ck ((q2 - (a_i + (1:Int)))) <| asr (!decide ((2:Int)=0)) <| jp (ι:=Bool) (fun J48=>br (!decide (((q2 - (a_i + (1:Int))).tmod (2:Int))=(0:Int))) (J48 (true)) (cal (zfu a_s q2) fun y50=>J48 ((!decide (y50=(39:UInt8)))))) (fun q47=>jp (ι:=Bool) (fun J52=>br q47 (J52 (true)) (ck ((q2 + (1:Int))) <| cal (zfu a_s (q2 + (1:Int))) fun y55=>J52 ((!decide (y55=(72:UInt8)))))) (fun q51=>br q51 (some ((-1:Int),(Str.mk []))) (ck ((q2 + (2:Int))) <| asr (decide (0 ≤ (a_i + (1:Int))∧(a_i + (1:Int)) ≤ q2∧q2 ≤ (a_s.b.length:Int))) <| some ((q2 + (2:Int)),(Str.mk ((a_s.b.take (q2).toNat).drop ((a_i + (1:Int))).toNat))))))))) (((a_i + (1:Int))))

def zeE (a_s:Str) (a_i:Int):Option (Int × Str) :=
  ck ((a_i + (1:Int))) <| lp (ι:=Int × Str) (fun L3 q2=>br (decide (q2.1 < (a_s.b.length:Int))) (jp (ι:=Int × Str) (fun J18=>cal (getI a_s.b q2.1) fun y19=>br (!decide (y19=(34:UInt8))) (ck ((q2.1 + (1:Int))) <| asr (decide (0 ≤ q2.1∧q2.1 ≤ (q2.1 + (1:Int))∧(q2.1 + (1:Int)) ≤ (a_s.b.length:Int))) <| asr (Nat.ble (q2.2.b.length + (Str.mk ((a_s.b.take ((q2.1 + (1:Int))).toNat).drop (q2.1).toNat)).b.length) 4611686018427387904) <| J18 (q2.1,(Str.mk (q2.2.b ++ (Str.mk ((a_s.b.take ((q2.1 + (1:Int))).toNat).drop (q2.1).toNat)).b)))) (ck ((q2.1 + (1:Int))) <| cal (zfu a_s (q2.1 + (1:Int))) fun y24=>br (!decide (y24=(34:UInt8))) (cal (utf8_ValidString q2.2) fun y25=>br (!y25) (some ((-1:Int),(Str.mk []))) (ck ((q2.1 + (1:Int))) <| some ((q2.1 + (1:Int)),q2.2))) (asr (Nat.ble (q2.2.b.length + (Str.mk [34]).b.length) 4611686018427387904) <| ck ((q2.1 + (1:Int))) <| J18 ((q2.1 + (1:Int)),(Str.mk (q2.2.b ++ (Str.mk [34]).b)))))) (fun q17=>ck ((q17.1 + (1:Int))) <| L3 ((q17.1 + (1:Int)),q17.2))) (some ((-1:Int),(Str.mk [])))) (((a_i + (1:Int)),(Str.mk [])))

def zg6 (a_s:Str) (a_i:Int):Option (Int) :=
  asr (decide (0 ≤ a_i∧a_i ≤ (a_s.b.length:Int)∧(a_s.b.length:Int) ≤ (a_s.b.length:Int))) <| lp (ι:=Int) (fun L4 q3=>br (decide (q3 < (([(Str.mk [58,58,61]),(Str.mk [46,46,46]),(Str.mk [46,46]),(Str.mk [91,91]),(Str.mk [93,93]),(Str.mk [123]),(Str.mk [125]),(Str.mk [91]),(Str.mk [93]),(Str.mk [40]),(Str.mk [41]),(Str.mk [44]),(Str.mk [58])]:(List Str)).length:Int))) (cal (getI ([(Str.mk [58,58,61]),(Str.mk [46,46,46]),(Str.mk [46,46]),(Str.mk [91,91]),(Str.mk [93,93]),(Str.mk [123]),(Str.mk [125]),(Str.mk [91]),(Str.mk [93]),(Str.mk [40]),(Str.mk [41]),(Str.mk [44]),(Str.mk [58])]:(List Str)) q3) fun y12=>jp (ι:=Bool) (fun J14=>br (decide ((y12.b.length:Int) ≤ ((Str.mk ((a_s.b.take ((a_s.b.length:Int)).toNat).drop (a_i).toNat)).b.length:Int))) (asr (decide (0 ≤ (0:Int)∧(0:Int) ≤ (y12.b.length:Int)∧(y12.b.length:Int) ≤ ((Str.mk ((a_s.b.take ((a_s.b.length:Int)).toNat).drop (a_i).toNat)).b.length:Int))) <| cal (getI ([(Str.mk [58,58,61]),(Str.mk [46,46,46]),(Str.mk [46,46]),(Str.mk [91,91]),(Str.mk [93,93]),(Str.mk [123]),(Str.mk [125]),(Str.mk [91]),(Str.mk [93]),(Str.mk [40]),(Str.mk [41]),(Str.mk [44]),(Str.mk [58])]:(List Str)) q3) fun y17=>J14 ((decide ((Str.mk (((Str.mk ((a_s.b.take ((a_s.b.length:Int)).toNat).drop (a_i).toNat)).b.take ((y12.b.length:Int)).toNat).drop (0:Int).toNat))=y17)))) (J14 (false))) (fun q13=>br q13 (some ((y12.b.length:Int))) (ck ((q3 + (1:Int))) <| L4 ((q3 + (1:Int)))))) (some ((0:Int)))) (((0:Int)))

def zh9 (a_s:Str) (a_i:Int):Option (GTok × Int) :=
  cal (getI a_s.b a_i) fun y3=>jp (ι:=Int × GTok) (fun J5=>cal (zeL y3) fun y6=>br y6 (cal (zg2 a_s a_i) fun y7=>br (decide (y7 < (0:Int))) (some ((GTok.mk (0:Int) (Str.mk []) a_i),(-1:Int))) (asr (decide (0 ≤ a_i∧a_i ≤ y7∧y7 ≤ (a_s.b.length:Int))) <| jp (ι:=GTok) (fun J10=>br (decide (y3 ≤ (90:UInt8))) (J10 ((GTok.mk (1:Int) (Str.mk ((a_s.b.take (y7).toNat).drop (a_i).toNat)) a_i))) (J10 ((GTok.mk (2:Int) (Str.mk ((a_s.b.take (y7).toNat).drop (a_i).toNat)) a_i)))) (fun q9=>cal (zgO q9.text) fun y11=>br y11 (J5 (y7,{ q9 with kind:=(5:Int) })) (J5 (y7,q9))))) (cal (zd8 y3) fun y12=>jp (ι:=Bool) (fun J14=>br y12 (J14 (true)) (jp (ι:=Bool) (fun J17=>br (decide (y3=(45:UInt8))) (ck ((a_i + (1:Int))) <| cal (zfu a_s (a_i + (1:Int))) fun y20=>cal (zd8 y20) fun y21=>J17 (y21)) (J17 (false))) (fun q16=>J14 (q16)))) (fun q13=>br q13 (cal (zeQ a_s a_i) fun y22=>br (decide (y22 < (0:Int))) (some ((GTok.mk (0:Int) (Str.mk []) a_i),(-1:Int))) (asr (decide (0 ≤ a_i∧a_i ≤ y22∧y22 ≤ (a_s.b.length:Int))) <| J5 (y22,(GTok.mk (3:Int) (Str.mk ((a_s.b.take (y22).toNat).drop (a_i).toNat)) a_i)))) (br (decide (y3=(39:UInt8))) (cal (zh8 a_s a_i) fun y24=>J5 (y24.1,(GTok.mk (4:Int) y24.2 a_i))) (br (decide (y3=(34:UInt8))) (cal (zeE a_s a_i) fun y25=>J5 (y25.1,(GTok.mk (7:Int) y25.2 a_i))) (cal (zg6 a_s a_i) fun y26=>br (decide ((0:Int) < y26)) (ck ((a_i + y26)) <| asr (decide (0 ≤ a_i∧a_i ≤ (a_i + y26)∧(a_i + y26) ≤ (a_s.b.length:Int))) <| ck ((a_i + y26)) <| J5 ((a_i + y26),(GTok.mk (6:Int) (Str.mk ((a_s.b.take ((a_i + y26)).toNat).drop (a_i).toNat)) a_i))) (J5 ((-1:Int),(GTok.mk (0:Int) (Str.mk []) a_i))))))))) (fun q4=>some (q4.2,q4.1))

def zd2 (zbM:Str):Option ((List GTok) × Int × Int) :=
  br (decide ((8000:Int) < (zbM.b.length:Int))) (some (([]:(List GTok)),(0:Int),(5:Int))) (lp (ι:=(List GTok) × Int) (fun L2 q1=>cal (zfF zbM q1.2) fun y12=>br (decide ((zbM.b.length:Int) ≤ y12)) (asr (Nat.ble (q1.1.length + ([(GTok.mk (0:Int) (Str.mk []) (zbM.b.length:Int))]:(List GTok)).length) 68719476736) <| some ((q1.1 ++ ([(GTok.mk (0:Int) (Str.mk []) (zbM.b.length:Int))]:(List GTok))),(0:Int),(0:Int))) (cal (zh9 zbM y12) fun y16=>br (decide (y16.2 < (0:Int))) (some (([]:(List GTok)),y12,(6:Int))) (asr (Nat.ble (q1.1.length + ([y16.1]:(List GTok)).length) 68719476736) <| L2 ((q1.1 ++ ([y16.1]:(List GTok))),y16.2)))) ((([]:(List GTok)),(0:Int))))

def zax (a_x:GPar):Option (GTok × GPar) :=
  cal (getI a_x.l a_x.at_) fun y7=>some (y7,a_x)

def zaI (a_x:GPar) (a_e:Int) (a_t:GTok):Option (GPar) :=
  br (decide (a_x.e=(0:Int))) (some ((GPar.mk a_x.l a_x.at_ a_x.m a_e a_t.at_))) (some (a_x))

def zba (a_x:GPar):Option (GTok × GPar) :=
  cal (getI a_x.l a_x.at_) fun y7=>ck ((a_x.at_ + (1:Int))) <| jp (ι:=GPar) (fun J13=>br (decide ((a_x.at_ + (1:Int)) < (a_x.l.length:Int))) (ck ((a_x.at_ + (1:Int))) <| J13 ((GPar.mk a_x.l (a_x.at_ + (1:Int)) a_x.m a_x.e a_x.p))) (J13 (a_x))) (fun q12=>some (y7,q12))

def za9 (a_x:GPar) (a_k:Int):Option (Str × GPar) :=
  cal (zax a_x) fun y4=>jp (ι:=Bool) (fun J9=>br (!decide (y4.2.e=(0:Int))) (J9 (true)) (J9 ((!decide (y4.1.kind=a_k))))) (fun q8=>br q8 (cal (zaI y4.2 (7:Int) y4.1) fun y11=>some ((Str.mk []),y11)) (cal (zba y4.2) fun y14=>some (y14.1.text,y14.2)))

def zO (a_x:GPar) (a_s:Str):Option (Bool × GPar) :=
  cal (zax a_x) fun y4=>jp (ι:=Bool) (fun J9=>br (decide (y4.2.e=(0:Int))) (jp (ι:=Bool) (fun J12=>br (decide (y4.1.kind=(5:Int))) (J12 (true)) (J12 ((decide (y4.1.kind=(6:Int)))))) (fun q11=>J9 (q11))) (J9 (false))) (fun q8=>jp (ι:=Bool) (fun J15=>br q8 (J15 ((decide (y4.1.text=a_s)))) (J15 (false))) (fun q14=>br q14 (cal (zba y4.2) fun y17=>some (true,y17.2)) (some (false,y4.2))))

def zU (a_x:GPar) (a_s:Str):Option (GPar) :=
  jp (ι:=Bool × GPar) (fun J5=>br (decide (a_x.e=(0:Int))) (cal (zO a_x a_s) fun y7=>J5 ((!y7.1),y7.2)) (J5 (false,a_x))) (fun q4=>br q4.1 (cal (zax q4.2) fun y10=>cal (zaI y10.2 (7:Int) y10.1) fun y13=>some (y13)) (some (q4.2)))

def zgY (a_t:GTok):Option (Bool) :=
  lp (ι:=Int) (fun L3 q2=>br (decide (q2 < (([(Str.mk [91]),(Str.mk [66,79,79,76,69,65,78]),(Str.mk [78,85,76,76]),(Str.mk [85,84,70,56,83,116,114,105,110,103]),(Str.mk [73,78,84,69,71,69,82]),(Str.mk [79,67,84,69,84]),(Str.mk [69,78,85,77,69,82,65,84,69,68]),(Str.mk [83,69,84]),(Str.mk [67,72,79,73,67,69]),(Str.mk [83,69,81,85,69,78,67,69])]:(List Str)).length:Int))) (cal (getI ([(Str.mk [91]),(Str.mk [66,79,79,76,69,65,78]),(Str.mk [78,85,76,76]),(Str.mk [85,84,70,56,83,116,114,105,110,103]),(Str.mk [73,78,84,69,71,69,82]),(Str.mk [79,67,84,69,84]),(Str.mk [69,78,85,77,69,82,65,84,69,68]),(Str.mk [83,69,84]),(Str.mk [67,72,79,73,67,69]),(Str.mk [83,69,81,85,69,78,67,69])]:(List Str)) q2) fun y12=>jp (ι:=Bool) (fun J14=>br (decide (y12=a_t.text)) (jp (ι:=Bool) (fun J17=>br (decide (a_t.kind=(5:Int))) (J17 (true)) (J17 ((decide (a_t.kind=(6:Int)))))) (fun q16=>J14 (q16))) (J14 (false))) (fun q13=>br q13 (some (true)) (ck ((q2 + (1:Int))) <| L3 ((q2 + (1:Int)))))) (some ((decide (a_t.kind=(1:Int)))))) (((0:Int)))

def zgu (a_s:Str):Option (Int) :=
  cal (getI a_s.b (0:Int)) fun y1=>jp (ι:=Str) (fun J3=>br (decide (y1=(45:UInt8))) (asr (decide (0 ≤ (1:Int)∧(1:Int) ≤ (a_s.b.length:Int)∧(a_s.b.length:Int) ≤ (a_s.b.length:Int))) <| J3 ((Str.mk ((a_s.b.take ((a_s.b.length:Int)).toNat).drop ((1:Int)).toNat)))) (J3 (a_s))) (fun q2=>lp (ι:=UInt64 × Int) (fun L6 q5=>br (decide (q5.2 < (q2.b.length:Int))) (cal (getI q2.b q5.2) fun y13=>ck ((q5.2 + (1:Int))) <| L6 ((((10:UInt64) * q5.1) + (y13 - (48:UInt8)).toUInt64),(q5.2 + (1:Int)))) (br (decide (y1=(45:UInt8))) (ck (((q5.1 - (1:UInt64)).toNat:Int)) <| ck ((-((q5.1 - (1:UInt64)).toNat:Int))) <| ck (((-((q5.1 - (1:UInt64)).toNat:Int)) - (1:Int))) <| some (((-((q5.1 - (1:UInt64)).toNat:Int)) - (1:Int)))) (ck ((q5.1.toNat:Int)) <| some ((q5.1.toNat:Int))))) (((0:UInt64),(0:Int))))

def zby (a_x:GPar):Option (Int × GPar) :=
  cal (za9 a_x (3:Int)) fun y4=>br (decide (y4.1=(Str.mk []))) (some ((0:Int),y4.2)) (cal (zgu y4.1) fun y7=>some (y7,y4.2))

def zck (a_x:GPar):Option (GCon × GPar) :=
  cal (zO a_x (Str.mk [77,73,78])) fun y6=>jp (ι:=GPar × GCon) (fun J10=>br (!y6.1) (cal (zby y6.2) fun y11=>J10 (y11.2,(GCon.mk true true false false y11.1 (0:Int)))) (J10 (y6.2,(GCon.mk true false false false (0:Int) (0:Int))))) (fun q9=>jp (ι:=GPar × GCon) (fun J15=>cal (zO q9.1 (Str.mk [46,46])) fun y16=>br y16.1 (cal (zO y16.2 (Str.mk [77,65,88])) fun y19=>br (!y19.1) (cal (zby y19.2) fun y22=>J15 (y22.2,{ { q9.2 with hasHigh:=true } with high:=y22.1 })) (J15 (y19.2,q9.2))) (br q9.2.hasLow (J15 (y16.2,{ { q9.2 with hasHigh:=true } with high:=q9.2.low })) (J15 (y16.2,q9.2)))) (fun q14=>cal (zO q14.1 (Str.mk [44])) fun y25=>jp (ι:=GPar × GCon) (fun J29=>br y25.1 (cal (zU y25.2 (Str.mk [46,46,46])) fun y30=>J29 (y30,{ q14.2 with more:=true })) (J29 (y25.2,q14.2))) (fun q28=>some (q28.2,q28.1))))

def zcn (a_x:GPar):Option (GCon × GPar) :=
  cal (zO a_x (Str.mk [40])) fun y5=>br (!y5.1) (some ((GCon.mk false false false false (0:Int) (0:Int)),y5.2)) (cal (zU y5.2 (Str.mk [83,73,90,69])) fun y8=>cal (zU y8 (Str.mk [40])) fun y11=>cal (zck y11) fun y14=>cal (zU y14.2 (Str.mk [41])) fun y18=>cal (zU y18 (Str.mk [41])) fun y21=>some (y14.1,y21))

def zde (a_x:GPar) (a_n_:GNode):Option (GPar × GNode) :=
  jp (ι:=GPar × GNode) (fun J7=>lp (ι:=GPar × GNode) (fun L9 q8=>br (decide (q8.1.e=(0:Int))) (jp (ι:=Bool) (fun J47=>br (decide ((0:Int) < (q8.2.items.length:Int))) (J47 ((!q8.2.more))) (J47 (false))) (fun q46=>jp (ι:=Bool × GPar) (fun J50=>br q46 (cal (zO q8.1 (Str.mk [46,46,46])) fun y52=>J50 (y52.1,y52.2)) (J50 (false,q8.1))) (fun q49=>jp (ι:=GPar × GNode) (fun J56=>br q49.1 (J56 (q49.2,(GNode.mk q8.2.kind q8.2.name q8.2.mark q8.2.con q8.2.items q8.2.fields (q8.2.items.length:Int) true q8.2.of))) (cal (za9 q49.2 (2:Int)) fun y57=>cal (zO y57.2 (Str.mk [40])) fun y61=>jp (ι:=GPar × GItem) (fun J65=>br y61.1 (cal (zby y61.2) fun y66=>cal (zU y66.2 (Str.mk [41])) fun y69=>J65 (y69,(GItem.mk y57.1 y66.1 true))) (J65 (y61.2,(GItem.mk y57.1 (0:Int) false)))) (fun q64=>asr (Nat.ble (q8.2.items.length + ([q64.2]:(List GItem)).length) 68719476736) <| J56 (q64.1,(GNode.mk q8.2.kind q8.2.name q8.2.mark q8.2.con (q8.2.items ++ ([q64.2]:(List GItem))) q8.2.fields q8.2.root q8.2.more q8.2.of))))) (fun q55=>cal (zO q55.1 (Str.mk [44])) fun y79=>br (!y79.1) (J7 (y79.2,q55.2)) (L9 (y79.2,q55.2)))))) (J7 (q8.1,q8.2))) ((a_x,a_n_))) (fun q6=>br (!q6.2.more) (some (q6.1,(GNode.mk q6.2.kind q6.2.name q6.2.mark q6.2.con q6.2.items q6.2.fields (q6.2.items.length:Int) q6.2.more q6.2.of))) (some (q6.1,q6.2)))

def zlf (a_s:Str):Option ((List UInt8)) :=
  lp (ι:=(List UInt8) × Int) (fun L2 q1=>ck ((q1.2 + (1:Int))) <| br (decide ((q1.2 + (1:Int)) < (a_s.b.length:Int))) (lp (ι:=UInt8 × Int) (fun L33 q32=>ck ((q1.2 + (2:Int))) <| br (decide (q32.2 < (q1.2 + (2:Int)))) (cal (getI a_s.b q32.2) fun y47=>cal (getI a_s.b q32.2) fun y48=>jp (ι:=UInt8) (fun J50=>br (decide ((65:UInt8) ≤ y48)) (cal (getI a_s.b q32.2) fun y51=>J50 (((y51 - (65:UInt8)) + (10:UInt8)))) (J50 ((y47 - (48:UInt8))))) (fun q49=>asr (Nat.ble (4:UInt64).toNat 8) <| ck ((q32.2 + (1:Int))) <| L33 (((shl8 q32.1 (4:UInt64).toNat) ||| q49),(q32.2 + (1:Int))))) (asr (Nat.ble (q1.1.length + ([q32.1]:(List UInt8)).length) 68719476736) <| ck ((q1.2 + (2:Int))) <| L2 ((q1.1 ++ ([q32.1]:(List UInt8))),(q1.2 + (2:Int))))) (((0:UInt8),q1.2))) (some (q1.1))) ((([]:(List UInt8)),(0:Int)))

def zc9 (a_x:GPar):Option (Val × GPar) :=
  cal (zax a_x) fun y5=>jp (ι:=GPar) (fun J10=>br (!decide (y5.2.e=(0:Int))) (J10 (y5.2)) (cal (zO y5.2 (Str.mk [84,82,85,69])) fun y11=>br y11.1 (some ((Val.mk (1:Int) (1:Int) ([]:(List UInt8)) ([]:(List Val)) (0:Int) ([]:(List Raw))),y11.2)) (cal (zO y11.2 (Str.mk [70,65,76,83,69])) fun y14=>br y14.1 (some ((Val.mk (1:Int) (0:Int) ([]:(List UInt8)) ([]:(List Val)) (0:Int) ([]:(List Raw))),y14.2)) (cal (zO y14.2 (Str.mk [78,85,76,76])) fun y17=>br y17.1 (some ((Val.mk (4:Int) (0:Int) ([]:(List UInt8)) ([]:(List Val)) (0:Int) ([]:(List Raw))),y17.2)) (br (decide (y5.1.kind=(3:Int))) (cal (zba y17.2) fun y20=>cal (zgu y20.1.text) fun y23=>some ((Val.mk (2:Int) y23 ([]:(List UInt8)) ([]:(List Val)) (0:Int) ([]:(List Raw))),y20.2)) (br (decide (y5.1.kind=(2:Int))) (cal (zba y17.2) fun y24=>asr (Nat.ble y24.1.text.b.length 68719476736) <| some ((Val.mk (3:Int) (0:Int) y24.1.text.b ([]:(List Val)) (0:Int) ([]:(List Raw))),y24.2)) (br (decide (y5.1.kind=(4:Int))) (cal (zba y17.2) fun y28=>cal (zlf y28.1.text) fun y31=>some ((Val.mk (5:Int) (0:Int) y31 ([]:(List Val)) (0:Int) ([]:(List Raw))),y28.2)) (br (decide (y5.1.kind=(7:Int))) (cal (zba y17.2) fun y32=>asr (Nat.ble y32.1.text.b.length 68719476736) <| some ((Val.mk (6:Int) (0:Int) y32.1.text.b ([]:(List Val)) (0:Int) ([]:(List Raw))),y32.2)) (cal (zaI y17.2 (7:Int) y5.1) fun y36=>J10 (y36)))))))))) (fun q9=>some ((Val.mk (0:Int) (0:Int) ([]:(List UInt8)) ([]:(List Val)) (0:Int) ([]:(List Raw))),q9))

def zcB (zar:GPar→GNode→Int→Int→Option (GPar × GNode)) (zaB:GPar→Int→Option (Int × GPar)) (zay:GPar→GNode→Int→Option (GPar × GNode)) (zak:GPar→GNode→Int→Option (GPar × GNode)) (a_x:GPar) (a_n_:GNode) (zL:Int) (zdI:Int):Option (GPar × GNode) :=
  cal (za9 a_x (2:Int)) fun y6=>ck ((zL + (1:Int))) <| cal (zaB y6.2 (zL + (1:Int))) fun y11=>jp (ι:=GFld × GPar) (fun J16=>br (decide (a_n_.kind=(9:Int))) (J16 ((GFld.mk y6.1 y11.1 false false (Val.mk (0:Int) (0:Int) ([]:(List UInt8)) ([]:(List Val)) (0:Int) ([]:(List Raw))) zdI),y11.2)) (cal (zO y11.2 (Str.mk [79,80,84,73,79,78,65,76])) fun y17=>br y17.1 (J16 ((GFld.mk y6.1 y11.1 true false (Val.mk (0:Int) (0:Int) ([]:(List UInt8)) ([]:(List Val)) (0:Int) ([]:(List Raw))) zdI),y17.2)) (cal (zO y17.2 (Str.mk [68,69,70,65,85,76,84])) fun y20=>br y20.1 (cal (zc9 y20.2) fun y23=>J16 ((GFld.mk y6.1 y11.1 false true y23.1 zdI),y23.2)) (J16 ((GFld.mk y6.1 y11.1 false false (Val.mk (0:Int) (0:Int) ([]:(List UInt8)) ([]:(List Val)) (0:Int) ([]:(List Raw))) zdI),y20.2))))) (fun q15=>asr (Nat.ble (a_n_.fields.length + ([q15.1]:(List GFld)).length) 68719476736) <| some (q15.2,(GNode.mk a_n_.kind a_n_.name a_n_.mark a_n_.con a_n_.items (a_n_.fields ++ ([q15.1]:(List GFld))) a_n_.root a_n_.more a_n_.of)))
def zdg (zar:GPar→GNode→Int→Int→Option (GPar × GNode)) (zaB:GPar→Int→Option (Int × GPar)) (zay:GPar→GNode→Int→Option (GPar × GNode)) (zak:GPar→GNode→Int→Option (GPar × GNode)) (a_x:GPar) (zL:Int):Option (Int × GPar) :=
  br (!decide (a_x.e=(0:Int))) (some ((0:Int),a_x)) (cal (zax a_x) fun y4=>cal (zgY y4.1) fun y7=>br (!y7) (cal (zax y4.2) fun y8=>cal (zaI y8.2 (7:Int) y8.1) fun y11=>some ((0:Int),y11)) (jp (ι:=Bool) (fun J15=>br (decide ((16:Int) < zL)) (J15 (true)) (J15 ((decide ((300:Int) ≤ ((y4.2.m.nodes.length:Nat):Int)))))) (fun q14=>br q14 (cal (zax y4.2) fun y17=>cal (zaI y17.2 (5:Int) y17.1) fun y20=>some ((0:Int),y20)) (asr (Nat.ble (y4.2.m.nodes.length + ([(GNode.mk (0:Int) (Str.mk []) (GMark.mk false (0:Int) (0:Int)) (GCon.mk false false false false (0:Int) (0:Int)) ([]:(List GItem)) ([]:(List GFld)) (0:Int) false (0:Int))]:(List GNode)).length) 68719476736) <| cal (zO (GPar.mk y4.2.l y4.2.at_ (GMod.mk y4.2.m.name y4.2.m.tagging y4.2.m.names y4.2.m.types (y4.2.m.nodes ++ ([(GNode.mk (0:Int) (Str.mk []) (GMark.mk false (0:Int) (0:Int)) (GCon.mk false false false false (0:Int) (0:Int)) ([]:(List GItem)) ([]:(List GFld)) (0:Int) false (0:Int))]:(List GNode)))) y4.2.e y4.2.p) (Str.mk [91])) fun y31=>jp (ι:=GPar × GNode) (fun J35=>br y31.1 (cal (zax y31.2) fun y36=>cal (zby y36.2) fun y40=>jp (ι:=Bool) (fun J44=>br (decide (y40.2.e=(0:Int))) (jp (ι:=Bool) (fun J47=>br (decide (y40.1 < (0:Int))) (J47 (true)) (J47 ((decide ((268435456:Int) < y40.1))))) (fun q46=>J44 (q46))) (J44 (false))) (fun q43=>jp (ι:=GPar) (fun J50=>br q43 (cal (zaI y40.2 (12:Int) y36.1) fun y51=>J50 (y51)) (J50 (y40.2))) (fun q49=>cal (zU q49 (Str.mk [93])) fun y54=>cal (zO y54 (Str.mk [69,88,80,76,73,67,73,84])) fun y57=>br y57.1 (J35 (y57.2,(GNode.mk (0:Int) (Str.mk []) (GMark.mk true y40.1 (1:Int)) (GCon.mk false false false false (0:Int) (0:Int)) ([]:(List GItem)) ([]:(List GFld)) (0:Int) false (0:Int)))) (cal (zO y57.2 (Str.mk [73,77,80,76,73,67,73,84])) fun y60=>br y60.1 (J35 (y60.2,(GNode.mk (0:Int) (Str.mk []) (GMark.mk true y40.1 (2:Int)) (GCon.mk false false false false (0:Int) (0:Int)) ([]:(List GItem)) ([]:(List GFld)) (0:Int) false (0:Int)))) (J35 (y60.2,(GNode.mk (0:Int) (Str.mk []) (GMark.mk true y40.1 (0:Int)) (GCon.mk false false false false (0:Int) (0:Int)) ([]:(List GItem)) ([]:(List GFld)) (0:Int) false (0:Int)))))))) (J35 (y31.2,(GNode.mk (0:Int) (Str.mk []) (GMark.mk false (0:Int) (0:Int)) (GCon.mk false false false false (0:Int) (0:Int)) ([]:(List GItem)) ([]:(List GFld)) (0:Int) false (0:Int))))) (fun q34=>cal (zay q34.1 q34.2 zL) fun y63=>br (!decide (y63.1.e=(0:Int))) (some ((0:Int),y63.1)) (asr (decide (0 ≤ ((y4.2.m.nodes.length:Nat):Int)∧((y4.2.m.nodes.length:Nat):Int) < ((y63.1.m.nodes.length:Nat):Int))) <| cal (y63.1.m.nodes[((y4.2.m.nodes.length:Nat):Int).toNat]?) fun y74=>some (((y4.2.m.nodes.length:Nat):Int),(GPar.mk y63.1.l y63.1.at_ (GMod.mk y63.1.m.name y63.1.m.tagging y63.1.m.names y63.1.m.types (y63.1.m.nodes.set (((y4.2.m.nodes.length:Nat):Int).toNat) y63.2)) y63.1.e y63.1.p))))))))
def zcR (zar:GPar→GNode→Int→Int→Option (GPar × GNode)) (zaB:GPar→Int→Option (Int × GPar)) (zay:GPar→GNode→Int→Option (GPar × GNode)) (zak:GPar→GNode→Int→Option (GPar × GNode)) (a_x:GPar) (a_n_:GNode) (zL:Int):Option (GPar × GNode) :=
  cal (zax a_x) fun y6=>br (!decide (y6.2.e=(0:Int))) (some (y6.2,a_n_)) (cal (zO y6.2 (Str.mk [66,79,79,76,69,65,78])) fun y10=>br y10.1 (some (y10.2,(GNode.mk (1:Int) a_n_.name a_n_.mark a_n_.con a_n_.items a_n_.fields a_n_.root a_n_.more a_n_.of))) (cal (zO y10.2 (Str.mk [78,85,76,76])) fun y13=>br y13.1 (some (y13.2,(GNode.mk (4:Int) a_n_.name a_n_.mark a_n_.con a_n_.items a_n_.fields a_n_.root a_n_.more a_n_.of))) (cal (zO y13.2 (Str.mk [85,84,70,56,83,116,114,105,110,103])) fun y16=>br y16.1 (cal (zcn y16.2) fun y19=>some (y19.2,(GNode.mk (6:Int) a_n_.name a_n_.mark y19.1 a_n_.items a_n_.fields a_n_.root a_n_.more a_n_.of))) (cal (zO y16.2 (Str.mk [73,78,84,69,71,69,82])) fun y22=>br y22.1 (cal (zO y22.2 (Str.mk [40])) fun y25=>br y25.1 (cal (zck y25.2) fun y28=>cal (zU y28.2 (Str.mk [41])) fun y31=>some (y31,(GNode.mk (2:Int) a_n_.name a_n_.mark y28.1 a_n_.items a_n_.fields a_n_.root a_n_.more a_n_.of))) (some (y25.2,(GNode.mk (2:Int) a_n_.name a_n_.mark a_n_.con a_n_.items a_n_.fields a_n_.root a_n_.more a_n_.of)))) (cal (zO y22.2 (Str.mk [79,67,84,69,84])) fun y34=>br y34.1 (cal (zU y34.2 (Str.mk [83,84,82,73,78,71])) fun y37=>cal (zcn y37) fun y40=>some (y40.2,(GNode.mk (5:Int) a_n_.name a_n_.mark y40.1 a_n_.items a_n_.fields a_n_.root a_n_.more a_n_.of))) (cal (zO y34.2 (Str.mk [69,78,85,77,69,82,65,84,69,68])) fun y43=>br y43.1 (cal (zU y43.2 (Str.mk [123])) fun y46=>cal (zde y46 (GNode.mk (3:Int) a_n_.name a_n_.mark a_n_.con a_n_.items a_n_.fields a_n_.root a_n_.more a_n_.of)) fun y49=>cal (zU y49.1 (Str.mk [125])) fun y54=>some (y54,y49.2)) (cal (zO y43.2 (Str.mk [83,69,84])) fun y57=>br y57.1 (cal (zU y57.2 (Str.mk [123])) fun y60=>cal (zak y60 (GNode.mk (8:Int) a_n_.name a_n_.mark a_n_.con a_n_.items a_n_.fields a_n_.root a_n_.more a_n_.of) zL) fun y63=>some (y63.1,y63.2)) (cal (zO y57.2 (Str.mk [67,72,79,73,67,69])) fun y69=>br y69.1 (cal (zU y69.2 (Str.mk [123])) fun y72=>cal (zak y72 (GNode.mk (9:Int) a_n_.name a_n_.mark a_n_.con a_n_.items a_n_.fields a_n_.root a_n_.more a_n_.of) zL) fun y75=>some (y75.1,y75.2)) (cal (zO y69.2 (Str.mk [83,69,81,85,69,78,67,69])) fun y81=>br y81.1 (cal (zO y81.2 (Str.mk [123])) fun y84=>br y84.1 (cal (zak y84.2 (GNode.mk (7:Int) a_n_.name a_n_.mark a_n_.con a_n_.items a_n_.fields a_n_.root a_n_.more a_n_.of) zL) fun y87=>some (y87.1,y87.2)) (cal (zcn y84.2) fun y93=>cal (zU y93.2 (Str.mk [79,70])) fun y96=>ck ((zL + (1:Int))) <| cal (zaB y96 (zL + (1:Int))) fun y100=>some (y100.2,(GNode.mk (10:Int) a_n_.name a_n_.mark y93.1 a_n_.items a_n_.fields a_n_.root a_n_.more y100.1)))) (br (decide (y6.1.kind=(1:Int))) (cal (zba y81.2) fun y104=>some (y104.2,(GNode.mk (11:Int) y6.1.text a_n_.mark a_n_.con a_n_.items a_n_.fields a_n_.root a_n_.more a_n_.of))) (cal (zaI y81.2 (7:Int) y6.1) fun y107=>some (y107,a_n_))))))))))))
def zcp (zar:GPar→GNode→Int→Int→Option (GPar × GNode)) (zaB:GPar→Int→Option (Int × GPar)) (zay:GPar→GNode→Int→Option (GPar × GNode)) (zak:GPar→GNode→Int→Option (GPar × GNode)) (a_x:GPar) (a_n_:GNode) (zL:Int):Option (GPar × GNode) :=
  cal (zO a_x (Str.mk [125])) fun y6=>br y6.1 (some (y6.2,a_n_)) (jp (ι:=GPar × GNode) (fun J10=>lp (ι:=Int × GPar × GNode) (fun L12 q11=>br (decide (q11.2.1.e=(0:Int))) (jp (ι:=Int × GPar × GNode) (fun J64=>jp (ι:=Bool × GPar) (fun J66=>br (!q11.2.2.more) (cal (zO q11.2.1 (Str.mk [46,46,46])) fun y68=>J66 (y68.1,y68.2)) (J66 (false,q11.2.1))) (fun q65=>br q65.1 (J64 (q11.1,q65.2,(GNode.mk q11.2.2.kind q11.2.2.name q11.2.2.mark q11.2.2.con q11.2.2.items q11.2.2.fields (q11.2.2.fields.length:Int) true q11.2.2.of))) (jp (ι:=Bool × GPar) (fun J72=>br q11.2.2.more (cal (zO q65.2 (Str.mk [91,91])) fun y74=>J72 (y74.1,y74.2)) (J72 (false,q65.2))) (fun q71=>br q71.1 (ck ((q11.1 + (1:Int))) <| jp (ι:=GPar × GNode) (fun J79=>lp (ι:=GPar × GNode) (fun L81 q80=>br (decide (q80.1.e=(0:Int))) (cal (zar q80.1 q80.2 zL (q11.1 + (1:Int))) fun y91=>cal (zO y91.1 (Str.mk [44])) fun y97=>br (!y97.1) (J79 (y97.2,y91.2)) (L81 (y97.2,y91.2))) (J79 (q80.1,q80.2))) ((q71.2,q11.2.2))) (fun q78=>cal (zU q78.1 (Str.mk [93,93])) fun y101=>J64 ((q11.1 + (1:Int)),y101,q78.2))) (cal (zar q71.2 q11.2.2 zL (0:Int)) fun y104=>J64 (q11.1,y104.1,y104.2)))))) (fun q63=>cal (zO q63.2.1 (Str.mk [44])) fun y110=>br (!y110.1) (J10 (y110.2,q63.2.2)) (L12 (q63.1,y110.2,q63.2.2)))) (J10 (q11.2.1,q11.2.2))) (((0:Int),y6.2,a_n_))) (fun q9=>cal (zU q9.1 (Str.mk [125])) fun y114=>br (!q9.2.more) (some (y114,(GNode.mk q9.2.kind q9.2.name q9.2.mark q9.2.con q9.2.items q9.2.fields (q9.2.fields.length:Int) q9.2.more q9.2.of))) (some (y114,q9.2))))
def zcb:Nat→(GPar→GNode→Int→Int→Option (GPar × GNode)) × (GPar→Int→Option (Int × GPar)) × (GPar→GNode→Int→Option (GPar × GNode)) × (GPar→GNode→Int→Option (GPar × GNode))
  | 0=>(fun _ _ _ _=>none,fun _ _=>none,fun _ _ _=>none,fun _ _ _=>none)
  | n + 1=>let p:=zcb n;(zcB p.1 p.2.1 p.2.2.1 p.2.2.2,zdg p.1 p.2.1 p.2.2.1 p.2.2.2,zcR p.1 p.2.1 p.2.2.1 p.2.2.2,zcp p.1 p.2.1 p.2.2.1 p.2.2.2)
def zcu (n:Nat):GPar→GNode→Int→Int→Option (GPar × GNode):=(zcb n).1
def zbC (n:Nat):GPar→Int→Option (Int × GPar):=(zcb n).2.1
def zcK (n:Nat):GPar→GNode→Int→Option (GPar × GNode):=(zcb n).2.2.1
def zcm (n:Nat):GPar→GNode→Int→Option (GPar × GNode):=(zcb n).2.2.2

def zfH (zbM:Str):Option (GMod × Int × Int) :=
  cal (zd2 zbM) fun y2=>br (!decide (y2.2.2=(0:Int))) (some ((GMod.mk (Str.mk []) (0:Int) ([]:(List Str)) ([]:(List Int)) ([]:(List GNode))),y2.2.1,y2.2.2)) (cal (za9 (GPar.mk y2.1 (0:Int) (GMod.mk (Str.mk []) (0:Int) ([]:(List Str)) ([]:(List Int)) ([]:(List GNode))) (0:Int) (0:Int)) (1:Int)) fun y7=>cal (zU (GPar.mk y7.2.l y7.2.at_ (GMod.mk y7.1 y7.2.m.tagging y7.2.m.names y7.2.m.types y7.2.m.nodes) y7.2.e y7.2.p) (Str.mk [68,69,70,73,78,73,84,73,79,78,83])) fun y10=>jp (ι:=GPar) (fun J14=>cal (zO y10 (Str.mk [69,88,80,76,73,67,73,84])) fun y15=>br y15.1 (cal (zU y15.2 (Str.mk [84,65,71,83])) fun y18=>J14 (y18)) (cal (zO y15.2 (Str.mk [73,77,80,76,73,67,73,84])) fun y21=>br y21.1 (cal (zU (GPar.mk y21.2.l y21.2.at_ (GMod.mk y21.2.m.name (1:Int) y21.2.m.names y21.2.m.types y21.2.m.nodes) y21.2.e y21.2.p) (Str.mk [84,65,71,83])) fun y24=>J14 (y24)) (cal (zO y21.2 (Str.mk [65,85,84,79,77,65,84,73,67])) fun y27=>br y27.1 (cal (zU (GPar.mk y27.2.l y27.2.at_ (GMod.mk y27.2.m.name (2:Int) y27.2.m.names y27.2.m.types y27.2.m.nodes) y27.2.e y27.2.p) (Str.mk [84,65,71,83])) fun y30=>J14 (y30)) (J14 (y27.2))))) (fun q13=>cal (zU q13 (Str.mk [58,58,61])) fun y33=>cal (zU y33 (Str.mk [66,69,71,73,78])) fun y36=>lp (ι:=GPar) (fun L40 q39=>jp (ι:=Bool × GPar) (fun J92=>br (decide (q39.e=(0:Int))) (cal (zO q39 (Str.mk [69,78,68])) fun y94=>J92 ((!y94.1),y94.2)) (J92 (false,q39))) (fun q91=>br q91.1 (cal (zax q91.2) fun y97=>cal (za9 y97.2 (1:Int)) fun y101=>jp (ι:=Bool) (fun J105=>br (decide (y101.2.e=(0:Int))) (J105 ((decide ((40:Int) ≤ (y101.2.m.names.length:Int))))) (J105 (false))) (fun q104=>jp (ι:=GPar) (fun J108=>br q104 (cal (zaI y101.2 (5:Int) y97.1) fun y109=>J108 (y109)) (J108 (y101.2))) (fun q107=>cal (zU q107 (Str.mk [58,58,61])) fun y112=>cal (zbC fuel y112 (0:Int)) fun y115=>asr (Nat.ble (y115.2.m.names.length + ([y101.1]:(List Str)).length) 68719476736) <| asr (Nat.ble (y115.2.m.types.length + ([y115.1]:(List Int)).length) 68719476736) <| L40 ((GPar.mk y115.2.l y115.2.at_ (GMod.mk y115.2.m.name y115.2.m.tagging (y115.2.m.names ++ ([y101.1]:(List Str))) (y115.2.m.types ++ ([y115.1]:(List Int))) y115.2.m.nodes) y115.2.e y115.2.p))))) (jp (ι:=Bool × GPar) (fun J126=>br (decide (q91.2.e=(0:Int))) (cal (zax q91.2) fun y128=>J126 ((!decide (y128.1.kind=(0:Int))),y128.2)) (J126 (false,q91.2))) (fun q125=>jp (ι:=GPar) (fun J132=>br q125.1 (cal (zax q125.2) fun y133=>cal (zaI y133.2 (7:Int) y133.1) fun y136=>J132 (y136)) (J132 (q125.2))) (fun q131=>br (!decide (q131.e=(0:Int))) (some ((GMod.mk (Str.mk []) (0:Int) ([]:(List Str)) ([]:(List Int)) ([]:(List GNode))),q131.p,q131.e)) (some (q131.m,(0:Int),(0:Int)))))))) ((y36))))
end Go.Proofs.Q


namespace Go.Sy
section tot
variable {α β ι:Type}
def T (R:β→Prop) (o:Option β):Prop:=∃ r,o=some r∧R r
theorem T.some {R:β→Prop} {r:β} (h:R r):T R (some r):=⟨r,rfl,h⟩
theorem T.mono {R R':β→Prop} {o:Option β} (h:T R o) (k:∀ r,R r→R' r):T R' o:=by
  obtain ⟨r,h1,h2⟩:=h;exact ⟨r,h1,k r h2⟩
theorem T.cal {Q:α→Prop} {R:β→Prop} {m:Option α} {k:α→Option β} (h:T Q m) (hk:∀ y,m=Option.some y→Q y→T R (k y)):T R (cal m k):=by
  obtain ⟨y,h1,h2⟩:=h
  subst h1
  exact hk y rfl h2
theorem T.eq {R:β→Prop} {m:Option α} {k:α→Option β} {y:α} (h:m=Option.some y) (hk:T R (k y)):T R (Sy.cal m k):=by subst h;exact hk
theorem ztu {x:Int} (h:inI64 x):bI64 x=true:=by
  unfold inI64 at h
  cases x with
  | ofNat n =>
    simp only [Int.ofNat_eq_natCast] at h
    exact Nat.ble_eq_true_of_le (by omega)
  | negSucc n=>exact Nat.ble_eq_true_of_le (by omega)
theorem T.ck {R:β→Prop} {x:Int} {k:Option β} (hx:-9223372036854775808 ≤ x∧x ≤ 9223372036854775807) (h:T R k):T R (ck x k):=by
  unfold Sy.ck;rw [ztu hx];exact h
theorem T.asr {R:β→Prop} {b:Bool} {k:Option β} (hb:b=true) (h:T R k):T R (asr b k):=by subst hb;exact h
theorem T.asd {R:β→Prop} {p:Prop} [Decidable p] {k:Option β} (hb:p) (h:T R k):T R (Sy.asr (decide p) k):=T.asr (zDT hb) h
theorem T.abl {R:β→Prop} {a b:Nat} {k:Option β} (hb:a ≤ b) (h:T R k):T R (Sy.asr (Nat.ble a b) k):=T.asr (Nat.ble_eq_true_of_le hb) h
theorem T.br {R:β→Prop} {b:Bool} {t e:Option β} (ht:b=true→T R t) (he:b=false→T R e):T R (br b t e):=by
  cases b with
  | true=>exact ht rfl
  | false=>exact he rfl
theorem T.jp (Q:ι→Prop) {R:β→Prop} {B:(ι→Option β)→Option β} {K:ι→Option β} (hB:∀ J,(∀ i,Q i→T R (J i))→T R (B J)) (hK:∀ i,Q i→T R (K i)):T R (jp B K):=hB K hK
theorem T.lp (I:ι→Prop) (μ:ι→Nat) {R:β→Prop} {F:(ι→Option β)→ι→Option β} {i0:ι} (h0:I i0) (hμ:μ i0 < 1000000000000000000) (h:∀ (L:ι→Option β) i,I i→(∀ j,I j→μ j < μ i→T R (L j))→T R (F L i)):T R (lp F i0):=by
  have key:∀ n i,I i→μ i < n→T R (lpN F n i):=by
    intro n
    induction n with
    | zero=>intro i _ hn;omega
    | succ n ih=>intro i hi hn;exact h (lpN F n) i hi fun j hj hl=>ih j hj (by omega)
  unfold Sy.lp fuel
  exact key _ _ h0 hμ
theorem zdB {l:List α} {i:Int} (h0:0 ≤ i) (h1:i < l.length):getI l i=some (l[i.toNat]'(by omega)):=by
  unfold getI
  cases i with
  | ofNat n=>simp only [Int.ofNat_eq_natCast] at h1;simp
  | negSucc n=>omega
theorem T.get {R:β→Prop} {l:List α} {i:Int} {k:α→Option β} (h0:0 ≤ i) (h1:i < l.length) (hk:∀ y,l[i.toNat]?=Option.some y→T R (k y)):T R (Sy.cal (getI l i) k) :=
  T.eq (zdB h0 h1) (hk _ (List.getElem?_eq_getElem (by omega)))
theorem T.fin {o:Option β} {x:β} (h:T (fun r=>r=x) o):o=Option.some x:=by
  obtain ⟨r,h1,h2⟩:=h;rw [h1,h2]
theorem T.of {o:Option β} {R:β→Prop} {x:β} (h:o=Option.some x) (hx:R x):T R o:=⟨x,h,hx⟩
end tot
end Go.Sy


namespace Go.Proofs.Q
open Go.Sy
set_option linter.unusedVariables false

theorem ziA (s:Str) (i:Int):T (fun r=>r=(if 0 ≤ i then (s.b[i.toNat]?).getD 0 else 0)) (zfu s i):=by
  unfold zfu
  refine T.jp (fun q=>q=decide (¬ (0 ≤ i∧i < s.b.length))) (fun J h=>?_) (fun q hq=>?_)
  · refine T.br (fun h1=>h _ ?_) (fun h1=>h _ ?_)
    · have:=zOT h1;simp;omega
    · have:=zOF h1
      by_cases h2:(s.b.length:Int) ≤ i <;> simp [h2] <;> omega
  · subst hq
    refine T.br (fun h1=>T.some ?_) (fun h1=>?_)
    · have h2:=zOT h1
      split
      · rename_i h3
        rw [List.getElem?_eq_none (by omega)];rfl
      · rfl
    · have h2:=zOF h1
      refine T.get (by omega) (by omega) fun y hy=>T.some ?_
      rw [if_pos (by omega),hy];rfl

def zcg (c:UInt8):Bool:=(decide (97 ≤ c) && decide (c ≤ 122)) || (decide (65 ≤ c) && decide (c ≤ 90))
def isDigit (c:UInt8):Bool:=decide (48 ≤ c) && decide (c ≤ 57)
theorem zgv (c:UInt8):zeL c=some (zcg c):=by
  unfold zeL zcg jp br
  cases decide (97 ≤ c) <;> cases decide (c ≤ 122) <;> cases decide (65 ≤ c) <;> cases decide (c ≤ 90) <;> rfl
theorem zeu (c:UInt8):zd8 c=some (isDigit c):=by
  unfold zd8 isDigit jp br
  cases decide (48 ≤ c) <;> cases decide (c ≤ 57) <;> rfl

theorem zrT (s:Str) (i:Int) (h0:0 ≤ i) (h1:i ≤ s.b.length) (hl:s.b.length ≤ 1000000):T (fun r=>i ≤ r∧r ≤ s.b.length) (zfF s i):=by
  unfold zfF
  refine T.lp (fun k=>i ≤ k∧k ≤ s.b.length) (fun k=>(s.b.length - k).toNat) ⟨Int.le_refl _,h1⟩ (by omega) fun L k hk hL=>?_
  refine T.br (fun hb=>?_) (fun _=>T.some hk)
  have hb:=zOT hb
  refine T.get (by omega) hb fun y hy=>?_
  refine T.jp (fun _=>True) (fun J h=>T.br (fun _=>h _ trivial) fun _=>T.get (by omega) hb fun _ _=>h _ trivial) fun q _=>?_
  refine T.jp (fun _=>True) (fun J h=>T.br (fun _=>h _ trivial) fun _=>T.get (by omega) hb fun _ _=>h _ trivial) fun q _=>?_
  refine T.jp (fun _=>True) (fun J h=>T.br (fun _=>h _ trivial) fun _=>T.get (by omega) hb fun _ _=>h _ trivial) fun q _=>?_
  refine T.br (fun _=>T.ck (by omega) (hL _ (by omega) (by omega))) fun _=>?_
  refine T.get (by omega) hb fun y hy=>?_
  refine T.jp (fun q=>q=true→k + 2 ≤ s.b.length) (fun J h=>T.br (fun _=>T.ck (by omega) (T.cal (ziA s (k + 1)) fun y _ hy=>h _ fun hq=>?_)) fun _=>h _ (fun h=>by cases h)) fun q hq=>?_
  · have:=zOT hq
    subst this
    rw [if_pos (by omega)] at hy
    rcases Nat.lt_or_ge (k + 1).toNat s.b.length with h3 | h3
    · omega
    · rw [List.getElem?_eq_none h3] at hy;cases hy
  refine T.br (fun hb2=>T.ck (by omega) ?_) (fun _=>T.some hk)
  have hq':=hq hb2
  refine T.lp (fun j=>k + 2 ≤ j∧j ≤ s.b.length) (fun j=>(s.b.length - j).toNat) ⟨Int.le_refl _,hq'⟩ (by omega) fun L2 j hj hL2=>?_
  refine T.jp (fun q=>q=true→j < s.b.length) (fun J h=>T.br (fun h2=>?_) fun _=>h _ (fun h=>by cases h)) fun q hq2=>?_
  · have h2:=zOT h2
    exact T.get (by omega) h2 fun _ _=>h _ fun _=>h2
  refine T.br (fun h2=>?_) (fun _=>hL _ (by omega) (by omega))
  have h2:=hq2 h2
  refine T.get (by omega) h2 fun y hy=>?_
  refine T.jp (fun q=>q=true→j + 2 ≤ s.b.length) (fun J h=>T.br (fun _=>T.ck (by omega) (T.cal (ziA s (j + 1)) fun y _ hy=>h _ fun hq=>?_)) fun _=>h _ (fun h=>by cases h)) fun q hq3=>?_
  · have:=zOT hq
    subst this
    rw [if_pos (by omega)] at hy
    rcases Nat.lt_or_ge (j + 1).toNat s.b.length with h3 | h3
    · omega
    · rw [List.getElem?_eq_none h3] at hy;cases hy
  refine T.br (fun h3=>T.ck (by omega) ?_) (fun _=>T.ck (by omega) (hL2 _ (by omega) (by omega)))
  have h3:=hq3 h3
  exact hL _ (by omega) (by omega)

theorem zs7 (s:Str) (i:Int) (h0:0 ≤ i) (h1:i < s.b.length) (hl:s.b.length ≤ 1000000) (hc:∀ y,s.b[i.toNat]?=some y→zcg y=true):T (fun r=>r=-1 ∨ (i < r∧r ≤ s.b.length)) (zg2 s i):=by
  unfold zg2
  refine T.lp (fun k=>i ≤ k∧k ≤ s.b.length) (fun k=>(s.b.length - k).toNat) ⟨Int.le_refl _,by omega⟩ (by omega) fun L k hk hL=>?_
  refine T.jp (fun q=>(q=true→k < s.b.length)∧(q=false→i < k)) (fun J h=>?_) fun q hq=>?_
  · refine T.br (fun hb=>?_) (fun hb=>h _ ⟨(fun h=>by cases h),fun _=>by have:=zOF hb;omega⟩)
    have hb:=zOT hb
    refine T.get (by omega) hb fun y hy=>?_
    refine T.eq (zgv y) ?_
    refine T.jp (fun q=>zcg y=true→q=true) (fun J2 h2=>?_) fun q hq=>?_
    · exact T.br (fun _=>h2 _ fun _=>rfl) fun hn=>T.get (by omega) hb fun y2 _=>T.eq (zeu y2) (h2 _ fun hy=>by rw [hn] at hy;cases hy)
    refine T.jp (fun q=>zcg y=true→q=true) (fun J2 h2=>?_) fun q hq=>?_
    · refine T.br (fun _=>h2 _ fun _=>rfl) fun hn=>T.get (by omega) hb fun y2 _=>?_
      have hno:¬ zcg y=true:=fun hy=>by rw [hq hy] at hn;cases hn
      refine T.jp (fun _=>True) (fun J3 h3=>T.br (fun _=>T.ck (by omega) (T.cal (ziA s _) fun _ _ _=>h3 _ trivial)) fun _=>h3 _ trivial) fun q _=>h2 _ fun hy=>absurd hy hno
    · refine h _ ⟨fun _=>hb,fun hn=>?_⟩
      rcases Int.lt_or_eq_of_le hk.1 with h2 | h2
      · exact h2
      · subst h2
        have:=hq (hc y hy)
        rw [this] at hn;cases hn
  refine T.br (fun hb=>T.ck (by have:=hq.1 hb;omega) (hL _ (by have:=hq.1 hb;omega) (by have:=hq.1 hb;omega))) fun hb=>?_
  have hlt:=hq.2 hb
  refine T.ck (by omega) (T.get (by omega) (by omega) fun y _=>?_)
  refine T.jp (fun _=>True) (fun J h=>T.br (fun _=>h _ trivial) fun _=>T.ck (by omega) (h _ trivial)) fun q _=>?_
  exact T.br (fun _=>T.some (.inl rfl)) fun _=>T.some (.inr ⟨hlt,hk.2⟩)
end Go.Proofs.Q


namespace Go.Proofs.Q
open Go.Sy
set_option linter.unusedVariables false

theorem snocInd {α:Type} {P:List α→Prop} (h0:P []) (h1:∀ l a,P l→P (l ++ [a])) (l:List α):P l:=by
  have:∀ m:List α,P m.reverse:=by
    intro m
    induction m with
    | nil=>exact h0
    | cons a m ih=>rw [List.reverse_cons];exact h1 _ _ ih
  have h:=this l.reverse
  rwa [List.reverse_reverse] at h

def dval (l:List UInt8):Nat:=l.foldl (fun v d=>10 * v + (d.toNat - 48)) 0
def uval (l:List UInt8):UInt64:=l.foldl (fun v d=>10 * v + (d - 48).toUInt64) 0
theorem zf9 {d:UInt8} (h:isDigit d=true):48 ≤ d.toNat∧d.toNat ≤ 57:=by
  unfold isDigit at h
  simp only [Bool.and_eq_true,decide_eq_true_eq] at h
  have h1:=UInt8.le_iff_toNat_le.1 h.1
  have h2:=UInt8.le_iff_toNat_le.1 h.2
  simp at h1 h2
  omega
theorem ztQ {d:UInt8} (h:isDigit d=true):(d - 48).toUInt64.toNat=d.toNat - 48:=by
  have h1:=zf9 h
  have h2:=d.toNat_lt
  have h3:(48:UInt8).toNat=48:=rfl
  rw [UInt8.toNat_toUInt64,UInt8.toNat_sub,h3]
  omega
theorem zjv (l:List UInt8) (d:UInt8):dval (l ++ [d])=10 * dval l + (d.toNat - 48):=by simp [dval]
theorem zjP (l:List UInt8) (d:UInt8):uval (l ++ [d])=10 * uval l + (d - 48).toUInt64:=by simp [uval]
def digs (l:List UInt8):Prop:=∀ d ∈ l,isDigit d=true
theorem zlA {l:List UInt8} {d:UInt8} (h:digs (l ++ [d])):digs l∧isDigit d=true :=
  ⟨fun x hx=>h x (List.mem_append_left _ hx),h d (List.mem_append_right _ (List.mem_singleton.2 rfl))⟩
theorem zum (l:List UInt8):digs l→dval l < 10 ^ l.length:=by
  refine snocInd (P:=fun l=>digs l→dval l < 10 ^ l.length) (fun _=>by simp [dval]) (fun l d ih h=>?_) l
  obtain ⟨h1,h2⟩:=zlA h
  have h3:=ih h1
  have h4:=zf9 h2
  rw [zjv,List.length_append,List.length_singleton,Nat.pow_succ]
  omega
theorem pow19 {n:Nat} (h:n ≤ 19):10 ^ n ≤ 10000000000000000000:=by
  have:=Nat.pow_le_pow_right (show 0 < 10 by omega) h
  simpa using this
theorem znC (l:List UInt8):digs l→l.length ≤ 19→(uval l).toNat=dval l:=by
  refine snocInd (P:=fun l=>digs l→l.length ≤ 19→(uval l).toNat=dval l) (fun _ _=>by simp [dval,uval]) (fun l d ih h hl=>?_) l
  obtain ⟨h1,h2⟩:=zlA h
  rw [List.length_append,List.length_singleton] at hl
  have h3:=ih h1 (by omega)
  have h4:=zf9 h2
  have h5:=zum (l ++ [d]) h
  rw [List.length_append,List.length_singleton] at h5
  have h6:=pow19 hl
  rw [zjv] at h5
  rw [zjP,zjv,UInt64.toNat_add,UInt64.toNat_mul,h3,ztQ h2]
  have h7:(10:UInt64).toNat=10:=rfl
  rw [h7]
  omega
theorem zsG {d:UInt8} {l:List UInt8} (h:digs (d :: l)) (hd:d ≠ 48):1 ≤ dval (d :: l):=by
  refine snocInd (P:=fun l=>digs (d :: l)→1 ≤ dval (d :: l)) (fun h=>?_) (fun l e ih h=>?_) l h
  · have h1:=zf9 (h d (List.mem_singleton.2 rfl))
    have h2:d.toNat ≠ 48:=fun e=>hd (UInt8.toNat_inj.1 e)
    have e:dval [d]=d.toNat - 48:=by simp [dval]
    omega
  · have h2:=ih (zlA (l:=d :: l) h).1
    have e1:=zjv (d :: l) e
    have e2:d :: (l ++ [e])=d :: l ++ [e]:=rfl
    rw [e2,e1];omega

def NumOk (b:List UInt8):Prop:=∃ ds,digs ds∧ds ≠ []∧ds.length ≤ 19∧((b=ds∧dval ds < 9223372036854775808) ∨ (b=45 :: ds∧1 ≤ dval ds∧dval ds ≤ 9223372036854775808))

theorem zs4 {l:List UInt8} {f k:Nat} {y:UInt8} (hf:f ≤ k) (hy:l[k]?=some y):(l.take (k + 1)).drop f=(l.take k).drop f ++ [y]:=by
  have hlt:=(List.getElem?_eq_some_iff.1 hy).1
  have h1:l.take (k + 1)=l.take k ++ [y]:=by
    rw [List.take_add_one,hy];rfl
  rw [h1,List.drop_append_of_le_length (by rw [List.length_take];omega)]
theorem zpw {l:List UInt8} {f k:Nat} {y:UInt8} (hf:f < k) (hk:k ≤ l.length) (hy:l[f]?=some y):(l.take k).drop f=y :: (l.take k).drop (f + 1):=by
  have h1:(l.take k)[f]?=some y:=by rw [List.getElem?_take,if_pos hf,hy]
  obtain ⟨h2,h3⟩:=List.getElem?_eq_some_iff.1 h1
  rw [List.drop_eq_getElem_cons h2,h3]
theorem ztA {l:List UInt8} {f k:Nat} (hk:k ≤ l.length):((l.take k).drop f).length=k - f:=by
  rw [List.length_drop,List.length_take];omega

set_option maxHeartbeats 1000000 in
theorem zp3 (s:Str) (i:Int) (h0:0 ≤ i) (h1:i < s.b.length) (hl:s.b.length ≤ 1000000) :
    T (fun r=>r=-1 ∨ (i < r∧r ≤ s.b.length∧NumOk ((s.b.take r.toNat).drop i.toNat))) (zeQ s i):=by
  unfold zeQ
  refine T.get h0 h1 fun y1 hy1=>?_
  refine T.jp (fun f=>(y1=45∧f=i + 1) ∨ (y1 ≠ 45∧f=i)) (fun J h=>T.br (fun hb=>T.ck (by omega) (h _ (.inl ⟨zOT hb,rfl⟩))) fun hb=>h _ (.inr ⟨zOF hb,rfl⟩)) fun f hf=>?_
  have hf0:i ≤ f∧f ≤ i + 1:=by omega
  have hfl:f ≤ s.b.length:=by omega
  refine T.lp (ι:=Int × UInt64) (fun q=>f ≤ q.1∧q.1 ≤ s.b.length∧digs ((s.b.take q.1.toNat).drop f.toNat)∧(q.1 - f ≤ 19→q.2=uval ((s.b.take q.1.toNat).drop f.toNat))) (fun q=>(s.b.length - q.1).toNat)
    (by
      have e:(s.b.take f.toNat).drop f.toNat=[]:=List.drop_eq_nil_of_le (by rw [List.length_take];omega)
      refine ⟨Int.le_refl _,hfl,?_,?_⟩
      · rw [e];intro d hd;cases hd
      · intro _;rw [e];rfl) (by simp only;omega) fun L q hq hL=>?_
  obtain ⟨k,v⟩:=q
  obtain ⟨hq1,hq2,hq3,hq4⟩:=hq
  simp only at hq1 hq2 hq3 hq4 ⊢
  refine T.jp (fun b=>b=true→k < s.b.length∧∀ y,s.b[k.toNat]?=some y→isDigit y=true) (fun J h=>?_) fun b hb=>?_
  · refine T.br (fun h2=>?_) fun _=>h _ (fun h=>by cases h)
    have h2:=zOT h2
    exact T.get (by omega) h2 fun y hy=>T.eq (zeu y) (h _ fun hd=>⟨h2,fun y' hy'=>by rw [hy] at hy';cases hy';exact hd⟩)
  refine T.br (fun h2=>?_) fun _=>?_
  · obtain ⟨hk,hd⟩:=hb h2
    obtain ⟨y,hy⟩:∃ y,s.b[k.toNat]?=some y:=⟨_,List.getElem?_eq_getElem (by omega)⟩
    have hsn:=zs4 (l:=s.b) (f:=f.toNat) (k:=k.toNat) (y:=y) (by omega) hy
    have hk1:(k + 1).toNat=k.toNat + 1:=by omega
    refine T.ck (by omega) (T.jp (fun u=>k - f < 19→u=10 * v + (y - 48).toUInt64) (fun J h=>T.br (fun _=>?_) fun h3=>h _ fun h4=>by have:=zOF h3;omega) fun u hu=>T.ck (by omega) (hL _ ?_ (by simp only;omega)))
    · exact T.get (by omega) hk fun y' hy'=>h _ fun _=>by rw [hy] at hy';cases hy';rfl
    · refine ⟨by simp only;omega,by simp only;omega,?_,fun h19=>?_⟩
      · simp only
        rw [hk1,hsn]
        intro d hd'
        rcases List.mem_append.1 hd' with h | h
        · exact hq3 d h
        · rw [List.mem_singleton.1 h];exact hd y hy
      · simp only at h19 ⊢
        rw [hk1,hsn,zjP,hu (by omega),hq4 (by omega)]
  refine T.ck (by omega) ?_
  have hlen:=ztA (l:=s.b) (f:=f.toNat) (k:=k.toNat) (by omega)
  refine T.jp (fun b=>b=false→1 ≤ k - f∧k - f ≤ 19) (fun J h=>T.br (fun _=>h _ (fun h=>by cases h)) fun h2=>h _ fun h3=>by have:=zOF h2;have:=zOF h3;omega) fun b1 hb1=>?_
  refine T.jp (fun b=>b=false→b1=false) (fun J h=>T.br (fun _=>h _ (fun h=>by cases h)) fun h2=>?_) fun b2 hb2=>?_
  · refine T.jp (fun _=>True) (fun J3 h3=>T.br (fun h4=>T.get (by omega) (by have:=zOT h4;omega) fun _ _=>h3 _ trivial) fun _=>h3 _ trivial) fun b _=>h _ fun _=>h2
  refine T.jp (fun b=>b=false→b2=false∧(y1=45→∀ y,s.b[f.toNat]?=some y→y ≠ 48)) (fun J h=>T.br (fun _=>h _ (fun h=>by cases h)) fun h2=>?_) fun b3 hb3=>?_
  · have h5:=hb1 (hb2 h2)
    refine T.jp (fun b=>b=false→(y1=45→∀ y,s.b[f.toNat]?=some y→y ≠ 48)) (fun J3 h3=>T.br (fun h4=>T.get (by omega) (by omega) fun y hy=>h3 _ fun h6 _ y' hy'=>?_) fun h4=>h3 _ fun _ h7=>absurd h7 (zOF h4)) fun b hb=>h _ fun h6=>⟨h2,hb h6⟩
    rw [hy] at hy';cases hy'
    exact zOF h6
  refine T.jp (fun b=>b=false→b3=false) (fun J h=>T.br (fun _=>h _ (fun h=>by cases h)) fun h2=>T.cal (ziA s k) fun y _ _=>T.eq (zgv y) (h _ fun _=>h2)) fun b4 hb4=>?_
  refine T.jp (fun b=>b=false→b4=false∧¬ (9223372036854775808:UInt64) < v) (fun J h=>T.br (fun _=>h _ (fun h=>by cases h)) fun h2=>h _ fun h3=>⟨h2,zOF h3⟩) fun b5 hb5=>?_
  refine T.jp (fun b=>b=false→b5=false∧(y1 ≠ 45→v ≠ 9223372036854775808)) (fun J h=>T.br (fun _=>h _ (fun h=>by cases h)) fun h2=>?_) fun b6 hb6=>?_
  · refine T.jp (fun b=>b=false→(y1 ≠ 45→v ≠ 9223372036854775808)) (fun J3 h3=>T.br (fun h4=>h3 _ fun h5 _=>zOF h5) fun h4=>h3 _ fun _ h5=>absurd h4 (by simp [h5])) fun b hb=>h _ fun h6=>⟨h2,hb h6⟩
  refine T.br (fun _=>T.some (.inl rfl)) fun h2=>T.some (.inr ?_)
  obtain ⟨e5,hv2⟩:=hb6 h2
  obtain ⟨e4,hv1⟩:=hb5 e5
  obtain ⟨e2,hz⟩:=hb3 (hb4 e4)
  obtain ⟨n1,n2⟩:=hb1 (hb2 e2)
  have hv:=hq4 n2
  have hvn:=znC _ hq3 (by rw [hlen];omega)
  rw [← hv] at hvn
  have hle:v.toNat ≤ 9223372036854775808:=by
    have:¬ (9223372036854775808:UInt64).toNat < v.toNat:=fun h=>hv1 (UInt64.lt_iff_toNat_lt.2 h)
    have e:(9223372036854775808:UInt64).toNat=9223372036854775808:=rfl
    omega
  refine ⟨by omega,hq2,(s.b.take k.toNat).drop f.toNat,hq3,fun h=>by rw [h] at hlen;simp at hlen;omega,by rw [hlen];omega,?_⟩
  rcases hf with ⟨h45,hfi⟩ | ⟨h45,hfi⟩
  · right
    have hs:=zpw (l:=s.b) (f:=i.toNat) (k:=k.toNat) (y:=y1) (by omega) (by omega) hy1
    have e:i.toNat + 1=f.toNat:=by omega
    rw [e] at hs
    refine ⟨by rw [hs,h45],?_,by omega⟩
    obtain ⟨y,hy⟩:∃ y,s.b[f.toNat]?=some y:=⟨_,List.getElem?_eq_getElem (by omega)⟩
    have hs2:=zpw (l:=s.b) (f:=f.toNat) (k:=k.toNat) (y:=y) (by omega) (by omega) hy
    rw [hs2] at hq3 ⊢
    exact zsG hq3 (hz h45 y hy)
  · left
    subst hfi
    refine ⟨rfl,?_⟩
    have h3:=hv2 h45
    have:v.toNat ≠ 9223372036854775808:=fun e=>h3 (UInt64.toNat_inj.1 e)
    omega
end Go.Proofs.Q


namespace Go.Proofs.Q
open Go.Sy
set_option linter.unusedVariables false

theorem ztK (s:Str) (i:Int) (h0:0 ≤ i) (h1:i < s.b.length) (hl:s.b.length ≤ 1000000) :
    T (fun (r:Int × Str)=>r.1=-1 ∨ (i < r.1∧r.1 ≤ (s.b.length:Int)∧r.2.b.length ≤ s.b.length)) (zh8 s i):=by
  unfold zh8
  refine T.ck (by omega) (T.lp (fun (k:Int)=>i + 1 ≤ k∧k ≤ (s.b.length:Int)) (fun (k:Int)=>((s.b.length:Int) - k).toNat) ⟨Int.le_refl _,by omega⟩ (by omega) fun L k hk hL=>?_)
  refine T.jp (fun b=>b=true→k < s.b.length) (fun J h=>T.br (fun h2=>?_) fun _=>h _ (fun h=>by cases h)) fun b hb=>?_
  · have h2:=zOT h2
    refine T.get (by omega) h2 fun y _=>T.eq (zeu y) ?_
    refine T.jp (fun _=>True) (fun J2 h3=>T.br (fun _=>h3 _ trivial) fun _=>T.get (by omega) h2 fun y _=>?_) fun q _=>h _ fun _=>h2
    refine T.jp (fun _=>True) (fun J4 h4=>T.br (fun _=>T.get (by omega) h2 fun _ _=>h4 _ trivial) fun _=>h4 _ trivial) fun q _=>h3 _ trivial
  refine T.br (fun h2=>T.ck (by have:=hb h2;omega) (hL _ (by have:=hb h2;omega) (by have:=hb h2;omega))) fun _=>?_
  refine T.ck (by omega) (T.asr rfl ?_)
  have hat:∀ (j:Int) y,y=(if 0 ≤ j then (s.b[j.toNat]?).getD 0 else 0)→y ≠ 0→0 ≤ j∧j < s.b.length:=by
    intro j y hy h0
    split at hy
    · rename_i h3
      refine ⟨h3,?_⟩
      rcases Nat.lt_or_ge j.toNat s.b.length with h4 | h4
      · omega
      · rw [List.getElem?_eq_none h4] at hy;exact absurd hy h0
    · exact absurd hy h0
  refine T.jp (fun _=>True) (fun J h=>T.br (fun _=>h _ trivial) fun _=>T.cal (ziA s k) fun y _ hy=>h _ trivial) fun b1 hb1=>?_
  refine T.jp (fun b=>b=false→k + 1 < s.b.length) (fun J h=>T.br (fun _=>h _ (fun h=>by cases h)) fun _=>T.ck (by omega) (T.cal (ziA s (k + 1)) fun y _ hy=>h _ fun h4=>?_)) fun b2 hb2=>?_
  · have h5:y=72:=by simpa using h4
    exact (hat _ _ hy (by rw [h5];decide)).2
  refine T.br (fun _=>T.some (.inl rfl)) fun h3=>T.ck (by omega) (T.asd ?_ (T.some (.inr ?_)))
  · have:=hb2 h3;omega
  · have:=hb2 h3
    refine ⟨by dsimp only;omega,by dsimp only;omega,?_⟩
    simp only [List.length_drop,List.length_take];omega

theorem zpW (s:Str) (i:Int) (h0:0 ≤ i) (h1:i < s.b.length) (hl:s.b.length ≤ 1000000) :
    T (fun (r:Int × Str)=>r.1=-1 ∨ (i < r.1∧r.1 ≤ (s.b.length:Int)∧r.2.b.length ≤ s.b.length)) (zeE s i):=by
  unfold zeE
  refine T.ck (by omega) (T.lp (ι:=Int × Str) (fun q=>i + 1 ≤ q.1∧q.1 ≤ s.b.length + 1∧(q.2.b.length:Int) < q.1) (fun q=>(s.b.length + 1 - q.1).toNat) ⟨Int.le_refl _,by dsimp only;omega,by dsimp only;simp only [List.length_nil];omega⟩ (by dsimp only;omega) fun L q hq hL=>?_)
  obtain ⟨k,o⟩:=q
  obtain ⟨hq1,hq2,hq3⟩:=hq
  simp only at hq1 hq2 hq3 ⊢
  refine T.br (fun h2=>?_) fun _=>T.some (.inl rfl)
  have h2:=zOT h2
  refine T.jp (fun (q:Int × Str)=>k ≤ q.1∧q.1 < (s.b.length:Int)∧(q.2.b.length:Int) < q.1 + 1) (fun J h=>?_) fun q hq=>?_
  · refine T.get (by omega) h2 fun y _=>T.br (fun _=>?_) fun _=>?_
    · refine T.ck (by omega) (T.asd (by omega) (T.abl ?_ (h _ ?_)))
      · simp only [List.length_drop,List.length_take];omega
      · refine ⟨Int.le_refl _,by dsimp only;omega,?_⟩
        simp only [List.length_append,List.length_drop,List.length_take];omega
    · refine T.ck (by omega) (T.cal (ziA s (k + 1)) fun y2 _ hy2=>T.br (fun _=>?_) fun h34=>?_)
      · exact T.eq rfl (T.br (fun _=>T.some (.inl rfl)) fun _=>T.ck (by omega) (T.some (.inr ⟨by dsimp only;omega,by dsimp only;omega,by dsimp only;omega⟩)))
      · have hlt:k + 1 < s.b.length:=by
          have h5:y2=34:=by simpa using h34
          rw [if_pos (by omega)] at hy2
          rcases Nat.lt_or_ge (k + 1).toNat s.b.length with h4 | h4
          · omega
          · rw [List.getElem?_eq_none h4,h5] at hy2;cases hy2
        refine T.abl ?_ (T.ck (by omega) (h _ ?_))
        · simp only [List.length_cons,List.length_nil];omega
        · refine ⟨by dsimp only;omega,by dsimp only;omega,?_⟩
          simp only [List.length_append,List.length_cons,List.length_nil];omega
  · exact T.ck (by omega) (hL _ ⟨by dsimp only;omega,by dsimp only;omega,hq.2.2⟩ (by dsimp only;omega))

theorem zhp (l:List Str) (x:Str) (hl:l.length ≤ 1000000):T (fun r=>r=decide (x ∈ l)) (zeS l x):=by
  unfold zeS
  refine T.lp (fun (k:Int)=>0 ≤ k∧k ≤ (l.length:Int)∧x ∉ l.take k.toNat) (fun (k:Int)=>((l.length:Int) - k).toNat) ⟨Int.le_refl _,by omega,by simp⟩ (by omega) fun L k hk hL=>?_
  refine T.br (fun h2=>?_) fun h2=>T.some ?_
  · have h2:=zOT h2
    refine T.get hk.1 h2 fun y hy=>T.br (fun h3=>T.some ?_) fun h3=>T.ck (by omega) (hL _ ⟨by omega,by omega,?_⟩ (by omega))
    · have h3:=zOT h3
      subst h3
      exact (zDT (List.mem_of_getElem? hy)).symm
    · have h3:=zOF h3
      have e:(k + 1).toNat=k.toNat + 1:=by omega
      rw [e,List.take_add_one,hy]
      simp only [Option.toList_some,List.mem_append,List.mem_singleton,not_or]
      exact ⟨hk.2.2,fun h=>h3 h.symm⟩
  · have h2:=zOF h2
    have h4:=hk.2.2
    rw [List.take_of_length_le (by omega)] at h4
    exact (zDF h4).symm

theorem zsh (s:Str) (i:Int) (h0:0 ≤ i) (h1:i < s.b.length) (hl:s.b.length ≤ 1000000):T (fun (r:Int)=>0 ≤ r∧i + r ≤ (s.b.length:Int)) (zg6 s i):=by
  unfold zg6
  refine T.asd (by omega) (T.lp (fun (k:Int)=>0 ≤ k) (fun (k:Int)=>(13 - k).toNat) (Int.le_refl _) (by omega) fun L k hk hL=>?_)
  refine T.br (fun h2=>?_) fun _=>T.some ⟨Int.le_refl _,by omega⟩
  have h2:=zOT h2
  have hrest:((Str.mk ((s.b.take ((s.b.length:Int)).toNat).drop i.toNat)).b.length:Int)=s.b.length - i:=by
    simp only [List.length_drop,List.length_take];omega
  refine T.get hk h2 fun y hy=>?_
  refine T.jp (fun b=>b=true→i + (y.b.length:Int) ≤ s.b.length) (fun J h=>T.br (fun h3=>?_) fun _=>h _ (fun h=>by cases h)) fun b hb=>?_
  · have h3:=zOT h3
    rw [hrest] at h3
    refine T.asd ⟨Int.le_refl _,by omega,by rw [hrest];exact h3⟩ (T.get hk h2 fun y2 hy2=>h _ fun _=>by omega)
  · refine T.br (fun h3=>T.some ⟨by omega,hb h3⟩) fun _=>T.ck (by have h2:k < 13:=h2;omega) (hL _ (by omega) ?_)
    have h2:k < 13:=h2
    omega

structure TokOk (n:Nat) (t:GTok):Prop where
  num:t.kind=3→NumOk t.text.b
  len:t.text.b.length ≤ n
  at0:0 ≤ t.at_∧t.at_ ≤ n
theorem zrF:∀ r,zhC=some r→r.length ≤ 1000000:=by
  intro r h
  unfold zhC at h
  have:=Option.some.inj h
  subst this
  decide
theorem zti (s:Str):T (fun _=>True) (zgO s):=by
  unfold zgO
  refine T.cal (Q:=fun _=>True) ⟨_,rfl,trivial⟩ fun y hy _=>T.cal (zhp y s (zrF y hy)) fun _ _ _=>T.some trivial

theorem zt8 (s:Str) (i:Int) (h0:0 ≤ i) (h1:i < s.b.length) (hl:s.b.length ≤ 1000000) :
    T (fun (r:GTok × Int)=>r.2 < 0 ∨ (i < r.2∧r.2 ≤ (s.b.length:Int)∧TokOk s.b.length r.1∧1 ≤ r.1.kind∧r.1.kind ≤ 7)) (zh9 s i):=by
  unfold zh9
  refine T.get h0 h1 fun y hy=>?_
  refine T.jp (ι:=Int × GTok) (fun (q:Int × GTok)=>q.1 < 0 ∨ (i < q.1∧q.1 ≤ (s.b.length:Int)∧TokOk s.b.length q.2∧1 ≤ q.2.kind∧q.2.kind ≤ 7)) (fun J h=>?_) fun q hq=>T.some hq
  have hsub:∀ (a b:Nat),((s.b.take a).drop b).length ≤ s.b.length:=fun a b=>by rw [List.length_drop,List.length_take];omega
  refine T.eq (zgv y) (T.br (fun hle=>?_) fun _=>T.eq (zeu y) ?_)
  · refine T.cal (zs7 s i h0 h1 hl fun y' hy'=>by rw [hy] at hy';cases hy';exact hle) fun e _ he=>T.br (fun _=>T.some (.inl (by dsimp only;omega))) fun hn=>?_
    have hn:=zOF hn
    have he':i < e∧e ≤ s.b.length:=by omega
    refine T.asd (by omega) (T.jp (ι:=GTok) (fun t=>(t.kind=1 ∨ t.kind=2)∧t.text.b.length ≤ s.b.length∧t.at_=i) (fun J2 h2=>T.br (fun _=>h2 _ ⟨.inl rfl,hsub _ _,rfl⟩) fun _=>h2 _ ⟨.inr rfl,hsub _ _,rfl⟩) fun t ht=>?_)
    obtain ⟨ht1,ht2,ht3⟩:=ht
    refine T.cal (zti t.text) fun w _ _=>T.br (fun _=>h _ (.inr ⟨he'.1,he'.2,⟨fun h=>by simp at h,ht2,by dsimp only;omega⟩,by simp,by simp⟩)) fun _=>h _ (.inr ⟨he'.1,he'.2,⟨fun h=>by rw [h] at ht1;omega,ht2,by dsimp only;omega⟩,by dsimp only;omega,by dsimp only;omega⟩)
  · refine T.jp (fun _=>True) (fun J2 h2=>T.br (fun _=>h2 _ trivial) fun _=>?_) fun b _=>?_
    · refine T.jp (fun _=>True) (fun J3 h3=>T.br (fun _=>T.ck (by omega) (T.cal (ziA s _) fun y _ _=>T.eq (zeu y) (h3 _ trivial))) fun _=>h3 _ trivial) fun _ _=>h2 _ trivial
    refine T.br (fun _=>T.cal (zp3 s i h0 h1 hl) fun e _ he=>T.br (fun _=>T.some (.inl (by dsimp only;omega))) fun hn=>?_) fun _=>?_
    · have hn:=zOF hn
      have he':i < e∧e ≤ s.b.length∧NumOk ((s.b.take e.toNat).drop i.toNat):=by
        rcases he with h | h
        · omega
        · exact h
      exact T.asd (by omega) (h _ (.inr ⟨he'.1,he'.2.1,⟨fun _=>he'.2.2,hsub _ _,by dsimp only;omega⟩,by simp,by simp⟩))
    · refine T.br (fun _=>T.cal (ztK s i h0 h1 hl) fun e _ he=>h _ ?_) fun _=>T.br (fun _=>T.cal (zpW s i h0 h1 hl) fun e _ he=>h _ ?_) fun _=>?_
      · rcases he with h | h
        · left;rw [h];decide
        · exact .inr ⟨h.1,h.2.1,⟨fun h=>by simp at h,h.2.2,by dsimp only;omega⟩,by simp,by simp⟩
      · rcases he with h | h
        · left;rw [h];decide
        · exact .inr ⟨h.1,h.2.1,⟨fun h=>by simp at h,h.2.2,by dsimp only;omega⟩,by simp,by simp⟩
      · refine T.cal (zsh s i h0 h1 hl) fun e _ he=>T.br (fun hp=>?_) fun _=>h _ (.inl (by dsimp only;omega))
        have hp:=zOT hp
        exact T.ck (by omega) (T.asd (by omega) (T.ck (by omega) (h _ (.inr ⟨by dsimp only;omega,by dsimp only;omega,⟨fun h=>by simp at h,hsub _ _,by dsimp only;omega⟩,by simp,by simp⟩))))

structure ToksOk (l:List GTok):Prop where
  len:l.length ≤ 8001
  ok:∀ t ∈ l,TokOk 8000 t
  last:∃ m e,l=m ++ [e]∧e.kind=0∧∀ t ∈ m,1 ≤ t.kind∧t.kind ≤ 7

theorem zpO (s:Str):T (fun r=>r.2.2=0→ToksOk r.1) (zd2 s):=by
  unfold zd2
  refine T.br (fun _=>T.some (fun h=>by cases h)) fun hl=>?_
  have hl:=zOF hl
  refine T.lp (ι:=List GTok × Int) (fun (q:List GTok × Int)=>0 ≤ q.2∧q.2 ≤ (s.b.length:Int)∧(q.1.length:Int) ≤ q.2∧(∀ t ∈ q.1,TokOk 8000 t∧1 ≤ t.kind∧t.kind ≤ 7)) (fun (q:List GTok × Int)=>((s.b.length:Int) - q.2).toNat) ⟨Int.le_refl _,by dsimp only;omega,by simp,by simp⟩ (by dsimp only;omega) fun L q hq hL=>?_
  obtain ⟨l,k⟩:=q
  obtain ⟨h1,h2,h3,h4⟩:=hq
  simp only at h1 h2 h3 h4 ⊢
  refine T.cal (zrT s k h1 h2 (by omega)) fun e _ he=>T.br (fun _=>?_) fun hb=>?_
  · refine T.abl (by simp only [List.length_cons,List.length_nil];omega) (T.some fun _=>⟨?_,?_,⟨l,_,rfl,rfl,fun t ht=>(h4 t ht).2⟩⟩)
    · simp only [List.length_append,List.length_cons,List.length_nil];omega
    · intro t ht
      rcases List.mem_append.1 ht with h | h
      · exact (h4 t h).1
      · rw [List.mem_singleton.1 h];exact ⟨fun h=>by simp at h,by simp,by dsimp only;omega⟩
  · have hb:=zOF hb
    refine T.cal (zt8 s e (by omega) (by omega) (by omega)) fun r _ hr=>T.br (fun _=>T.some (fun h=>by cases h)) fun hn=>?_
    have hn:=zOF hn
    rcases hr with h | ⟨r1,r2,r3,r4,r5⟩
    · exact absurd h hn
    refine T.abl (by simp only [List.length_cons,List.length_nil];omega) (hL _ ⟨by dsimp only;omega,by dsimp only;omega,?_,fun t ht=>?_⟩ (by dsimp only;omega))
    · simp only [List.length_append,List.length_cons,List.length_nil];omega
    · rcases List.mem_append.1 ht with h | h
      · exact h4 t h
      · rw [List.mem_singleton.1 h];exact ⟨⟨r3.num,by have:=r3.len;omega,by have:=r3.at0;omega⟩,r4,r5⟩
end Go.Proofs.Q


namespace Go.Proofs.Q
open Go.Sy
set_option linter.unusedVariables false

structure Ok (l:List GTok) (m:GMod) (a:Int) (P:Prop) (y:GPar):Prop where
  toks:ToksOk l
  yl:y.l=l
  ym:y.m=m
  a0:0 ≤ y.at_
  a1:y.at_ < l.length
  ok:y.e=0→P∧a ≤ y.at_
theorem Ok.to {l m a P y} {a':Int} {P':Prop} (h:Ok l m a P y) (k:y.e=0→P→a ≤ y.at_→P'∧a' ≤ y.at_):Ok l m a' P' y:=⟨h.toks,h.yl,h.ym,h.a0,h.a1,fun e=>k e (h.ok e).1 (h.ok e).2⟩
theorem Ok.err {l m a P y} {a':Int} {P':Prop} (h:Ok l m a P y) (k:¬ y.e=0):Ok l m a' P' y:=h.to fun e=>absurd e k

def Tk (x:GPar) (t:GTok):Prop:=x.l[x.at_.toNat]?=some t
theorem Tk.ok {l m a P x t} (h:Ok l m a P x) (ht:Tk x t):TokOk 8000 t:=by
  unfold Tk at ht
  rw [h.yl] at ht
  exact h.toks.ok t (List.mem_of_getElem? ht)
theorem Tk.last {l m a P x t} (h:Ok l m a P x) (ht:Tk x t) (hk:t.kind ≠ 0):x.at_ + 1 < l.length:=by
  unfold Tk at ht
  rw [h.yl] at ht
  obtain ⟨m',e,h1,h2,h3⟩:=h.toks.last
  rcases Nat.lt_or_ge (x.at_.toNat + 1) l.length with h4 | h4
  · have:=h.a0;omega
  · exfalso
    have h5:=h.a1
    have h6:=h.a0
    have h7:x.at_.toNat=m'.length:=by rw [h1] at h4 h5;simp only [List.length_append,List.length_singleton] at h4 h5;omega
    rw [h1,h7,List.getElem?_append_right (Nat.le_refl _)] at ht
    simp at ht
    subst ht
    exact hk h2

theorem zex {l m a P x} (h:Ok l m a P x):T (fun r=>Tk x r.1∧r.2=x) (zax x):=by
  unfold zax
  refine T.get h.a0 (by rw [h.yl];exact h.a1) fun y hy=>T.some ⟨hy,rfl⟩
theorem ze9 {l m a P x} (e:Int) (t:GTok) (h:Ok l m a P x) (he:e ≠ 0):T (fun r=>Ok l m a P r∧r.e ≠ 0) (zaI x e t):=by
  unfold zaI
  refine T.br (fun h1=>T.some ⟨⟨h.toks,h.yl,h.ym,h.a0,h.a1,fun h2=>absurd h2 he⟩,he⟩) fun h1=>T.some ⟨h,zOF h1⟩
theorem zkV {l m a P x} (h:Ok l m a P x):T (fun r=>Tk x r.1∧Ok l m a P r.2∧(r.1.kind ≠ 0→r.2.at_=x.at_ + 1)∧r.2.e=x.e) (zba x):=by
  unfold zba
  have hl:=h.toks.len
  have h1:=h.a0
  have h2:=h.a1
  refine T.get h.a0 (by rw [h.yl];exact h.a1) fun y hy=>T.ck (by omega) (T.jp (fun r=>Ok l m a P r∧(y.kind ≠ 0→r.at_=x.at_ + 1)∧r.e=x.e) (fun J k=>T.br (fun h3=>?_) fun h3=>k _ ?_) fun q hq=>T.some ⟨hy,hq⟩)
  · have h3:=zOT h3
    rw [h.yl] at h3
    refine T.ck (by omega) (k _ ⟨⟨h.toks,h.yl,h.ym,by dsimp only;omega,h3,fun e=>?_⟩,fun _=>rfl,rfl⟩)
    have:=h.ok e
    exact ⟨this.1,by dsimp only;omega⟩
  · have h3:=zOF h3
    rw [h.yl] at h3
    exact ⟨h,fun hk=>absurd (Tk.last h hy hk) h3,rfl⟩
theorem zju {l m a P x} (k:Int) (hk:1 ≤ k) (h:Ok l m a P x):T (fun r=>Ok l m a P r.2∧(r.2.e=0→x.e=0∧r.2.at_=x.at_ + 1∧∃ t,Tk x t∧t.kind=k∧r.1=t.text)∧(r.2.e ≠ 0→r.1=⟨[]⟩)) (za9 x k):=by
  unfold za9
  refine T.cal (zex h) fun ⟨t,x'⟩ _ ⟨ht,hx⟩=>?_
  subst hx
  dsimp only at ht ⊢
  refine T.jp (fun b=>b=false→x'.e=0∧t.kind=k) (fun J h1=>T.br (fun _=>h1 _ fun h=>by cases h) fun h2=>h1 _ fun h3=>⟨by simpa using h2,by simpa using h3⟩) fun b hb=>T.br (fun _=>?_) fun h2=>?_
  · exact T.cal (ze9 _ _ h (by decide)) fun y _ hy=>T.some ⟨hy.1,fun e=>absurd e hy.2,fun _=>rfl⟩
  · obtain ⟨h3,h4⟩:=hb h2
    refine T.cal (zkV h) fun y _ hy=>T.some ⟨hy.2.1,fun e=>⟨h3,?_,t,ht,h4,?_⟩,fun e=>absurd (hy.2.2.2.trans h3) e⟩
    · have:y.1=t:=by have:=hy.1;unfold Tk at this ht;rw [ht] at this;cases this;rfl
      exact hy.2.2.1 (by rw [this];omega)
    · have:y.1=t:=by have:=hy.1;unfold Tk at this ht;rw [ht] at this;cases this;rfl
      rw [this]
theorem zbe {l m a P x} (s:Str) (h:Ok l m a P x):T (fun r=>Ok l m a P r.2∧r.2.e=x.e∧(r.1=true→x.e=0∧r.2.at_=x.at_ + 1)∧(r.1=false→r.2=x)) (zO x s):=by
  unfold zO
  refine T.cal (zex h) fun ⟨t,x'⟩ _ ⟨ht,hx⟩=>?_
  subst hx
  dsimp only at ht ⊢
  refine T.jp (fun b=>b=true→x'.e=0∧t.kind ≠ 0) (fun J h1=>T.br (fun h2=>?_) fun _=>h1 _ fun h=>by cases h) fun b hb=>?_
  · have h2:=zOT h2
    refine T.jp (fun b=>b=true→t.kind ≠ 0) (fun J h3=>T.br (fun h4=>h3 _ fun _=>by have:=zOT h4;omega) fun _=>h3 _ fun h=>by have:=zOT h;omega) fun b hb=>h1 _ fun h=>⟨h2,hb h⟩
  · refine T.jp (fun b=>b=true→x'.e=0∧t.kind ≠ 0) (fun J h1=>T.br (fun h2=>h1 _ fun _=>hb h2) fun _=>h1 _ fun h=>by cases h) fun b2 hb2=>T.br (fun h2=>?_) fun _=>T.some ⟨h,rfl,(fun h=>by cases h),fun _=>rfl⟩
    obtain ⟨h3,h4⟩:=hb2 h2
    refine T.cal (zkV h) fun y _ hy=>T.some ⟨hy.2.1,hy.2.2.2,fun _=>⟨h3,?_⟩,fun h=>by cases h⟩
    have:y.1=t:=by have:=hy.1;unfold Tk at this ht;rw [ht] at this;cases this;rfl
    exact hy.2.2.1 (by rw [this];exact h4)
theorem zbn {l m a P x} (s:Str) (h:Ok l m a P x):T (fun r=>Ok l m a P r∧(r.e=0→x.e=0∧r.at_=x.at_ + 1)) (zU x s):=by
  unfold zU
  refine T.jp (fun q=>Ok l m a P q.2∧(q.2.e=0→x.e=0)∧(q.1=false→q.2.e=0→q.2.at_=x.at_ + 1)) (fun J h1=>T.br (fun h2=>T.cal (zbe s h) fun y _ hy=>h1 _ ⟨hy.1,fun _=>zOT h2,fun h3 _=>(hy.2.2.1 (by simpa using h3)).2⟩) fun h2=>h1 _ ⟨h,fun h=>h,fun _ h3=>absurd h3 (zOF h2)⟩) fun q hq=>T.br (fun h2=>?_) fun h2=>T.some ⟨hq.1,fun h3=>⟨hq.2.1 h3,hq.2.2 h2 h3⟩⟩
  refine T.cal (zex hq.1) fun ⟨t,x'⟩ _ ⟨ht,hx⟩=>?_
  subst hx
  exact T.cal (ze9 _ _ hq.1 (by decide)) fun y _ hy=>T.some ⟨hy.1,fun e=>absurd e hy.2⟩
theorem zqi (t:GTok):T (fun _=>True) (zgY t):=by
  unfold zgY
  refine T.lp (fun (k:Int)=>0 ≤ k) (fun (k:Int)=>(10 - k).toNat) (Int.le_refl _) (by omega) fun L k hk hL=>?_
  refine T.br (fun h2=>?_) fun _=>T.some trivial
  have h2:k < 10:=zOT h2
  refine T.get hk h2 fun y _=>T.jp (fun _=>True) (fun J h3=>T.br (fun _=>T.jp (fun _=>True) (fun J4 h4=>T.br (fun _=>h4 _ trivial) fun _=>h4 _ trivial) fun _ _=>h3 _ trivial) fun _=>h3 _ trivial) fun q _=>T.br (fun _=>T.some trivial) fun _=>T.ck (by omega) (hL _ (by omega) (by omega))
end Go.Proofs.Q


namespace Go.Proofs.Q
open Go.Sy
set_option linter.unusedVariables false

theorem znw (s:Str) (h:NumOk s.b):T (fun r=>-9223372036854775808 ≤ r∧r ≤ 9223372036854775807) (zgu s):=by
  obtain ⟨ds,hd,hne,hlen,hv⟩:=h
  unfold zgu
  have hlb:s.b.length ≤ 20∧0 < s.b.length:=by
    have:0 < ds.length:=List.length_pos_iff.2 hne
    rcases hv with ⟨h1,_⟩ | ⟨h1,_⟩
    · rw [h1];omega
    · rw [h1];simp only [List.length_cons];omega
  refine T.get (Int.le_refl _) (by omega) fun y1 hy1=>?_
  refine T.jp (fun q=>q.b=ds∧(y1=45→1 ≤ dval ds∧dval ds ≤ 9223372036854775808)∧(y1 ≠ 45→dval ds < 9223372036854775808)) (fun J k=>T.br (fun h1=>?_) fun h1=>k _ ?_) fun q hq=>?_
  · have h1:=zOT h1
    refine T.asd (by omega) (k _ ?_)
    rcases hv with ⟨h2,h3⟩ | ⟨h2,h3⟩
    · exfalso
      rw [h2] at hy1
      have:=zf9 (hd y1 (List.mem_of_getElem? hy1))
      rw [h1] at this
      have e:(45:UInt8).toNat=45:=rfl
      omega
    · refine ⟨?_,fun _=>h3,fun h=>absurd h1 h⟩
      dsimp only
      rw [h2]
      simp
  · have h1:=zOF h1
    rcases hv with ⟨h2,h3⟩ | ⟨h2,h3⟩
    · exact ⟨h2,fun h=>absurd h h1,fun _=>h3⟩
    · rw [h2] at hy1
      simp at hy1
      exact absurd hy1.symm h1
  · obtain ⟨q1,q2,q3⟩:=hq
    refine T.lp (fun (p:UInt64 × Int)=>0 ≤ p.2∧p.2 ≤ (ds.length:Int)∧p.1=uval (ds.take p.2.toNat)) (fun (p:UInt64 × Int)=>((ds.length:Int) - p.2).toNat) ⟨Int.le_refl _,by dsimp only;omega,rfl⟩ (by dsimp only;omega) fun L p hp hL=>?_
    obtain ⟨v,k⟩:=p
    obtain ⟨p1,p2,p3⟩:=hp
    dsimp only at p1 p2 p3 ⊢
    rw [q1]
    refine T.br (fun h1=>?_) fun h1=>?_
    · have h1:=zOT h1
      refine T.get p1 h1 fun y hy=>T.ck (by omega) (hL _ ⟨by dsimp only;omega,by dsimp only;omega,?_⟩ (by dsimp only;omega))
      have e:(k + 1).toNat=k.toNat + 1:=by omega
      dsimp only
      rw [e,List.take_add_one,hy,Option.toList_some,zjP,p3]
    · have h1:=zOF h1
      rw [List.take_of_length_le (by omega)] at p3
      have hn:=znC ds hd hlen
      rw [← p3] at hn
      refine T.br (fun h2=>?_) fun h2=>?_
      · have h3:=q2 (zOT h2)
        have e:(v - 1).toNat=dval ds - 1:=by
          have e1:(1:UInt64).toNat=1:=rfl
          rw [UInt64.toNat_sub_of_le v 1 (by rw [UInt64.le_iff_toNat_le,e1];omega),e1,hn]
        rw [e]
        exact T.ck (by omega) (T.ck (by omega) (T.ck (by omega) (T.some (by omega))))
      · have h3:=q3 (zOF h2)
        exact T.ck (by omega) (T.some (by omega))
theorem zjM {l m a P x} (h:Ok l m a P x):T (fun r=>Ok l m a P r.2∧(r.2.e=0→x.e=0∧r.2.at_=x.at_ + 1)∧-9223372036854775808 ≤ r.1∧r.1 ≤ 9223372036854775807) (zby x):=by
  unfold zby
  refine T.cal (zju 3 (by decide) h) fun r _ hr=>T.br (fun h2=>T.some ⟨hr.1,fun e=>⟨(hr.2.1 e).1,(hr.2.1 e).2.1⟩,by dsimp only;omega,by dsimp only;omega⟩) fun h2=>?_
  have h2:=zOF h2
  by_cases he:r.2.e=0
  · obtain ⟨h3,h4,t,h5,h6,h7⟩:=hr.2.1 he
    refine T.cal (znw r.1 (by rw [h7];exact (Tk.ok h h5).num h6)) fun v _ hv=>T.some ⟨hr.1,fun e=>⟨h3,h4⟩,hv⟩
  · exact absurd (hr.2.2 he) h2
theorem zmz {l m a P x} (h:Ok l m a P x):T (fun r=>Ok l m a P r.2∧(r.2.e=0→x.e=0)) (zck x):=by
  unfold zck
  refine T.cal (zbe _ h) fun r _ hr=>T.jp (fun q=>Ok l m a P q.1∧(q.1.e=0→x.e=0)) (fun J k=>T.br (fun _=>T.cal (zjM hr.1) fun s _ hs=>k _ ⟨hs.1,fun e=>hr.2.1 ▸ (hs.2.1 e).1⟩) fun _=>k _ ⟨hr.1,fun e=>hr.2.1 ▸ e⟩) fun q hq=>?_
  refine T.jp (fun q=>Ok l m a P q.1∧(q.1.e=0→x.e=0)) (fun J k=>T.cal (zbe _ hq.1) fun s _ hs=>T.br (fun _=>T.cal (zbe _ hs.1) fun u _ hu=>T.br (fun _=>T.cal (zjM hu.1) fun v _ hv=>k _ ⟨hv.1,fun e=>hq.2 (hs.2.1 ▸ hu.2.1 ▸ (hv.2.1 e).1)⟩) fun _=>k _ ⟨hu.1,fun e=>hq.2 (hs.2.1 ▸ hu.2.1 ▸ e)⟩) fun _=>T.br (fun _=>k _ ⟨hs.1,fun e=>hq.2 (hs.2.1 ▸ e)⟩) fun _=>k _ ⟨hs.1,fun e=>hq.2 (hs.2.1 ▸ e)⟩) fun q2 hq2=>?_
  refine T.cal (zbe _ hq2.1) fun s _ hs=>T.jp (fun q=>Ok l m a P q.1∧(q.1.e=0→x.e=0)) (fun J k=>T.br (fun _=>T.cal (zbn _ hs.1) fun u _ hu=>k _ ⟨hu.1,fun e=>hq2.2 (hs.2.1 ▸ (hu.2 e).1)⟩) fun _=>k _ ⟨hs.1,fun e=>hq2.2 (hs.2.1 ▸ e)⟩) fun q3 hq3=>T.some hq3
theorem zmK {l m a P x} (h:Ok l m a P x):T (fun r=>Ok l m a P r.2∧(r.2.e=0→x.e=0)) (zcn x):=by
  unfold zcn
  refine T.cal (zbe _ h) fun r _ hr=>T.br (fun _=>T.some ⟨hr.1,fun e=>hr.2.1 ▸ e⟩) fun _=>?_
  refine T.cal (zbn _ hr.1) fun y1 _ h1=>T.cal (zbn _ h1.1) fun y2 _ h2=>T.cal (zmz h2.1) fun y3 _ h3=>T.cal (zbn _ h3.1) fun y4 _ h4=>T.cal (zbn _ h4.1) fun y5 _ h5=>T.some ⟨h5.1,fun e=>?_⟩
  exact hr.2.1 ▸ (h1.2 (h2.2 (h3.2 (h4.2 (h5.2 e).1).1)).1).1

def I64 (x:Int):Prop:=-9223372036854775808 ≤ x∧x ≤ 9223372036854775807
def IOk (n:GNode):Prop:=(∀ it ∈ n.items,I64 it.number)∧(n.more=true→0 ≤ n.root∧n.root ≤ n.items.length)
structure SameN (n n':GNode):Prop where
  kind:n'.kind=n.kind
  fields:n'.fields=n.fields
  of:n'.of=n.of
theorem zrR {l m a P x} (n:GNode) (h:Ok l m a P x) (hn:n.items=[]) (hm:n.more=false):T (fun r=>Ok l m a P r.1∧(r.1.e=0→x.e=0)∧SameN n r.2∧(∀ it ∈ r.2.items,I64 it.number)∧0 ≤ r.2.root∧r.2.root ≤ r.2.items.length∧r.2.items.length ≤ 8001) (zde x n):=by
  unfold zde
  have hl:=h.toks.len
  refine T.jp (fun q=>Ok l m a P q.1∧(q.1.e=0→x.e=0)∧SameN n q.2∧IOk q.2∧q.2.items.length ≤ 8001) (fun J k=>?_) fun q hq=>T.br (fun _=>T.some ⟨hq.1,hq.2.1,⟨hq.2.2.1.kind,hq.2.2.1.fields,hq.2.2.1.of⟩,hq.2.2.2.1.1,by dsimp only;omega,Int.le_refl _,hq.2.2.2.2⟩) fun hm2=>T.some ⟨hq.1,hq.2.1,hq.2.2.1,hq.2.2.2.1.1,(hq.2.2.2.1.2 (by simpa using hm2)).1,(hq.2.2.2.1.2 (by simpa using hm2)).2,hq.2.2.2.2⟩
  have ha0:=h.a0
  have ha1:=h.a1
  refine T.lp (fun (q:GPar × GNode)=>Ok l m a P q.1∧(q.1.e=0→x.e=0)∧SameN n q.2∧(q.2.items.length:Int) ≤ q.1.at_∧IOk q.2) (fun (q:GPar × GNode)=>((l.length:Int) - q.1.at_).toNat) ⟨h,fun e=>e,⟨rfl,rfl,rfl⟩,by dsimp only;rw [hn];simpa using ha0,by dsimp only;rw [hn];simp,fun h=>by dsimp only at h;rw [hm] at h;cases h⟩ (by dsimp only;omega) fun L q hq hL=>?_
  obtain ⟨y,n1⟩:=q
  obtain ⟨h1,h2,h3,h4,h5⟩:=hq
  dsimp only at h1 h2 h3 h4 h5 ⊢
  refine T.br (fun he=>?_) fun _=>k _ ⟨h1,h2,h3,h5,by have:=h1.a1;dsimp only;omega⟩
  have he:=zOT he
  refine T.jp (fun _=>True) (fun J2 k2=>T.br (fun _=>k2 _ trivial) fun _=>k2 _ trivial) fun b _=>?_
  refine T.jp (fun (q:Bool × GPar)=>Ok l m a P q.2∧q.2.e=y.e∧(q.1=true→q.2.at_=y.at_ + 1)∧(q.1=false→q.2.at_=y.at_)) (fun J3 k3=>T.br (fun _=>T.cal (zbe _ h1) fun r _ hr=>k3 _ ⟨hr.1,hr.2.1,fun e=>(hr.2.2.1 e).2,fun e=>by rw [hr.2.2.2 e]⟩) fun _=>k3 _ ⟨h1,rfl,(fun h=>by cases h),fun _=>rfl⟩) fun q3 hq3=>?_
  refine T.jp (fun (q:GPar × GNode)=>Ok l m a P q.1∧(q.1.e=0→q.1.at_ ≥ y.at_ + 1)∧SameN n q.2∧(q.2.items.length:Int) ≤ y.at_ + 1∧IOk q.2) (fun J4 k4=>T.br (fun hb=>k4 _ ⟨hq3.1,fun _=>by dsimp only;rw [hq3.2.2.1 hb];omega,⟨h3.kind,h3.fields,h3.of⟩,by dsimp only;omega,h5.1,fun _=>⟨by dsimp only;omega,Int.le_refl _⟩⟩) fun hb=>?_) fun q4 hq4=>?_
  · have hq5:=hq3.2.2.2 hb
    refine T.cal (zju 2 (by decide) hq3.1) fun r _ hr=>T.cal (zbe _ hr.1) fun s _ hs=>T.jp (fun (q:GPar × GItem)=>Ok l m a P q.1∧(q.1.e=0→r.2.e=0∧q.1.at_ ≥ r.2.at_)∧I64 q.2.number) (fun J5 k5=>T.br (fun hb2=>T.cal (zjM hs.1) fun u _ hu=>T.cal (zbn _ hu.1) fun w _ hw=>k5 _ ⟨hw.1,fun e=>?_,hu.2.2⟩) fun hb2=>k5 _ ⟨hs.1,fun e=>⟨hs.2.1 ▸ e,by dsimp only;rw [hs.2.2.2 hb2];omega⟩,by unfold I64;dsimp only;omega⟩) fun q5 hq5'=>T.abl ?_ (k4 _ ⟨hq5'.1,fun e=>?_,⟨h3.kind,h3.fields,h3.of⟩,?_,?_,?_⟩)
    · have e1:=hw.2 e
      have e2:=hu.2.1 e1.1
      have e3:=hs.2.2.1 hb2
      exact ⟨e3.1,by dsimp only at e ⊢;omega⟩
    · have h9:=h1.a1
      simp only [List.length_singleton];omega
    · have e1:=hq5'.2.1 e
      have e2:=hr.2.1 e1.1
      dsimp only at e ⊢
      omega
    · simp only [List.length_append,List.length_singleton];omega
    · intro it hit
      rcases List.mem_append.1 hit with h | h
      · exact h5.1 it h
      · rw [List.mem_singleton.1 h];exact hq5'.2.2
    · intro hmo
      have:=h5.2 hmo
      simp only [List.length_append,List.length_singleton]
      omega
  · refine T.cal (zbe _ hq4.1) fun r _ hr=>T.br (fun hb=>k _ ⟨hr.1,fun _=>h2 he,hq4.2.2.1,hq4.2.2.2.2,by have:=h1.a1;have:=hq4.2.2.2.1;dsimp only;omega⟩) fun hb=>?_
    have hb:r.1=true:=by simpa using hb
    have e1:=hr.2.2.1 hb
    have e2:=hq4.2.1 e1.1
    have e3:=hr.1.a1
    exact hL _ ⟨hr.1,fun _=>h2 he,hq4.2.2.1,by dsimp only;omega,hq4.2.2.2.2⟩ (by dsimp only;omega)
end Go.Proofs.Q


namespace Go.Proofs.Q
open Go.Sy
set_option linter.unusedVariables false

theorem zsV (s:Str) (hl:s.b.length ≤ 1000000):T (fun r=>r.length ≤ s.b.length) (zlf s):=by
  unfold zlf
  refine T.lp (fun (q:List UInt8 × Int)=>0 ≤ q.2∧q.2 ≤ (s.b.length:Int)∧(q.1.length:Int) ≤ q.2) (fun (q:List UInt8 × Int)=>((s.b.length:Int) - q.2).toNat) ⟨Int.le_refl _,by dsimp only;omega,by simp⟩ (by dsimp only;omega) fun L q hq hL=>?_
  obtain ⟨o,i⟩:=q
  obtain ⟨h1,h2,h3⟩:=hq
  dsimp only at h1 h2 h3 ⊢
  refine T.ck (by omega) (T.br (fun hb=>?_) fun _=>T.some (by omega))
  have hb:=zOT hb
  refine T.lp (fun (p:UInt8 × Int)=>i ≤ p.2∧p.2 ≤ i + 2) (fun (p:UInt8 × Int)=>(i + 2 - p.2).toNat) ⟨Int.le_refl _,by dsimp only;omega⟩ (by dsimp only;omega) fun L2 p hp hL2=>?_
  obtain ⟨v,k⟩:=p
  obtain ⟨h4,h5⟩:=hp
  dsimp only at h4 h5 ⊢
  refine T.ck (by omega) (T.br (fun hb2=>?_) fun hb2=>?_)
  · have hb2:=zOT hb2
    refine T.get (by omega) (by omega) fun y _=>T.get (by omega) (by omega) fun y2 _=>T.jp (fun _=>True) (fun J h6=>T.br (fun _=>T.get (by omega) (by omega) fun _ _=>h6 _ trivial) fun _=>h6 _ trivial) fun u _=>T.asr (by decide) (T.ck (by omega) (hL2 _ ⟨by dsimp only;omega,by dsimp only;omega⟩ (by dsimp only;omega)))
  · refine T.abl ?_ (T.ck (by omega) (hL _ ⟨by dsimp only;omega,by dsimp only;omega,?_⟩ (by dsimp only;omega)))
    · simp only [List.length_singleton];omega
    · simp only [List.length_append,List.length_singleton];omega

def DOk (v:Val):Prop:=v.b.length ≤ 8000∧v.l=[]∧v.more=[]∧0 ≤ v.kind∧v.kind ≤ 6∧v.rule=0
theorem Tk.eq {x:GPar} {t t':GTok} (h:Tk x t) (h':Tk x t'):t'=t:=by unfold Tk at h h';rw [h] at h';cases h';rfl
theorem zrn {l m a P x} (h:Ok l m a P x):T (fun r=>Ok l m a P r.2∧DOk r.1) (zc9 x):=by
  unfold zc9
  refine T.cal (zex h) fun ⟨t,x'⟩ _ ⟨ht,hx⟩=>?_
  subst hx
  dsimp only at ht ⊢
  refine T.jp (fun y=>Ok l m a P y) (fun J k=>T.br (fun _=>k _ h) fun _=>?_) fun y hy=>T.some ⟨hy,Nat.zero_le _,rfl,rfl,zOT rfl,zOT rfl,rfl⟩
  refine T.cal (zbe _ h) fun y1 _ h1=>T.br (fun _=>T.some ⟨h1.1,⟨Nat.zero_le _,rfl,rfl,zOT rfl,zOT rfl,rfl⟩⟩) fun b1=>?_
  refine T.cal (zbe _ h1.1) fun y2 _ h2=>T.br (fun _=>T.some ⟨h2.1,⟨Nat.zero_le _,rfl,rfl,zOT rfl,zOT rfl,rfl⟩⟩) fun b2=>?_
  refine T.cal (zbe _ h2.1) fun y3 _ h3=>T.br (fun _=>T.some ⟨h3.1,⟨Nat.zero_le _,rfl,rfl,zOT rfl,zOT rfl,rfl⟩⟩) fun b3=>?_
  have e:y3.2=x':=by rw [h3.2.2.2 b3,h2.2.2.2 b2,h1.2.2.2 b1]
  have htl:=(Tk.ok h ht).len
  have hnx:=zkV h3.1
  rw [e] at hnx
  refine T.br (fun hk=>?_) fun _=>T.br (fun hk=>?_) fun _=>T.br (fun hk=>?_) fun _=>T.br (fun hk=>?_) fun _=>?_
  · rw [e]
    refine T.cal hnx fun r _ hr=>T.cal (znw r.1.text ?_) fun v _ _=>T.some ⟨hr.2.1,Nat.zero_le _,rfl,rfl,zOT rfl,zOT rfl,rfl⟩
    rw [Tk.eq ht hr.1];exact (Tk.ok h ht).num (zOT hk)
  · rw [e]
    refine T.cal hnx fun r _ hr=>T.abl ?_ (T.some ⟨hr.2.1,?_,rfl,rfl,zOT rfl,zOT rfl,rfl⟩)
    · rw [Tk.eq ht hr.1];omega
    · have h9:r.1.text.b.length ≤ 8000:=by rw [Tk.eq ht hr.1];omega
      exact h9
  · rw [e]
    refine T.cal hnx fun r _ hr=>T.cal (zsV r.1.text ?_) fun v _ hv=>T.some ⟨hr.2.1,?_,rfl,rfl,zOT rfl,zOT rfl,rfl⟩
    · rw [Tk.eq ht hr.1];omega
    · have h9:v.length ≤ 8000:=by rw [Tk.eq ht hr.1] at hv;omega
      exact h9
  · rw [e]
    refine T.cal hnx fun r _ hr=>T.abl ?_ (T.some ⟨hr.2.1,?_,rfl,rfl,zOT rfl,zOT rfl,rfl⟩)
    · rw [Tk.eq ht hr.1];omega
    · have h9:r.1.text.b.length ≤ 8000:=by rw [Tk.eq ht hr.1];omega
      exact h9
  · exact T.cal (ze9 _ _ h3.1 (by decide)) fun y _ hy=>k _ hy.1

def kidsOf (n:GNode):List Int:=if n.kind=11 then [] else n.fields.map (fun f=>f.ty) ++ (if n.kind=10 then [n.of] else [])
def Kids (S:Nat→Nat→Prop):List Int→Nat→Nat→Prop
  | [],a,b=>a=b
  | k :: r,a,b=>∃ c,k=(a:Int)∧S a c∧Kids S r c b
def Sub:Nat→List GNode→Nat→Nat→Prop
  | 0,_,_,_=>False
  | h + 1,l,i,j=>∃ n,l[i]?=some n∧Kids (Sub h l) (kidsOf n) (i + 1) j
theorem Kids.le {S:Nat→Nat→Prop} (hS:∀ x y,S x y→x ≤ y):∀ {r a b},Kids S r a b→a ≤ b:=by
  intro r
  induction r with
  | nil=>intro a b h;exact Nat.le_of_eq h
  | cons k r ih=>intro a b ⟨c,_,h1,h2⟩;exact Nat.le_trans (hS _ _ h1) (ih h2)
theorem Sub.lt:∀ {h l i j},Sub h l i j→i < j:=by
  intro h
  induction h with
  | zero=>intro l i j h;exact h.elim
  | succ h ih=>intro l i j ⟨n,_,h2⟩;exact Kids.le (fun x y h=>Nat.le_of_lt (ih h)) h2
theorem Kids.mono {S S':Nat→Nat→Prop} (hS:∀ x y,S x y→x ≤ y):∀ {r a b},(∀ x y,a ≤ x→y ≤ b→S x y→S' x y)→Kids S r a b→Kids S' r a b:=by
  intro r
  induction r with
  | nil=>intro a b _ h;exact h
  | cons k r ih =>
    intro a b hm ⟨c,h0,h1,h2⟩
    have:=Kids.le hS h2
    exact ⟨c,h0,hm _ _ (Nat.le_refl _) this h1,ih (fun x y hx hy=>hm x y (Nat.le_trans (hS _ _ h1) hx) hy) h2⟩
theorem Kids.snoc {S:Nat→Nat→Prop} {c:Nat}:∀ {r a b},Kids S r a b→S b c→Kids S (r ++ [(b:Int)]) a c:=by
  intro r
  induction r with
  | nil=>intro a b h h2;cases h;exact ⟨c,rfl,h2,rfl⟩
  | cons k r ih=>intro a b ⟨d,h0,h1,h3⟩ h2;exact ⟨d,h0,h1,ih h3 h2⟩
theorem Sub.mono:∀ {h l l' i j},(∀ k,i ≤ k→k < j→l'[k]?=l[k]?)→Sub h l i j→Sub h l' i j:=by
  intro h
  induction h with
  | zero=>intro l l' i j _ h;exact h
  | succ h ih =>
    intro l l' i j hl hs
    have hlt:=hs.lt
    obtain ⟨n,h1,h2⟩:=hs
    refine ⟨n,by rw [hl i (Nat.le_refl _) hlt];exact h1,Kids.mono (fun x y h=>Nat.le_of_lt h.lt) (fun x y hx hy hs=>ih (fun k h3 h4=>hl k (by omega) (by omega)) hs) h2⟩
theorem Kids.monoL {h l l' r a b} (hl:∀ k,a ≤ k→k < b→l'[k]?=l[k]?) (hk:Kids (Sub h l) r a b):Kids (Sub h l') r a b :=
  Kids.mono (fun x y h=>Nat.le_of_lt h.lt) (fun x y hx hy hs=>hs.mono fun k h3 h4=>hl k (by omega) (by omega)) hk
def FOk (n:GNode):Prop:=∀ f ∈ n.fields,DOk f.dflt
structure NodeOk (n:GNode):Prop where
  root0:0 ≤ n.root
  items:n.kind=3→n.root ≤ n.items.length
  nums:∀ it ∈ n.items,I64 it.number
  ilen:n.items.length ≤ 8001
  fields:n.kind=7 ∨ n.kind=8 ∨ n.kind=9→n.root ≤ n.fields.length
  dflt:FOk n
  rootZ:n.kind ≠ 3→¬ (n.kind=7 ∨ n.kind=8 ∨ n.kind=9)→n.root=0
structure Grow (m m':GMod):Prop where
  name:m'.name=m.name
  tagging:m'.tagging=m.tagging
  names:m'.names=m.names
  types:m'.types=m.types
  le:m.nodes.length ≤ m'.nodes.length
  lim:m'.nodes.length ≤ 300
  pre:∀ i,i < m.nodes.length→m'.nodes[i]?=m.nodes[i]?
  ok:(∀ n ∈ m.nodes,NodeOk n)→∀ n ∈ m'.nodes,NodeOk n
theorem Grow.refl {m:GMod} (h:m.nodes.length ≤ 300):Grow m m:=⟨rfl,rfl,rfl,rfl,Nat.le_refl _,h,fun _ _=>rfl,fun h=>h⟩
theorem Grow.trans {m m' m'':GMod} (h:Grow m m') (h':Grow m' m''):Grow m m'' :=
  ⟨h'.name.trans h.name,h'.tagging.trans h.tagging,h'.names.trans h.names,h'.types.trans h.types,Nat.le_trans h.le h'.le,h'.lim,fun i hi=>(h'.pre i (Nat.lt_of_lt_of_le hi h.le)).trans (h.pre i hi),fun k=>h'.ok (h.ok k)⟩
end Go.Proofs.Q


namespace Go.Proofs.Q
open Go.Sy
set_option linter.unusedVariables false

def NI (n q:GNode):Prop:=q.kind=n.kind∧FOk q∧(q.more=true→0 ≤ q.root∧q.root ≤ q.fields.length)
def FX (n r:GNode):Prop:=r.kind=n.kind∧r.more=n.more∧r.root=n.root∧(FOk n→FOk r)
theorem NI.next {n q r:GNode} (h:NI n q) (k:FX q r) (hl:r.fields.length=q.fields.length + 1):NI n r :=
  ⟨k.1.trans h.1,k.2.2.2 h.2.1,fun e=>by have:=h.2.2 (k.2.1 ▸ e);rw [k.2.2.1,hl];omega⟩
def TypS (l:List GTok) (f:GPar→Int→Option (Int × GPar)) (D:Nat):Prop:=∀ x m a P (d:Int),Ok l m a P x→m.nodes.length ≤ 300→0 ≤ d→d + D=17 →
  T (fun r=>∃ m',Grow m m'∧Ok l m' a (P∧r.1=(m.nodes.length:Int)∧Sub D m'.nodes m.nodes.length m'.nodes.length) r.2) (f x d)
def BaseS (l:List GTok) (f:GPar→GNode→Int→Option (GPar × GNode)) (D:Nat):Prop:=∀ x n m a P (d:Int),Ok l m a P x→m.nodes.length ≤ 300→0 ≤ d→d + D=16→n.fields=[]→n.items=[]→n.kind=0→n.more=false→n.root=0 →
  T (fun r=>(∃ m',Grow m m'∧Ok l m' a (P∧Kids (Sub D m'.nodes) (kidsOf r.2) m.nodes.length m'.nodes.length) r.1)∧NodeOk r.2) (f x n d)
def FieldsS (l:List GTok) (f:GPar→GNode→Int→Option (GPar × GNode)) (D:Nat):Prop:=∀ x n m a P (d:Int),Ok l m a P x→m.nodes.length ≤ 300→0 ≤ d→d + D=16→n.fields=[]→n.more=false→n.root=0 →
  T (fun r=>(∃ m',Grow m m'∧Ok l m' a (P∧Kids (Sub D m'.nodes) (r.2.fields.map (fun f=>f.ty)) m.nodes.length m'.nodes.length) r.1)∧r.2.kind=n.kind∧r.2.items=n.items∧FOk r.2∧0 ≤ r.2.root∧r.2.root ≤ r.2.fields.length) (f x n d)
def FieldS (l:List GTok) (f:GPar→GNode→Int→Int→Option (GPar × GNode)) (D:Nat):Prop:=∀ x n m a P (d g:Int) b0,Ok l m a (P∧Kids (Sub D m.nodes) (n.fields.map (fun f=>f.ty)) b0 m.nodes.length) x→m.nodes.length ≤ 300→0 ≤ d→d + D=16→(n.fields.length:Int) ≤ x.at_→b0 ≤ m.nodes.length →
  T (fun r=>(∃ m',Grow m m'∧Ok l m' a (P∧Kids (Sub D m'.nodes) (r.2.fields.map (fun f=>f.ty)) b0 m'.nodes.length∧x.at_ + 1 ≤ r.1.at_) r.1)∧(FX n r.2∧r.2.items=n.items)∧r.2.fields.length=n.fields.length + 1) (f x n d g)

theorem zpJ {l F Ty B Fs D} (hT:TypS l Ty D):FieldS l (zcB F Ty B Fs) D:=by
  intro x n m a P d g b0 h hm hd0 hd hn hb
  unfold zcB
  have hl:=h.toks.len
  have ha:=h.a1
  refine T.cal (zju 2 (by decide) h) fun r _ hr=>T.ck (by omega) ?_
  have h1:Ok l m (x.at_ + 1) ((P∧Kids (Sub D m.nodes) (n.fields.map (fun f=>f.ty)) b0 m.nodes.length)∧a ≤ x.at_) r.2:=hr.1.to fun e h2 h3=>⟨⟨h2,(h.ok (hr.2.1 e).1).2⟩,by have:=hr.2.1 e;omega⟩
  refine T.cal (hT _ _ _ _ (d + 1) h1 hm (by omega) (by omega)) fun s _ ⟨m',hg,hs⟩=>?_
  refine T.jp (fun q=>Ok l m' (x.at_ + 1) (((P∧Kids (Sub D m.nodes) (n.fields.map (fun f=>f.ty)) b0 m.nodes.length)∧a ≤ x.at_)∧s.1=(m.nodes.length:Int)∧Sub D m'.nodes m.nodes.length m'.nodes.length) q.2∧q.1.ty=s.1∧DOk q.1.dflt) (fun J k=>?_) fun q hq=>?_
  · refine T.br (fun _=>k _ ⟨hs,rfl,Nat.zero_le _,rfl,rfl,zOT rfl,zOT rfl,rfl⟩) fun _=>T.cal (zbe _ hs) fun y1 _ e1=>T.br (fun _=>k _ ⟨e1.1,rfl,Nat.zero_le _,rfl,rfl,zOT rfl,zOT rfl,rfl⟩) fun _=>T.cal (zbe _ e1.1) fun y2 _ e2=>T.br (fun _=>T.cal (zrn e2.1) fun y3 _ e3=>k _ ⟨e3.1,rfl,e3.2⟩) fun _=>k _ ⟨e2.1,rfl,Nat.zero_le _,rfl,rfl,zOT rfl,zOT rfl,rfl⟩
  · refine T.abl (by simp only [List.length_singleton];omega) (T.some ⟨⟨m',hg,hq.1.to fun e ⟨⟨⟨p1,p2⟩,p3⟩,p4,p5⟩ p6=>⟨⟨p1,?_,p6⟩,?_⟩⟩,⟨⟨rfl,rfl,rfl,fun hf f hf2=>?_⟩,rfl⟩,by simp⟩)
    rotate_left 2
    · rcases List.mem_append.1 hf2 with h | h
      · exact hf f h
      · rw [List.mem_singleton.1 h];exact hq.2.2
    · dsimp only
      rw [List.map_append,List.map_singleton,hq.2.1,p4]
      exact (p2.monoL fun k hk1 hk2=>hg.pre k hk2).snoc p5
    · omega

theorem zo8 {l F Ty B Fs D} (hF:FieldS l F D):FieldsS l (zcp F Ty B Fs) D:=by
  intro x n m a P d h hm hd0 hd hn hnm hnr
  have hni:NI n n:=⟨rfl,by unfold FOk;rw [hn];simp,fun h=>by rw [hnm] at h;cases h⟩
  unfold zcp
  have hl:=h.toks.len
  have ha0:=h.a0
  have ha1:=h.a1
  have hk0:Kids (Sub D m.nodes) (n.fields.map (fun f=>f.ty)) m.nodes.length m.nodes.length:=by rw [hn];rfl
  refine T.cal (zbe _ h) fun r _ hr=>T.br (fun _=>T.some ⟨⟨m,Grow.refl hm,hr.1.to fun e p1 p2=>⟨⟨p1,hk0⟩,p2⟩⟩,rfl,rfl,hni.2.1,by dsimp only;omega,by dsimp only;omega⟩) fun hb=>?_
  have hrx:=hr.2.2.2 hb
  -- what holds between
  refine T.jp (fun (q:GPar × GNode)=>(∃ m',Grow m m'∧Ok l m' a (P∧Kids (Sub D m'.nodes) (q.2.fields.map (fun f=>f.ty)) m.nodes.length m'.nodes.length) q.1)∧(NI n q.2∧q.2.items=n.items)) (fun J k=>?_) fun q ⟨⟨m',hg,hq⟩,hqk⟩=>?_
  · refine T.lp (fun (q:Int × GPar × GNode)=>((∃ m',Grow m m'∧Ok l m' a (P∧Kids (Sub D m'.nodes) (q.2.2.fields.map (fun f=>f.ty)) m.nodes.length m'.nodes.length) q.2.1)∧(NI n q.2.2∧q.2.2.items=n.items))∧0 ≤ q.1∧q.1 ≤ q.2.1.at_∧(q.2.2.fields.length:Int) ≤ q.2.1.at_) (fun (q:Int × GPar × GNode)=>((l.length:Int) - q.2.1.at_).toNat) ⟨⟨⟨m,Grow.refl hm,hr.1.to fun e p1 p2=>⟨⟨p1,hk0⟩,p2⟩⟩,⟨hni,rfl⟩⟩,Int.le_refl _,by dsimp only;rw [hrx];exact ha0,by dsimp only;rw [hrx,hn];exact ha0⟩ (by dsimp only;rw [hrx];omega) fun L q hq hL=>?_
    obtain ⟨g,y,n1⟩:=q
    obtain ⟨⟨⟨m1,hg1,h1⟩,hk1⟩,h2,h3,h4⟩:=hq
    dsimp only at h1 h2 h3 h4 hk1 ⊢
    have hy1:=h1.a1
    refine T.br (fun he=>?_) fun _=>k _ ⟨⟨m1,hg1,h1⟩,hk1⟩
    have he:=zOT he
    refine T.jp (fun (q:Int × GPar × GNode)=>((∃ m',Grow m m'∧Ok l m' a (P∧Kids (Sub D m'.nodes) (q.2.2.fields.map (fun f=>f.ty)) m.nodes.length m'.nodes.length) q.2.1)∧(NI n q.2.2∧q.2.2.items=n.items))∧0 ≤ q.1∧(q.2.1.e=0→q.1 ≤ q.2.1.at_ + 1∧(q.2.2.fields.length:Int) ≤ q.2.1.at_ + 1∧y.at_ ≤ q.2.1.at_)) (fun J2 k2=>?_) fun q hq=>?_
    · refine T.jp (fun (q:Bool × GPar)=>Ok l m1 a (P∧Kids (Sub D m1.nodes) (n1.fields.map (fun f=>f.ty)) m.nodes.length m1.nodes.length) q.2∧q.2.at_ ≥ y.at_∧(q.1=false→q.2=y)) (fun J3 k3=>T.br (fun _=>T.cal (zbe _ h1) fun u _ hu=>k3 _ ⟨hu.1,?_,hu.2.2.2⟩) fun _=>k3 _ ⟨h1,Int.le_refl _,fun _=>rfl⟩) fun q3 hq3=>?_
      · cases hu1:u.1 with
        | true=>have:=hu.2.2.1 hu1;dsimp only;omega
        | false=>have:=hu.2.2.2 hu1;dsimp only;rw [this];omega
      refine T.br (fun _=>k2 _ ⟨⟨⟨m1,hg1,hq3.1⟩,⟨⟨hk1.1.1,hk1.1.2.1,fun _=>⟨by dsimp only;omega,Int.le_refl _⟩⟩,hk1.2⟩⟩,h2,fun _=>⟨by dsimp only;omega,by dsimp only;omega,by dsimp only;omega⟩⟩) fun b3=>?_
      have e3:=hq3.2.2 b3
      refine T.jp (fun (q:Bool × GPar)=>Ok l m1 a (P∧Kids (Sub D m1.nodes) (n1.fields.map (fun f=>f.ty)) m.nodes.length m1.nodes.length) q.2∧q.2.at_ ≥ y.at_∧(q.1=true→q.2.at_ ≥ y.at_ + 1)∧(q.1=false→q.2=y)) (fun J3 k3=>T.br (fun _=>T.cal (zbe _ hq3.1) fun u _ hu=>k3 _ ⟨hu.1,?_,fun hu1=>?_,fun hu1=>?_⟩) fun _=>k3 _ ⟨hq3.1,by dsimp only;omega,(fun h=>by cases h),fun _=>e3⟩) fun q4 hq4=>?_
      · cases hu1:u.1 with
        | true=>have:=hu.2.2.1 hu1;dsimp only;omega
        | false=>have:=hu.2.2.2 hu1;dsimp only;rw [this];omega
      · have:=hu.2.2.1 hu1;dsimp only;omega
      · have:=hu.2.2.2 hu1;dsimp only;rw [this,e3]
      refine T.br (fun b4=>T.ck (by omega) ?_) fun b4=>?_
      · have a4:=hq4.2.2.1 b4
        have a5:=hq4.1.a1
        refine T.jp (fun (q:GPar × GNode)=>(∃ m',Grow m m'∧Ok l m' a (P∧Kids (Sub D m'.nodes) (q.2.fields.map (fun f=>f.ty)) m.nodes.length m'.nodes.length) q.1)∧(NI n q.2∧q.2.items=n.items)∧(q.1.e=0→(q.2.fields.length:Int) ≤ q.1.at_ + 1∧q4.2.at_ ≤ q.1.at_)) (fun J5 k5=>?_) fun q ⟨⟨m2,hg2,hq⟩,hqk,hql⟩=>?_
        · refine T.lp (fun (q:GPar × GNode)=>(∃ m',Grow m m'∧Ok l m' a (P∧Kids (Sub D m'.nodes) (q.2.fields.map (fun f=>f.ty)) m.nodes.length m'.nodes.length) q.1)∧(NI n q.2∧q.2.items=n.items)∧(q.2.fields.length:Int) ≤ q.1.at_∧q4.2.at_ ≤ q.1.at_) (fun (q:GPar × GNode)=>((l.length:Int) - q.1.at_).toNat) ⟨⟨m1,hg1,hq4.1⟩,hk1,by dsimp only;omega,Int.le_refl _⟩ (by have:=hq4.1.a0;dsimp only;omega) fun L6 q ⟨⟨m2,hg2,hq⟩,hqk,hql,hqa⟩ hL6=>?_
          refine T.br (fun b6=>?_) fun _=>k5 _ ⟨⟨m2,hg2,hq⟩,hqk,fun _=>⟨by dsimp only;omega,hqa⟩⟩
          refine T.cal (hF _ _ _ _ _ _ _ _ hq hg2.lim hd0 hd hql hg2.le) fun s _ ⟨⟨m3,hg3,hs⟩,hsk,hsl⟩=>T.cal (zbe _ hs) fun u _ hu=>T.br (fun b7=>k5 _ ⟨⟨m3,hg2.trans hg3,hu.1.to fun e ⟨p1,p2,p3⟩ p4=>⟨⟨p1,p2⟩,p4⟩⟩,⟨hqk.1.next hsk.1 hsl,hsk.2.trans hqk.2⟩,fun e=>?_⟩) fun b7=>?_
          · have b7:u.1=false:=by simpa using b7
            have e7:=hu.2.2.2 b7
            have e8:=(hs.ok (by rw [← e7];exact e)).1.2.2
            dsimp only
            rw [e7]
            exact ⟨by omega,by omega⟩
          · have b7:u.1=true:=by simpa using b7
            have e7:=hu.2.2.1 b7
            have e8:=(hs.ok e7.1).1.2.2
            have e9:=hu.1.a1
            exact hL6 _ ⟨⟨m3,hg2.trans hg3,hu.1.to fun e ⟨p1,p2,p3⟩ p4=>⟨⟨p1,p2⟩,p4⟩⟩,⟨hqk.1.next hsk.1 hsl,hsk.2.trans hqk.2⟩,by dsimp only;omega,by dsimp only;omega⟩ (by dsimp only;omega)
        · refine T.cal (zbn _ hq) fun w _ hw=>k2 _ ⟨⟨⟨m2,hg2,hw.1⟩,hqk⟩,by dsimp only;omega,fun e=>?_⟩
          have e1:=hw.2 e
          have e2:=hql e1.1
          dsimp only
          omega
      · have e4:=hq4.2.2.2 b4
        refine T.cal (hF _ _ _ _ _ _ (0:Int) _ hq4.1 hg1.lim hd0 hd (by rw [e4];exact h4) hg1.le) fun s _ ⟨⟨m3,hg3,hs⟩,hsk,hsl⟩=>k2 _ ⟨⟨⟨m3,hg1.trans hg3,hs.to fun e ⟨p1,p2,p3⟩ p4=>⟨⟨p1,p2⟩,p4⟩⟩,⟨hk1.1.next hsk.1 hsl,hsk.2.trans hk1.2⟩⟩,h2,fun e=>?_⟩
        have e8:=(hs.ok e).1.2.2
        rw [e4] at e8
        dsimp only
        omega
    · obtain ⟨⟨⟨m2,hg2,hq1⟩,hqk⟩,hq0,hql⟩:=hq
      refine T.cal (zbe _ hq1) fun u _ hu=>T.br (fun b7=>k _ ⟨⟨m2,hg2,hu.1⟩,hqk⟩) fun b7=>?_
      have b7:u.1=true:=by simpa using b7
      have e7:=hu.2.2.1 b7
      have e8:=hql e7.1
      have e9:=hu.1.a1
      exact hL _ ⟨⟨⟨m2,hg2,hu.1⟩,hqk⟩,hq0,by dsimp only;omega,by dsimp only;omega⟩ (by dsimp only;omega)
  · refine T.cal (zbn _ hq) fun w _ hw=>T.br (fun _=>T.some ⟨⟨m',hg,hw.1⟩,hqk.1.1,hqk.2,hqk.1.2.1,by dsimp only;omega,Int.le_refl _⟩) fun hmo=>T.some ⟨⟨m',hg,hw.1⟩,hqk.1.1,hqk.2,hqk.1.2.1,hqk.1.2.2 (by simpa using hmo)⟩
end Go.Proofs.Q


namespace Go.Proofs.Q
open Go.Sy
set_option linter.unusedVariables false

theorem zp8 {n:GNode} (h:n.fields=[]) (hk:n.kind ≠ 10):kidsOf n=[]:=by
  unfold kidsOf;rw [h,if_neg hk];split <;> rfl
theorem zne {n:GNode} (h:n.kind ≠ 11) (hk:n.kind ≠ 10):kidsOf n=n.fields.map (fun f=>f.ty):=by
  unfold kidsOf;rw [if_neg h,if_neg hk,List.append_nil]

theorem zrP {l F Ty B Fs D} (hT:TypS l Ty D) (hF:FieldsS l Fs D):BaseS l (zcR F Ty B Fs) D:=by
  intro x n m a P d h hm hd0 hd hn hi hk hmo hro
  unfold zcR
  have nok:∀ n':GNode,n'.fields=[]→n'.items=[]→n'.root=0→NodeOk n':=fun n' h1 h2 h3=>⟨by omega,fun _=>by omega,by rw [h2];simp,by rw [h2];simp,fun _=>by omega,by unfold FOk;rw [h1];simp,fun _ _=>h3⟩
  have leaf0:∀ y n',Ok l m a P y→n'.fields=[]→n'.kind ≠ 10→∃ m',Grow m m'∧Ok l m' a (P∧Kids (Sub D m'.nodes) (kidsOf n') m.nodes.length m'.nodes.length) y:=fun y n' hy h1 h2=>⟨m,Grow.refl hm,hy.to fun e p1 p2=>⟨⟨p1,by rw [zp8 h1 h2];rfl⟩,p2⟩⟩
  have leaf:∀ y n',Ok l m a P y→n'.fields=[]→n'.items=[]→n'.root=0→n'.kind ≠ 10→(∃ m',Grow m m'∧Ok l m' a (P∧Kids (Sub D m'.nodes) (kidsOf n') m.nodes.length m'.nodes.length) y)∧NodeOk n':=fun y n' hy h1 h3 h4 h2=>⟨leaf0 y n' hy h1 h2,nok n' h1 h3 h4⟩
  have leaf2:∀ (r:GPar × GNode) (n0:GNode),((∃ m',Grow m m'∧Ok l m' a (P∧Kids (Sub D m'.nodes) (r.2.fields.map (fun f=>f.ty)) m.nodes.length m'.nodes.length) r.1)∧r.2.kind=n0.kind∧r.2.items=n0.items∧FOk r.2∧0 ≤ r.2.root∧r.2.root ≤ r.2.fields.length)→n0.items=[]→n0.kind ≠ 11→n0.kind ≠ 10→n0.kind ≠ 3→(n0.kind=7 ∨ n0.kind=8 ∨ n0.kind=9)→(∃ m',Grow m m'∧Ok l m' a (P∧Kids (Sub D m'.nodes) (kidsOf r.2) m.nodes.length m'.nodes.length) r.1)∧NodeOk r.2:=fun r n0 h0 hi0 h1 h2 h3 h4=>by
    obtain ⟨k0,k1,k2,k3,k4,k5⟩:=h0
    rw [← k1] at h1 h2 h3 h4
    refine ⟨by rw [zne h1 h2];exact k0,k4,fun e=>absurd e h3,by rw [k2,hi0];simp,by rw [k2,hi0];simp,fun _=>k5,k3,fun _ e=>absurd h4 e⟩
  refine T.cal (zex h) fun ⟨t,x'⟩ _ ⟨ht,hx⟩=>?_
  subst hx
  dsimp only at ht ⊢
  refine T.br (fun he=>T.some ⟨⟨m,Grow.refl hm,h.err (by simpa using he)⟩,nok _ hn hi hro⟩) fun _=>?_
  refine T.cal (zbe _ h) fun y1 _ h1=>T.br (fun _=>T.some (leaf _ _ h1.1 hn hi hro (by dsimp only;decide))) fun b1=>?_
  refine T.cal (zbe _ h1.1) fun y2 _ h2=>T.br (fun _=>T.some (leaf _ _ h2.1 hn hi hro (by dsimp only;decide))) fun b2=>?_
  refine T.cal (zbe _ h2.1) fun y3 _ h3=>T.br (fun _=>T.cal (zmK h3.1) fun s _ hs=>T.some (leaf _ _ hs.1 hn hi hro (by dsimp only;decide))) fun b3=>?_
  refine T.cal (zbe _ h3.1) fun y4 _ h4=>T.br (fun _=>T.cal (zbe _ h4.1) fun s _ hs=>T.br (fun _=>T.cal (zmz hs.1) fun u _ hu=>T.cal (zbn _ hu.1) fun w _ hw=>T.some (leaf _ _ hw.1 hn hi hro (by dsimp only;decide))) fun _=>T.some (leaf _ _ hs.1 hn hi hro (by dsimp only;decide))) fun b4=>?_
  refine T.cal (zbe _ h4.1) fun y5 _ h5=>T.br (fun _=>T.cal (zbn _ h5.1) fun s _ hs=>T.cal (zmK hs.1) fun u _ hu=>T.some (leaf _ _ hu.1 hn hi hro (by dsimp only;decide))) fun b5=>?_
  refine T.cal (zbe _ h5.1) fun y6 _ h6=>T.br (fun _=>T.cal (zbn _ h6.1) fun s _ hs=>T.cal (zrR _ hs.1 hi hmo) fun u _ hu=>T.cal (zbn _ hu.1) fun w _ hw=>T.some ⟨leaf0 _ _ hw.1 (hu.2.2.1.fields.trans hn) (by rw [hu.2.2.1.kind];dsimp only;decide),hu.2.2.2.2.1,fun _=>hu.2.2.2.2.2.1,hu.2.2.2.1,hu.2.2.2.2.2.2,fun e=>by rw [hu.2.2.1.kind] at e;dsimp only at e;omega,by unfold FOk;rw [hu.2.2.1.fields,hn];simp,fun e _=>absurd hu.2.2.1.kind e⟩) fun b6=>?_
  refine T.cal (zbe _ h6.1) fun y7 _ h7=>T.br (fun _=>T.cal (zbn _ h7.1) fun s _ hs=>T.cal (hF _ _ _ _ _ _ hs.1 hm hd0 hd hn hmo hro) fun u _ hu=>T.some (leaf2 _ _ hu hi (by dsimp only;decide) (by dsimp only;decide) (by dsimp only;decide) (by dsimp only;decide))) fun b7=>?_
  refine T.cal (zbe _ h7.1) fun y8 _ h8=>T.br (fun _=>T.cal (zbn _ h8.1) fun s _ hs=>T.cal (hF _ _ _ _ _ _ hs.1 hm hd0 hd hn hmo hro) fun u _ hu=>T.some (leaf2 _ _ hu hi (by dsimp only;decide) (by dsimp only;decide) (by dsimp only;decide) (by dsimp only;decide))) fun b8=>?_
  refine T.cal (zbe _ h8.1) fun y9 _ h9=>T.br (fun _=>T.cal (zbe _ h9.1) fun s _ hs=>T.br (fun _=>T.cal (hF _ _ _ _ _ _ hs.1 hm hd0 hd hn hmo hro) fun u _ hu=>T.some (leaf2 _ _ hu hi (by dsimp only;decide) (by dsimp only;decide) (by dsimp only;decide) (by dsimp only;decide))) fun _=>?_) fun b9=>?_
  · refine T.cal (zmK hs.1) fun u _ hu=>T.cal (zbn _ hu.1) fun w _ hw=>T.ck (by omega) (T.cal (hT _ _ _ _ (d + 1) hw.1 hm (by omega) (by omega)) fun v _ ⟨m',hg,hv⟩=>T.some ⟨⟨m',hg,hv.to fun e ⟨p1,p2,p3⟩ p4=>⟨⟨p1,?_⟩,p4⟩⟩,nok _ hn hi hro⟩)
    have e:kidsOf (GNode.mk 10 n.name n.mark u.1 n.items n.fields n.root n.more v.1)=[(m.nodes.length:Int)]:=by
      unfold kidsOf;dsimp only;rw [hn,p2];rfl
    dsimp only
    rw [e]
    exact ⟨_,rfl,p3,rfl⟩
  · refine T.br (fun _=>T.cal (zkV h9.1) fun s _ hs=>T.some (leaf _ _ hs.2.1 hn hi hro (by dsimp only;decide))) fun _=>T.cal (ze9 _ _ h9.1 (by decide)) fun s _ hs=>T.some ⟨⟨m,Grow.refl hm,hs.1.err hs.2⟩,nok _ hn hi hro⟩

theorem zsp {l F Ty B Fs D} (hB:∀ D',D=D' + 1→BaseS l B D'):TypS l (zdg F Ty B Fs) D:=by
  intro x m a P d h hm hd0 hd
  unfold zdg
  refine T.br (fun he=>T.some ⟨m,Grow.refl hm,h.err (by simpa using he)⟩) fun he=>?_
  refine T.cal (zex h) fun ⟨t,x'⟩ _ ⟨ht,hx⟩=>?_
  subst hx
  dsimp only at ht h ⊢
  obtain rfl:=h.ym
  refine T.cal (zqi t) fun b _ _=>T.br (fun _=>?_) fun _=>?_
  · refine T.cal (zex h) fun ⟨t2,x2⟩ _ ⟨_,hx2⟩=>?_
    subst hx2
    exact T.cal (ze9 _ _ h (by decide)) fun y _ hy=>T.some ⟨_,Grow.refl hm,hy.1.err hy.2⟩
  refine T.jp (fun b=>b=false→d ≤ 16∧x'.m.nodes.length < 300) (fun J k=>T.br (fun _=>k _ fun h=>by cases h) fun h1=>k _ fun h2=>by have:=zOF h1;have:=zOF h2;omega) fun b2 hb2=>T.br (fun _=>?_) fun hb3=>?_
  · refine T.cal (zex h) fun ⟨t2,x2⟩ _ ⟨_,hx2⟩=>?_
    subst hx2
    exact T.cal (ze9 _ _ h (by decide)) fun y _ hy=>T.some ⟨_,Grow.refl hm,hy.1.err hy.2⟩
  obtain ⟨hd16,hlt⟩:=hb2 hb3
  obtain ⟨D',rfl⟩:∃ D',D=D' + 1:=⟨D - 1,by omega⟩
  refine T.abl (by simp only [List.length_singleton];omega) ?_
  have hx1:∀ z,Ok l (GMod.mk x'.m.name x'.m.tagging x'.m.names x'.m.types (x'.m.nodes ++ [z])) a P (GPar.mk x'.l x'.at_ (GMod.mk x'.m.name x'.m.tagging x'.m.names x'.m.types (x'.m.nodes ++ [z])) x'.e x'.p):=fun z=>⟨h.toks,h.yl,rfl,h.a0,h.a1,h.ok⟩
  have zok:∀ z:GNode,z.fields=[]∧z.items=[]∧z.root=0→NodeOk z:=fun n' ⟨h1,h2,h3⟩=>⟨by omega,fun _=>by omega,by rw [h2];simp,by rw [h2];simp,fun _=>by omega,by unfold FOk;rw [h1];simp,fun _ _=>h3⟩
  have hg1:∀ z,(z.fields=[]∧z.items=[]∧z.root=0)→Grow x'.m (GMod.mk x'.m.name x'.m.tagging x'.m.names x'.m.types (x'.m.nodes ++ [z])):=fun z hz0=>⟨rfl,rfl,rfl,rfl,by simp,by simp only [List.length_append,List.length_singleton];omega,fun i hi=>List.getElem?_append_left hi,fun hk n hn=>by
    rcases List.mem_append.1 hn with h | h
    · exact hk n h
    · rw [List.mem_singleton.1 h];exact zok z hz0⟩
  have hzf:∃ z,GNode.mk (0:Int) (Str.mk []) (GMark.mk false (0:Int) (0:Int)) (GCon.mk false false false false (0:Int) (0:Int)) ([]:(List GItem)) ([]:(List GFld)) (0:Int) false (0:Int)=z∧z.fields=[]∧z.items=[]∧z.kind=0∧z.more=false∧z.root=0:=⟨_,rfl,rfl,rfl,rfl,rfl,rfl⟩
  obtain ⟨z,hz,z1,z2,z3,z4,z5⟩:=hzf
  rw [hz]
  refine T.cal (zbe _ (hx1 _)) fun y1 _ h1=>T.jp (fun (q:GPar × GNode)=>Ok l (GMod.mk x'.m.name x'.m.tagging x'.m.names x'.m.types (x'.m.nodes ++ [z])) a P q.1∧q.2.fields=[]∧q.2.items=[]∧q.2.kind=0∧q.2.more=false∧q.2.root=0) (fun J k=>T.br (fun _=>?_) fun _=>k _ ⟨h1.1,z1,z2,z3,z4,z5⟩) fun q ⟨hq,q1,q2,q3,q4,q5⟩=>?_
  · refine T.cal (zex h1.1) fun ⟨t2,x2⟩ _ ⟨_,hx2⟩=>?_
    subst hx2
    refine T.cal (zjM h1.1) fun u _ hu=>?_
    refine T.jp (fun _=>True) (fun J2 k2=>T.br (fun _=>T.jp (fun _=>True) (fun J3 k3=>T.br (fun _=>k3 _ trivial) fun _=>k3 _ trivial) fun _ _=>k2 _ trivial) fun _=>k2 _ trivial) fun b5 _=>?_
    refine T.jp (fun y=>Ok l (GMod.mk x'.m.name x'.m.tagging x'.m.names x'.m.types (x'.m.nodes ++ [z])) a P y) (fun J2 k2=>T.br (fun _=>T.cal (ze9 _ _ hu.1 (by decide)) fun w _ hw=>k2 _ hw.1) fun _=>k2 _ hu.1) fun y5 h5=>?_
    refine T.cal (zbn _ h5) fun y6 _ h6=>T.cal (zbe _ h6.1) fun y7 _ h7=>T.br (fun _=>k _ ⟨h7.1,rfl,rfl,rfl,rfl,rfl⟩) fun _=>T.cal (zbe _ h7.1) fun y8 _ h8=>T.br (fun _=>k _ ⟨h8.1,rfl,rfl,rfl,rfl,rfl⟩) fun _=>k _ ⟨h8.1,rfl,rfl,rfl,rfl,rfl⟩
  · refine T.cal (hB D' rfl _ _ _ _ _ _ hq (hg1 z ⟨z1,z2,z5⟩).lim hd0 (by omega) q1 q2 q3 q4 q5) fun v _ ⟨⟨m2,hg2,hv⟩,hvo⟩=>T.br (fun he2=>T.some ⟨m2,(hg1 z ⟨z1,z2,z5⟩).trans hg2,hv.err (by simpa using he2)⟩) fun he2=>?_
    have hvm:=hv.ym
    have hle:=hg2.le
    dsimp only at hle
    rw [List.length_append,List.length_singleton] at hle
    rw [hvm]
    refine T.asd (by omega) (T.cal (Q:=fun _=>True) ⟨_,List.getElem?_eq_getElem (by omega),trivial⟩ fun w _ _=>T.some ⟨GMod.mk m2.name m2.tagging m2.names m2.types (m2.nodes.set x'.m.nodes.length v.2),?_,⟨hv.toks,hv.yl,rfl,hv.a0,hv.a1,fun e=>?_⟩⟩)
    · have hg3:=(hg1 z ⟨z1,z2,z5⟩).trans hg2
      refine ⟨hg3.name,hg3.tagging,hg3.names,hg3.types,by dsimp only;rw [List.length_set];exact hg3.le,by dsimp only;rw [List.length_set];exact hg3.lim,fun i hi=>?_,fun hk n hn=>?_⟩
      · dsimp only
        rw [List.getElem?_set_ne (by omega)]
        exact hg3.pre i hi
      · rcases List.mem_or_eq_of_mem_set hn with h | h
        · exact hg3.ok hk n h
        · rw [h];exact hvo
    · obtain ⟨⟨p1,p2⟩,p3⟩:=hv.ok e
      dsimp only at p2 ⊢
      rw [List.length_append,List.length_singleton] at p2
      refine ⟨⟨p1,rfl,?_⟩,p3⟩
      rw [List.length_set]
      refine ⟨v.2,by rw [List.getElem?_set_self (by omega)],p2.monoL fun k hk1 hk2=>?_⟩
      rw [List.getElem?_set_ne (by omega)]
theorem group (l:List GTok):∀ n,
    (∀ D,4 * D < n→TypS l (zbC n) D)∧(∀ D,4 * (D + 1) < n + 1→BaseS l (zcK n) D)∧(∀ D,4 * (D + 1) < n + 2→FieldsS l (zcm n) D)∧(∀ D,4 * (D + 1) < n + 3→FieldS l (zcu n) D):=by
  intro n
  induction n with
  | zero=>exact ⟨fun D h=>by omega,fun D h=>by omega,fun D h=>by omega,fun D h=>by omega⟩
  | succ n ih =>
    obtain ⟨i1,i2,i3,i4⟩:=ih
    refine ⟨fun D h=>zsp (F:=zcu n) (Ty:=zbC n) (B:=zcK n) (Fs:=zcm n) fun D' e=>i2 D' (by omega),fun D h=>zrP (F:=zcu n) (Ty:=zbC n) (B:=zcK n) (Fs:=zcm n) (i1 D (by omega)) (i3 D (by omega)),fun D h=>zo8 (F:=zcu n) (Ty:=zbC n) (B:=zcK n) (Fs:=zcm n) (i4 D (by omega)),fun D h=>zpJ (F:=zcu n) (Ty:=zbC n) (B:=zcK n) (Fs:=zcm n) (i1 D (by omega))⟩
theorem zt0 (l:List GTok):TypS l (zbC fuel) 17:=(group l fuel).1 17 (by unfold fuel;omega)
end Go.Proofs.Q


namespace Go.Proofs.Q
open Go.Sy
set_option linter.unusedVariables false

structure WF (m:GMod):Prop where
  names:m.names.length ≤ 40
  types:m.types.length=m.names.length
  nodes:m.nodes.length ≤ 300
  forest:Kids (Sub 17 m.nodes) m.types 0 m.nodes.length
  ok:∀ n ∈ m.nodes,NodeOk n
theorem WF.empty:WF (GMod.mk (Str.mk []) (0:Int) ([]:(List Str)) ([]:(List Int)) ([]:(List GNode))):=⟨by decide,rfl,by decide,rfl,by simp⟩
structure PInv (l:List GTok) (y:GPar):Prop where
  ok:Ok l y.m 0 (y.m.names.length ≤ 40∧Kids (Sub 17 y.m.nodes) y.m.types 0 y.m.nodes.length∧(y.m.names.length:Int) ≤ y.at_) y
  nodes:y.m.nodes.length ≤ 300
  names:y.m.names.length ≤ 10000
  types:y.m.types.length=y.m.names.length
  nok:∀ n ∈ y.m.nodes,NodeOk n
theorem PInv.re {l y y'} (h:PInv l y) (hm:y'.m=y.m) (hl:y'.l=y.l) (h0:y.at_ ≤ y'.at_) (h1:y'.at_ < (l.length:Int)) (he:y'.e=0→y.e=0):PInv l y':=by
  have:=h.ok.a0
  refine ⟨⟨h.ok.toks,hl.trans h.ok.yl,rfl,by omega,h1,fun e=>?_⟩,by rw [hm];exact h.nodes,by rw [hm];exact h.names,by rw [hm];exact h.types,by rw [hm];exact h.nok⟩
  have:=h.ok.ok (he e)
  rw [hm]
  exact ⟨⟨this.1.1,this.1.2.1,by omega⟩,by omega⟩

theorem zrc (s:Str):T (fun r=>WF r.1) (zfH s):=by
  unfold zfH
  refine T.cal (zpO s) fun r _ hr=>T.br (fun _=>T.some WF.empty) fun he=>?_
  have he:r.2.2=0:=by simpa using he
  have htk:=hr he
  obtain ⟨ml,le,hle,_,_⟩:=htk.last
  have hll:0 < r.1.length:=by rw [hle];simp
  have hl8:=htk.len
  -- the head: no names yet
  have head:∀ y:GPar,Ok r.1 y.m 0 True y→y.m.names=[]→y.m.types=[]→y.m.nodes=[]→PInv r.1 y:=fun y hy h1 h2 h3=>⟨hy.to fun e _ p=>⟨⟨by rw [h1];decide,by rw [h2,h3];rfl,by rw [h1];simpa using p⟩,p⟩,by rw [h3];decide,by rw [h1];decide,by rw [h1,h2];rfl,by rw [h3];simp⟩
  have h0:Ok r.1 (GMod.mk (Str.mk []) (0:Int) ([]:(List Str)) ([]:(List Int)) ([]:(List GNode))) 0 True (GPar.mk r.1 (0:Int) (GMod.mk (Str.mk []) (0:Int) ([]:(List Str)) ([]:(List Int)) ([]:(List GNode))) (0:Int) (0:Int)):=⟨htk,rfl,rfl,Int.le_refl _,by dsimp only;omega,fun _=>⟨trivial,Int.le_refl _⟩⟩
  let Em:GMod→Prop:=fun m=>m.names=[]∧m.types=[]∧m.nodes=[]
  have hE:∀ (y:GPar) m (m':GMod),Ok r.1 m 0 True y→Ok r.1 m' 0 True (GPar.mk y.l y.at_ m' y.e y.p):=fun y m m' h=>⟨h.toks,h.yl,rfl,h.a0,h.a1,h.ok⟩
  refine T.cal (zju 1 (by decide) h0) fun y1 _ h1=>T.cal (zbn _ (hE _ _ _ h1.1)) fun y2 _ h2=>?_
  have hm2:=h2.1.ym
  have e1:=h1.1.ym
  rw [e1] at hm2
  dsimp only at hm2
  refine T.jp (fun y=>∃ m,Em m∧Ok r.1 m 0 True y) (fun J k=>?_) fun y ⟨m,hem,hy⟩=>?_
  · have hb:∃ m,Em m∧Ok r.1 m 0 True y2:=⟨y2.m,by rw [hm2];exact ⟨rfl,rfl,rfl⟩,⟨htk,h2.1.yl,rfl,h2.1.a0,h2.1.a1,h2.1.ok⟩⟩
    obtain ⟨m,hem,hb⟩:=hb
    refine T.cal (zbe _ hb) fun y3 _ h3=>T.br (fun _=>T.cal (zbn _ h3.1) fun y4 _ h4=>k _ ⟨m,hem,h4.1⟩) fun _=>?_
    refine T.cal (zbe _ h3.1) fun y5 _ h5=>T.br (fun _=>T.cal (zbn _ (hE _ _ _ h5.1)) fun y4 _ h4=>k _ ⟨_,by rw [h5.1.ym];exact hem,h4.1⟩) fun _=>?_
    refine T.cal (zbe _ h5.1) fun y6 _ h6=>T.br (fun _=>T.cal (zbn _ (hE _ _ _ h6.1)) fun y4 _ h4=>k _ ⟨_,by rw [h6.1.ym];exact hem,h4.1⟩) fun _=>k _ ⟨m,hem,h6.1⟩
  refine T.cal (zbn _ hy) fun y3 _ h3=>T.cal (zbn _ h3.1) fun y4 _ h4=>?_
  have hstart:PInv r.1 y4:=by
    have e:=h4.1.ym
    exact head y4 ⟨htk,h4.1.yl,rfl,h4.1.a0,h4.1.a1,h4.1.ok⟩ (by rw [e];exact hem.1) (by rw [e];exact hem.2.1) (by rw [e];exact hem.2.2)
  refine T.lp (fun y=>PInv r.1 y) (fun y=>if y.e=0 then ((r.1.length:Int) - y.at_).toNat + 1 else 0) hstart (by have:=hstart.ok.a0;split <;> omega) fun L y hy hL=>?_
  refine T.jp (fun (q:Bool × GPar)=>PInv r.1 q.2∧(q.1=true→y.e=0∧q.2.e=0∧q.2.at_ ≥ y.at_)) (fun J k=>T.br (fun he=>T.cal (zbe _ hy.ok) fun u _ hu=>?_) fun _=>k _ ⟨hy,fun h=>by cases h⟩) fun q ⟨hq,hqb⟩=>?_
  · have hge:y.at_ ≤ u.2.at_:=by
      cases hu1:u.1 with
      | true=>have:=hu.2.2.1 hu1;omega
      | false=>rw [hu.2.2.2 hu1];omega
    refine k _ ⟨hy.re hu.1.ym (hu.1.yl.trans hy.ok.yl.symm) hge hu.1.a1 (fun e=>hu.2.1 ▸ e),fun hb=>?_⟩
    have hb:u.1=false:=by simpa using hb
    have:=hu.2.2.2 hb
    dsimp only
    rw [this]
    exact ⟨zOT he,zOT he,Int.le_refl _⟩
  refine T.br (fun hb=>?_) fun hb=>?_
  · obtain ⟨b1,b2,b3⟩:=hqb hb
    refine T.cal (zex hq.ok) fun ⟨t,x'⟩ _ ⟨ht,hx⟩=>?_
    dsimp only at ht hx ⊢
    subst hx
    have hq1:Ok r.1 q.2.m (q.2.at_ + 0) (q.2.m.names.length ≤ 40∧Kids (Sub 17 q.2.m.nodes) q.2.m.types 0 q.2.m.nodes.length∧(q.2.m.names.length:Int) ≤ q.2.at_) q.2:=hq.ok.to fun _ p1 _=>⟨p1,by omega⟩
    refine T.cal (zju 1 (by decide) hq.ok) fun u _ hu=>?_
    have hu1:Ok r.1 q.2.m (q.2.at_ + 1) (q.2.m.names.length ≤ 40∧Kids (Sub 17 q.2.m.nodes) q.2.m.types 0 q.2.m.nodes.length∧(q.2.m.names.length:Int) ≤ q.2.at_) u.2:=hu.1.to fun e p1 _=>⟨p1,by have:=hu.2.1 e;omega⟩
    refine T.jp (fun b=>b=false→u.2.e=0→q.2.m.names.length < 40) (fun J k=>T.br (fun he=>k _ fun hb _=>?_) fun he=>k _ fun _ e=>absurd e (zOF he)) fun b hb2=>?_
    · have:=zOF hb
      rw [hu.1.ym] at this
      omega
    refine T.jp (fun y5=>Ok r.1 q.2.m (q.2.at_ + 1) (q.2.m.names.length < 40∧Kids (Sub 17 q.2.m.nodes) q.2.m.types 0 q.2.m.nodes.length∧(q.2.m.names.length:Int) ≤ q.2.at_) y5) (fun J k=>T.br (fun _=>T.cal (ze9 _ _ hu1 (by decide)) fun w _ hw=>k _ (hw.1.err hw.2)) fun hb3=>k _ (hu1.to fun e p1 p2=>⟨⟨hb2 hb3 e,p1.2⟩,p2⟩)) fun y5 h5=>?_
    refine T.cal (zbn _ h5) fun y6 _ h6=>T.cal (zt0 r.1 _ _ _ _ 0 h6.1 hq.nodes (Int.le_refl _) rfl) fun v _ ⟨m',hg,hv⟩=>?_
    have hvm:=hv.ym
    have hn:=hq.names
    have hn1:m'.names.length ≤ 9000:=by
      rw [hg.names]
      have h9:=(hq.ok.ok b2).1.2.2
      have:=hq.ok.a1
      omega
    have ht1:m'.types.length=m'.names.length:=by rw [hg.types,hg.names];exact hq.types
    rw [hvm]
    refine T.abl (by simp only [List.length_singleton];omega) (T.abl (by simp only [List.length_singleton];omega) (hL _ ⟨⟨hv.toks,hv.yl,rfl,hv.a0,hv.a1,fun e=>?_⟩,hg.lim,?_,?_,hg.ok hq.nok⟩ ?_))
    · obtain ⟨⟨⟨p1,p2,p3⟩,p4,p5⟩,p6⟩:=hv.ok e
      dsimp only
      refine ⟨⟨?_,?_,?_⟩,hv.a0⟩
      · rw [hg.names,List.length_append,List.length_singleton];omega
      · rw [hg.types,p4]
        exact (p2.monoL fun k _ hk=>hg.pre k hk).snoc p5
      · rw [hg.names,List.length_append,List.length_singleton];omega
    · dsimp only;rw [List.length_append,List.length_singleton];omega
    · dsimp only;rw [List.length_append,List.length_append,List.length_singleton,List.length_singleton];omega
    · dsimp only
      rw [if_pos b1]
      split
      · rename_i e
        have p6:=(hv.ok e).2
        have:=hv.a1
        omega
      · omega
  · refine T.jp (fun (q2:Bool × GPar)=>PInv r.1 q2.2) (fun J k=>T.br (fun _=>T.cal (zex hq.ok) fun ⟨t,x'⟩ _ ⟨ht,hx⟩=>k _ (by dsimp only at hx ⊢;subst hx;exact hq)) fun _=>k _ hq) fun q2 hq2=>?_
    refine T.jp (fun (y5:GPar)=>y5.e=0→PInv r.1 y5) (fun J k=>T.br (fun _=>T.cal (zex hq2.ok) fun ⟨t,x'⟩ _ ⟨ht,hx⟩=>?_) fun _=>k _ fun _=>hq2) fun y5 h5=>?_
    · dsimp only at hx ⊢
      subst hx
      exact T.cal (ze9 _ _ hq2.ok (by decide)) fun w _ hw=>k _ fun e=>absurd e hw.2
    · refine T.br (fun _=>T.some WF.empty) fun he=>T.some ?_
      have he:y5.e=0:=by simpa using he
      have h6:=h5 he
      have h7:=(h6.ok.ok he).1
      exact ⟨h7.1,h6.types,h6.nodes,h7.2.1,h6.nok⟩
end Go.Proofs.Q


namespace Go.Proofs.Q
open Go.Sy
set_option maxRecDepth 4000
def zhJ (a_m:GMod) (zif:Str):Option (Int) :=
  lp (ι:=Int) (fun L2 q1=>br (decide (q1 < (a_m.names.length:Int))) (cal (getI a_m.names q1) fun y5=>br (decide (y5=zif)) (some (q1)) (ck ((q1 + (1:Int))) <| L2 ((q1 + (1:Int))))) (some ((-1:Int)))) (((0:Int)))

def zf0 (a_l:(List Int)) (a_x:Int):Option (Bool) :=
  lp (ι:=Int) (fun L2 q1=>br (decide (q1 < (a_l.length:Int))) (cal (getI a_l q1) fun y5=>br (decide (y5=a_x)) (some (true)) (ck ((q1 + (1:Int))) <| L2 ((q1 + (1:Int))))) (some (false))) (((0:Int)))

def zeH (zh0:GMod→Int→Int→(List Int)→Option ((List Int) × Bool)) (a_m:GMod) (zkj:Int) (zL:Int) (a_l:(List Int)):Option ((List Int) × Bool) :=
  jp (ι:=Bool) (fun J2=>br (decide (zkj < (0:Int))) (J2 (true)) (J2 ((decide ((a_m.nodes.length:Int) ≤ zkj))))) (fun q1=>jp (ι:=Bool) (fun J5=>br q1 (J5 (true)) (J5 ((decide ((16:Int) < zL))))) (fun q4=>br q4 (some (a_l,false)) (cal (getI a_m.nodes zkj) fun y7=>br (decide (y7.kind=(11:Int))) (cal (zhJ a_m y7.name) fun y9=>br (decide (y9 < (0:Int))) (some (a_l,true)) (cal (zf0 a_l y9) fun y10=>jp (ι:=(List Int)) (fun J12=>br (!y10) (asr (Nat.ble (a_l.length + ([y9]:(List Int)).length) 68719476736) <| J12 ((a_l ++ ([y9]:(List Int))))) (J12 (a_l))) (fun q11=>some (q11,false)))) (lp (ι:=(List Int) × Bool × Int) (fun L17 q16=>br (decide (q16.2.2 < (y7.fields.length:Int))) (cal (getI y7.fields q16.2.2) fun y28=>ck ((zL + (1:Int))) <| cal (zh0 a_m y28.ty (zL + (1:Int)) q16.1) fun y30=>jp (ι:=Bool) (fun J33=>br q16.2.1 (J33 (true)) (J33 (y30.2))) (fun q32=>ck ((q16.2.2 + (1:Int))) <| L17 (y30.1,q32,(q16.2.2 + (1:Int))))) (jp (ι:=(List Int) × Bool) (fun J37=>br (decide (y7.kind=(10:Int))) (ck ((zL + (1:Int))) <| cal (zh0 a_m y7.of (zL + (1:Int)) q16.1) fun y39=>jp (ι:=Bool) (fun J42=>br q16.2.1 (J42 (true)) (J42 (y39.2))) (fun q41=>J37 (y39.1,q41))) (J37 (q16.1,q16.2.1))) (fun q36=>some (q36.1,q36.2)))) ((a_l,false,(0:Int)))))))
def zla:Nat→(GMod→Int→Int→(List Int)→Option ((List Int) × Bool))
  | 0=>(fun _ _ _ _=>none)
  | n + 1=>let p:=zla n;(zeH p)
def zg0 (n:Nat):GMod→Int→Int→(List Int)→Option ((List Int) × Bool):=(zla n)

def zhD (zkX:(List (List Int))) (zgp:Int) (a_to:Int):Option (Bool) :=
  cal (getI zkX zgp) fun y2=>asr (Nat.ble (([]:(List Int)).length + y2.length) 68719476736) <| lp (ι:=(List Int) × (List Int)) (fun L6 q5=>br (decide ((0:Int) < (q5.2.length:Int))) (cal (getI q5.2 (0:Int)) fun y17=>asr (decide (0 ≤ (1:Int)∧(1:Int) ≤ (q5.2.length:Int))) <| br (decide (y17=a_to)) (some (true)) (cal (zf0 q5.1 y17) fun y20=>br (!y20) (asr (Nat.ble (q5.1.length + ([y17]:(List Int)).length) 68719476736) <| cal (getI zkX y17) fun y24=>asr (Nat.ble ((q5.2.drop ((1:Int)).toNat).length + y24.length) 68719476736) <| L6 ((q5.1 ++ ([y17]:(List Int))),((q5.2.drop ((1:Int)).toNat) ++ y24))) (L6 (q5.1,(q5.2.drop ((1:Int)).toNat))))) (some (false))) ((([]:(List Int)),(([]:(List Int)) ++ y2)))

def zhy (a_m:GMod):Option ((List Int) × Int × Int) :=
  lp (ι:=Int) (fun L2 q1=>br (decide (q1 < (a_m.names.length:Int))) (asr (decide (0 ≤ (0:Int)∧(0:Int) ≤ q1∧q1 ≤ (a_m.names.length:Int))) <| cal (getI a_m.names q1) fun y804=>cal (zeS ((a_m.names.take (q1).toNat).drop (0:Int).toNat) y804) fun y805=>br y805 (some (([]:(List Int)),q1,(8:Int))) (ck ((q1 + (1:Int))) <| L2 ((q1 + (1:Int))))) (lp (ι:=(List (List Int)) × Int × Int) (fun L808 q807=>br (decide (q807.2.2 < (a_m.names.length:Int))) (jp (ι:=(List (List Int)) × Int) (fun J1338=>cal (getI a_m.types q807.2.2) fun y1339=>cal (zg0 fuel a_m y1339 (0:Int) ([]:(List Int))) fun y1341=>asr (Nat.ble (q807.1.length + ([y1341.1]:(List (List Int))).length) 68719476736) <| jp (ι:=Bool) (fun J1347=>br y1341.2 (J1347 ((decide (q807.2.1 < (0:Int))))) (J1347 (false))) (fun q1346=>br q1346 (J1338 ((q807.1 ++ ([y1341.1]:(List (List Int)))),q807.2.2)) (J1338 ((q807.1 ++ ([y1341.1]:(List (List Int)))),q807.2.1)))) (fun q1337=>ck ((q807.2.2 + (1:Int))) <| L808 (q1337.1,q1337.2,(q807.2.2 + (1:Int))))) (br (decide ((0:Int) ≤ q807.2.1)) (some (([]:(List Int)),q807.2.1,(9:Int))) (lp (ι:=Int) (fun L1351 q1350=>br (decide (q1350 < (a_m.names.length:Int))) (cal (zhD q807.1 q1350 q1350) fun y1476=>br y1476 (some (([]:(List Int)),q1350,(10:Int))) (ck ((q1350 + (1:Int))) <| L1351 ((q1350 + (1:Int))))) (lp (ι:=(List Int)) (fun L1479 q1478=>br (decide ((q1478.length:Int) < (a_m.names.length:Int))) (lp (ι:=Int) (fun L1540 q1539=>br (decide (q1539 < (a_m.names.length:Int))) (cal (zf0 q1478 q1539) fun y1569=>lp (ι:=Bool × Int) (fun L1571 q1570=>cal (getI q807.1 q1539) fun y1584=>br (decide (q1570.2 < (y1584.length:Int))) (jp (ι:=Bool) (fun J1586=>br q1570.1 (cal (getI q807.1 q1539) fun y1588=>cal (getI y1588 q1570.2) fun y1589=>cal (zf0 q1478 y1589) fun y1590=>J1586 (y1590)) (J1586 (false))) (fun q1585=>ck ((q1570.2 + (1:Int))) <| L1571 (q1585,(q1570.2 + (1:Int))))) (br q1570.1 (asr (Nat.ble (q1478.length + ([q1539]:(List Int)).length) 68719476736) <| L1479 ((q1478 ++ ([q1539]:(List Int))))) (ck ((q1539 + (1:Int))) <| L1540 ((q1539 + (1:Int)))))) (((!y1569),(0:Int)))) (L1479 (q1478))) (((0:Int)))) (some (q1478,(0:Int),(0:Int)))) ((([]:(List Int)))))) (((0:Int)))))) ((([]:(List (List Int))),(-1:Int),(0:Int))))) (((0:Int)))
end Go.Proofs.Q


namespace Go.Proofs.Q
open Go.Sy
set_option linter.unusedVariables false

theorem T.eqs {β:Type} {o:Option β} {x:β} (h:T (fun r=>r=x) o):o=some x:=by
  obtain ⟨r,h1,h2⟩:=h;rw [h1,h2]
section lists
variable {α β:Type} [DecidableEq α] [DecidableEq β]
def add (l:List α) (x:α):List α:=if x ∈ l then l else l ++ [x]
def adds (l xs:List α):List α:=xs.foldl add l
theorem zps (l:List α):adds l []=l:=rfl
theorem znN (l:List α) (x:α) (xs:List α):adds l (x :: xs)=adds (add l x) xs:=rfl
theorem zl4 (l xs ys:List α):adds l (xs ++ ys)=adds (adds l xs) ys:=by unfold adds;rw [List.foldl_append]
theorem zt1 {l:List α} {x y:α}:y ∈ add l x ↔ y ∈ l ∨ y=x:=by
  unfold add
  split
  · rename_i h
    exact ⟨.inl,fun h2=>h2.elim (fun h=>h) fun e=>by rw [e];exact h⟩
  · rw [List.mem_append,List.mem_singleton]
theorem zpr {xs:List α}:∀ {l:List α} {y:α},y ∈ adds l xs ↔ y ∈ l ∨ y ∈ xs:=by
  induction xs with
  | nil=>intro l y;rw [zps];simp
  | cons x xs ih=>intro l y;rw [znN,ih,zt1,List.mem_cons,or_assoc]
theorem zrk {l:List α} {x:α} (h:l.Nodup):(add l x).Nodup:=by
  unfold add
  split
  · exact h
  · rename_i hx
    rw [List.nodup_append]
    exact ⟨h,by simp,fun a ha b hb=>by rw [List.mem_singleton.1 hb];exact fun e=>hx (e ▸ ha)⟩
theorem zqn {xs:List α}:∀ {l:List α},l.Nodup→(adds l xs).Nodup:=by
  induction xs with
  | nil=>intro l h;exact h
  | cons x xs ih=>intro l h;rw [znN];exact ih (zrk h)
theorem zpQ (l:List α) (x:α):(add l x).length ≤ l.length + 1:=by
  unfold add;split
  · omega
  · rw [List.length_append,List.length_singleton];omega
theorem zb5:∀ {a b:List α},a.Nodup→(∀ x ∈ a,x ∈ b)→a.length ≤ b.length:=by
  intro a
  induction a with
  | nil=>intro b _ _;exact Nat.zero_le _
  | cons x a ih =>
    intro b hn hs
    rw [List.nodup_cons] at hn
    have hx:=hs x List.mem_cons_self
    have h1:=ih (b:=b.erase x) hn.2 fun y hy=>(List.mem_erase_of_ne (fun e:y=x=>hn.1 (e ▸ hy))).2 (hs y (List.mem_cons_of_mem _ hy))
    have h2:=List.length_erase_of_mem hx
    have h3:=List.length_pos_of_mem hx
    rw [List.length_cons]
    omega
def nums (n:Nat):List Int:=(List.range n).map (fun (k:Nat)=>(k:Int))
theorem zgK {n:Nat} {x:Int}:x ∈ nums n ↔ 0 ≤ x∧x < n:=by
  unfold nums
  rw [List.mem_map]
  refine ⟨fun ⟨k,hk,e⟩=>?_,fun ⟨h1,h2⟩=>⟨x.toNat,List.mem_range.2 (by omega),by omega⟩⟩
  have:=List.mem_range.1 hk
  omega
theorem zeW (n:Nat):(nums n).length=n:=by unfold nums;rw [List.length_map,List.length_range]
theorem zpS (n:Nat):(nums n).Nodup:=by
  unfold nums
  rw [List.Nodup,List.pairwise_map]
  exact List.Pairwise.imp (fun {a b:Nat} (h:a ≠ b) (e:(a:Int)=(b:Int))=>h (by omega)) (List.nodup_range:(List.range n).Nodup)
end lists

/-! ### Places of names -/
def fndFrom:List Str→Str→Int→Int
  | [],_,_=>-1
  | y :: r,s,k=>if y=s then k else fndFrom r s (k + 1)
def fnd (l:List Str) (s:Str):Int:=fndFrom l s 0
theorem zn6:∀ (l:List Str) (s:Str) (k:Int),0 ≤ k→(fndFrom l s k=-1∧s ∉ l) ∨ (k ≤ fndFrom l s k∧fndFrom l s k < k + l.length∧l[(fndFrom l s k - k).toNat]?=some s∧∀ j:Nat,j < (fndFrom l s k - k).toNat→l[j]? ≠ some s):=by
  intro l
  induction l with
  | nil=>intro s k _;exact .inl ⟨rfl,by simp⟩
  | cons y r ih =>
    intro s k hk
    unfold fndFrom
    by_cases h:y=s
    · rw [if_pos h]
      right
      refine ⟨Int.le_refl _,by simp only [List.length_cons];omega,by rw [h];simp,fun j hj=>by omega⟩
    · rw [if_neg h]
      rcases ih s (k + 1) (by omega) with ⟨h1,h2⟩ | ⟨h1,h2,h3,h4⟩
      · left
        refine ⟨h1,?_⟩
        rw [List.mem_cons]
        exact fun h5=>h5.elim (fun e=>h e.symm) h2
      · right
        have e:(fndFrom r s (k + 1) - k).toNat=(fndFrom r s (k + 1) - (k + 1)).toNat + 1:=by omega
        refine ⟨by omega,by simp only [List.length_cons];omega,by rw [e,List.getElem?_cons_succ];exact h3,fun j hj=>?_⟩
        cases j with
        | zero=>simp only [List.getElem?_cons_zero];exact fun e=>h (Option.some.inj e)
        | succ j=>rw [List.getElem?_cons_succ];exact h4 j (by omega)
theorem zi3 (l:List Str) (s:Str):(fnd l s=-1∧s ∉ l) ∨ (0 ≤ fnd l s∧fnd l s < l.length∧l[(fnd l s).toNat]?=some s∧∀ j:Nat,j < (fnd l s).toNat→l[j]? ≠ some s):=by
  have:=zn6 l s 0 (Int.le_refl _)
  unfold fnd
  simpa using this
def idx (l:List Str) (s:Str):Option Int:=if fnd l s < 0 then none else some (fnd l s)
theorem zq4 {l:List Str} {s:Str} {c:Int} (h:idx l s=some c):0 ≤ c∧c < l.length:=by
  unfold idx at h
  split at h
  · cases h
  cases h
  rcases zi3 l s with h' | h'
  · omega
  · exact ⟨h'.1,h'.2.1⟩
theorem zpf (m:GMod) (s:Str) (hl:m.names.length ≤ 1000000):zhJ m s=some (fnd m.names s):=by
  refine T.eqs ?_
  unfold zhJ
  refine T.lp (fun (k:Int)=>0 ≤ k∧k ≤ (m.names.length:Int)∧fnd m.names s=fndFrom (m.names.drop k.toNat) s k) (fun (k:Int)=>((m.names.length:Int) - k).toNat) ⟨Int.le_refl _,by omega,rfl⟩ (by omega) fun L k ⟨h1,h2,h3⟩ hL=>?_
  refine T.br (fun hb=>?_) fun hb=>T.some ?_
  · have hb:=zOT hb
    refine T.get h1 hb fun y hy=>?_
    have hd:m.names.drop k.toNat=y :: m.names.drop (k.toNat + 1):=by
      rw [List.drop_eq_getElem_cons (by omega)]
      rw [List.getElem?_eq_getElem (by omega)] at hy
      rw [Option.some.inj hy]
    rw [hd] at h3
    unfold fndFrom at h3
    refine T.br (fun he=>T.some ?_) fun he=>T.ck (by omega) (hL _ ⟨by omega,by omega,?_⟩ (by omega))
    · rw [h3,if_pos (zOT he)]
    · have e:(k + 1).toNat=k.toNat + 1:=by omega
      rw [h3,if_neg (zOF he),e]
  · have hb:=zOF hb
    rw [List.drop_eq_nil_of_le (by omega)] at h3
    exact h3.symm
end Go.Proofs.Q


namespace Go.Proofs.Q
open Go.Sy
set_option linter.unusedVariables false

def nmx (l:List GNode):Nat→Int→List Str
  | 0,_=>[]
  | h + 1,i=>match (if 0 ≤ i then l[i.toNat]? else none) with
    | none=>[]
    | some n=>if n.kind=11 then [n.name] else (kidsOf n).flatMap (nmx l h)
theorem zmg {l:List GNode} {h:Nat} {i:Nat} {n:GNode} (e:l[i]?=some n):nmx l (h + 1) (i:Int)=if n.kind=11 then [n.name] else (kidsOf n).flatMap (nmx l h):=by
  rw [nmx,if_pos (by omega)]
  have:((i:Int)).toNat=i:=by omega
  rw [this,e]
theorem Kids.append {S:Nat→Nat→Prop} {ys:List Int}:∀ {xs:List Int} {a b:Nat},Kids S (xs ++ ys) a b→∃ c,Kids S xs a c∧Kids S ys c b:=by
  intro xs
  induction xs with
  | nil=>intro a b h;exact ⟨a,rfl,h⟩
  | cons k r ih=>intro a b ⟨c,h0,h1,h2⟩;obtain ⟨d,h3,h4⟩:=ih h2;exact ⟨d,⟨c,h0,h1,h3⟩,h4⟩
theorem Kids.length {h:Nat} {l:List GNode}:∀ {r a b},Kids (Sub h l) r a b→r.length ≤ b - a:=by
  intro r
  induction r with
  | nil=>intro a b _;exact Nat.zero_le _
  | cons k r ih =>
    intro a b ⟨c,_,h4,h5⟩
    have:=h4.lt
    have:=ih h5
    have:=Kids.le (fun x y h=>Nat.le_of_lt h.lt) h5
    rw [List.length_cons]
    omega
theorem Kids.sub {h:Nat} {l:List GNode}:∀ {r a b},Kids (Sub h l) r a b→∀ i,a ≤ i→i < b→∃ h' j,h' ≤ h∧Sub h' l i j∧j ≤ b:=by
  induction h with
  | zero =>
    intro r a b hk i h1 h2
    cases r with
    | nil=>cases hk;omega
    | cons k r=>obtain ⟨c,_,h,_⟩:=hk;exact h.elim
  | succ h ih =>
    intro r
    induction r with
    | nil=>intro a b hk i h1 h2;cases hk;omega
    | cons k r ihr =>
      intro a b ⟨c,h3,h4,h5⟩ i h1 h2
      have hle:=Kids.le (fun x y h=>Nat.le_of_lt h.lt) h5
      rcases Nat.lt_or_ge i c with h6 | h6
      · rcases Nat.lt_or_ge a i with h7 | h7
        · obtain ⟨n,h8,h9⟩:=h4
          obtain ⟨h',j,e1,e2,e3⟩:=ih h9 i (by omega) h6
          exact ⟨h',j,by omega,e2,by omega⟩
        · have:i=a:=by omega
          subst this
          exact ⟨h + 1,c,Nat.le_refl _,h4,hle⟩
      · exact ihr h5 i h6 h2

/-! ### The program's walk -/
end Go.Proofs.Q


namespace Go.Proofs.Q
open Go.Sy
set_option linter.unusedVariables false

theorem zp7 {α β:Type} {f g:α→List β}:∀ {l:List α},(∀ x ∈ l,f x=g x)→l.flatMap f=l.flatMap g:=by
  intro l
  induction l with
  | nil=>intro _;rfl
  | cons x l ih=>intro h;rw [List.flatMap_cons,List.flatMap_cons,h x List.mem_cons_self,ih fun y hy=>h y (List.mem_cons_of_mem _ hy)]
theorem Kids.mem {S:Nat→Nat→Prop} {k:Int}:∀ {r a b},Kids S r a b→k ∈ r→∃ (c d:Nat),k=(c:Int)∧S c d:=by
  intro r
  induction r with
  | nil=>intro a b _ h;cases h
  | cons x r ih =>
    intro a b ⟨c,h1,h2,h3⟩ h
    rcases List.mem_cons.1 h with e | e
    · exact ⟨a,c,e.trans h1,h2⟩
    · exact ih h3 e
theorem zt6:∀ {h h' l i j},Sub h l i j→h ≤ h'→nmx l h' (i:Int)=nmx l h (i:Int):=by
  intro h
  induction h with
  | zero=>intro h' l i j hs;exact hs.elim
  | succ h ih =>
    intro h' l i j ⟨n,h1,h2⟩ hle
    obtain ⟨h'',rfl⟩:∃ h'',h'=h'' + 1:=⟨h' - 1,by omega⟩
    rw [zmg h1,zmg h1]
    split
    · rfl
    · refine zp7 fun k hk=>?_
      obtain ⟨c,d,e1,e2⟩:=h2.mem hk
      rw [e1]
      exact ih e2 (by omega)
theorem zuA {l:List GNode} {h:Nat} {i:Int} (hi:i < 0 ∨ (l.length:Int) ≤ i):nmx l h i=[]:=by
  cases h with
  | zero=>rfl
  | succ h =>
    rw [nmx]
    have:(if 0 ≤ i then l[i.toNat]? else none)=none:=by
      split
      · rename_i h0
        exact List.getElem?_eq_none (by omega)
      · rfl
    rw [this]

theorem WF.at {m:GMod} (w:WF m) {i:Nat} (hi:i < m.nodes.length):∃ h j,h ≤ 17∧Sub h m.nodes i j∧j ≤ m.nodes.length:=w.forest.sub i (Nat.zero_le _) hi
def nms (m:GMod) (node:Int):List Str:=nmx m.nodes 17 node
def uses (m:GMod) (node:Int):List Int:=adds [] ((nms m node).filterMap (idx m.names))
def lost (m:GMod) (node:Int):Bool:=(nms m node).any (fun s=>fnd m.names s < 0)
theorem zhE {α:Type} {l:List α} {k:Int} {y:α} (h0:0 ≤ k) (h:l[k.toNat]?=some y):l.drop k.toNat=y :: l.drop (k + 1).toNat:=by
  have hk:k.toNat < l.length:=by
    rcases Nat.lt_or_ge k.toNat l.length with h1 | h1
    · exact h1
    · rw [List.getElem?_eq_none h1] at h;cases h
  have e:(k + 1).toNat=k.toNat + 1:=by omega
  rw [e,List.drop_eq_getElem_cons hk]
  rw [List.getElem?_eq_getElem hk] at h
  rw [Option.some.inj h]
end Go.Proofs.Q


namespace Go.Proofs.Q
open Go.Sy
set_option linter.unusedVariables false

theorem zjK (l:List Int) (x:Int) (hl:l.length ≤ 1000000):zf0 l x=some (decide (x ∈ l)):=by
  refine T.eqs ?_
  unfold zf0
  refine T.lp (fun (k:Int)=>0 ≤ k∧k ≤ (l.length:Int)∧(x ∈ l ↔ x ∈ l.drop k.toNat)) (fun (k:Int)=>((l.length:Int) - k).toNat) ⟨Int.le_refl _,by omega,Iff.rfl⟩ (by omega) fun L k ⟨h1,h2,h3⟩ hL=>?_
  refine T.br (fun hb=>?_) fun hb=>T.some ?_
  · have hb:=zOT hb
    refine T.get h1 hb fun y hy=>?_
    rw [zhE h1 hy,List.mem_cons] at h3
    refine T.br (fun he=>T.some (zDT (h3.2 (.inl (zOT he).symm))).symm) fun he=>T.ck (by omega) (hL _ ⟨by omega,by omega,?_⟩ (by omega))
    rw [h3]
    exact ⟨fun h=>h.elim (fun e=>absurd e.symm (zOF he)) fun h=>h,.inr⟩
  · have hb:=zOF hb
    rw [List.drop_eq_nil_of_le (by omega)] at h3
    exact (zDF (fun h=>by cases h3.1 h)).symm

def UsesS (m:GMod) (f:GMod→Int→Int→List Int→Option (List Int × Bool)) (h:Nat):Prop:=∀ i j (d:Int) acc,Sub h m.nodes i j→j ≤ m.nodes.length→0 ≤ d→d + h ≤ 17→acc.length ≤ i →
  T (fun r=>r.1=adds acc ((nmx m.nodes h i).filterMap (idx m.names))∧r.2=(nmx m.nodes h i).any (fun s=>decide (fnd m.names s < 0))∧r.1.length ≤ j) (f m i d acc)
theorem zpT {m f h} (w:WF m) (ih:UsesS m f h):UsesS m (zeH f) (h + 1):=by
  intro i j d acc hs hj hd0 hd hacc
  have hl:=w.nodes
  have hnl:=w.names
  have hij:=hs.lt
  obtain ⟨n,hn,hk⟩:=hs
  unfold zeH
  have hi:i < m.nodes.length:=by omega
  have htn:((i:Int)).toNat=i:=by omega
  refine T.jp (fun b=>b=false) (fun J k=>T.br (fun hb=>by have:=zOT hb;omega) fun _=>k _ (zDF (by omega))) fun b hb=>?_
  subst hb
  refine T.jp (fun b=>b=false) (fun J k=>T.br (fun hb=>by cases hb) fun _=>k _ (zDF (by omega))) fun b hb=>?_
  subst hb
  refine T.br (fun hb=>by cases hb) fun _=>?_
  refine T.get (by omega) (by omega) fun n' hn'=>?_
  rw [htn,hn] at hn'
  cases hn'
  rw [zmg hn]
  refine T.br (fun hr=>?_) fun hr=>?_
  · have hr:=zOT hr
    rw [if_pos hr]
    refine T.eq (zpf _ _ (by omega)) (T.br (fun hf=>T.some ⟨?_,?_,by dsimp only;omega⟩) fun hf=>T.eq (zjK _ _ (by omega)) (T.jp (fun l=>l=add acc (fnd m.names n.name)) (fun J k=>T.br (fun hin=>T.abl (by simp only [List.length_singleton];omega) (k _ ?_)) fun hin=>k _ ?_) fun l hlq=>T.some ⟨?_,?_,?_⟩))
    · have hf:=zOT hf
      have:idx m.names n.name=none:=by unfold idx;rw [if_pos hf]
      rw [List.filterMap_cons_none this];rfl
    · rw [List.any_cons,hf];rfl
    · unfold add;rw [if_neg (by simpa using hin)]
    · unfold add;rw [if_pos (by simpa using hin)]
    · have hf:=zOF hf
      have:idx m.names n.name=some (fnd m.names n.name):=by unfold idx;rw [if_neg hf]
      rw [List.filterMap_cons_some this,hlq];rfl
    · rw [List.any_cons,hf];rfl
    · have:=zpQ acc (fnd m.names n.name)
      dsimp only
      rw [hlq];omega
  · have hr:=zOF hr
    rw [if_neg hr]
    unfold kidsOf at hk ⊢
    rw [if_neg hr] at hk ⊢
    obtain ⟨c,hk1,hk2⟩:=Kids.append hk
    rw [List.flatMap_append]
    have hc:=Kids.le (fun x y h=>Nat.le_of_lt h.lt) hk2
    have hfl:=hk1.length
    rw [List.length_map] at hfl
    refine T.lp (fun (q:List Int × Bool × Int)=>0 ≤ q.2.2∧q.2.2 ≤ (n.fields.length:Int)∧∃ e,Kids (Sub h m.nodes) ((n.fields.drop q.2.2.toNat).map (fun f=>f.ty)) e c∧i + 1 ≤ e∧adds q.1 ((((n.fields.drop q.2.2.toNat).map (fun f=>f.ty)).flatMap (nmx m.nodes h)).filterMap (idx m.names))=adds acc (((n.fields.map (fun f=>f.ty)).flatMap (nmx m.nodes h)).filterMap (idx m.names))∧(q.2.1 || (((n.fields.drop q.2.2.toNat).map (fun f=>f.ty)).flatMap (nmx m.nodes h)).any (fun s=>decide (fnd m.names s < 0)))=((n.fields.map (fun f=>f.ty)).flatMap (nmx m.nodes h)).any (fun s=>decide (fnd m.names s < 0))∧q.1.length ≤ e) (fun (q:List Int × Bool × Int)=>((n.fields.length:Int) - q.2.2).toNat)
      ⟨Int.le_refl _,by dsimp only;omega,i + 1,hk1,Nat.le_refl _,rfl,rfl,by dsimp only;omega⟩ ?_ fun L q hq hL=>?_
    · dsimp only;omega
    · obtain ⟨a1,b1,k⟩:=q
      obtain ⟨q1,q2,e,q3,q4,q5,q6,q7⟩:=hq
      dsimp only at q1 q2 q3 q5 q6 q7 ⊢
      have he:=Kids.le (fun x y h=>Nat.le_of_lt h.lt) q3
      refine T.br (fun hb=>?_) fun hb=>?_
      · have hb:=zOT hb
        refine T.get q1 hb fun y hy=>?_
        rw [zhE q1 hy,List.map_cons] at q3 q5 q6
        obtain ⟨c1,e1,e2,e3⟩:=q3
        have hc1:=Kids.le (fun x y h=>Nat.le_of_lt h.lt) e3
        have:=e2.lt
        rw [List.flatMap_cons,e1] at q5 q6
        rw [List.filterMap_append,zl4] at q5
        rw [List.any_append,← Bool.or_assoc] at q6
        rw [e1]
        refine T.ck (by omega) (T.cal (ih e c1 (d + 1) a1 e2 (by omega) (by omega) (by omega) q7) fun r _ ⟨r1,r2,r3⟩=>T.jp (fun b=>b=(b1 || r.2)) (fun J k2=>T.br (fun h=>k2 _ (by rw [h];rfl)) fun h=>k2 _ (by rw [h];rfl)) fun b hb2=>T.ck (by omega) (hL _ ⟨by dsimp only;omega,by dsimp only;omega,c1,e3,by omega,?_,?_,r3⟩ (by dsimp only;omega)))
        · dsimp only;rw [r1];exact q5
        · dsimp only;rw [hb2,r2];exact q6
      · have hb:=zOF hb
        rw [List.drop_eq_nil_of_le (by omega)] at q3 q5 q6
        cases q3
        have q6':b1=((n.fields.map (fun f=>f.ty)).flatMap (nmx m.nodes h)).any (fun s=>decide (fnd m.names s < 0)):=by rw [← q6];simp
        rw [List.filterMap_append,zl4,← q5,List.any_append,← q6']
        refine T.jp (fun (q:List Int × Bool)=>q.1=adds a1 (((if n.kind=10 then [n.of] else []).flatMap (nmx m.nodes h)).filterMap (idx m.names))∧q.2=(b1 || ((if n.kind=10 then [n.of] else []).flatMap (nmx m.nodes h)).any (fun s=>decide (fnd m.names s < 0)))∧q.1.length ≤ j) (fun J k2=>T.br (fun hl10=>?_) fun hl10=>k2 _ ?_) fun q hq=>T.some hq
        · have h10:=zOT hl10
          rw [if_pos h10] at hk2
          obtain ⟨c1,e1,e2,e3⟩:=hk2
          cases e3
          have ih1:=ih c j (d + 1) a1 e2 (by omega) (by omega) (by omega) q7
          rw [← e1] at ih1
          refine T.ck (by omega) (T.cal ih1 fun r _ ⟨r1,r2,r3⟩=>T.jp (fun b=>b=(b1 || r.2)) (fun J k3=>T.br (fun h=>k3 _ (by rw [h];rfl)) fun h=>k3 _ (by rw [h];rfl)) fun b hb2=>k2 (r.1,b) ⟨?_,?_,r3⟩)
          · dsimp only;rw [if_pos h10,r1];simp [zps]
          · dsimp only;rw [if_pos h10,hb2,r2];simp
        · have h10:=zOF hl10
          rw [if_neg h10] at hk2 ⊢
          cases hk2
          exact ⟨rfl,by simp,q7⟩
theorem zrQ {m:GMod} (w:WF m):∀ h n,h ≤ n→UsesS m (zg0 n) h:=by
  intro h
  induction h with
  | zero=>intro n _ i j d acc hs;exact hs.elim
  | succ h ih =>
    intro n hn
    obtain ⟨n',rfl⟩:∃ n',n=n' + 1:=⟨n - 1,by omega⟩
    exact zpT w (ih n' (by omega))
theorem zq0 {m n i d acc} (hi:i < 0 ∨ (m.nodes.length:Int) ≤ i):zg0 (n + 1) m i d acc=some (acc,false):=by
  refine T.eqs ?_
  show T _ (zeH (zg0 n) m i d acc)
  unfold zeH
  refine T.jp (fun b=>b=true) (fun J k=>T.br (fun _=>k _ rfl) fun hb=>k _ (zDT (by have:=zOF hb;omega))) fun b hb=>?_
  subst hb
  refine T.jp (fun b=>b=true) (fun J k=>T.br (fun _=>k _ rfl) fun hb=>by cases hb) fun b hb=>?_
  subst hb
  exact T.br (fun _=>T.some rfl) fun hb=>by cases hb
theorem zsH {m:GMod} (w:WF m) (node:Int):zg0 fuel m node 0 []=some (uses m node,lost m node):=by
  by_cases hi:node < 0 ∨ (m.nodes.length:Int) ≤ node
  · obtain ⟨f',hf⟩:∃ f',fuel=f' + 1:=⟨fuel - 1,by unfold fuel;omega⟩
    rw [hf,zq0 hi]
    unfold uses lost nms
    rw [zuA hi];rfl
  · obtain ⟨i,rfl⟩:∃ i:Nat,node=(i:Int):=⟨node.toNat,by omega⟩
    obtain ⟨h,j,h1,h2,h3⟩:=w.at (i:=i) (by omega)
    obtain ⟨r,e,r1,r2,r3⟩:=zrQ w h fuel (by unfold fuel;omega) i j 0 [] h2 h3 (Int.le_refl _) (by omega) (Nat.zero_le _)
    rw [e]
    unfold uses lost nms
    rw [zt6 h2 h1,← r1,← r2]
end Go.Proofs.Q


namespace Go.Proofs.Q
open Go.Sy
set_option linter.unusedVariables false

abbrev Gr:=List (List Int)
def Ed (U:Gr) (i j:Int):Prop:=0 ≤ i∧∃ l,U[i.toNat]?=some l∧j ∈ l
inductive Reach (U:Gr):Int→Int→Prop
  | one {i j}:Ed U i j→Reach U i j
  | tail {i j k}:Reach U i j→Ed U j k→Reach U i k
structure GOk (U:Gr):Prop where
  len:U.length ≤ 40
  ok:∀ l ∈ U,l.length ≤ 40∧∀ j ∈ l,0 ≤ j∧j < U.length
theorem GOk.ed {U i j} (g:GOk U) (h:Ed U i j):0 ≤ j∧j < U.length:=by
  obtain ⟨_,l,h1,h2⟩:=h
  exact (g.ok l (List.mem_of_getElem? h1)).2 j h2
theorem Reach.trans {U i j k} (h1:Reach U i j) (h2:Reach U j k):Reach U i k:=by
  induction h2 with
  | one e=>exact h1.tail e
  | tail _ e ih=>exact ih.tail e

/-! ### By depth -/
def On (s:List Bool) (v:Int):Prop:=0 ≤ v∧s[v.toNat]?=some true
def cf:List Bool→Nat
  | []=>0
  | b :: r=>(if b then 0 else 1) + cf r
theorem On.set {s:List Bool} {k v:Int} (h0:0 ≤ k) (hk:k < s.length):On (s.set k.toNat true) v ↔ On s v ∨ v=k:=by
  unfold On
  by_cases h:v=k
  · subst h
    rw [List.getElem?_set_self (by omega)]
    exact ⟨fun _=>.inr rfl,fun _=>⟨h0,rfl⟩⟩
  · by_cases hv:0 ≤ v
    · rw [List.getElem?_set_ne (by omega)]
      exact ⟨.inl,fun h1=>h1.elim (fun h=>h) fun e=>absurd e h⟩
    · exact ⟨fun h1=>absurd h1.1 hv,fun h1=>h1.elim (fun h2=>absurd h2.1 hv) fun e=>absurd e h⟩
structure Dep (U:Gr) (i:Int) (s r:List Bool):Prop where
  len:r.length=s.length
  mono:∀ v,On s v→On r v
  new:∀ v,On r v→On s v ∨ (Reach U i v∧∀ j,Ed U v j→On r j)
  cf:cf r ≤ cf s
/-! ### By breadth -/
theorem zrf {U} (g:GOk U) {i t:Int} (hi:0 ≤ i) (hi1:i < U.length):T (fun r=>r=true ↔ Reach U i t) (zhD U i t):=by
  have hgl:=g.len
  unfold zhD
  refine T.get hi hi1 fun l hl=>?_
  obtain ⟨hll,hlr⟩:=g.ok l (List.mem_of_getElem? hl)
  have hed:∀ j,Ed U i j ↔ j ∈ l:=fun j=>⟨fun ⟨_,l',h1,h2⟩=>by rw [hl] at h1;cases h1;exact h2,fun h=>⟨hi,l,hl,h⟩⟩
  refine T.abl (by simp only [List.length_nil];omega) ?_
  refine T.lp (fun (q:List Int × List Int)=>q.1.Nodup∧(∀ v ∈ q.1,0 ≤ v∧v < U.length)∧(∀ v ∈ q.2,Reach U i v)∧(∀ j,Ed U i j→j ∈ q.1 ∨ j ∈ q.2)∧(∀ v ∈ q.1,∀ j,Ed U v j→j ∈ q.1 ∨ j ∈ q.2)∧t ∉ q.1∧q.2.length ≤ 40 * (q.1.length + 1)) (fun (q:List Int × List Int)=>(U.length - q.1.length) * 41 + q.2.length)
    ⟨List.nodup_nil,fun v h=>(by cases h),fun v hv=>.one ((hed v).2 (by simpa using hv)),fun j hj=>.inr (by simpa using (hed j).1 hj),fun v h=>(by cases h),(by simp),by simp;omega⟩ (by simp;omega) fun L q ⟨h1,h2,h3,h4,h5,h6,h7⟩ hL=>?_
  obtain ⟨s,td⟩:=q
  dsimp only at h1 h2 h3 h4 h5 h6 h7 ⊢
  have hsl:s.length ≤ U.length:=by
    have:=zb5 (b:=nums U.length) h1 fun x hx=>zgK.2 (h2 x hx)
    rwa [zeW] at this
  refine T.br (fun hb=>?_) fun hb=>T.some ⟨(fun h=>by cases h),fun h=>?_⟩
  · have hb := zOT hb
    cases td with
    | nil=>simp at hb
    | cons y td =>
      refine T.get (Int.le_refl _) hb fun y' hy'=>?_
      have hy':y=y':=by simpa using hy'
      subst hy'
      have hyr:=h3 y List.mem_cons_self
      have hy01:0 ≤ y∧y < U.length:=by
        cases hyr with
        | one e=>exact g.ed e
        | tail _ e=>exact g.ed e
      refine T.asd (by simp only [List.length_cons];omega) (T.br (fun he=>T.some ⟨fun _=>?_,fun _=>rfl⟩) fun he=>?_)
      · rw [← zOT he];exact hyr
      have he:=zOF he
      have hdr:(y :: td).drop ((1:Int)).toNat=td:=rfl
      rw [hdr]
      rw [List.length_cons] at h7
      refine T.eq (zjK s y (by omega)) (T.br (fun hn=>T.abl (by simp only [List.length_singleton];omega) ?_) fun hn=>hL _ ⟨h1,h2,fun v hv=>h3 v (List.mem_cons_of_mem _ hv),?_,?_,h6,by dsimp only;omega⟩ (by dsimp only;rw [List.length_cons];omega))
      · have hys:y ∉ s:=by simpa using hn
        refine T.get hy01.1 hy01.2 fun ly hly=>?_
        obtain ⟨hyl,hyr2⟩:=g.ok ly (List.mem_of_getElem? hly)
        have hslt:s.length < U.length:=by
          have:=zb5 (a:=y :: s) (b:=nums U.length) (List.nodup_cons.2 ⟨hys,h1⟩) fun x hx=>zgK.2 (by rcases List.mem_cons.1 hx with e | e;rw [e];exact hy01;exact h2 x e)
          rw [zeW,List.length_cons] at this
          omega
        refine T.abl (by omega) (hL _ ⟨?_,?_,?_,?_,?_,?_,?_⟩ ?_)
        · dsimp only
          rw [List.nodup_append]
          exact ⟨h1,by simp,fun a ha b hb=>by rw [List.mem_singleton.1 hb];exact fun e=>hys (e ▸ ha)⟩
        · dsimp only
          intro v hv
          rcases List.mem_append.1 hv with e | e
          · exact h2 v e
          · rw [List.mem_singleton.1 e];exact hy01
        · dsimp only
          intro v hv
          rcases List.mem_append.1 hv with e | e
          · exact h3 v (List.mem_cons_of_mem _ e)
          · exact hyr.tail ⟨hy01.1,ly,hly,e⟩
        · dsimp only
          intro j hj
          rw [List.mem_append,List.mem_append,List.mem_singleton]
          rcases h4 j hj with e | e
          · exact .inl (.inl e)
          · rcases List.mem_cons.1 e with e | e
            · exact .inl (.inr e)
            · exact .inr (.inl e)
        · dsimp only
          intro v hv j hj
          rw [List.mem_append,List.mem_append,List.mem_singleton]
          rcases List.mem_append.1 hv with e | e
          · rcases h5 v e j hj with e | e
            · exact .inl (.inl e)
            · rcases List.mem_cons.1 e with e | e
              · exact .inl (.inr e)
              · exact .inr (.inl e)
          · rw [List.mem_singleton.1 e] at hj
            obtain ⟨_,l',e1,e2⟩:=hj
            rw [hly] at e1;cases e1
            exact .inr (.inr e2)
        · dsimp only
          rw [List.mem_append,List.mem_singleton]
          exact fun h=>h.elim h6 fun e=>he e.symm
        · dsimp only
          rw [List.length_append,List.length_append,List.length_singleton]
          omega
        · dsimp only
          rw [List.length_append,List.length_append,List.length_singleton,List.length_cons]
          omega
      · have hys:y ∈ s:=by simpa using hn
        intro j hj
        dsimp only
        rcases h4 j hj with e | e
        · exact .inl e
        · rcases List.mem_cons.1 e with e | e
          · rw [e];exact .inl hys
          · exact .inr e
      · have hys:y ∈ s:=by simpa using hn
        intro v hv j hj
        dsimp only at hv ⊢
        rcases h5 v hv j hj with e | e
        · exact .inl e
        · rcases List.mem_cons.1 e with e | e
          · rw [e];exact .inl hys
          · exact .inr e
  · have hb:=zOF hb
    cases td with
    | cons y td=>simp at hb
    | nil =>
      exfalso
      have key:∀ a b,Reach U a b→a=i→b ∈ s:=by
        intro a b hab
        induction hab with
        | one e=>intro ea;subst ea;simpa using h4 _ e
        | tail _ e ih=>intro ea;simpa using h5 _ (ih ea) _ e
      exact h6 (key _ _ h rfl)

/-! ### One that is ready -/
theorem zn9 {U:Gr} (g:GOk U) (hac:∀ i,¬ Reach U i i) (out:List Int) (hl:out.length < U.length):∃ i:Int,0 ≤ i∧i < U.length∧i ∉ out∧∀ j,Ed U i j→j ∈ out:=by
  refine Classical.byContradiction fun hno=>?_
  have hno:∀ i:Int,0 ≤ i→i < U.length→i ∉ out→∃ j,Ed U i j∧j ∉ out:=by
    intro i h1 h2 h3
    refine Classical.byContradiction fun h4=>hno ⟨i,h1,h2,h3,fun j hj=>Classical.byContradiction fun h5=>h4 ⟨j,hj,h5⟩⟩
  have hst:∃ i:Int,0 ≤ i∧i < U.length∧i ∉ out:=by
    refine Classical.byContradiction fun h=>?_
    have:=zb5 (a:=nums U.length) (b:=out) (zpS _) fun x hx=>by
      have:=zgK.1 hx
      exact Classical.byContradiction fun h2=>h ⟨x,this.1,this.2,h2⟩
    rw [zeW] at this
    omega
  have path:∀ k:Nat,∃ (h:Int) (p:List Int),p.length=k∧(h :: p).Nodup∧(∀ x ∈ h :: p,0 ≤ x∧x < U.length∧x ∉ out)∧∀ x ∈ p,Reach U x h:=by
    intro k
    induction k with
    | zero =>
      obtain ⟨i,h1,h2,h3⟩:=hst
      exact ⟨i,[],rfl,by simp,fun x hx=>by rw [List.mem_singleton.1 hx];exact ⟨h1,h2,h3⟩,fun x hx=>by cases hx⟩
    | succ k ih =>
      obtain ⟨h,p,e1,e2,e3,e4⟩:=ih
      obtain ⟨j,hj1,hj2⟩:=hno h (e3 h List.mem_cons_self).1 (e3 h List.mem_cons_self).2.1 (e3 h List.mem_cons_self).2.2
      have hall:∀ x ∈ h :: p,Reach U x j:=by
        intro x hx
        rcases List.mem_cons.1 hx with e | e
        · rw [e];exact .one hj1
        · exact (e4 x e).tail hj1
      refine ⟨j,h :: p,by rw [List.length_cons,e1],List.nodup_cons.2 ⟨fun hm=>hac j (hall j hm),e2⟩,fun x hx=>?_,hall⟩
      rcases List.mem_cons.1 hx with e | e
      · rw [e];have:=g.ed hj1;exact ⟨this.1,this.2,hj2⟩
      · exact e3 x e
  obtain ⟨h,p,e1,e2,e3,_⟩:=path U.length
  have:=zb5 (b:=nums U.length) e2 fun x hx=>zgK.2 ⟨(e3 x hx).1,(e3 x hx).2.1⟩
  rw [zeW,List.length_cons] at this
  omega
end Go.Proofs.Q


namespace Go.Proofs.Q
open Go.Sy
set_option linter.unusedVariables false

def first (P:Int→Bool):Nat→Int→Option Int
  | 0,_=>none
  | n + 1,k=>if P k then some k else first P n (k + 1)
theorem zg4 {P:Int→Bool}:∀ {n k},first P n k=none→∀ i,k ≤ i→i < k + n→P i=false:=by
  intro n
  induction n with
  | zero=>intro k _ i h1 h2;omega
  | succ n ih =>
    intro k h i h1 h2
    unfold first at h
    cases hp:P k with
    | true=>rw [hp] at h;cases h
    | false =>
      rw [hp] at h
      rcases Int.lt_or_le k i with h3 | h3
      · exact ih h i (by omega) (by omega)
      · have:i=k:=by omega
        rw [this];exact hp
theorem zmO {P:Int→Bool}:∀ {n k i},first P n k=some i→k ≤ i∧i < k + n∧P i=true:=by
  intro n
  induction n with
  | zero=>intro k i h;cases h
  | succ n ih =>
    intro k i h
    unfold first at h
    cases hp:P k with
    | true=>rw [hp] at h;cases h;exact ⟨Int.le_refl _,by omega,hp⟩
    | false=>rw [hp] at h;have:=ih h;exact ⟨by omega,by omega,this.2.2⟩
def At (P:Int→Bool) (n:Nat) (k:Int):Prop:=0 ≤ k∧k ≤ n∧first P n 0=first P ((n:Int) - k).toNat k
theorem At.zero (P:Int→Bool) (n:Nat):At P n 0:=⟨Int.le_refl _,by omega,by simp⟩
theorem At.next {P:Int→Bool} {n:Nat} {k:Int} (h:At P n k) (hk:k < n) (hp:P k=false):At P n (k + 1):=by
  obtain ⟨h1,h2,h3⟩:=h
  have e:((n:Int) - k).toNat=((n:Int) - (k + 1)).toNat + 1:=by omega
  rw [e,first,hp] at h3
  exact ⟨by omega,by omega,h3⟩
theorem At.hit {P:Int→Bool} {n:Nat} {k:Int} (h:At P n k) (hk:k < n) (hp:P k=true):first P n 0=some k:=by
  obtain ⟨h1,h2,h3⟩:=h
  have e:((n:Int) - k).toNat=((n:Int) - (k + 1)).toNat + 1:=by omega
  rw [e,first,hp] at h3
  exact h3
theorem At.miss {P:Int→Bool} {n:Nat} {k:Int} (h:At P n k) (hk:¬ k < n):first P n 0=none:=by
  obtain ⟨h1,h2,h3⟩:=h
  have e:((n:Int) - k).toNat=0:=by omega
  rw [e] at h3
  exact h3

/-! ### What is wrong first -/
/-- What uses what. -/
def gr (m:GMod):Gr:=m.types.map (uses m)
theorem zlr {m:GMod} (w:WF m):(gr m).length=m.names.length:=by unfold gr;rw [List.length_map];exact w.types
theorem zm8 {m:GMod} {t x:Int} (h:x ∈ uses m t):0 ≤ x∧x < m.names.length:=by
  unfold uses at h
  rcases zpr.1 h with e | e
  · cases e
  · obtain ⟨s,_,h2⟩:=List.mem_filterMap.1 e
    exact zq4 h2
theorem zqH {m:GMod} (w:WF m):GOk (gr m):=by
  refine ⟨by rw [zlr w];exact w.names,fun l hl=>?_⟩
  unfold gr at hl
  obtain ⟨t,_,rfl⟩:=List.mem_map.1 hl
  refine ⟨?_,fun j hj=>by rw [zlr w];exact zm8 hj⟩
  have:=zb5 (a:=uses m t) (b:=nums m.names.length) (zqn List.nodup_nil) fun x hx=>zgK.2 (zm8 hx)
  rw [zeW] at this
  have:=w.names
  omega
def twice (m:GMod) (i:Int):Bool:=match m.names[i.toNat]? with | some s=>decide (fnd m.names s < i) | none=>false
def zkN (m:GMod) (i:Int):Bool:=match m.types[i.toNat]? with | some t=>lost m t | none=>false
open Classical in
noncomputable def cycle (m:GMod) (i:Int):Bool:=decide (Reach (gr m) i i)
noncomputable def wr (m:GMod):Int × Int :=
  match first (twice m) m.names.length 0 with
  | some i=>(i,8)
  | none=>match first (zkN m) m.names.length 0 with
    | some i=>(i,9)
    | none=>match first (cycle m) m.names.length 0 with
      | some i=>(i,10)
      | none=>(0,0)
open Classical in
theorem zpD {m:GMod} {b:Bool} {i:Int} (h:b=true ↔ Reach (gr m) i i):cycle m i=b:=by
  unfold cycle
  cases b with
  | true=>exact zDT (h.1 rfl)
  | false=>exact zDF fun h2=>by cases h.2 h2
end Go.Proofs.Q


namespace Go.Proofs.Q
open Go.Sy
set_option linter.unusedVariables false

def rdy (U:Gr) (out:List Int) (i:Int):Bool:=decide (i ∉ out) && ((U[i.toNat]?).getD []).all (fun j=>decide (j ∈ out))
def topo (U:Gr):Nat→List Int→List Int
  | 0,out=>out
  | k + 1,out=>match first (rdy U out) U.length 0 with
    | some i=>topo U k (out ++ [i])
    | none=>out
noncomputable def ordr (m:GMod):List Int × Int × Int:=if (wr m).2=0 then (topo (gr m) m.names.length [],0,0) else ([],(wr m).1,(wr m).2)
theorem ztb {m:GMod} (w:WF m) (h:(wr m).2=0):∀ i,¬ Reach (gr m) i i:=by
  intro i hr
  have hi:0 ≤ i∧i < (gr m).length:=by
    cases hr with
    | one e=>exact (zqH w).ed e
    | tail _ e=>exact (zqH w).ed e
  rw [zlr w] at hi
  unfold wr at h
  split at h
  · cases h
  split at h
  · cases h
  split at h
  · cases h
  · rename_i h3
    have:=zg4 h3 i hi.1 (by omega)
    have h4:cycle m i=true:=zpD (b:=true) ⟨fun _=>hr,fun _=>rfl⟩
    rw [this] at h4;cases h4
theorem znv {m:GMod} (w:WF m) (h:(wr m).2=0) {out:List Int} (hl:out.length < m.names.length):first (rdy (gr m) out) (gr m).length 0 ≠ none:=by
  intro hn
  obtain ⟨i,h1,h2,h3,h4⟩:=zn9 (zqH w) (ztb w h) out (by rw [zlr w];exact hl)
  have:=zg4 hn i h1 (by omega)
  unfold rdy at this
  rw [zDT h3,Bool.true_and] at this
  have ha:((gr m)[i.toNat]?.getD []).all (fun j=>decide (j ∈ out))=true:=by
    rw [List.all_eq_true]
    intro j hj
    rw [List.getElem?_eq_getElem (by omega)] at hj
    exact zDT (h4 j ⟨h1,_,List.getElem?_eq_getElem (by omega),hj⟩)
  rw [this] at ha;cases ha
def Tp (m:GMod) (out:List Int):Prop:=out.length ≤ m.names.length∧topo (gr m) (m.names.length - out.length) out=topo (gr m) m.names.length []
theorem Tp.nil (m:GMod):Tp m []:=⟨Nat.zero_le _,rfl⟩
theorem Tp.next {m:GMod} {out:List Int} {i:Int} (h:Tp m out) (hl:out.length < m.names.length) (hf:first (rdy (gr m) out) (gr m).length 0=some i):Tp m (out ++ [i]):=by
  obtain ⟨h1,h2⟩:=h
  have e:m.names.length - out.length=(m.names.length - (out ++ [i]).length) + 1:=by rw [List.length_append,List.length_singleton];omega
  rw [e,topo,hf] at h2
  exact ⟨by rw [List.length_append,List.length_singleton];omega,h2⟩
theorem Tp.done {m:GMod} {out:List Int} (h:Tp m out) (hl:¬ (out.length:Int) < m.names.length):out=topo (gr m) m.names.length []:=by
  obtain ⟨h1,h2⟩:=h
  have e:m.names.length - out.length=0:=by omega
  rw [e] at h2
  exact h2

/-! ### The program's order -/
/-! ### The document's order -/
theorem ztn {l:List Str} {k:Int} {s:Str} (h0:0 ≤ k) (h:l[k.toNat]?=some s):decide (s ∈ (l.take k.toNat).drop (0:Int).toNat)=decide (fnd l s < k):=by
  have e0:(l.take k.toNat).drop (0:Int).toNat=l.take k.toNat:=rfl
  rw [e0]
  rcases zi3 l s with h1 | ⟨h1,h2,h3,h4⟩
  · exact absurd (List.mem_of_getElem? h) h1.2
  · by_cases h5:fnd l s < k
    · rw [zDT h5]
      refine zDT (List.mem_of_getElem? (i:=(fnd l s).toNat) ?_)
      rw [List.getElem?_take_of_lt (by omega)]
      exact h3
    · rw [zDF h5]
      refine zDF fun hm=>?_
      obtain ⟨j,hj⟩:=List.getElem?_of_mem hm
      rw [List.getElem?_take] at hj
      split at hj
      · exact h4 j (by omega) hj
      · cases hj
theorem zrX {m:GMod} (w:WF m):zhy m=some (ordr m):=by
  have hn:=w.names
  have ht:=w.types
  have hgl:=zlr w
  have hgo:=zqH w
  refine T.eqs ?_
  unfold zhy
  refine T.lp (fun (k:Int)=>At (twice m) m.names.length k) (fun (k:Int)=>((m.names.length:Int) - k).toNat) (At.zero _ _) (by omega) fun L k hk hL=>?_
  have hk0:=hk.1
  refine T.br (fun hb=>?_) fun hb=>?_
  · have hb:=zOT hb
    refine T.asd (by omega) (T.get hk0 hb fun s hs=>T.cal (zhp _ s (by rw [List.length_drop,List.length_take];omega)) fun b _ hbq=>?_)
    rw [ztn hk0 hs] at hbq
    have e:twice m k=decide (fnd m.names s < k):=by unfold twice;rw [hs]
    refine T.br (fun h=>T.some ?_) fun h=>T.ck (by omega) (hL _ (hk.next hb (by rw [e,← hbq];exact h)) (by omega))
    have:wr m=(k,8):=by unfold wr;rw [hk.hit hb (by rw [e,← hbq];exact h)]
    unfold ordr;rw [this];rfl
  have m1:=hk.miss (zOF hb)
  refine T.lp (fun (q:List (List Int) × Int × Int)=>0 ≤ q.2.2∧q.2.2 ≤ (m.names.length:Int)∧(q.1.length:Int)=q.2.2∧q.1 ++ (m.types.drop q.2.2.toNat).map (uses m)=gr m∧((q.2.1 < 0∧At (zkN m) m.names.length q.2.2) ∨ (0 ≤ q.2.1∧first (zkN m) m.names.length 0=some q.2.1))) (fun (q:List (List Int) × Int × Int)=>((m.names.length:Int) - q.2.2).toNat) ⟨Int.le_refl _,by dsimp only;omega,rfl,rfl,.inl ⟨by dsimp only;omega,At.zero _ _⟩⟩ (by dsimp only;omega) fun L q ⟨h1,h2,h3,h4,h5⟩ hL=>?_
  obtain ⟨U,mi,k⟩:=q
  dsimp only at h1 h2 h3 h4 h5 ⊢
  refine T.br (fun hb=>?_) fun hb=>?_
  · have hb := zOT hb
    obtain ⟨t,htt⟩:∃ t,m.types[k.toNat]?=some t:=⟨_,List.getElem?_eq_getElem (by omega)⟩
    rw [zhE h1 htt,List.map_cons] at h4
    have e:zkN m k=lost m t:=by unfold zkN;rw [htt]
    refine T.jp (fun (q:List (List Int) × Int)=>q.1=U ++ [uses m t]∧((q.2 < 0∧At (zkN m) m.names.length (k + 1)) ∨ (0 ≤ q.2∧first (zkN m) m.names.length 0=some q.2))) (fun J kk=>?_) fun q ⟨hq1,hq2⟩=>T.ck (by omega) (hL _ ⟨by dsimp only;omega,by dsimp only;omega,?_,?_,hq2⟩ (by dsimp only;omega))
    · refine T.get h1 (by omega) fun t' ht'=>?_
      rw [htt] at ht';cases ht'
      refine T.eq (zsH w t) (T.abl (by simp only [List.length_singleton];omega) (T.jp (fun b=>b=(lost m t && decide (mi < 0))) (fun J2 k2=>T.br (fun h=>k2 _ ?_) fun h=>k2 _ ?_) fun b hbq=>T.br (fun h=>kk _ ⟨rfl,?_⟩) fun h=>kk _ ⟨rfl,?_⟩))
      · dsimp only at h;rw [h];rfl
      · dsimp only at h;rw [h];rfl
      · rw [hbq,Bool.and_eq_true] at h
        obtain ⟨l1,l2⟩:=h
        have l2:=zOT l2
        rcases h5 with h5 | h5
        · exact .inr ⟨h1,h5.2.hit hb (by rw [e];exact l1)⟩
        · omega
      · rw [hbq,Bool.and_eq_false_iff] at h
        rcases h5 with h5 | h5
        · refine .inl ⟨h5.1,h5.2.next hb ?_⟩
          rw [e]
          rcases h with h | h
          · exact h
          · have:=zOF h
            exact absurd h5.1 this
        · exact .inr h5
    · dsimp only;rw [hq1,List.length_append,List.length_singleton];omega
    · dsimp only;rw [hq1,← h4];simp
  have hb9:=zOF hb
  rw [List.drop_eq_nil_of_le (by omega),List.map_nil,List.append_nil] at h4
  subst h4
  refine T.br (fun hm=>T.some ?_) fun hm=>?_
  · have hm:=zOT hm
    have m2:=(h5.resolve_left fun h=>by omega).2
    have:wr m=(mi,9):=by unfold wr;rw [m1,m2]
    unfold ordr;rw [this];rfl
  have hm:=zOF hm
  have m2:=(h5.resolve_right fun h=>by omega).2.miss hb9
  refine T.lp (fun (k:Int)=>At (cycle m) m.names.length k) (fun (k:Int)=>((m.names.length:Int) - k).toNat) (At.zero _ _) (by omega) fun L k hk hL=>?_
  have hk0:=hk.1
  refine T.br (fun hb=>?_) fun hb=>?_
  · have hb:=zOT hb
    refine T.cal (zrf hgo (t:=k) hk0 (by omega)) fun b _ hbq=>?_
    have e:=zpD hbq
    refine T.br (fun h=>T.some ?_) fun h=>T.ck (by omega) (hL _ (hk.next hb (by rw [e];exact h)) (by omega))
    have:wr m=(k,10):=by unfold wr;rw [m1,m2,hk.hit hb (by rw [e];exact h)]
    unfold ordr;rw [this];rfl
  have m3:=hk.miss (zOF hb)
  have hwr:wr m=(0,0):=by unfold wr;rw [m1,m2,m3]
  have he:(wr m).2=0:=by rw [hwr]
  refine T.lp (fun (out:List Int)=>Tp m out) (fun (out:List Int)=>m.names.length - out.length) (Tp.nil m) (by omega) fun L out ho hL=>?_
  have hol:=ho.1
  refine T.br (fun hb=>?_) fun hb=>T.some ?_
  · have hb:=zOT hb
    have hlt:out.length < m.names.length:=by omega
    refine T.lp (fun (k:Int)=>At (rdy (gr m) out) (gr m).length k) (fun (k:Int)=>((m.names.length:Int) - k).toNat) (At.zero _ _) (by omega) fun L2 k hk hL2=>?_
    have hk0:=hk.1
    refine T.br (fun hb2=>?_) fun hb2=>?_
    · have hb2:=zOT hb2
      obtain ⟨l,hl⟩:∃ l,(gr m)[k.toNat]?=some l:=⟨_,List.getElem?_eq_getElem (by omega)⟩
      have hll:=(hgo.ok l (List.mem_of_getElem? hl)).1
      have hrd:rdy (gr m) out k=(!decide (k ∈ out) && l.all (fun j=>decide (j ∈ out))):=by unfold rdy;rw [hl];simp
      refine T.eq (zjK out k (by omega)) ?_
      refine T.lp (fun (q:Bool × Int)=>0 ≤ q.2∧q.2 ≤ (l.length:Int)∧(q.1 && (l.drop q.2.toNat).all (fun j=>decide (j ∈ out)))=rdy (gr m) out k) (fun (q:Bool × Int)=>((l.length:Int) - q.2).toNat) ⟨Int.le_refl _,by dsimp only;omega,hrd.symm⟩ (by dsimp only;omega) fun L3 q ⟨g1,g2,g3⟩ hL3=>?_
      obtain ⟨b,j⟩:=q
      dsimp only at g1 g2 g3 ⊢
      refine T.get hk0 (by omega) fun l' hl'=>?_
      rw [hl] at hl';cases hl'
      refine T.br (fun hb3=>?_) fun hb3=>?_
      · have hb3:=zOT hb3
        obtain ⟨x,hx⟩:∃ x,l[j.toNat]?=some x:=⟨_,List.getElem?_eq_getElem (by omega)⟩
        rw [zhE g1 hx,List.all_cons,← Bool.and_assoc] at g3
        refine T.jp (fun c=>c=(b && decide (x ∈ out))) (fun J kk=>T.br (fun h=>T.get hk0 (by omega) fun l' hl'=>?_) fun h=>kk _ (by rw [h];rfl)) fun c hc=>T.ck (by omega) (hL3 _ ⟨by dsimp only;omega,by dsimp only;omega,by dsimp only;rw [hc];exact g3⟩ (by dsimp only;omega))
        rw [hl] at hl';cases hl'
        refine T.get g1 hb3 fun x' hx'=>?_
        rw [hx] at hx';cases hx'
        exact T.eq (zjK out x (by omega)) (kk _ (by rw [h];rfl))
      · have hb3:=zOF hb3
        rw [List.drop_eq_nil_of_le (by omega),List.all_nil,Bool.and_true] at g3
        refine T.br (fun hr=>T.abl (by simp only [List.length_singleton];omega) (hL _ (ho.next hlt (hk.hit (by omega) (by rw [← g3];exact hr))) (by rw [List.length_append,List.length_singleton];omega))) fun hr=>T.ck (by omega) (hL2 _ (hk.next (by omega) (by rw [← g3];exact hr)) (by omega))
    · have hb2:=zOF hb2
      exact absurd (hk.miss (by omega)) (znv w he hlt)
  · unfold ordr;rw [if_pos he,ho.done (zOF hb)]
end Go.Proofs.Q


namespace Go.Proofs.Q
open Go.Sy
set_option linter.unusedVariables false

def Good (U:Gr) (out:List Int):Prop:=∀ (k:Nat) (i:Int),out[k]?=some i→0 ≤ i∧i < U.length∧i ∉ out.take k∧∀ j ∈ (U[i.toNat]?).getD [],j ∈ out.take k
theorem Good.nil (U:Gr):Good U []:=fun k i h=>by simp at h
theorem Good.next {U:Gr} {out:List Int} {i:Int} (h:Good U out) (hf:first (rdy U out) U.length 0=some i):Good U (out ++ [i]):=by
  obtain ⟨h1,h2,h3⟩:=zmO hf
  unfold rdy at h3
  rw [Bool.and_eq_true] at h3
  intro k x hk
  rcases Nat.lt_trichotomy k out.length with e | e | e
  · rw [List.getElem?_append_left e] at hk
    rw [List.take_append_of_le_length (by omega)]
    exact h k x hk
  · subst e
    rw [List.getElem?_append_right (Nat.le_refl _)] at hk
    simp at hk
    subst hk
    rw [List.take_append_of_le_length (Nat.le_refl _),List.take_length]
    exact ⟨h1,by omega,zOT h3.1,fun j hj=>zOT (List.all_eq_true.1 h3.2 j hj)⟩
  · rw [List.getElem?_append_right (by omega),List.getElem?_eq_none (by simp;omega)] at hk
    cases hk
theorem zrg (U:Gr):∀ k out,Good U out→Good U (topo U k out):=by
  intro k
  induction k with
  | zero=>intro out h;exact h
  | succ k ih =>
    intro out h
    unfold topo
    split
    · rename_i i hi;exact ih _ (h.next hi)
    · exact h
theorem zq2 {m:GMod} (w:WF m) (h:(wr m).2=0):∀ k out,out.length + k=m.names.length→(topo (gr m) k out).length=m.names.length:=by
  intro k
  induction k with
  | zero=>intro out h;exact h
  | succ k ih =>
    intro out hl
    unfold topo
    split
    · rename_i i hi;exact ih _ (by rw [List.length_append,List.length_singleton];omega)
    · rename_i hn;exact absurd hn (znv w h (by omega))
theorem ranks {m:GMod} (w:WF m) (h:(wr m).2=0):∃ rk:Int→Nat,(∀ i,rk i ≤ m.names.length)∧∀ i j,Ed (gr m) i j→rk j < rk i:=by
  have hl:=zq2 w h m.names.length [] (by simp)
  have hg:=zrg (gr m) m.names.length [] (Good.nil _)
  generalize topo (gr m) m.names.length []=out at hl hg
  have hgl:=zlr w
  have hnd:out.Nodup:=by
    rw [List.nodup_iff_pairwise_ne,List.pairwise_iff_getElem]
    intro i j hi hj hij he
    have h1:=(hg j (out[j]) (List.getElem?_eq_getElem hj)).2.2.1
    refine h1 ?_
    rw [← he]
    exact List.mem_take_iff_getElem.2 ⟨i,by omega,rfl⟩
  have hsub:∀ x ∈ out,x ∈ nums m.names.length:=fun x hx=>by
    obtain ⟨k,hk⟩:=List.mem_iff_getElem?.1 hx
    have:=hg k x hk
    exact zgK.2 ⟨this.1,by omega⟩
  have hall:∀ i:Int,0 ≤ i→i < m.names.length→i ∈ out:=fun i h0 h1=>by
    refine Classical.byContradiction fun hno=>?_
    have:=zb5 (a:=i :: out) (b:=nums m.names.length) (List.nodup_cons.2 ⟨hno,hnd⟩) (fun x hx=>by
      rcases List.mem_cons.1 hx with e | e
      · rw [e];exact zgK.2 ⟨h0,h1⟩
      · exact hsub x e)
    rw [zeW,List.length_cons] at this
    omega
  refine ⟨fun i=>out.idxOf i,fun i=>by rw [← hl];exact List.idxOf_le_length,fun i j ⟨h0,l,h1,h2⟩=>?_⟩
  have hi:i < m.names.length:=by
    have:=(List.getElem?_eq_some_iff.1 h1).1
    omega
  have hio:=hall i h0 hi
  have hlt:=List.idxOf_lt_length_of_mem hio
  have hk:=hg (out.idxOf i) i (by rw [List.getElem?_eq_getElem hlt,List.getElem_idxOf])
  have hj:=hk.2.2.2 j (by rw [h1];exact h2)
  obtain ⟨n,hn,he⟩:=List.mem_take_iff_getElem.1 hj
  have hn2:n < out.length:=by omega
  have:out.idxOf j ≤ n:=by
    rw [← he]
    rw [hnd.idxOf_getElem n hn2]
    exact Nat.le_refl _
  show out.idxOf j < out.idxOf i
  omega
end Go.Proofs.Q


namespace Go.Proofs.Q
open Go.Sy
set_option maxRecDepth 4000
def zaY (a_x:GMk) (a_e:Int):Option (GMk) :=
  br (decide (a_x.e=(0:Int))) (some ((GMk.mk a_x.m a_x.l a_e))) (some (a_x))

def zes (zfI:Int):Option (Tag) :=
  br (decide (zfI=(1:Int))) (some ((Tag.mk (0:Int) (1:Int)))) (br (decide (zfI=(2:Int))) (some ((Tag.mk (0:Int) (2:Int)))) (br (decide (zfI=(5:Int))) (some ((Tag.mk (0:Int) (4:Int)))) (br (decide (zfI=(4:Int))) (some ((Tag.mk (0:Int) (5:Int)))) (br (decide (zfI=(3:Int))) (some ((Tag.mk (0:Int) (10:Int)))) (br (decide (zfI=(6:Int))) (some ((Tag.mk (0:Int) (12:Int)))) (jp (ι:=Bool) (fun J3=>br (decide (zfI=(7:Int))) (J3 ((decide (zfI=(7:Int))))) (J3 ((decide (zfI=(10:Int)))))) (fun q2=>br q2 (some ((Tag.mk (0:Int) (16:Int)))) (br (decide (zfI=(8:Int))) (some ((Tag.mk (0:Int) (17:Int)))) (some ((Tag.mk (0:Int) (0:Int))))))))))))

def zhB (a_c:GCon) (zoo:Bool):Option (Int) :=
  br (!a_c.has) (some ((0:Int))) (jp (ι:=Bool) (fun J2=>br a_c.hasLow (J2 (a_c.hasHigh)) (J2 (false))) (fun q1=>jp (ι:=Bool) (fun J5=>br q1 (J5 ((decide (a_c.high < a_c.low)))) (J5 (false))) (fun q4=>br q4 (some ((11:Int))) (jp (ι:=Bool) (fun J8=>br zoo (jp (ι:=Bool) (fun J11=>br (!a_c.hasLow) (J11 (true)) (J11 ((decide (a_c.low < (0:Int)))))) (fun q10=>jp (ι:=Bool) (fun J14=>br q10 (J14 (true)) (J14 ((decide ((70000:Int) < a_c.low))))) (fun q13=>jp (ι:=Bool) (fun J17=>br q13 (J17 (true)) (jp (ι:=Bool) (fun J20=>br a_c.hasHigh (jp (ι:=Bool) (fun J23=>br (decide (a_c.high < (0:Int))) (J23 (true)) (J23 ((decide ((70000:Int) < a_c.high))))) (fun q22=>J20 (q22))) (J20 (false))) (fun q19=>J17 (q19)))) (fun q16=>J8 (q16))))) (J8 (false))) (fun q7=>br q7 (some ((11:Int))) (some ((0:Int))))))))

def zhU (a_l:(List GItem)) (a_v:Int):Option (Bool) :=
  lp (ι:=Int) (fun L2 q1=>br (decide (q1 < (a_l.length:Int))) (cal (getI a_l q1) fun y9=>jp (ι:=Bool) (fun J11=>br y9.has (cal (getI a_l q1) fun y13=>J11 ((decide (y13.number=a_v)))) (J11 (false))) (fun q10=>br q10 (some (true)) (ck ((q1 + (1:Int))) <| L2 ((q1 + (1:Int)))))) (some (false))) (((0:Int)))

def zdv (a_x:GMk) (a_n_:GNode):Option ((List GItem) × GMk) :=
  lp (ι:=(List GItem) × Int × Int) (fun L3 q2=>br (decide (q2.2.2 < a_n_.root)) (cal (getI a_n_.items q2.2.2) fun y335=>jp (ι:=Int × GItem) (fun J338=>br (!y335.has) (lp (ι:=Int) (fun L340 q339=>asr (decide (0 ≤ (0:Int)∧(0:Int) ≤ a_n_.root∧a_n_.root ≤ (a_n_.items.length:Int))) <| cal (zhU ((a_n_.items.take (a_n_.root).toNat).drop (0:Int).toNat) q339) fun y346=>br y346 (ck ((q339 + (1:Int))) <| L340 ((q339 + (1:Int)))) (ck ((q339 + (1:Int))) <| J338 ((q339 + (1:Int)),{ y335 with number:=q339 }))) ((q2.2.1))) (J338 (q2.2.1,y335))) (fun q337=>asr (Nat.ble (q2.1.length + ([{ q337.2 with has:=false }]:(List GItem)).length) 68719476736) <| ck ((q2.2.2 + (1:Int))) <| L3 ((q2.1 ++ ([{ q337.2 with has:=false }]:(List GItem))),q337.1,(q2.2.2 + (1:Int))))) (lp (ι:=(List GItem) × Int × Bool × Bool × Int) (fun L355 q354=>br (decide (q354.2.2.2.2 < (a_n_.items.length:Int))) (cal (getI a_n_.items q354.2.2.2.2) fun y558=>jp (ι:=GItem) (fun J561=>br (!y558.has) (lp (ι:=Int × GItem) (fun L563 q562=>br (decide (q562.1 < (q354.1.length:Int))) (jp (ι:=GItem) (fun J578=>cal (getI q354.1 q562.1) fun y579=>br (decide (y579.number=(9223372036854775807:Int))) (cal (zaY a_x (11:Int)) fun y580=>some (([]:(List GItem)),y580)) (jp (ι:=Bool) (fun J584=>br (decide (q562.1=(0:Int))) (J584 (true)) (cal (getI q354.1 q562.1) fun y586=>J584 ((decide (q562.2.number ≤ y586.number))))) (fun q583=>br q583 (cal (getI q354.1 q562.1) fun y587=>ck ((y587.number + (1:Int))) <| J578 ({ q562.2 with number:=(y587.number + (1:Int)) })) (J578 (q562.2))))) (fun q577=>ck ((q562.1 + (1:Int))) <| L563 ((q562.1 + (1:Int)),q577))) (J561 (q562.2))) (((0:Int),{ y558 with number:=(0:Int) }))) (J561 (y558))) (fun q560=>jp (ι:=Bool) (fun J592=>br q354.2.2.2.1 (J592 (true)) (jp (ι:=Bool) (fun J595=>br q354.2.2.1 (J595 ((decide (q560.number ≤ q354.2.1)))) (J595 (false))) (fun q594=>J592 (q594)))) (fun q591=>asr (Nat.ble (q354.1.length + ([{ q560 with has:=false }]:(List GItem)).length) 68719476736) <| ck ((q354.2.2.2.2 + (1:Int))) <| L355 ((q354.1 ++ ([{ q560 with has:=false }]:(List GItem))),q560.number,true,q591,(q354.2.2.2.2 + (1:Int)))))) (lp (ι:=Bool × Int) (fun L602 q601=>br (decide (q601.2 < (q354.1.length:Int))) (lp (ι:=Bool × Int) (fun L634 q633=>br (decide (q633.2 < q601.2)) (jp (ι:=Bool) (fun J648=>br q633.1 (J648 (true)) (cal (getI q354.1 q633.2) fun y650=>cal (getI q354.1 q601.2) fun y651=>J648 ((decide (y650.name=y651.name))))) (fun q647=>jp (ι:=Bool) (fun J653=>br q647 (J653 (true)) (cal (getI q354.1 q633.2) fun y655=>cal (getI q354.1 q601.2) fun y656=>J653 ((decide (y655.number=y656.number))))) (fun q652=>ck ((q633.2 + (1:Int))) <| L634 (q652,(q633.2 + (1:Int)))))) (ck ((q601.2 + (1:Int))) <| L602 (q633.1,(q601.2 + (1:Int))))) ((q601.1,(0:Int)))) (jp (ι:=GMk) (fun J661=>br q601.1 (cal (zaY a_x (8:Int)) fun y662=>J661 (y662)) (J661 (a_x))) (fun q660=>some (q354.1,q660)))) ((q354.2.2.2.1,(0:Int))))) ((q2.1,(0:Int),false,false,a_n_.root)))) ((([]:(List GItem)),(0:Int),(0:Int)))

def zcC (a_c:GCon) (a_v:Int):Option (Bool) :=
  jp (ι:=Bool) (fun J2=>br (!a_c.has) (J2 (true)) (jp (ι:=Bool) (fun J5=>br (!a_c.hasLow) (J5 (true)) (J5 ((decide (a_c.low ≤ a_v))))) (fun q4=>jp (ι:=Bool) (fun J8=>br q4 (jp (ι:=Bool) (fun J11=>br (!a_c.hasHigh) (J11 (true)) (J11 ((decide (a_v ≤ a_c.high))))) (fun q10=>J8 (q10))) (J8 (false))) (fun q7=>J2 (q7))))) (fun q1=>some (q1))

def za8 (a_s:(List UInt8)):Option (UInt64) :=
  cal (getI a_s (0:Int)) fun y1=>cal (getI a_s (1:Int)) fun y2=>asr (Nat.ble (8:UInt64).toNat 64) <| cal (getI a_s (2:Int)) fun y4=>asr (Nat.ble (16:UInt64).toNat 64) <| cal (getI a_s (3:Int)) fun y6=>asr (Nat.ble (24:UInt64).toNat 64) <| cal (getI a_s (4:Int)) fun y8=>asr (Nat.ble (32:UInt64).toNat 64) <| cal (getI a_s (5:Int)) fun y10=>asr (Nat.ble (40:UInt64).toNat 64) <| cal (getI a_s (6:Int)) fun y12=>asr (Nat.ble (48:UInt64).toNat 64) <| cal (getI a_s (7:Int)) fun y14=>asr (Nat.ble (56:UInt64).toNat 64) <| some ((((((((y1.toUInt64 ||| (shl64 y2.toUInt64 (8:UInt64).toNat)) ||| (shl64 y4.toUInt64 (16:UInt64).toNat)) ||| (shl64 y6.toUInt64 (24:UInt64).toNat)) ||| (shl64 y8.toUInt64 (32:UInt64).toNat)) ||| (shl64 y10.toUInt64 (40:UInt64).toNat)) ||| (shl64 y12.toUInt64 (48:UInt64).toNat)) ||| (shl64 y14.toUInt64 (56:UInt64).toNat)))

def zcW (a_p:(List UInt8)):Option (Bool) :=
  asr (decide (0 ≤ (a_p.length:Int)∧(a_p.length:Int) ≤ (a_p.length:Int))) <| lp (ι:=(List UInt8)) (fun L3 q2=>br (decide ((0:Int) < (q2.length:Int))) (cal (getI q2 (0:Int)) fun y99=>br (decide (y99 < (128:UInt8))) (asr (decide (0 ≤ (1:Int)∧(1:Int) ≤ (q2.length:Int)∧(q2.length:Int) ≤ (q2.length:Int))) <| jp (ι:=Bool) (fun J102=>br (decide ((8:Int) < (((q2.take ((q2.length:Int)).toNat).drop ((1:Int)).toNat).length:Int))) (cal (za8 ((q2.take ((q2.length:Int)).toNat).drop ((1:Int)).toNat)) fun y104=>J102 ((decide ((y104 &&& (9259542123273814144:UInt64))=(0:UInt64))))) (J102 (false))) (fun q101=>jp (ι:=(List UInt8)) (fun J106=>br q101 (asr (decide (0 ≤ (8:Int)∧(8:Int) ≤ (((q2.take ((q2.length:Int)).toNat).drop ((1:Int)).toNat).length:Int)∧(((q2.take ((q2.length:Int)).toNat).drop ((1:Int)).toNat).length:Int) ≤ (((q2.take ((q2.length:Int)).toNat).drop ((1:Int)).toNat).length:Int))) <| jp (ι:=Bool) (fun J109=>br (decide ((16:Int) < (((((q2.take ((q2.length:Int)).toNat).drop ((1:Int)).toNat).take ((((q2.take ((q2.length:Int)).toNat).drop ((1:Int)).toNat).length:Int)).toNat).drop ((8:Int)).toNat).length:Int))) (asr (decide (0 ≤ (8:Int)∧(8:Int) ≤ (((((q2.take ((q2.length:Int)).toNat).drop ((1:Int)).toNat).take ((((q2.take ((q2.length:Int)).toNat).drop ((1:Int)).toNat).length:Int)).toNat).drop ((8:Int)).toNat).length:Int)∧(((((q2.take ((q2.length:Int)).toNat).drop ((1:Int)).toNat).take ((((q2.take ((q2.length:Int)).toNat).drop ((1:Int)).toNat).length:Int)).toNat).drop ((8:Int)).toNat).length:Int) ≤ (((((q2.take ((q2.length:Int)).toNat).drop ((1:Int)).toNat).take ((((q2.take ((q2.length:Int)).toNat).drop ((1:Int)).toNat).length:Int)).toNat).drop ((8:Int)).toNat).length:Int))) <| cal (za8 ((((q2.take ((q2.length:Int)).toNat).drop ((1:Int)).toNat).take ((((q2.take ((q2.length:Int)).toNat).drop ((1:Int)).toNat).length:Int)).toNat).drop ((8:Int)).toNat)) fun y112=>cal (za8 ((((((q2.take ((q2.length:Int)).toNat).drop ((1:Int)).toNat).take ((((q2.take ((q2.length:Int)).toNat).drop ((1:Int)).toNat).length:Int)).toNat).drop ((8:Int)).toNat).take ((((((q2.take ((q2.length:Int)).toNat).drop ((1:Int)).toNat).take ((((q2.take ((q2.length:Int)).toNat).drop ((1:Int)).toNat).length:Int)).toNat).drop ((8:Int)).toNat).length:Int)).toNat).drop ((8:Int)).toNat)) fun y113=>J109 ((decide (((y112 ||| y113) &&& (9259542123273814144:UInt64))=(0:UInt64))))) (J109 (false))) (fun q108=>br q108 (asr (decide (0 ≤ (16:Int)∧(16:Int) ≤ (((((q2.take ((q2.length:Int)).toNat).drop ((1:Int)).toNat).take ((((q2.take ((q2.length:Int)).toNat).drop ((1:Int)).toNat).length:Int)).toNat).drop ((8:Int)).toNat).length:Int)∧(((((q2.take ((q2.length:Int)).toNat).drop ((1:Int)).toNat).take ((((q2.take ((q2.length:Int)).toNat).drop ((1:Int)).toNat).length:Int)).toNat).drop ((8:Int)).toNat).length:Int) ≤ (((((q2.take ((q2.length:Int)).toNat).drop ((1:Int)).toNat).take ((((q2.take ((q2.length:Int)).toNat).drop ((1:Int)).toNat).length:Int)).toNat).drop ((8:Int)).toNat).length:Int))) <| lp (ι:=(List UInt8)) (fun L116 q115=>jp (ι:=Bool) (fun J129=>br (decide ((32:Int) < (q115.length:Int))) (asr (decide (0 ≤ (8:Int)∧(8:Int) ≤ (q115.length:Int)∧(q115.length:Int) ≤ (q115.length:Int))) <| asr (decide (0 ≤ (16:Int)∧(16:Int) ≤ (q115.length:Int)∧(q115.length:Int) ≤ (q115.length:Int))) <| asr (decide (0 ≤ (24:Int)∧(24:Int) ≤ (q115.length:Int)∧(q115.length:Int) ≤ (q115.length:Int))) <| cal (za8 q115) fun y134=>cal (za8 ((q115.take ((q115.length:Int)).toNat).drop ((8:Int)).toNat)) fun y135=>cal (za8 ((q115.take ((q115.length:Int)).toNat).drop ((16:Int)).toNat)) fun y136=>cal (za8 ((q115.take ((q115.length:Int)).toNat).drop ((24:Int)).toNat)) fun y137=>J129 ((decide ((((y134 ||| y135) ||| (y136 ||| y137)) &&& (9259542123273814144:UInt64))=(0:UInt64))))) (J129 (false))) (fun q128=>br q128 (asr (decide (0 ≤ (32:Int)∧(32:Int) ≤ (q115.length:Int)∧(q115.length:Int) ≤ (q115.length:Int))) <| L116 (((q115.take ((q115.length:Int)).toNat).drop ((32:Int)).toNat))) (J106 (q115)))) ((((((((q2.take ((q2.length:Int)).toNat).drop ((1:Int)).toNat).take ((((q2.take ((q2.length:Int)).toNat).drop ((1:Int)).toNat).length:Int)).toNat).drop ((8:Int)).toNat).take ((((((q2.take ((q2.length:Int)).toNat).drop ((1:Int)).toNat).take ((((q2.take ((q2.length:Int)).toNat).drop ((1:Int)).toNat).length:Int)).toNat).drop ((8:Int)).toNat).length:Int)).toNat).drop ((16:Int)).toNat)))) (J106 (((((q2.take ((q2.length:Int)).toNat).drop ((1:Int)).toNat).take ((((q2.take ((q2.length:Int)).toNat).drop ((1:Int)).toNat).length:Int)).toNat).drop ((8:Int)).toNat))))) (J106 (((q2.take ((q2.length:Int)).toNat).drop ((1:Int)).toNat)))) (fun q105=>L3 (q105)))) (asr (Nat.ble (4:UInt64).toNat 8) <| asr (Nat.blt (shr8 (tab1 y99) (4:UInt64).toNat).toNat 16) <| br (decide ((((tab1 y99) &&& (7:UInt8)).toNat:Int)=(2:Int))) (jp (ι:=Bool) (fun J144=>br (decide ((q2.length:Int) < (2:Int))) (J144 (true)) (cal (getI q2 (1:Int)) fun y146=>J144 ((decide (y146 < (tab2 (shr8 (tab1 y99) (4:UInt64).toNat)).lo))))) (fun q143=>jp (ι:=Bool) (fun J148=>br q143 (J148 (true)) (cal (getI q2 (1:Int)) fun y150=>J148 ((decide ((tab2 (shr8 (tab1 y99) (4:UInt64).toNat)).hi < y150))))) (fun q147=>br q147 (some (false)) (asr (decide (0 ≤ (2:Int)∧(2:Int) ≤ (q2.length:Int)∧(q2.length:Int) ≤ (q2.length:Int))) <| L3 (((q2.take ((q2.length:Int)).toNat).drop ((2:Int)).toNat)))))) (br (decide ((((tab1 y99) &&& (7:UInt8)).toNat:Int)=(3:Int))) (jp (ι:=Bool) (fun J153=>br (decide ((q2.length:Int) < (3:Int))) (J153 (true)) (cal (getI q2 (1:Int)) fun y155=>J153 ((decide (y155 < (tab2 (shr8 (tab1 y99) (4:UInt64).toNat)).lo))))) (fun q152=>jp (ι:=Bool) (fun J157=>br q152 (J157 (true)) (cal (getI q2 (1:Int)) fun y159=>J157 ((decide ((tab2 (shr8 (tab1 y99) (4:UInt64).toNat)).hi < y159))))) (fun q156=>jp (ι:=Bool) (fun J161=>br q156 (J161 (true)) (cal (getI q2 (2:Int)) fun y163=>J161 ((decide (y163 < (128:UInt8)))))) (fun q160=>jp (ι:=Bool) (fun J165=>br q160 (J165 (true)) (cal (getI q2 (2:Int)) fun y167=>J165 ((decide ((191:UInt8) < y167))))) (fun q164=>br q164 (some (false)) (asr (decide (0 ≤ (3:Int)∧(3:Int) ≤ (q2.length:Int)∧(q2.length:Int) ≤ (q2.length:Int))) <| L3 (((q2.take ((q2.length:Int)).toNat).drop ((3:Int)).toNat)))))))) (br (decide ((((tab1 y99) &&& (7:UInt8)).toNat:Int)=(4:Int))) (jp (ι:=Bool) (fun J170=>br (decide ((q2.length:Int) < (4:Int))) (J170 (true)) (cal (getI q2 (1:Int)) fun y172=>J170 ((decide (y172 < (tab2 (shr8 (tab1 y99) (4:UInt64).toNat)).lo))))) (fun q169=>jp (ι:=Bool) (fun J174=>br q169 (J174 (true)) (cal (getI q2 (1:Int)) fun y176=>J174 ((decide ((tab2 (shr8 (tab1 y99) (4:UInt64).toNat)).hi < y176))))) (fun q173=>jp (ι:=Bool) (fun J178=>br q173 (J178 (true)) (cal (getI q2 (2:Int)) fun y180=>J178 ((decide (y180 < (128:UInt8)))))) (fun q177=>jp (ι:=Bool) (fun J182=>br q177 (J182 (true)) (cal (getI q2 (2:Int)) fun y184=>J182 ((decide ((191:UInt8) < y184))))) (fun q181=>jp (ι:=Bool) (fun J186=>br q181 (J186 (true)) (cal (getI q2 (3:Int)) fun y188=>J186 ((decide (y188 < (128:UInt8)))))) (fun q185=>jp (ι:=Bool) (fun J190=>br q185 (J190 (true)) (cal (getI q2 (3:Int)) fun y192=>J190 ((decide ((191:UInt8) < y192))))) (fun q189=>br q189 (some (false)) (asr (decide (0 ≤ (4:Int)∧(4:Int) ≤ (q2.length:Int)∧(q2.length:Int) ≤ (q2.length:Int))) <| L3 (((q2.take ((q2.length:Int)).toNat).drop ((4:Int)).toNat)))))))))) (some (false)))))) (some (true))) (((a_p.take ((a_p.length:Int)).toNat)))

def zcA (a_x:GMk) (a_i:Int) (a_v:Val):Option (Val × GMk) :=
  asr (decide (0 ≤ a_i∧a_i < ((a_x.l.length:Nat):Int))) <| cal (a_x.l[a_i.toNat]?) fun y5=>jp (ι:=Bool × Val) (fun J8=>jp (ι:=Bool) (fun J10=>br (decide (y5.kind=(1:Int))) (J10 ((decide (y5.kind=(1:Int))))) (J10 ((decide (y5.kind=(4:Int)))))) (fun q9=>br q9 (J8 ((decide (a_v.kind=y5.kind)),a_v)) (br (decide (y5.kind=(2:Int))) (jp (ι:=Bool) (fun J12=>br (decide (a_v.kind=y5.kind)) (cal (zcC y5.con a_v.n) fun y14=>J12 (y14)) (J12 (false))) (fun q11=>J8 (q11,a_v))) (jp (ι:=Bool) (fun J16=>br (decide (y5.kind=(5:Int))) (J16 ((decide (y5.kind=(5:Int))))) (J16 ((decide (y5.kind=(6:Int)))))) (fun q15=>br q15 (jp (ι:=Bool) (fun J18=>br (decide (a_v.kind=y5.kind)) (cal (zcC y5.con (a_v.b.length:Int)) fun y20=>J18 (y20)) (J18 (false))) (fun q17=>jp (ι:=Bool) (fun J22=>br q17 (jp (ι:=Bool) (fun J25=>br (decide (y5.kind=(5:Int))) (J25 (true)) (cal (zcW a_v.b) fun y27=>J25 (y27))) (fun q24=>J22 (q24))) (J22 (false))) (fun q21=>J8 (q21,a_v)))) (br (decide (y5.kind=(3:Int))) (br (decide (a_v.kind=y5.kind)) (lp (ι:=Bool × Int × Val) (fun L29 q28=>jp (ι:=Bool) (fun J41=>br (decide (q28.2.1 < y5.root)) (J41 ((!q28.1))) (J41 (false))) (fun q40=>br q40 (jp (ι:=Bool × Val) (fun J44=>cal (getI y5.items q28.2.1) fun y47=>br (decide (y47.name=(Str.mk q28.2.2.b))) (cal (getI y5.items q28.2.1) fun y48=>J44 (true,(Val.mk (3:Int) y48.number ([]:(List UInt8)) ([]:(List Val)) (0:Int) ([]:(List Raw))))) (J44 (q28.1,q28.2.2))) (fun q43=>ck ((q28.2.1 + (1:Int))) <| L29 (q43.1,(q28.2.1 + (1:Int)),q43.2))) (J8 (q28.1,q28.2.2)))) ((false,(0:Int),a_v))) (J8 ((decide (a_v.kind=y5.kind)),a_v))) (J8 (false,a_v)))))))) (fun q7=>jp (ι:=GMk) (fun J52=>br (!q7.1) (cal (zaY a_x (13:Int)) fun y53=>J52 (y53)) (J52 (a_x))) (fun q51=>some (q7.2,q51)))

def zc7 (a_x:GMk) (a_i:Int):Option (Int × GMk) :=
  asr (decide (0 ≤ a_i∧a_i < ((a_x.l.length:Nat):Int))) <| cal (a_x.l[a_i.toNat]?) fun y3=>br (decide ((0:Int) < (y3.tags.length:Int))) (some ((1:Int),a_x)) (some ((0:Int),a_x))

def zjd (zd1:(List Tag)) (zb0:Int) (zhr:Int):Option ((List Tag) × Int) :=
  jp (ι:=Bool) (fun J2=>br (decide (zb0 < (0:Int))) (J2 (true)) (J2 ((decide ((268435456:Int) < zb0))))) (fun q1=>jp (ι:=Bool) (fun J5=>br q1 (J5 (true)) (jp (ι:=Bool) (fun J8=>br (decide (zhr=(1:Int))) (J8 ((decide ((zd1.length:Int)=(0:Int))))) (J8 (false))) (fun q7=>J5 (q7)))) (fun q4=>br q4 (some (([]:(List Tag)),(12:Int))) (br (decide (zhr=(1:Int))) (asr (decide (0 ≤ (1:Int)∧(1:Int) ≤ (zd1.length:Int)∧(zd1.length:Int) ≤ (zd1.length:Int))) <| asr (Nat.ble (([(Tag.mk (2:Int) zb0)]:(List Tag)).length + ((zd1.take ((zd1.length:Int)).toNat).drop ((1:Int)).toNat).length) 68719476736) <| some ((([(Tag.mk (2:Int) zb0)]:(List Tag)) ++ ((zd1.take ((zd1.length:Int)).toNat).drop ((1:Int)).toNat)),(0:Int))) (asr (Nat.ble (([(Tag.mk (2:Int) zb0)]:(List Tag)).length + zd1.length) 68719476736) <| some ((([(Tag.mk (2:Int) zb0)]:(List Tag)) ++ zd1),(0:Int))))))

def zdh (a_x:GMk) (a_i:Int) (zb0:Int) (zhr:Int):Option (GMk) :=
  br (!decide (a_x.e=(0:Int))) (some (a_x)) (asr (decide (0 ≤ a_i∧a_i < ((a_x.l.length:Nat):Int))) <| cal (a_x.l[a_i.toNat]?) fun y3=>cal (zjd y3.tags zb0 zhr) fun y4=>br (!decide (y4.2=(0:Int))) (cal (zaY a_x y4.2) fun y5=>some (y5)) (asr (decide (0 ≤ a_i∧a_i < ((a_x.l.length:Nat):Int))) <| cal (a_x.l[a_i.toNat]?) fun y7=>some ((GMk.mk a_x.m (a_x.l.set a_i.toNat ({ y7 with tags:=y4.1 })) a_x.e))))

def zgD (zjz:(List GTyp)→Int→Option (Bool)) (a_l:(List GTyp)) (a_i:Int):Option (Bool) :=
  asr (decide (0 ≤ a_i∧a_i < ((a_l.length:Nat):Int))) <| cal (a_l[a_i.toNat]?) fun y2=>jp (ι:=Bool) (fun J4=>br (!decide (y2.kind=(9:Int))) (J4 (true)) (asr (decide (0 ≤ a_i∧a_i < ((a_l.length:Nat):Int))) <| cal (a_l[a_i.toNat]?) fun y7=>J4 ((decide ((0:Int) < (y7.tags.length:Int)))))) (fun q3=>br q3 (some (false)) (asr (decide (0 ≤ a_i∧a_i < ((a_l.length:Nat):Int))) <| cal (a_l[a_i.toNat]?) fun y9=>lp (ι:=Bool × Int) (fun L11 q10=>asr (decide (0 ≤ a_i∧a_i < ((a_l.length:Nat):Int))) <| cal (a_l[a_i.toNat]?) fun y23=>br (decide (q10.2 < (y23.fields.length:Int))) (jp (ι:=Bool) (fun J25=>br q10.1 (J25 (true)) (asr (decide (0 ≤ a_i∧a_i < ((a_l.length:Nat):Int))) <| cal (a_l[a_i.toNat]?) fun y28=>cal (getI y28.fields q10.2) fun y29=>cal (zjz a_l y29.ty) fun y30=>J25 (y30))) (fun q24=>ck ((q10.2 + (1:Int))) <| L11 (q24,(q10.2 + (1:Int))))) (some (q10.1))) ((y9.more,(0:Int)))))
def zk0:Nat→((List GTyp)→Int→Option (Bool))
  | 0=>(fun _ _=>none)
  | n + 1=>let p:=zk0 n;(zgD p)
def zjq (n:Nat):(List GTyp)→Int→Option (Bool):=(zk0 n)

def zfn (zhe:(List GTyp)→Int→Option ((List Tag))) (a_l:(List GTyp)) (a_i:Int):Option ((List Tag)) :=
  asr (decide (0 ≤ a_i∧a_i < ((a_l.length:Nat):Int))) <| cal (a_l[a_i.toNat]?) fun y2=>br (decide ((0:Int) < (y2.tags.length:Int))) (asr (decide (0 ≤ a_i∧a_i < ((a_l.length:Nat):Int))) <| cal (a_l[a_i.toNat]?) fun y4=>asr (decide (0 ≤ (0:Int)∧(0:Int) ≤ (1:Int)∧(1:Int) ≤ (y4.tags.length:Int))) <| some (((y4.tags.take ((1:Int)).toNat).drop (0:Int).toNat))) (lp (ι:=(List Tag) × Int) (fun L7 q6=>asr (decide (0 ≤ a_i∧a_i < ((a_l.length:Nat):Int))) <| cal (a_l[a_i.toNat]?) fun y18=>br (decide (q6.2 < (y18.fields.length:Int))) (asr (decide (0 ≤ a_i∧a_i < ((a_l.length:Nat):Int))) <| cal (a_l[a_i.toNat]?) fun y20=>cal (getI y20.fields q6.2) fun y21=>cal (zhe a_l y21.ty) fun y22=>asr (Nat.ble (q6.1.length + y22.length) 68719476736) <| ck ((q6.2 + (1:Int))) <| L7 ((q6.1 ++ y22),(q6.2 + (1:Int)))) (some (q6.1))) ((([]:(List Tag)),(0:Int))))
def zjp:Nat→((List GTyp)→Int→Option ((List Tag)))
  | 0=>(fun _ _=>none)
  | n + 1=>let p:=zjp n;(zfn p)
def zgI (n:Nat):(List GTyp)→Int→Option ((List Tag)):=(zjp n)

def zeg (a_l:(List Tag)) (a_x:Tag):Option (Bool) :=
  lp (ι:=Int) (fun L2 q1=>br (decide (q1 < (a_l.length:Int))) (cal (getI a_l q1) fun y5=>br (decide (y5=a_x)) (some (true)) (ck ((q1 + (1:Int))) <| L2 ((q1 + (1:Int))))) (some (false))) (((0:Int)))

def zfw (zkf:(List (List Tag))):Option (Bool) :=
  lp (ι:=(List Tag) × Int) (fun L2 q1=>br (decide (q1.2 < (zkf.length:Int))) (lp (ι:=(List Tag) × Int) (fun L30 q29=>cal (getI zkf q1.2) fun y42=>br (decide (q29.2 < (y42.length:Int))) (cal (getI zkf q1.2) fun y43=>cal (getI y43 q29.2) fun y44=>cal (zeg q29.1 y44) fun y45=>br y45 (some (false)) (cal (getI zkf q1.2) fun y46=>cal (getI y46 q29.2) fun y47=>asr (Nat.ble (q29.1.length + ([y47]:(List Tag)).length) 68719476736) <| ck ((q29.2 + (1:Int))) <| L30 ((q29.1 ++ ([y47]:(List Tag))),(q29.2 + (1:Int))))) (ck ((q1.2 + (1:Int))) <| L2 (q29.1,(q1.2 + (1:Int))))) ((q1.1,(0:Int)))) (some (true))) ((([]:(List Tag)),(0:Int)))

def zcc (a_x:GMk) (a_l:(List GFld)) (zme:Bool):Option (Bool × GMk) :=
  lp (ι:=(List (List Tag)) × Int) (fun L3 q2=>br (decide (q2.2 < (a_l.length:Int))) (cal (getI a_l q2.2) fun y25=>cal (zjq fuel a_x.l y25.ty) fun y26=>jp (ι:=Bool) (fun J28=>br y26 (jp (ι:=Bool) (fun J31=>br zme (J31 (true)) (J31 ((decide ((1:Int) < (a_l.length:Int)))))) (fun q30=>J28 (q30))) (J28 (false))) (fun q27=>br q27 (some (false,a_x)) (cal (getI a_l q2.2) fun y35=>cal (zgI fuel a_x.l y35.ty) fun y36=>asr (Nat.ble (q2.1.length + ([y36]:(List (List Tag))).length) 68719476736) <| ck ((q2.2 + (1:Int))) <| L3 ((q2.1 ++ ([y36]:(List (List Tag)))),(q2.2 + (1:Int)))))) (cal (zfw q2.1) fun y41=>some (y41,a_x))) ((([]:(List (List Tag))),(0:Int)))

def zgx (a_t:GTyp):Option ((List Bool)) :=
  lp (ι:=(List Bool) × Int) (fun L2 q1=>br (decide (q1.2 < (a_t.fields.length:Int))) (cal (getI a_t.fields q1.2) fun y15=>jp (ι:=Bool) (fun J17=>br y15.optional (J17 (true)) (cal (getI a_t.fields q1.2) fun y19=>J17 (y19.has))) (fun q16=>jp (ι:=Bool) (fun J21=>br q16 (J21 (true)) (J21 ((decide (a_t.root ≤ q1.2))))) (fun q20=>asr (Nat.ble (q1.1.length + ([q20]:(List Bool)).length) 68719476736) <| ck ((q1.2 + (1:Int))) <| L2 ((q1.1 ++ ([q20]:(List Bool))),(q1.2 + (1:Int)))))) (some (q1.1))) ((([]:(List Bool)),(0:Int)))

def zhX (a_t:GTyp):Option (Int) :=
  cal (zgx a_t) fun y1=>lp (ι:=Int) (fun L3 q2=>jp (ι:=Bool) (fun J11=>br (decide ((0:Int) < q2)) (ck ((q2 - (1:Int))) <| cal (getI y1 (q2 - (1:Int))) fun y14=>J11 (y14)) (J11 (false))) (fun q10=>br q10 (ck ((q2 - (1:Int))) <| L3 ((q2 - (1:Int)))) (some (q2)))) ((a_t.root))

def zdx (a_x:GMk) (a_t:GTyp):Option (Bool × GMk) :=
  br (!decide (a_t.kind=(7:Int))) (cal (zcc a_x a_t.fields a_t.more) fun y2=>some (y2.1,y2.2)) (cal (zgx a_t) fun y3=>lp (ι:=Int × GMk) (fun L5 q4=>br (decide (q4.1 < (a_t.fields.length:Int))) (jp (ι:=GMk) (fun J37=>cal (getI y3 q4.1) fun y38=>br (!y38) (J37 (q4.2)) (ck ((q4.1 + (1:Int))) <| lp (ι:=Int) (fun L41 q40=>jp (ι:=Bool) (fun J51=>br (decide (q40 < (a_t.fields.length:Int))) (cal (getI y3 q40) fun y53=>J51 (y53)) (J51 (false))) (fun q50=>br q50 (ck ((q40 + (1:Int))) <| L41 ((q40 + (1:Int)))) (ck ((q40 + (1:Int))) <| asr (decide (0 ≤ q4.1∧q4.1 ≤ (min (q40 + (1:Int)) (a_t.fields.length:Int))∧(min (q40 + (1:Int)) (a_t.fields.length:Int)) ≤ (a_t.fields.length:Int))) <| cal (zcc q4.2 ((a_t.fields.take ((min (q40 + (1:Int)) (a_t.fields.length:Int))).toNat).drop (q4.1).toNat) false) fun y57=>br (!y57.1) (some (false,y57.2)) (J37 (y57.2))))) (((q4.1 + (1:Int)))))) (fun q36=>ck ((q4.1 + (1:Int))) <| L5 ((q4.1 + (1:Int)),q36))) (jp (ι:=Bool × GMk) (fun J61=>br (!a_t.more) (J61 (true,q4.2)) (cal (zhX a_t) fun y63=>asr (decide (0 ≤ y63∧y63 ≤ (a_t.fields.length:Int)∧(a_t.fields.length:Int) ≤ (a_t.fields.length:Int))) <| cal (zcc q4.2 ((a_t.fields.take ((a_t.fields.length:Int)).toNat).drop (y63).toNat) true) fun y65=>J61 (y65.1,y65.2))) (fun q60=>some (q60.1,q60.2)))) (((0:Int),a_x)))

def zcz (zaM:GMk→Int→GNode→Int→Option (GMk)) (zaN:GMk→Int→Int→Option (Int × GMk)) (za2:GMk→GNode→Int→Option (Int × GMk)) (a_x:GMk) (a_i:Int) (a_n_:GNode) (zL:Int):Option (GMk) :=
  lp (ι:=Bool × Int) (fun L3 q2=>br (decide (q2.2 < (a_n_.fields.length:Int))) (cal (getI a_n_.fields q2.2) fun y170=>jp (ι:=Bool) (fun J175=>br q2.1 (J175 (true)) (cal (getI a_x.m.nodes y170.ty) fun y177=>J175 (y177.mark.has))) (fun q174=>ck ((q2.2 + (1:Int))) <| L3 (q174,(q2.2 + (1:Int))))) (jp (ι:=Bool) (fun J180=>br (decide (a_n_.kind=(9:Int))) (J180 ((decide ((a_n_.fields.length:Int)=(0:Int))))) (J180 (false))) (fun q179=>jp (ι:=Bool) (fun J183=>br q179 (J183 ((!a_n_.more))) (J183 (false))) (fun q182=>jp (ι:=GMk) (fun J186=>br q182 (cal (zaY a_x (11:Int)) fun y187=>J186 (y187)) (J186 (a_x))) (fun q185=>lp (ι:=(List GFld) × Int × GMk) (fun L189 q188=>jp (ι:=Bool) (fun J263=>br (decide (q188.2.1 < (a_n_.fields.length:Int))) (J263 ((decide (q188.2.2.e=(0:Int))))) (J263 (false))) (fun q262=>br q262 (cal (getI a_n_.fields q188.2.1) fun y265=>lp (ι:=Int × GMk) (fun L268 q267=>br (decide (q267.1 < q188.2.1)) (jp (ι:=GMk) (fun J299=>cal (getI a_n_.fields q267.1) fun y302=>br (decide (y302.name=y265.name)) (cal (zaY q267.2 (8:Int)) fun y303=>J299 (y303)) (J299 (q267.2))) (fun q298=>ck ((q267.1 + (1:Int))) <| L268 ((q267.1 + (1:Int)),q298))) (ck ((zL + (1:Int))) <| cal (zaN q267.2 y265.ty (zL + (1:Int))) fun y306=>jp (ι:=Bool) (fun J309=>br (decide (y306.2.e=(0:Int))) (J309 (y265.has)) (J309 (false))) (fun q308=>jp (ι:=GFld × GMk) (fun J312=>br q308 (cal (zcA y306.2 y306.1 y265.dflt) fun y313=>J312 ({ { y265 with ty:=y306.1 } with dflt:=y313.1 },y313.2)) (J312 ({ y265 with ty:=y306.1 },y306.2))) (fun q311=>jp (ι:=Bool) (fun J315=>br (decide (q311.2.e=(0:Int))) (J315 ((!q2.1))) (J315 (false))) (fun q314=>jp (ι:=GMk) (fun J318=>br q314 (cal (zc7 q311.2 q311.1.ty) fun y321=>cal (zdh y321.2 q311.1.ty q188.2.1 y321.1) fun y322=>J318 (y322)) (J318 (q311.2))) (fun q317=>asr (Nat.ble (q188.1.length + ([q311.1]:(List GFld)).length) 68719476736) <| ck ((q188.2.1 + (1:Int))) <| L189 ((q188.1 ++ ([q311.1]:(List GFld))),(q188.2.1 + (1:Int)),q317))))))) (((0:Int),q188.2.2))) (br (decide (q188.2.2.e=(0:Int))) (asr (decide (0 ≤ a_i∧a_i < ((q188.2.2.l.length:Nat):Int))) <| cal (q188.2.2.l[a_i.toNat]?) fun y329=>asr (decide (0 ≤ a_i∧a_i < (((q188.2.2.l.set a_i.toNat ({ y329 with fields:=q188.1 })).length:Nat):Int))) <| cal ((q188.2.2.l.set a_i.toNat ({ y329 with fields:=q188.1 }))[a_i.toNat]?) fun y331=>cal (zdx (GMk.mk q188.2.2.m (q188.2.2.l.set a_i.toNat ({ y329 with fields:=q188.1 })) q188.2.2.e) y331) fun y332=>br (!y332.1) (cal (zaY y332.2 (12:Int)) fun y333=>some (y333)) (some (y332.2))) (some (q188.2.2))))) ((([]:(List GFld)),(0:Int),q185))))))) (((!decide (a_x.m.tagging=(2:Int))),(0:Int)))
def zc6 (zaM:GMk→Int→GNode→Int→Option (GMk)) (zaN:GMk→Int→Int→Option (Int × GMk)) (za2:GMk→GNode→Int→Option (Int × GMk)) (a_x:GMk) (a_k:Int) (zL:Int):Option (Int × GMk) :=
  br (!decide (a_x.e=(0:Int))) (some ((0:Int),a_x)) (cal (getI a_x.m.nodes a_k) fun y2=>jp (ι:=Int × GMk) (fun J5=>br (decide (y2.kind=(11:Int))) (cal (zhJ a_x.m y2.name) fun y6=>cal (getI a_x.m.types y6) fun y7=>cal (zaN a_x y7 zL) fun y8=>J5 (y8.1,y8.2)) (cal (za2 a_x y2 zL) fun y12=>J5 (y12.1,y12.2))) (fun q4=>jp (ι:=Bool) (fun J15=>br (decide (q4.2.e=(0:Int))) (J15 (y2.mark.has)) (J15 (false))) (fun q14=>jp (ι:=GMk) (fun J18=>br q14 (jp (ι:=Int × GMk) (fun J20=>br (decide (y2.mark.mode=(2:Int))) (J20 ((1:Int),q4.2)) (jp (ι:=Bool) (fun J22=>br (decide (y2.mark.mode=(0:Int))) (J22 ((!decide (q4.2.m.tagging=(0:Int))))) (J22 (false))) (fun q21=>br q21 (cal (zc7 q4.2 q4.1) fun y24=>J20 (y24.1,y24.2)) (J20 ((0:Int),q4.2))))) (fun q19=>cal (zdh q19.2 q4.1 y2.mark.number q19.1) fun y25=>J18 (y25))) (J18 (q4.2))) (fun q17=>some (q4.1,q17)))))
def zdc (zaM:GMk→Int→GNode→Int→Option (GMk)) (zaN:GMk→Int→Int→Option (Int × GMk)) (za2:GMk→GNode→Int→Option (Int × GMk)) (a_x:GMk) (a_n_:GNode) (zL:Int):Option (Int × GMk) :=
  jp (ι:=Bool) (fun J3=>br (decide ((16:Int) < zL)) (J3 (true)) (J3 ((decide ((300:Int) ≤ ((a_x.l.length:Nat):Int)))))) (fun q2=>br q2 (cal (zaY a_x (5:Int)) fun y5=>some ((0:Int),y5)) (jp (ι:=GTyp) (fun J8=>br (!decide (a_n_.kind=(9:Int))) (cal (zes a_n_.kind) fun y9=>J8 ((GTyp.mk a_n_.kind ([y9]:(List Tag)) a_n_.con ([]:(List GItem)) ([]:(List GFld)) a_n_.root a_n_.more (0:Int)))) (J8 ((GTyp.mk a_n_.kind ([]:(List Tag)) a_n_.con ([]:(List GItem)) ([]:(List GFld)) a_n_.root a_n_.more (0:Int))))) (fun q7=>jp (ι:=GMk) (fun J12=>asr (Nat.ble (a_x.l.length + ([q7]:(List GTyp)).length) 68719476736) <| J12 ((GMk.mk a_x.m (a_x.l ++ ([q7]:(List GTyp))) a_x.e))) (fun q11=>jp (ι:=GMk) (fun J21=>jp (ι:=Bool) (fun J23=>br (decide (a_n_.kind=(2:Int))) (J23 ((decide (a_n_.kind=(2:Int))))) (br (decide (a_n_.kind=(5:Int))) (J23 ((decide (a_n_.kind=(5:Int))))) (br (decide (a_n_.kind=(6:Int))) (J23 ((decide (a_n_.kind=(6:Int))))) (J23 ((decide (a_n_.kind=(10:Int)))))))) (fun q22=>br q22 (cal (zhB a_n_.con (!decide (a_n_.kind=(2:Int)))) fun y24=>jp (ι:=GMk) (fun J26=>br (!decide (y24=(0:Int))) (cal (zaY q11 y24) fun y27=>J26 (y27)) (J26 (q11))) (fun q25=>br (decide (a_n_.kind=(10:Int))) (ck ((zL + (1:Int))) <| cal (zaN q25 a_n_.of (zL + (1:Int))) fun y29=>br (decide (y29.2.e=(0:Int))) (asr (decide (0 ≤ ((a_x.l.length:Nat):Int)∧((a_x.l.length:Nat):Int) < ((y29.2.l.length:Nat):Int))) <| cal (y29.2.l[((a_x.l.length:Nat):Int).toNat]?) fun y32=>J21 ((GMk.mk y29.2.m (y29.2.l.set (((a_x.l.length:Nat):Int).toNat) ({ y32 with of:=y29.1 })) y29.2.e))) (J21 (y29.2))) (J21 (q25)))) (br (decide (a_n_.kind=(3:Int))) (cal (zdv q11 a_n_) fun y33=>asr (decide (y33.2.l.length=q11.l.length)) <| asr (decide (0 ≤ ((a_x.l.length:Nat):Int)∧((a_x.l.length:Nat):Int) < ((q11.l.length:Nat):Int))) <| cal (y33.2.l[((a_x.l.length:Nat):Int).toNat]?) fun y36=>J21 ((GMk.mk y33.2.m (y33.2.l.set (((a_x.l.length:Nat):Int).toNat) ({ y36 with items:=y33.1 })) y33.2.e))) (jp (ι:=Bool) (fun J38=>br (decide (a_n_.kind=(7:Int))) (J38 ((decide (a_n_.kind=(7:Int))))) (br (decide (a_n_.kind=(8:Int))) (J38 ((decide (a_n_.kind=(8:Int))))) (J38 ((decide (a_n_.kind=(9:Int))))))) (fun q37=>br q37 (cal (zaM q11 ((a_x.l.length:Nat):Int) a_n_ zL) fun y39=>J21 (y39)) (J21 (q11))))))) (fun q20=>some (((a_x.l.length:Nat):Int),q20))))))
def zZ:Nat→(GMk→Int→GNode→Int→Option (GMk)) × (GMk→Int→Int→Option (Int × GMk)) × (GMk→GNode→Int→Option (Int × GMk))
  | 0=>(fun _ _ _ _=>none,fun _ _ _=>none,fun _ _ _=>none)
  | n + 1=>let p:=zZ n;(zcz p.1 p.2.1 p.2.2,zc6 p.1 p.2.1 p.2.2,zdc p.1 p.2.1 p.2.2)
def zef (n:Nat):GMk→Int→GNode→Int→Option (GMk):=(zZ n).1
def ze7 (n:Nat):GMk→Int→Int→Option (Int × GMk):=(zZ n).2.1
def zfx (n:Nat):GMk→GNode→Int→Option (Int × GMk):=(zZ n).2.2

def zhH (a_m:GMod):Option (GTab × Int × Int) :=
  cal (zhy a_m) fun y2=>br (!decide (y2.2.2=(0:Int))) (some ((GTab.mk (Str.mk []) ([]:(List Str)) ([]:(List Int)) ([]:(List GTyp))),y2.2.1,y2.2.2)) (jp (ι:=GTab) (fun J6=>asr (Nat.ble (([]:(List Str)).length + a_m.names.length) 68719476736) <| J6 ((GTab.mk a_m.name (([]:(List Str)) ++ a_m.names) ([]:(List Int)) ([]:(List GTyp))))) (fun q5=>lp (ι:=Int × GTab × GMk) (fun L17 q16=>br (decide (q16.1 < (a_m.names.length:Int))) (jp (ι:=GTab × GMk) (fun J35=>cal (getI a_m.types q16.1) fun y36=>cal (ze7 fuel q16.2.2 y36 (0:Int)) fun y37=>asr (Nat.ble (q16.2.1.roots.length + ([y37.1]:(List Int)).length) 68719476736) <| J35 ((GTab.mk q16.2.1.name q16.2.1.names (q16.2.1.roots ++ ([y37.1]:(List Int))) q16.2.1.types),y37.2)) (fun q34=>br (!decide (q34.2.e=(0:Int))) (some ((GTab.mk (Str.mk []) ([]:(List Str)) ([]:(List Int)) ([]:(List GTyp))),q16.1,q34.2.e)) (ck ((q16.1 + (1:Int))) <| L17 ((q16.1 + (1:Int)),q34.1,q34.2)))) (some ((GTab.mk q16.2.1.name q16.2.1.names q16.2.1.roots q16.2.2.l),(0:Int),(0:Int)))) (((0:Int),q5,(GMk.mk a_m ([]:(List GTyp)) (0:Int))))))

def zbE (zbM:Str):Option (GTab × Bool) :=
  br (decide ((3000:Int) < (zbM.b.length:Int))) (some ((GTab.mk (Str.mk []) ([]:(List Str)) ([]:(List Int)) ([]:(List GTyp))),false)) (cal (zfH zbM) fun y2=>br (!decide (y2.2.2=(0:Int))) (some ((GTab.mk (Str.mk []) ([]:(List Str)) ([]:(List Int)) ([]:(List GTyp))),false)) (cal (zhH y2.1) fun y4=>jp (ι:=Bool) (fun J7=>br (decide (y4.2.2=(0:Int))) (J7 ((decide ((y4.1.types.length:Int) ≤ (120:Int))))) (J7 (false))) (fun q6=>some (y4.1,q6))))
end Go.Proofs.Q


namespace Go.Proofs.Q
open Go.Sy
set_option linter.unusedVariables false

theorem zlC (x:GMk) (e:Int):zaY x e=some (if x.e=0 then GMk.mk x.m x.l e else x):=by
  unfold zaY br
  by_cases h:x.e=0 <;> simp [h]
theorem zsN (k:Int):T (fun _=>True) (zes k):=by
  unfold zes
  refine T.br (fun _=>T.some trivial) fun _=>T.br (fun _=>T.some trivial) fun _=>T.br (fun _=>T.some trivial) fun _=>T.br (fun _=>T.some trivial) fun _=>T.br (fun _=>T.some trivial) fun _=>T.br (fun _=>T.some trivial) fun _=>?_
  refine T.jp (fun _=>True) (fun J h=>T.br (fun _=>h _ trivial) fun _=>h _ trivial) fun q _=>T.br (fun _=>T.some trivial) fun _=>T.br (fun _=>T.some trivial) fun _=>T.some trivial
theorem zr5 (c:GCon) (b:Bool):T (fun _=>True) (zhB c b):=by
  unfold zhB
  refine T.br (fun _=>T.some trivial) fun _=>T.jp (fun _=>True) (fun J h=>T.br (fun _=>h _ trivial) fun _=>h _ trivial) fun q _=>T.jp (fun _=>True) (fun J h=>T.br (fun _=>h _ trivial) fun _=>h _ trivial) fun q2 _=>T.br (fun _=>T.some trivial) fun _=>?_
  refine T.jp (fun _=>True) (fun J h=>T.br (fun _=>?_) fun _=>h _ trivial) fun q3 _=>T.br (fun _=>T.some trivial) fun _=>T.some trivial
  refine T.jp (fun _=>True) (fun J2 h2=>T.br (fun _=>h2 _ trivial) fun _=>h2 _ trivial) fun q4 _=>T.jp (fun _=>True) (fun J2 h2=>T.br (fun _=>h2 _ trivial) fun _=>h2 _ trivial) fun q5 _=>?_
  refine T.jp (fun _=>True) (fun J2 h2=>T.br (fun _=>h2 _ trivial) fun _=>T.jp (fun _=>True) (fun J3 h3=>T.br (fun _=>T.jp (fun _=>True) (fun J4 h4=>T.br (fun _=>h4 _ trivial) fun _=>h4 _ trivial) fun q _=>h3 _ trivial) fun _=>h3 _ trivial) fun q _=>h2 _ trivial) fun q6 _=>h _ trivial
theorem zmm (c:GCon) (v:Int):T (fun _=>True) (zcC c v):=by
  unfold zcC
  refine T.jp (fun _=>True) (fun J h=>T.br (fun _=>h _ trivial) fun _=>?_) fun q _=>T.some trivial
  refine T.jp (fun _=>True) (fun J2 h2=>T.br (fun _=>h2 _ trivial) fun _=>h2 _ trivial) fun q2 _=>?_
  exact T.jp (fun _=>True) (fun J2 h2=>T.br (fun _=>T.jp (fun _=>True) (fun J3 h3=>T.br (fun _=>h3 _ trivial) fun _=>h3 _ trivial) fun q _=>h2 _ trivial) fun _=>h2 _ trivial) fun q3 _=>h _ trivial

/-! ### Numbers of items -/
def hasNum (l:List GItem) (v:Int):Bool:=l.any fun it=>it.has && decide (it.number=v)
theorem zoD (y:GItem) (l:List GItem) (v:Int):hasNum (y :: l) v=((y.has && decide (y.number=v)) || hasNum l v):=by unfold hasNum;rw [List.any_cons]
theorem zss (l:List GItem) (v:Int) (hl:l.length ≤ 1000000):zhU l v=some (hasNum l v):=by
  refine T.eqs ?_
  unfold zhU
  refine T.lp (fun (k:Int)=>0 ≤ k∧k ≤ (l.length:Int)∧hasNum l v=hasNum (l.drop k.toNat) v) (fun (k:Int)=>((l.length:Int) - k).toNat) ⟨Int.le_refl _,by omega,rfl⟩ (by omega) fun L k ⟨h1,h2,h3⟩ hL=>?_
  refine T.br (fun hb=>?_) fun hb=>T.some ?_
  · have hb:=zOT hb
    refine T.get h1 hb fun y hy=>?_
    rw [zhE h1 hy] at h3
    refine T.jp (fun q=>q=(y.has && decide (y.number=v))) (fun J h=>T.br (fun h4=>T.get h1 hb fun y' hy'=>h _ (by rw [hy] at hy';cases hy';rw [h4];rfl)) fun h4=>h _ (by rw [h4];rfl)) fun q hq=>?_
    subst hq
    rw [zoD] at h3
    refine T.br (fun h5=>T.some (by rw [h3,h5];rfl)) fun h5=>T.ck (by omega) (hL _ ⟨by omega,by omega,?_⟩ (by omega))
    rw [h3,h5,Bool.false_or]
  · have hb:=zOF hb
    rw [List.drop_eq_nil_of_le (by omega)] at h3
    rw [h3];rfl
def cntGe (l:List GItem) (v:Int):Nat:=(l.filter fun it=>it.has && decide (v ≤ it.number)).length
theorem zpe (l:List GItem) (v:Int):cntGe l v ≤ l.length:=List.length_filter_le _ _
theorem zmQ (l:List GItem) (v:Int):cntGe l (v + 1) ≤ cntGe l v:=by
  unfold cntGe
  induction l with
  | nil=>exact Nat.le_refl _
  | cons a l ih =>
    rw [List.filter_cons,List.filter_cons]
    by_cases h1:a.has && decide (v + 1 ≤ a.number)
    · have h2:(a.has && decide (v ≤ a.number))=true:=by
        simp only [Bool.and_eq_true,decide_eq_true_eq] at h1 ⊢
        exact ⟨h1.1,by omega⟩
      rw [if_pos h1,if_pos h2];simp only [List.length_cons];omega
    · rw [if_neg h1]
      split
      · simp only [List.length_cons];omega
      · exact ih
theorem zlU {l:List GItem} {v:Int} (h:hasNum l v=true):cntGe l (v + 1) + 1 ≤ cntGe l v:=by
  induction l with
  | nil=>cases h
  | cons a l ih =>
    unfold hasNum at h ih
    rw [List.any_cons,Bool.or_eq_true] at h
    have hm:=zmQ l v
    unfold cntGe at hm ih ⊢
    rw [List.filter_cons,List.filter_cons]
    by_cases h1:(a.has && decide (a.number=v))=true
    · simp only [Bool.and_eq_true,decide_eq_true_eq] at h1
      have h2:¬ (a.has && decide (v + 1 ≤ a.number))=true:=by
        simp only [Bool.and_eq_true,decide_eq_true_eq,not_and]
        intro _;omega
      have h3:(a.has && decide (v ≤ a.number))=true:=by
        simp only [Bool.and_eq_true,decide_eq_true_eq];exact ⟨h1.1,by omega⟩
      rw [if_neg h2,if_pos h3];simp only [List.length_cons];omega
    · have ih:=ih (by rcases h with h | h;exact absurd h h1;exact h)
      by_cases h2:(a.has && decide (v + 1 ≤ a.number))=true
      · have h3:(a.has && decide (v ≤ a.number))=true:=by
          simp only [Bool.and_eq_true,decide_eq_true_eq] at h2 ⊢;exact ⟨h2.1,by omega⟩
        rw [if_pos h2,if_pos h3];simp only [List.length_cons];omega
      · rw [if_neg h2]
        split
        · simp only [List.length_cons];omega
        · exact ih
theorem zoX (x:GMk) (n:GNode) (ok:NodeOk n) (hk:n.root ≤ n.items.length):T (fun r=>r.2.m=x.m∧r.2.l=x.l∧(r.2.e=0→x.e=0∧r.1.length=n.items.length∧∀ it ∈ r.1,I64 it.number)) (zdv x n):=by
  unfold zdv
  have hr0:=ok.root0
  have hil:=ok.ilen
  have htk:(n.items.take n.root.toNat).drop (0:Int).toNat=n.items.take n.root.toNat:=rfl
  refine T.lp (ι:=(List GItem) × Int × Int) (fun q=>0 ≤ q.2.2∧q.2.2 ≤ n.root∧(q.1.length:Int)=q.2.2∧0 ≤ q.2.1∧q.2.1 + (cntGe (n.items.take n.root.toNat) q.2.1:Int) ≤ q.2.2 + n.root∧∀ it ∈ q.1,I64 it.number) (fun q=>(n.root - q.2.2).toNat)
    ⟨Int.le_refl _,hr0,rfl,Int.le_refl _,by
      have:=zpe (n.items.take n.root.toNat) 0
      rw [List.length_take] at this
      dsimp only;omega,by simp⟩ (by dsimp only;omega) fun L q ⟨h1,h2,h3,h4,h5,h6⟩ hL=>?_
  obtain ⟨out,next,i⟩:=q
  dsimp only at h1 h2 h3 h4 h5 h6 hL ⊢
  refine T.br (fun hb=>?_) fun hb=>?_
  · have hb:=zOT hb
    refine T.get h1 (by omega) fun y hy=>?_
    have hyn:I64 y.number:=ok.nums y (List.mem_of_getElem? hy)
    refine T.jp (ι:=Int × GItem) (fun p=>0 ≤ p.1∧p.1 + (cntGe (n.items.take n.root.toNat) p.1:Int) ≤ i + 1 + n.root∧I64 p.2.number) (fun J h=>T.br (fun _=>?_) fun _=>h _ ⟨h4,by dsimp only;omega,hyn⟩) fun p ⟨p1,p2,p3⟩=>?_
    · refine T.lp (fun (v:Int)=>0 ≤ v∧v + (cntGe (n.items.take n.root.toNat) v:Int) ≤ i + n.root) (fun (v:Int)=>cntGe (n.items.take n.root.toNat) v) ⟨h4,h5⟩ (by have:=zpe (n.items.take n.root.toNat) next;rw [List.length_take] at this;omega) fun L2 v ⟨v1,v2⟩ hL2=>?_
      refine T.asd ⟨Int.le_refl _,hr0,hk⟩ ?_
      rw [htk]
      refine T.eq (zss _ v (by rw [List.length_take];omega)) (T.br (fun ht=>T.ck (by omega) (hL2 _ ⟨by omega,?_⟩ ?_)) fun _=>T.ck (by omega) (h _ ⟨by dsimp only;omega,?_,?_⟩))
      · have:=zlU ht;omega
      · have:=zlU ht;omega
      · have:=zmQ (n.items.take n.root.toNat) v;dsimp only;omega
      · unfold I64;dsimp only;omega
    · refine T.abl (by simp only [List.length_singleton];omega) (T.ck (by omega) (hL _ ⟨by dsimp only;omega,by dsimp only;omega,by dsimp only;rw [List.length_append,List.length_singleton];omega,p1,p2,?_⟩ (by dsimp only;omega)))
      intro it hit
      rcases List.mem_append.1 hit with h | h
      · exact h6 it h
      · rw [List.mem_singleton.1 h];exact p3
  · have hb := zOF hb
    refine T.lp (ι:=(List GItem) × Int × Bool × Bool × Int) (fun q=>n.root ≤ q.2.2.2.2∧q.2.2.2.2 ≤ n.items.length∧(q.1.length:Int)=q.2.2.2.2∧∀ it ∈ q.1,I64 it.number) (fun q=>((n.items.length:Int) - q.2.2.2.2).toNat) ⟨Int.le_refl _,hk,by dsimp only;omega,h6⟩ (by dsimp only;omega) fun L2 q ⟨k1,k2,k3,k4⟩ hL2=>?_
    obtain ⟨o,rise,some_,twice_,j⟩:=q
    dsimp only at k1 k2 k3 k4 hL2 ⊢
    refine T.br (fun hb2=>?_) fun hb2=>?_
    · have hb2:=zOT hb2
      refine T.get (by omega) hb2 fun y hy=>?_
      have hyn:I64 y.number:=ok.nums y (List.mem_of_getElem? hy)
      refine T.jp (ι:=GItem) (fun p=>I64 p.number) (fun J h=>T.br (fun _=>?_) fun _=>h _ hyn) fun p hp=>?_
      · refine T.lp (ι:=Int × GItem) (fun p=>0 ≤ p.1∧p.1 ≤ o.length∧I64 p.2.number) (fun p=>((o.length:Int) - p.1).toNat) ⟨Int.le_refl _,by dsimp only;omega,by unfold I64;dsimp only;omega⟩ (by dsimp only;omega) fun L3 p ⟨p1,p2,p3⟩ hL3=>?_
        obtain ⟨k,it⟩:=p
        dsimp only at p1 p2 p3 hL3 ⊢
        refine T.br (fun hb3=>?_) fun _=>h _ p3
        have hb3:=zOT hb3
        refine T.jp (ι:=GItem) (fun it=>I64 it.number) (fun J2 h2=>T.get p1 hb3 fun z hz=>T.br (fun _=>?_) fun hne=>?_) fun it2 hit2=>T.ck (by omega) (hL3 _ ⟨by dsimp only;omega,by dsimp only;omega,hit2⟩ (by dsimp only;omega))
        · refine T.eq (zlC _ _) (T.some ⟨?_,?_,?_⟩)
          · dsimp only;split <;> rfl
          · dsimp only;split <;> rfl
          · dsimp only
            split
            · intro h;cases h
            · rename_i hx;intro h;exact absurd h hx
        · have hz1:I64 z.number:=k4 z (List.mem_of_getElem? hz)
          have hne:=zOF hne
          refine T.jp (fun _=>True) (fun J3 h3=>T.br (fun _=>h3 _ trivial) fun _=>T.get p1 hb3 fun _ _=>h3 _ trivial) fun q _=>T.br (fun _=>T.get p1 hb3 fun z2 hz2=>?_) fun _=>h2 _ p3
          rw [hz] at hz2;cases hz2
          unfold I64 at hz1
          exact T.ck (by omega) (h2 _ (by unfold I64;dsimp only;omega))
      · refine T.jp (fun _=>True) (fun J h=>T.br (fun _=>h _ trivial) fun _=>T.jp (fun _=>True) (fun J2 h2=>T.br (fun _=>h2 _ trivial) fun _=>h2 _ trivial) fun _ _=>h _ trivial) fun q _=>?_
        refine T.abl (by simp only [List.length_singleton];omega) (T.ck (by omega) (hL2 _ ⟨by dsimp only;omega,by dsimp only;omega,by dsimp only;rw [List.length_append,List.length_singleton];omega,?_⟩ (by dsimp only;omega)))
        intro it hit
        rcases List.mem_append.1 hit with h | h
        · exact k4 it h
        · rw [List.mem_singleton.1 h];exact hp
    · have hb2:=zOF hb2
      refine T.lp (ι:=Bool × Int) (fun q=>0 ≤ q.2∧q.2 ≤ o.length) (fun q=>((o.length:Int) - q.2).toNat) ⟨Int.le_refl _,by dsimp only;omega⟩ (by dsimp only;omega) fun L3 q ⟨p1,p2⟩ hL3=>?_
      obtain ⟨tw,k⟩:=q
      dsimp only at p1 p2 hL3 ⊢
      refine T.br (fun hb3=>?_) fun _=>?_
      · have hb3:=zOT hb3
        refine T.lp (ι:=Bool × Int) (fun q=>0 ≤ q.2∧q.2 ≤ k) (fun q=>(k - q.2).toNat) ⟨Int.le_refl _,p1⟩ (by dsimp only;omega) fun L4 q ⟨s1,s2⟩ hL4=>?_
        refine T.br (fun hb4=>?_) fun _=>T.ck (by omega) (hL3 _ ⟨by dsimp only;omega,by dsimp only;omega⟩ (by dsimp only;omega))
        have hb4:=zOT hb4
        refine T.jp (fun _=>True) (fun J h=>T.br (fun _=>h _ trivial) fun _=>T.get s1 (by omega) fun _ _=>T.get p1 hb3 fun _ _=>h _ trivial) fun q2 _=>T.jp (fun _=>True) (fun J h=>T.br (fun _=>h _ trivial) fun _=>T.get s1 (by omega) fun _ _=>T.get p1 hb3 fun _ _=>h _ trivial) fun q3 _=>T.ck (by omega) (hL4 _ ⟨by dsimp only;omega,by dsimp only;omega⟩ (by dsimp only;omega))
      · refine T.jp (ι:=GMk) (fun y=>y.m=x.m∧y.l=x.l∧(y.e=0→x.e=0)) (fun J h=>T.br (fun _=>T.eq (zlC _ _) (h _ ?_)) fun _=>h _ ⟨rfl,rfl,fun h=>h⟩) fun y hy=>T.some ⟨hy.1,hy.2.1,fun e=>⟨hy.2.2 e,by dsimp only;omega,k4⟩⟩
        refine ⟨by split <;> rfl,by split <;> rfl,?_⟩
        split
        · intro h;cases h
        · rename_i hx;intro h;exact absurd h hx

/-! ### UTF-8 -/
theorem tkl {α:Type} (l:List α):l.take ((l.length:Int)).toNat=l:=by rw [Int.toNat_natCast,List.take_length]
theorem zfL (s:List UInt8) (h:8 ≤ s.length):T (fun _=>True) (za8 s):=by
  unfold za8
  refine T.get (by omega) (by omega) fun _ _=>T.get (by omega) (by omega) fun _ _=>T.asr (by decide) (T.get (by omega) (by omega) fun _ _=>T.asr (by decide) (T.get (by omega) (by omega) fun _ _=>T.asr (by decide) (T.get (by omega) (by omega) fun _ _=>T.asr (by decide) (T.get (by omega) (by omega) fun _ _=>T.asr (by decide) (T.get (by omega) (by omega) fun _ _=>T.asr (by decide) (T.get (by omega) (by omega) fun _ _=>T.asr (by decide) (T.some trivial)))))))
theorem zt4 (y:UInt8):(shr8 (tab1 y) (4:UInt64).toNat).toNat < 16:=by
  unfold shr8
  have h:=(tab1 y).toNat_lt
  have e:(4:UInt64).toNat=4:=rfl
  rw [e,UInt8.toNat_ofNat',show (2:Nat) ^ 4=16 from rfl]
  omega
theorem zpi (p:List UInt8) (hp:p.length ≤ 1000000):T (fun _=>True) (zcW p):=by
  unfold zcW
  have e1:(1:Int).toNat=1:=rfl
  have e2:(2:Int).toNat=2:=rfl
  have e3:(3:Int).toNat=3:=rfl
  have e4:(4:Int).toNat=4:=rfl
  have e8:(8:Int).toNat=8:=rfl
  have e16:(16:Int).toNat=16:=rfl
  have e24:(24:Int).toNat=24:=rfl
  have e32:(32:Int).toNat=32:=rfl
  simp only [tkl,e1,e2,e3,e4,e8,e16,e24,e32,List.drop_drop]
  refine T.asd ⟨by omega,Int.le_refl _⟩ (T.lp (fun (q:List UInt8)=>q.length ≤ 1000000) (fun (q:List UInt8)=>q.length) hp (by omega) fun L q hq hL=>?_)
  refine T.br (fun hb=>?_) fun _=>T.some trivial
  have hb:=zOT hb
  refine T.get (by omega) hb fun y hy=>T.br (fun _=>?_) fun _=>?_
  · have hd1:(q.drop 1).length=q.length - 1:=List.length_drop
    refine T.asd ⟨by omega,by omega,by omega⟩ ?_
    refine T.jp (fun b=>b=true→8 < (q.drop 1).length) (fun J h=>T.br (fun h2=>?_) fun _=>h _ fun h=>by cases h) fun b hb1=>?_
    · have h2:=zOT h2
      exact T.cal (zfL _ (by omega)) fun _ _ _=>h _ fun _=>by omega
    refine T.jp (fun (r:List UInt8)=>r.length < q.length) (fun J h=>T.br (fun h2=>?_) fun _=>h _ (by omega)) fun r hr=>hL _ (by omega) hr
    have h2:=hb1 h2
    have hd9:(q.drop (1 + 8)).length=q.length - 9:=List.length_drop
    refine T.asd ⟨by omega,by omega,by omega⟩ ?_
    refine T.jp (fun b=>b=true→16 < (q.drop (1 + 8)).length) (fun J2 h3=>T.br (fun h4=>?_) fun _=>h3 _ fun h=>by cases h) fun b2 hb2=>?_
    · have h4:=zOT h4
      have hd17:(q.drop (1 + 8 + 8)).length=q.length - 17:=List.length_drop
      exact T.asd ⟨by omega,by omega,by omega⟩ (T.cal (zfL _ (by omega)) fun _ _ _=>T.cal (zfL _ (by omega)) fun _ _ _=>h3 _ fun _=>by omega)
    refine T.br (fun h5=>?_) fun _=>h _ (by omega)
    have h5:=hb2 h5
    have hd25:(q.drop (1 + 8 + 16)).length=q.length - 25:=List.length_drop
    refine T.asd ⟨by omega,by omega,by omega⟩ (T.lp (fun (r:List UInt8)=>r.length < q.length) (fun (r:List UInt8)=>r.length) (by omega) (by omega) fun L2 r hr hL2=>?_)
    have r8:(r.drop 8).length=r.length - 8:=List.length_drop
    have r16:(r.drop 16).length=r.length - 16:=List.length_drop
    have r24:(r.drop 24).length=r.length - 24:=List.length_drop
    have r32:(r.drop 32).length=r.length - 32:=List.length_drop
    refine T.jp (fun b=>b=true→32 < r.length) (fun J2 h3=>T.br (fun h6=>?_) fun _=>h3 _ fun h=>by cases h) fun b3 hb3=>?_
    · have h6:=zOT h6
      exact T.asd ⟨by omega,by omega,by omega⟩ (T.asd ⟨by omega,by omega,by omega⟩ (T.asd ⟨by omega,by omega,by omega⟩ (T.cal (zfL _ (by omega)) fun _ _ _=>T.cal (zfL _ (by omega)) fun _ _ _=>T.cal (zfL _ (by omega)) fun _ _ _=>T.cal (zfL _ (by omega)) fun _ _ _=>h3 _ fun _=>by omega)))
    · refine T.br (fun h6=>?_) fun _=>h _ hr
      have h6:=hb3 h6
      exact T.asd ⟨by omega,by omega,by omega⟩ (hL2 _ (by omega) (by omega))
  · have hd2:(q.drop 2).length=q.length - 2:=List.length_drop
    have hd3:(q.drop 3).length=q.length - 3:=List.length_drop
    have hd4:(q.drop 4).length=q.length - 4:=List.length_drop
    have ht:Nat.blt (shr8 (tab1 y) (4:UInt64).toNat).toNat 16=true:=by have:=zt4 y;simpa using this
    have or1:∀ {β:Type} {R:β→Prop} {b:Bool} {n:Nat} {f:UInt8→Bool} {i:Int} {K:Bool→Option β},(b=false→(n:Int) ≤ q.length)→0 ≤ i→i < n→(∀ c,(c=false→(n:Int) ≤ q.length)→T R (K c))→T R (jp (ι:=Bool) (fun J=>br b (J true) (cal (getI q i) fun z=>J (f z))) K):=fun {β R b n f i K} h1 h2 h3 h4=>T.jp (fun c=>c=false→(n:Int) ≤ q.length) (fun J h=>T.br (fun _=>h _ fun h=>by cases h) fun hb=>T.get h2 (by have:=h1 hb;omega) fun _ _=>h _ fun _=>h1 hb) h4
    have lt1:∀ {n:Nat},decide ((q.length:Int) < (n:Int))=false→(n:Int) ≤ q.length:=fun {n} h=>by have:=zOF h;omega
    refine T.asr (by decide) (T.asr ht (T.br (fun _=>?_) fun _=>T.br (fun _=>?_) fun _=>T.br (fun _=>?_) fun _=>T.some trivial))
    · refine or1 (n:=2) lt1 (by omega) (by omega) fun c1 k1=>or1 (n:=2) k1 (by omega) (by omega) fun c2 k2=>T.br (fun _=>T.some trivial) fun h6=>?_
      have:=k2 h6
      exact T.asd ⟨by omega,by omega,by omega⟩ (hL _ (by omega) (by omega))
    · refine or1 (n:=3) lt1 (by omega) (by omega) fun c1 k1=>or1 (n:=3) k1 (by omega) (by omega) fun c2 k2=>or1 (n:=3) k2 (by omega) (by omega) fun c3 k3=>or1 (n:=3) k3 (by omega) (by omega) fun c4 k4=>T.br (fun _=>T.some trivial) fun h6=>?_
      have:=k4 h6
      exact T.asd ⟨by omega,by omega,by omega⟩ (hL _ (by omega) (by omega))
    · refine or1 (n:=4) lt1 (by omega) (by omega) fun c1 k1=>or1 (n:=4) k1 (by omega) (by omega) fun c2 k2=>or1 (n:=4) k2 (by omega) (by omega) fun c3 k3=>or1 (n:=4) k3 (by omega) (by omega) fun c4 k4=>or1 (n:=4) k4 (by omega) (by omega) fun c5 k5=>or1 (n:=4) k5 (by omega) (by omega) fun c6 k6=>T.br (fun _=>T.some trivial) fun h6=>?_
      have:=k6 h6
      exact T.asd ⟨by omega,by omega,by omega⟩ (hL _ (by omega) (by omega))
end Go.Proofs.Q


namespace Go.Proofs.Q
open Go.Sy
set_option linter.unusedVariables false

def kidsT (t:GTyp):List Int:=t.fields.map (fun f=>f.ty) ++ (if t.kind=10 then [t.of] else [])
structure TypOk (t:GTyp):Prop where
  tags:t.kind ≠ 9→t.tags ≠ []
  tlen:t.tags.length ≤ 100000
  root0:0 ≤ t.root
  rootF:t.kind=7 ∨ t.kind=8 ∨ t.kind=9→t.root ≤ t.fields.length
  rootI:t.kind=3→t.root ≤ t.items.length
  fields:¬ (t.kind=7 ∨ t.kind=8 ∨ t.kind=9)→t.fields=[]
  items:t.kind ≠ 3→t.items=[]
  ilen:t.items.length ≤ 8001
  nums:∀ it ∈ t.items,I64 it.number
  dflt:∀ f ∈ t.fields,DOk f.dflt
  rootZ:t.kind ≠ 3→¬ (t.kind=7 ∨ t.kind=8 ∨ t.kind=9)→t.root=0
def SubT:Nat→List GTyp→Nat→Nat→Prop
  | 0,_,_,_=>False
  | h + 1,l,i,j=>∃ t,l[i]?=some t∧TypOk t∧Kids (SubT h l) (kidsT t) (i + 1) j
theorem SubT.lt:∀ {h l i j},SubT h l i j→i < j:=by
  intro h
  induction h with
  | zero=>intro l i j h;exact h.elim
  | succ h ih=>intro l i j ⟨n,_,_,h2⟩;exact Kids.le (fun x y h=>Nat.le_of_lt (ih h)) h2
theorem SubT.mono:∀ {h l l' i j},(∀ k,i ≤ k→k < j→l'[k]?=l[k]?)→SubT h l i j→SubT h l' i j:=by
  intro h
  induction h with
  | zero=>intro l l' i j _ h;exact h
  | succ h ih =>
    intro l l' i j hl hs
    have hlt:=hs.lt
    obtain ⟨n,h1,h0,h2⟩:=hs
    refine ⟨n,by rw [hl i (Nat.le_refl _) hlt];exact h1,h0,Kids.mono (fun x y h=>Nat.le_of_lt h.lt) (fun x y hx hy hs=>ih (fun k h3 h4=>hl k (by omega) (by omega)) hs) h2⟩
theorem KidsT.monoL {h l l' r a b} (hl:∀ k,a ≤ k→k < b→l'[k]?=l[k]?) (hk:Kids (SubT h l) r a b):Kids (SubT h l') r a b :=
  Kids.mono (fun x y h=>Nat.le_of_lt h.lt) (fun x y hx hy hs=>hs.mono fun k h3 h4=>hl k (by omega) (by omega)) hk
theorem SubT.up:∀ {h l i j},SubT h l i j→SubT (h + 1) l i j:=by
  intro h
  induction h with
  | zero=>intro l i j h;exact h.elim
  | succ h ih =>
    intro l i j ⟨n,h1,h0,h2⟩
    exact ⟨n,h1,h0,Kids.mono (fun x y h=>Nat.le_of_lt h.lt) (fun x y _ _ hs=>ih hs) h2⟩
theorem SubT.ups {h l i j} (hs:SubT h l i j):∀ {h'},h ≤ h'→SubT h' l i j:=by
  intro h' hle
  induction h' with
  | zero =>
    have:h=0:=by omega
    subst this;exact hs
  | succ n ih =>
    rcases Nat.lt_or_ge n h with h1 | h1
    · have:h=n + 1:=by omega
      subst this;exact hs
    · exact (ih h1).up
theorem SubT.set {h l i j t t'} (hs:SubT h l i j) (ht:l[i]?=some t) (ok:TypOk t') (hk:kidsT t'=kidsT t):SubT h (l.set i t') i j:=by
  cases h with
  | zero=>exact hs
  | succ h =>
    obtain ⟨n,h1,h0,h2⟩:=hs
    rw [ht] at h1;cases h1
    have hlt:=(List.getElem?_eq_some_iff.1 ht).1
    refine ⟨t',by rw [List.getElem?_set_self hlt],ok,?_⟩
    rw [hk]
    exact KidsT.monoL (fun k h3 h4=>List.getElem?_set_ne (by omega)) h2
theorem Kids.mem3 {S:Nat→Nat→Prop} (hS:∀ x y,S x y→x ≤ y) {k:Int}:∀ {r a b},Kids S r a b→k ∈ r→∃ (c d:Nat),k=(c:Int)∧S c d∧a ≤ c∧d ≤ b:=by
  intro r
  induction r with
  | nil=>intro a b _ h;cases h
  | cons x r ih =>
    intro a b ⟨c,h0,h1,h2⟩ hm
    have h3:=Kids.le hS h2
    rcases List.mem_cons.1 hm with e | e
    · exact ⟨a,c,e.trans h0,h1,Nat.le_refl _,h3⟩
    · obtain ⟨c',d',k1,k2,k3,k4⟩:=ih h2 e
      have:=hS _ _ h1
      exact ⟨c',d',k1,k2,by omega,k4⟩
theorem SubT.le' {h l}:∀ x y,SubT h l x y→x ≤ y:=fun x y h=>Nat.le_of_lt h.lt
theorem zlk {t:GTyp} (f:GFld) (hf:f ∈ t.fields):f.ty ∈ kidsT t:=List.mem_append_left _ (List.mem_map.2 ⟨f,hf,rfl⟩)
theorem SubT.inb:∀ {h l i j},SubT h l i j→j ≤ l.length:=by
  intro h
  induction h with
  | zero=>intro l i j h;exact h.elim
  | succ h ih =>
    intro l i j ⟨t,h1,h0,h2⟩
    have hi:=(List.getElem?_eq_some_iff.1 h1).1
    have:∀ (r:List Int) (a b:Nat),Kids (SubT h l) r a b→a ≤ l.length→b ≤ l.length:=by
      intro r
      induction r with
      | nil=>intro a b h2 ha;cases h2;exact ha
      | cons x r ih2=>intro a b ⟨c,k1,k2,k3⟩ ha;exact ih2 c b k3 (ih k2)
    exact this _ _ _ h2 (by omega)

/-! ### By which tags they begin -/
def bgs:Nat→List GTyp→Int→List Tag
  | 0,_,_=>[]
  | h + 1,l,i=>match (if 0 ≤ i then l[i.toNat]? else none) with
    | none=>[]
    | some t=>if 0 < t.tags.length then t.tags.take 1 else t.fields.flatMap fun f=>bgs h l f.ty
def wld:Nat→List GTyp→Int→Bool
  | 0,_,_=>false
  | h + 1,l,i=>match (if 0 ≤ i then l[i.toNat]? else none) with
    | none=>false
    | some t=>if t.kind ≠ 9 ∨ 0 < t.tags.length then false else t.more || t.fields.any fun f=>wld h l f.ty
theorem zqc {l:List GTyp} {h i:Nat} {t:GTyp} (e:l[i]?=some t):bgs (h + 1) l (i:Int)=if 0 < t.tags.length then t.tags.take 1 else t.fields.flatMap fun f=>bgs h l f.ty:=by
  conv=>lhs;unfold bgs
  rw [if_pos (by omega),Int.toNat_natCast,e]
theorem zuD {l:List GTyp} {h i:Nat} {t:GTyp} (e:l[i]?=some t):wld (h + 1) l (i:Int)=if t.kind ≠ 9 ∨ 0 < t.tags.length then false else t.more || t.fields.any fun f=>wld h l f.ty:=by
  conv=>lhs;unfold wld
  rw [if_pos (by omega),Int.toNat_natCast,e]
theorem znH {h:Nat} {l:List GTyp} (F:Int→List Tag) (hF:∀ x y,SubT h l x y→(F (x:Int)).length ≤ y - x):∀ {r:List Int} {a b:Nat},Kids (SubT h l) r a b→(r.flatMap F).length ≤ b - a:=by
  intro r
  induction r with
  | nil=>intro a b _;simp
  | cons k r ih =>
    intro a b ⟨c,h0,h1,h2⟩
    have e1:=hF _ _ h1
    have e2:=ih h2
    have e3:=h1.lt
    have e4:=Kids.le SubT.le' h2
    rw [List.flatMap_cons,List.length_append,h0]
    omega
theorem Kids.app {S:Nat→Nat→Prop} {ys:List Int}:∀ {xs:List Int} {a b:Nat},Kids S (xs ++ ys) a b→∃ c,Kids S xs a c∧Kids S ys c b:=by
  intro xs
  induction xs with
  | nil=>intro a b h;exact ⟨a,rfl,h⟩
  | cons x xs ih =>
    intro a b ⟨c,h0,h1,h2⟩
    obtain ⟨d,h3,h4⟩:=ih h2
    exact ⟨d,⟨c,h0,h1,h3⟩,h4⟩
theorem zli:∀ {h l i j},SubT h l i j→(bgs h l (i:Int)).length ≤ j - i:=by
  intro h
  induction h with
  | zero=>intro l i j h;exact h.elim
  | succ h ih =>
    intro l i j hs
    have hlt:=hs.lt
    obtain ⟨t,h1,h0,h2⟩:=hs
    rw [zqc h1]
    split
    · rw [List.length_take];omega
    · unfold kidsT at h2
      obtain ⟨c,h3,h4⟩:=Kids.app h2
      have:=znH (bgs h l) (fun x y hs=>ih hs) h3
      rw [List.flatMap_map] at this
      have e4:=Kids.le SubT.le' h4
      have e3:=Kids.le SubT.le' h3
      omega
theorem znu {α β:Type} {l:List α} {f:α→List β} {k:Nat} {y:α} (h:l[k]?=some y):(l.take (k + 1)).flatMap f=(l.take k).flatMap f ++ f y:=by
  rw [List.take_add_one,h]
  simp
theorem zk4 {α β:Type} {l:List α} {f:α→List β} {k:Nat}:((l.take k).flatMap f).length ≤ (l.flatMap f).length:=by
  conv=>rhs;rw [← List.take_append_drop k l]
  rw [List.flatMap_append,List.length_append]
  omega
theorem zo5:∀ {h n l i j},SubT h l i j→h ≤ n→l.length ≤ 1000→zgI n l (i:Int)=some (bgs h l (i:Int)):=by
  intro h
  induction h with
  | zero=>intro n l i j h;exact h.elim
  | succ h ih =>
    intro n l i j hs hn hl
    obtain ⟨n,rfl⟩:∃ n',n=n' + 1:=⟨n - 1,by omega⟩
    have hjl:=hs.inb
    have hbl:=zli hs
    have hlt:=hs.lt
    obtain ⟨t,h1,h0,h2⟩:=hs
    have hti:(i:Int).toNat=i:=Int.toNat_natCast i
    have hget:∀ {β:Type} {R:β→Prop} {K:GTyp→Option β},T R (K t)→T R (asr (decide (0 ≤ (i:Int)∧(i:Int) < ((l.length:Nat):Int))) (cal (l[(i:Int).toNat]?) K)):=fun h=>T.asd ⟨by omega,by omega⟩ (by rw [hti];exact T.eq h1 h)
    refine T.eqs ?_
    show T _ (zfn (zgI n) l (i:Int))
    unfold zfn
    rw [zqc h1] at hbl ⊢
    refine hget (T.br (fun hb=>hget (T.asd ⟨Int.le_refl _,by omega,by have:=zOT hb;omega⟩ (T.some ?_))) fun hb=>?_)
    · have hb:=zOT hb
      rw [if_pos (by omega)];rfl
    have hb:=zOF hb
    rw [if_neg (by omega)] at hbl ⊢
    have hfl:∀ (k:Nat),(((t.fields.take k).flatMap fun f=>bgs h l f.ty)).length ≤ 1000:=fun k=>by
      have:=zk4 (l:=t.fields) (f:=fun f=>bgs h l f.ty) (k:=k)
      omega
    have hfc:t.fields.length ≤ 1000:=by
      unfold kidsT at h2
      obtain ⟨c,h3,h4⟩:=Kids.app h2
      have e:∀ (r:List Int) (a b:Nat),Kids (SubT h l) r a b→r.length ≤ b - a:=by
        intro r
        induction r with
        | nil=>intro a b _;exact Nat.zero_le _
        | cons x r ih2 =>
          intro a b ⟨c,k0,k1,k2⟩
          have:=ih2 _ _ k2
          have:=k1.lt
          have:=Kids.le SubT.le' k2
          simp only [List.length_cons];omega
      have:=e _ _ _ h3
      rw [List.length_map] at this
      have:=Kids.le SubT.le' h4
      omega
    refine T.lp (ι:=List Tag × Int) (fun q=>0 ≤ q.2∧q.2 ≤ t.fields.length∧q.1=(t.fields.take q.2.toNat).flatMap fun f=>bgs h l f.ty) (fun q=>((t.fields.length:Int) - q.2).toNat) ⟨Int.le_refl _,by dsimp only;omega,rfl⟩ (by dsimp only;omega) fun L q ⟨q1,q2,q3⟩ hL=>?_
    obtain ⟨o,k⟩:=q
    dsimp only at q1 q2 q3 hL ⊢
    refine hget (T.br (fun hb2=>?_) fun hb2=>T.some ?_)
    · have hb2:=zOT hb2
      refine hget (T.get q1 hb2 fun f hf=>?_)
      obtain ⟨c,d,e1,e2,e3,e4⟩:=Kids.mem3 SubT.le' h2 (zlk f (List.mem_of_getElem? hf))
      rw [e1]
      have hk1:(k + 1).toNat=k.toNat + 1:=by omega
      have hnx:=znu (f:=fun f:GFld=>bgs h l f.ty) hf
      have hle:=hfl (k.toNat + 1)
      rw [hnx,List.length_append,e1] at hle
      have hle2:=hfl k.toNat
      refine T.eq (ih e2 (by omega) hl) (T.abl (by rw [q3];omega) (T.ck (by omega) (hL _ ⟨by dsimp only;omega,by dsimp only;omega,?_⟩ (by dsimp only;omega))))
      dsimp only
      rw [hk1,hnx,q3,e1]
    · have hb2:=zOF hb2
      rw [q3,List.take_of_length_le (by omega)]
theorem zsa:∀ {h n l i j},SubT h l i j→h ≤ n→l.length ≤ 1000→zjq n l (i:Int)=some (wld h l (i:Int)):=by
  intro h
  induction h with
  | zero=>intro n l i j h;exact h.elim
  | succ h ih =>
    intro n l i j hs hn hl
    obtain ⟨n,rfl⟩:∃ n',n=n' + 1:=⟨n - 1,by omega⟩
    have hjl:=hs.inb
    have hlt:=hs.lt
    obtain ⟨t,h1,h0,h2⟩:=hs
    have hti:(i:Int).toNat=i:=Int.toNat_natCast i
    have hget:∀ {β:Type} {R:β→Prop} {K:GTyp→Option β},T R (K t)→T R (asr (decide (0 ≤ (i:Int)∧(i:Int) < ((l.length:Nat):Int))) (cal (l[(i:Int).toNat]?) K)):=fun h=>T.asd ⟨by omega,by omega⟩ (by rw [hti];exact T.eq h1 h)
    refine T.eqs ?_
    show T _ (zgD (zjq n) l (i:Int))
    unfold zgD
    rw [zuD h1]
    have hfc:t.fields.length ≤ 1000:=by
      unfold kidsT at h2
      obtain ⟨c,h3,h4⟩:=Kids.app h2
      have e:∀ (r:List Int) (a b:Nat),Kids (SubT h l) r a b→r.length ≤ b - a:=by
        intro r
        induction r with
        | nil=>intro a b _;exact Nat.zero_le _
        | cons x r ih2 =>
          intro a b ⟨c,k0,k1,k2⟩
          have:=ih2 _ _ k2
          have:=k1.lt
          have:=Kids.le SubT.le' k2
          simp only [List.length_cons];omega
      have:=e _ _ _ h3
      rw [List.length_map] at this
      have:=Kids.le SubT.le' h4
      omega
    refine hget (T.jp (fun b=>b=decide (t.kind ≠ 9 ∨ 0 < t.tags.length)) (fun J hJ=>T.br (fun hb=>hJ _ ?_) fun hb=>hget (hJ _ ?_)) fun b hb=>?_)
    · have:¬ t.kind=9:=by simpa using hb
      rw [zDT (.inl this)]
    · have:t.kind=9:=by simpa using hb
      rw [decide_eq_decide];omega
    subst hb
    refine T.br (fun hb=>T.some ?_) fun hb=>hget ?_
    · rw [if_pos (zOT hb)]
    rw [if_neg (zOF hb)]
    refine T.lp (ι:=Bool × Int) (fun q=>0 ≤ q.2∧q.2 ≤ t.fields.length∧q.1=(t.more || (t.fields.take q.2.toNat).any fun f=>wld h l f.ty)) (fun q=>((t.fields.length:Int) - q.2).toNat) ⟨Int.le_refl _,by dsimp only;omega,by simp⟩ (by dsimp only;omega) fun L q ⟨q1,q2,q3⟩ hL=>?_
    obtain ⟨o,k⟩:=q
    dsimp only at q1 q2 q3 hL ⊢
    refine hget (T.br (fun hb2=>?_) fun hb2=>T.some ?_)
    · have hb2:=zOT hb2
      have hk1:(k + 1).toNat=k.toNat + 1:=by omega
      obtain ⟨f,hf⟩:∃ f,t.fields[k.toNat]?=some f:=⟨_,List.getElem?_eq_getElem (by omega)⟩
      have hnx:(t.fields.take (k.toNat + 1)).any (fun f=>wld h l f.ty)=((t.fields.take k.toNat).any (fun f=>wld h l f.ty) || wld h l f.ty):=by
        rw [List.take_add_one,hf];simp
      refine T.jp (fun b=>b=(o || wld h l f.ty)) (fun J hJ=>T.br (fun hb=>hJ _ (by rw [hb];rfl)) fun hb=>hget (T.get q1 hb2 fun f' hf'=>?_)) fun b hb=>T.ck (by omega) (hL _ ⟨by dsimp only;omega,by dsimp only;omega,by dsimp only;rw [hk1,hnx,hb,q3,Bool.or_assoc]⟩ (by dsimp only;omega))
      rw [hf] at hf';cases hf'
      obtain ⟨c,d,e1,e2,e3,e4⟩:=Kids.mem3 SubT.le' h2 (zlk f (List.mem_of_getElem? hf))
      rw [e1] at hJ ⊢
      exact T.eq (ih e2 (by omega) hl) (hJ _ (by rw [hb];rfl))
    · have hb2:=zOF hb2
      rw [q3,List.take_of_length_le (by omega)]

/-! ### Told apart -/
theorem znL (l:List Tag) (x:Tag) (hl:l.length ≤ 1000000):zeg l x=some (decide (x ∈ l)):=by
  refine T.eqs ?_
  unfold zeg
  refine T.lp (fun (k:Int)=>0 ≤ k∧k ≤ (l.length:Int)∧x ∉ l.take k.toNat) (fun (k:Int)=>((l.length:Int) - k).toNat) ⟨Int.le_refl _,by omega,by simp⟩ (by omega) fun L k hk hL=>?_
  refine T.br (fun h2=>?_) fun h2=>T.some ?_
  · have h2:=zOT h2
    refine T.get hk.1 h2 fun y hy=>T.br (fun h3=>T.some ?_) fun h3=>T.ck (by omega) (hL _ ⟨by omega,by omega,?_⟩ (by omega))
    · have h3:=zOT h3
      subst h3
      exact (zDT (List.mem_of_getElem? hy)).symm
    · have h3:=zOF h3
      have e:(k + 1).toNat=k.toNat + 1:=by omega
      rw [e,List.take_add_one,hy]
      simp only [Option.toList_some,List.mem_append,List.mem_singleton,not_or]
      exact ⟨hk.2.2,fun h=>h3 h.symm⟩
  · have h2:=zOF h2
    have h4:=hk.2.2
    rw [List.take_of_length_le (by omega)] at h4
    exact (zDF h4).symm
theorem zmt {α:Type} {l:List (List α)} {k:Nat} {y:List α} (h:l[k]?=some y):(l.take (k + 1)).flatten=(l.take k).flatten ++ y:=by
  rw [List.take_add_one,h];simp
theorem ztU {α:Type} (l:List (List α)) (k:Nat):((l.take k).flatten).length ≤ l.flatten.length:=by
  conv=>rhs;rw [← List.take_append_drop k l]
  rw [List.flatten_append,List.length_append]
  omega
theorem zof (s:List (List Tag)) (h1:s.length ≤ 10000) (h2:s.flatten.length ≤ 100000):zfw s=some (decide s.flatten.Nodup):=by
  refine T.eqs ?_
  unfold zfw
  refine T.lp (ι:=List Tag × Int) (fun q=>0 ≤ q.2∧q.2 ≤ s.length∧q.1=(s.take q.2.toNat).flatten∧q.1.Nodup) (fun q=>((s.length:Int) - q.2).toNat) ⟨Int.le_refl _,by dsimp only;omega,rfl,List.nodup_nil⟩ (by dsimp only;omega) fun L q ⟨q1,q2,q3,q4⟩ hL=>?_
  obtain ⟨o,k⟩:=q
  dsimp only at q1 q2 q3 q4 hL ⊢
  refine T.br (fun hb=>?_) fun hb=>T.some ?_
  · have hb:=zOT hb
    obtain ⟨y,hy⟩:∃ y,s[k.toNat]?=some y:=⟨_,List.getElem?_eq_getElem (by omega)⟩
    have hk1:(k + 1).toNat=k.toNat + 1:=by omega
    have hnx:=zmt hy
    have hle:=ztU s (k.toNat + 1)
    rw [hnx,List.length_append] at hle
    have hget:∀ {β:Type} {R:β→Prop} {K:List Tag→Option β},T R (K y)→T R (cal (getI s k) K):=fun h=>T.get q1 hb fun y' hy'=>by rw [hy] at hy';cases hy';exact h
    have hpre:∀ n:Nat,n ≤ y.length→¬ ((s.take k.toNat).flatten ++ y.take n).Nodup→¬ s.flatten.Nodup:=fun n hn hno h=>hno (by
      have e:s.flatten=((s.take k.toNat).flatten ++ y.take n) ++ (y.drop n ++ (s.drop (k.toNat + 1)).flatten):=by
        conv=>lhs;rw [← List.take_append_drop (k.toNat + 1) s]
        rw [List.flatten_append,hnx]
        conv=>lhs;rw [← List.take_append_drop n y]
        simp only [List.append_assoc]
      rw [e] at h
      exact (List.nodup_append.1 h).1)
    refine T.lp (ι:=List Tag × Int) (fun p=>0 ≤ p.2∧p.2 ≤ y.length∧p.1=(s.take k.toNat).flatten ++ y.take p.2.toNat∧p.1.Nodup) (fun p=>((y.length:Int) - p.2).toNat) ⟨Int.le_refl _,by dsimp only;omega,by dsimp only;rw [q3];simp,q4⟩ (by dsimp only;omega) fun L2 p ⟨p1,p2,p3,p4⟩ hL2=>?_
    obtain ⟨o2,i⟩:=p
    dsimp only at p1 p2 p3 p4 hL2 ⊢
    have hi1:(i + 1).toNat=i.toNat + 1:=by omega
    refine hget (T.br (fun hb2=>?_) fun hb2=>T.ck (by omega) (hL _ ⟨by dsimp only;omega,by dsimp only;omega,?_,p4⟩ (by dsimp only;omega)))
    · have hb2:=zOT hb2
      obtain ⟨z,hz⟩:∃ z,y[i.toNat]?=some z:=⟨_,List.getElem?_eq_getElem (by omega)⟩
      have hget2:∀ {β:Type} {R:β→Prop} {K:Tag→Option β},T R (K z)→T R (cal (getI y i) K):=fun h=>T.get p1 hb2 fun z' hz'=>by rw [hz] at hz';cases hz';exact h
      have hz2:y.take (i.toNat + 1)=y.take i.toNat ++ [z]:=by rw [List.take_add_one,hz];rfl
      have hol:o2.length ≤ 100000:=by rw [p3,List.length_append,List.length_take];omega
      refine hget (hget2 (T.eq (znL _ _ (by omega)) (T.br (fun hm=>T.some ?_) fun hm=>hget (hget2 (T.abl (by simp only [List.length_singleton];omega) (T.ck (by omega) (hL2 _ ⟨by dsimp only;omega,by dsimp only;omega,?_,?_⟩ (by dsimp only;omega))))))))
      · have hm:=zOT hm
        symm
        refine zDF (hpre (i.toNat + 1) (by omega) ?_)
        rw [hz2,← List.append_assoc,← p3]
        intro hnd
        have:=(List.nodup_append.1 hnd).2.2 z hm z (List.mem_singleton.2 rfl)
        exact this rfl
      · dsimp only;rw [hi1,hz2,p3,List.append_assoc]
      · have hm:=zOF hm
        dsimp only
        rw [List.nodup_append]
        refine ⟨p4,by simp,fun a ha b hb e=>?_⟩
        rw [List.mem_singleton.1 hb] at e
        exact hm (e ▸ ha)
    · have hb2:=zOF hb2
      dsimp only
      rw [hk1,hnx,p3,List.take_of_length_le (show y.length ≤ i.toNat by omega)]
  · have hb:=zOF hb
    rw [q3,List.take_of_length_le (by omega)] at q4
    exact (zDT q4).symm

theorem zkW {h:Nat} {l:List GTyp}:∀ {r:List Int} {a b:Nat},Kids (SubT h l) r a b→r.length ≤ b - a:=by
  intro r
  induction r with
  | nil=>intro a b _;exact Nat.zero_le _
  | cons x r ih =>
    intro a b ⟨c,k0,k1,k2⟩
    have:=ih k2
    have:=k1.lt
    have:=Kids.le SubT.le' k2
    simp only [List.length_cons];omega
def tld (h:Nat) (l:List GTyp) (fs:List GFld) (o:Bool):Bool:=!(fs.any fun f=>wld h l f.ty && (o || decide (1 < fs.length))) && decide (fs.flatMap fun f=>bgs h l f.ty).Nodup
theorem zqs {h a b:Nat} {x:GMk} {fs:List GFld} {o:Bool} (hk:Kids (SubT h x.l) (fs.map fun f=>f.ty) a b) (hh:h ≤ 1000) (hl:x.l.length ≤ 1000) (hb:b ≤ x.l.length):zcc x fs o=some (tld h x.l fs o,x):=by
  refine T.eqs ?_
  unfold zcc
  have hfl:=zkW hk
  rw [List.length_map] at hfl
  have hflat:=znH (bgs h x.l) (fun x y hs=>zli hs) hk
  rw [List.flatMap_map] at hflat
  have hfu:h ≤ fuel:=by unfold fuel;omega
  have hsub:∀ f ∈ fs,∃ c d:Nat,f.ty=(c:Int)∧SubT h x.l c d:=fun f hf=>by
    obtain ⟨c,d,e1,e2,_⟩:=Kids.mem3 SubT.le' hk (List.mem_map.2 ⟨f,hf,rfl⟩)
    exact ⟨c,d,e1,e2⟩
  refine T.lp (ι:=List (List Tag) × Int) (fun q=>0 ≤ q.2∧q.2 ≤ fs.length∧q.1=(fs.take q.2.toNat).map (fun f=>bgs h x.l f.ty)∧(fs.take q.2.toNat).any (fun f=>wld h x.l f.ty && (o || decide (1 < fs.length)))=false) (fun q=>((fs.length:Int) - q.2).toNat) ⟨Int.le_refl _,by dsimp only;omega,rfl,rfl⟩ (by dsimp only;omega) fun L q ⟨q1,q2,q3,q4⟩ hL=>?_
  obtain ⟨s,k⟩:=q
  dsimp only at q1 q2 q3 q4 hL ⊢
  refine T.br (fun hb1=>?_) fun hb1=>?_
  · have hb1:=zOT hb1
    have hk1:(k + 1).toNat=k.toNat + 1:=by omega
    refine T.get q1 hb1 fun f hf=>?_
    obtain ⟨c,d,e1,e2⟩:=hsub f (List.mem_of_getElem? hf)
    have htk:fs.take (k.toNat + 1)=fs.take k.toNat ++ [f]:=by rw [List.take_add_one,hf];rfl
    rw [e1]
    refine T.eq (zsa e2 hfu hl) (T.jp (fun q=>q=(wld h x.l f.ty && (o || decide (1 < fs.length)))) (fun J hJ=>T.br (fun h2=>T.jp (fun q=>q=(o || decide (1 < fs.length))) (fun J2 hJ2=>T.br (fun h3=>hJ2 _ (by rw [h3];rfl)) fun h3=>hJ2 _ (by rw [h3,Bool.false_or,decide_eq_decide];omega)) fun q hq=>hJ _ (by rw [e1,h2,hq];rfl)) fun h2=>hJ _ (by rw [e1,h2];rfl)) fun q hq=>?_)
    refine T.br (fun h2=>T.some ?_) fun h2=>T.get q1 hb1 fun f' hf'=>?_
    · have:(fs.any fun f=>wld h x.l f.ty && (o || decide (1 < fs.length)))=true:=List.any_eq_true.2 ⟨f,List.mem_of_getElem? hf,by rw [← hq];exact h2⟩
      unfold tld
      rw [this];rfl
    · rw [hf] at hf';cases hf'
      rw [e1]
      refine T.eq (zo5 e2 hfu hl) (T.abl (by rw [q3,List.length_map,List.length_take,List.length_singleton];omega) (T.ck (by omega) (hL _ ⟨by dsimp only;omega,by dsimp only;omega,?_,?_⟩ (by dsimp only;omega))))
      · dsimp only;rw [hk1,htk,q3,List.map_append,List.map_singleton,e1]
      · dsimp only;rw [hk1,htk,List.any_append,q4,List.any_cons,← hq,h2];rfl
  · have hb1:=zOF hb1
    rw [List.take_of_length_le (by omega)] at q3 q4
    have hfe:s.flatten=fs.flatMap fun f=>bgs h x.l f.ty:=by rw [q3];rfl
    refine T.eq (zof s (by rw [q3,List.length_map];omega) (by rw [hfe];omega)) (T.some ?_)
    unfold tld
    rw [q4,hfe];rfl

def lse (t:GTyp):List Bool:=t.fields.mapIdx fun k f=>f.optional || f.has || decide (t.root ≤ (k:Int))
theorem zog (t:GTyp):(lse t).length=t.fields.length:=by unfold lse;rw [List.length_mapIdx]
theorem ztR {t:GTyp} {k:Nat} {f:GFld} (h:t.fields[k]?=some f):(lse t)[k]?=some (f.optional || f.has || decide (t.root ≤ (k:Int))):=by
  unfold lse;rw [List.getElem?_mapIdx,h];rfl
theorem zoH (t:GTyp) (hl:t.fields.length ≤ 1000):zgx t=some (lse t):=by
  refine T.eqs ?_
  unfold zgx
  have hll:=zog t
  refine T.lp (ι:=List Bool × Int) (fun q=>0 ≤ q.2∧q.2 ≤ t.fields.length∧q.1=(lse t).take q.2.toNat) (fun q=>((t.fields.length:Int) - q.2).toNat) ⟨Int.le_refl _,by dsimp only;omega,rfl⟩ (by dsimp only;omega) fun L q ⟨q1,q2,q3⟩ hL=>?_
  obtain ⟨s,k⟩:=q
  dsimp only at q1 q2 q3 hL ⊢
  refine T.br (fun hb=>?_) fun hb=>T.some ?_
  · have hb:=zOT hb
    refine T.get q1 hb fun f hf=>?_
    refine T.jp (fun q=>q=(f.optional || f.has)) (fun J h=>T.br (fun h2=>h _ (by rw [h2];rfl)) fun h2=>T.get q1 hb fun f' hf'=>h _ (by rw [hf] at hf';cases hf';rw [h2];rfl)) fun q hq=>?_
    refine T.jp (fun q'=>q'=(f.optional || f.has || decide (t.root ≤ k))) (fun J h=>T.br (fun h2=>h _ (by rw [← hq,h2];rfl)) fun h2=>h _ (by rw [← hq,h2];rfl)) fun q' hq'=>?_
    have hk1:(k + 1).toNat=k.toNat + 1:=by omega
    have hkk:((k.toNat:Nat):Int)=k:=by omega
    have:=ztR hf
    rw [hkk] at this
    refine T.abl (by rw [q3,List.length_take,List.length_singleton];omega) (T.ck (by omega) (hL _ ⟨by dsimp only;omega,by dsimp only;omega,?_⟩ (by dsimp only;omega)))
    dsimp only
    rw [hk1,List.take_add_one,this,q3,hq'];rfl
  · have hb:=zOF hb
    rw [q3,List.take_of_length_le (by omega)]
def lst (t:GTyp):Nat→Nat
  | 0=>0
  | k + 1=>if (lse t)[k]?=some true then lst t k else k + 1
theorem zse (t:GTyp):∀ k,lst t k ≤ k
  | 0=>Nat.le_refl _
  | k + 1=>by
    unfold lst
    split
    · exact Nat.le_trans (zse t k) (Nat.le_succ k)
    · exact Nat.le_refl _
theorem zqC (t:GTyp) (hl:t.fields.length ≤ 1000) (h0:0 ≤ t.root) (h1:t.root ≤ t.fields.length):zhX t=some ((lst t t.root.toNat:Nat):Int):=by
  refine T.eqs ?_
  unfold zhX
  have hll:=zog t
  refine T.eq (zoH t hl) (T.lp (fun (k:Int)=>0 ≤ k∧k ≤ t.root∧lst t t.root.toNat=lst t k.toNat) (fun (k:Int)=>k.toNat) ⟨h0,Int.le_refl _,rfl⟩ (by omega) fun L k ⟨k1,k2,k3⟩ hL=>?_)
  refine T.jp (fun q=>(q=true→0 < k∧lst t k.toNat=lst t (k - 1).toNat)∧(q=false→lst t k.toNat=k.toNat)) (fun J h=>T.br (fun hb=>?_) fun hb=>h _ ⟨(fun h=>by cases h),fun _=>?_⟩) fun q hq=>?_
  · have hb:=zOT hb
    have e:k.toNat=(k - 1).toNat + 1:=by omega
    refine T.ck (by omega) (T.get (by omega) (by omega) fun y hy=>h _ ?_)
    rw [e]
    refine ⟨fun hy1=>⟨hb,?_⟩,fun hy1=>?_⟩
    · rw [lst,if_pos (by rw [hy,hy1])]
    · rw [lst,if_neg (by rw [hy,hy1];simp)]
  · have hb:=zOF hb
    have e:k.toNat=0:=by omega
    rw [e];rfl
  · refine T.br (fun h2=>T.ck (by have:=(hq.1 h2).1;omega) (hL _ ⟨by have:=(hq.1 h2).1;omega,by omega,by rw [k3,(hq.1 h2).2]⟩ (by have:=(hq.1 h2).1;omega))) fun h2=>T.some ?_
    rw [k3,hq.2 h2];omega
theorem KidsT.sub {h:Nat} {l:List GTyp}:∀ {r a b} (n m:Nat),Kids (SubT h l) r a b→∃ c d,Kids (SubT h l) ((r.take n).drop m) c d∧d ≤ b:=by
  intro r a b n m hk
  have h1:r=(r.take n).take m ++ ((r.take n).drop m ++ r.drop n):=by
    rw [← List.append_assoc,List.take_append_drop,List.take_append_drop]
  rw [h1] at hk
  obtain ⟨c,_,h3⟩:=Kids.app hk
  obtain ⟨d,h4,h5⟩:=Kids.app h3
  exact ⟨c,d,h4,Kids.le SubT.le' h5⟩
theorem zrA {h a b:Nat} {x:GMk} {t:GTyp} (hk:Kids (SubT h x.l) (t.fields.map fun f=>f.ty) a b) (hh:h ≤ 1000) (hl:x.l.length ≤ 1000) (hb:b ≤ x.l.length) (r0:0 ≤ t.root) (r1:t.kind=7→t.root ≤ t.fields.length):T (fun r=>r.2=x) (zdx x t):=by
  unfold zdx
  have hfl:=zkW hk
  rw [List.length_map] at hfl
  have hfl1:t.fields.length ≤ 1000:=by omega
  have hll:=zog t
  refine T.br (fun _=>T.eq (zqs hk hh hl hb) (T.some rfl)) fun hk7=>?_
  have hk7:t.kind=7:=by simpa using hk7
  have hsub:∀ (n m:Nat) (o:Bool),zcc x ((t.fields.take n).drop m) o=some (tld h x.l ((t.fields.take n).drop m) o,x):=fun n m o=>by
    obtain ⟨c,d,k1,k2⟩:=KidsT.sub n m hk
    rw [← List.map_take,← List.map_drop] at k1
    exact zqs k1 hh hl (by omega)
  refine T.eq (zoH t hfl1) (T.lp (ι:=Int × GMk) (fun q=>0 ≤ q.1∧q.1 ≤ t.fields.length∧q.2=x) (fun q=>((t.fields.length:Int) - q.1).toNat) ⟨Int.le_refl _,by dsimp only;omega,rfl⟩ (by dsimp only;omega) fun L q ⟨q1,q2,q3⟩ hL=>?_)
  obtain ⟨k,y⟩:=q
  dsimp only at q1 q2 q3 hL ⊢
  subst q3
  refine T.br (fun hb1=>?_) fun hb1=>?_
  · have hb1:=zOT hb1
    refine T.jp (ι:=GMk) (fun z=>z=y) (fun J hJ=>T.get q1 (by omega) fun c hc=>T.br (fun _=>hJ _ rfl) fun _=>T.ck (by omega) ?_) fun z hz=>T.ck (by omega) (hL _ ⟨by dsimp only;omega,by dsimp only;omega,hz⟩ (by dsimp only;omega))
    refine T.lp (fun (e:Int)=>k + 1 ≤ e∧e ≤ t.fields.length) (fun (e:Int)=>((t.fields.length:Int) - e).toNat) ⟨Int.le_refl _,by omega⟩ (by omega) fun L2 e ⟨e1,e2⟩ hL2=>?_
    refine T.jp (fun q=>q=true→e < t.fields.length) (fun J2 h2=>T.br (fun h3=>T.get (by omega) (by have:=zOT h3;omega) fun _ _=>h2 _ fun _=>zOT h3) fun _=>h2 _ fun h=>by cases h) fun q hq=>?_
    refine T.br (fun h3=>T.ck (by have:=hq h3;omega) (hL2 _ (by have:=hq h3;omega) (by have:=hq h3;omega))) fun _=>T.ck (by omega) (T.asd (by omega) (T.eq (hsub _ _ _) (T.br (fun _=>T.some rfl) fun _=>hJ _ rfl)))
  · refine T.jp (ι:=Bool × GMk) (fun z=>z.2=y) (fun J hJ=>T.br (fun _=>hJ _ rfl) fun _=>T.eq (zqC t hfl1 r0 (r1 hk7)) ?_) fun z hz=>T.some hz
    have:=zse t t.root.toNat
    have:=r1 hk7
    exact T.asd ⟨by omega,by omega,Int.le_refl _⟩ (T.eq (hsub _ _ _) (hJ _ rfl))
end Go.Proofs.Q


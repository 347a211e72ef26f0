/- Making tables: nodes become trees of types. No condition: general lemmas. -/
import Derived.Test.YtmahnaanhhojkaaGreatDoorNpA
import Derived.KernelRfl
import Derived.WideLaws
import Derived.Lib.ItoaNum
import Derived.Lib.ReplaceLaws
import Derived.Lib.ParseIntB
import Derived.Lib.ValidU
set_option linter.unusedVariables false
set_option linter.unusedSimpArgs false

namespace Go.Sy
open Go
abbrev Pt (Rs:List VP) (Hs:List Ent):VP->List Ent->Prop:=λR H=>R=oneOf Rs/\H=Hs
abbrev Pt1 {τ0:Type} (Rs:τ0->List VP) (Hs:τ0->List Ent):VP->List Ent->Prop:=λR H=>∃ t0,R=oneOf (Rs t0)/\H=Hs t0
abbrev Pt2 {τ0 τ1:Type} (Rs:τ0->τ1->List VP) (Hs:τ0->τ1->List Ent):VP->List Ent->Prop:=λR H=>∃ t0 t1,R=oneOf (Rs t0 t1)/\H=Hs t0 t1
abbrev Pt3 {τ0 τ1 τ2:Type} (Rs:τ0->τ1->τ2->List VP) (Hs:τ0->τ1->τ2->List Ent):VP->List Ent->Prop:=λR H=>∃ t0 t1 t2,R=oneOf (Rs t0 t1 t2)/\H=Hs t0 t1 t2
abbrev Pt4 {τ0 τ1 τ2 τ3:Type} (Rs:τ0->τ1->τ2->τ3->List VP) (Hs:τ0->τ1->τ2->τ3->List Ent):VP->List Ent->Prop:=λR H=>∃ t0 t1 t2 t3,R=oneOf (Rs t0 t1 t2 t3)/\H=Hs t0 t1 t2 t3
abbrev Pt5 {τ0 τ1 τ2 τ3 τ4:Type} (Rs:τ0->τ1->τ2->τ3->τ4->List VP) (Hs:τ0->τ1->τ2->τ3->τ4->List Ent):VP->List Ent->Prop:=λR H=>∃ t0 t1 t2 t3 t4,R=oneOf (Rs t0 t1 t2 t3 t4)/\H=Hs t0 t1 t2 t3 t4
section
variable {c:Ctx} {ops:Array Oper} {Q:Exit->Act->World->Prop} {Γ:Slots} {H Hr Hc H0:List Ent} {d j i id:Nat} {want b:Bool} {op:Op} {o:Oper} {ty:TypeId} {pos:String} {af:Array Edge} {rest:List Oper} {π:Ord} {σ:St} {R:VP} {x y:Code} {u:Operand}
theorem ws (k:Rl c ops ops.toList σ (nxt c y Q)):Wp c (.seq (.region id ops false) y) σ Q:=zE (zi k)
theorem ss (k:Rl c ops ops.toList σ (nxt c x (nxt c y Q))):Wp c (.seq (.seq (.region id ops false) x) y) σ Q:=zE (ws k)
theorem rn (k:Wp c y σ Q):Rl c ops [] σ (nxt c y Q):=zF (zp k)
theorem wk (k:Wp c y σ Q):Wp c .skip σ (nxt c y Q):=zJ (zp k)
theorem rb (k:Fin c σ Q):Rl c ops [] σ (Exit.inBlock id Q):=zF (zw k)
theorem bn (k:Ret c σ Q):Ret c σ (Exit.inBlock id (nxt c y Q)):=zbP (zx k)
theorem xn (k:Exi c id σ Q):Wp c (.exit id) σ (nxt c y Q):=znp (zrM k)
theorem om (hx:opnd Γ u=some R) (k:Rl c ops rest ⟨(d,R) :: Γ,H⟩ Q) (hd:Nat.blt d c.n=true:=by rfl):Rl c ops (⟨some d,.move u,ty,pos,af,none⟩ :: rest) ⟨Γ,H⟩ Q:=oV (zm hx) k hd
theorem oa (hx:opnd Γ u=some R) (k:Rl c ops rest ⟨(d,R) :: Γ,H⟩ Q) (hd:Nat.blt d c.n=true:=by rfl):Rl c ops (⟨some d,.assign u,ty,pos,af,none⟩ :: rest) ⟨Γ,H⟩ Q:=oV (zar hx) k hd
theorem an (hx:opnd Γ u=some R) (k:Wp c y ⟨(d,R) :: Γ,H⟩ Q) (hd:Nat.blt d c.n=true:=by rfl):Rl c ops [⟨some d,.assign u,ty,pos,af,none⟩] ⟨Γ,H⟩ (nxt c y Q):=oa hx (rn k) hd
theorem ar (hx:opnd Γ u=some R) (k:Ret c ⟨(d,R) :: Γ,H⟩ Q) (hd:Nat.blt d c.n=true:=by rfl):Rl c ops [⟨some d,.assign u,ty,pos,af,none⟩] ⟨Γ,H⟩ (nxt c .ret Q):=an hx (zbz k) hd
def gl (ops:Array Oper) (j:Nat) (Γ:Slots):Option VP:=((ops[j]?).bind (·.dst)).bind (look Γ)
theorem zjK (h:gl ops j Γ=some R):∃ dj,(ops[j]?).bind (·.dst)=some dj/\look Γ dj=some R:=Option.bind_eq_some_iff.1 h
theorem oG (hb:b=want) (h:OpV c ⟨some d,op,ty,pos,af,some (j,want)⟩ ⟨Γ,H⟩ R) (k:Rl c ops rest ⟨(d,R) :: Γ,H⟩ Q) (hl:gl ops j Γ=some (isv b):=by exact rfl) (hd:Nat.blt d c.n=true:=by rfl):Rl c ops (⟨some d,op,ty,pos,af,some (j,want)⟩ :: rest) ⟨Γ,H⟩ Q:=by
 obtain ⟨dj,h1,h2⟩:=zjK hl;exact zrW rfl h1 h2 hb (OpV.t h k hd)
theorem oH {r:Option Nat} (hb:b=want) (h:OpT c ⟨r,op,ty,pos,af,some (j,want)⟩ σ λσ'=>Rl c ops rest σ' Q) (hl:gl ops j σ.Γ=some (isv b):=by exact rfl):Rl c ops (⟨r,op,ty,pos,af,some (j,want)⟩ :: rest) σ Q:=by
 obtain ⟨dj,h1,h2⟩:=zjK hl;exact zrW rfl h1 h2 hb h
theorem oN (hb:b=!want) (k:Rl c ops rest ⟨(d,undv) :: Γ,H⟩ Q) (hl:gl ops j Γ=some (isv b):=by exact rfl) (hd:Nat.blt d c.n=true:=by rfl):Rl c ops (⟨some d,op,ty,pos,af,some (j,want)⟩ :: rest) ⟨Γ,H⟩ Q:=by
 obtain ⟨dj,h1,h2⟩:=zjK hl;exact zuU h1 h2 hb k hd
theorem oU (k:Rl c ops rest ⟨(d,undv) :: Γ,H⟩ Q) (hl:gl ops j Γ=some undv:=by exact rfl) (hd:Nat.blt d c.n=true:=by rfl):Rl c ops (⟨some d,op,ty,pos,af,some (j,want)⟩ :: rest) ⟨Γ,H⟩ Q:=by
 obtain ⟨dj,h1,h2⟩:=zjK hl;exact zuw h1 h2 k hd
theorem rm (ho:ops[i]?=some ⟨some d,.move u,ty,pos,af,none⟩) (hx:opnd Γ u=some R) (k:Rd c ops π ⟨(d,R) :: Γ,H⟩ Q) (hd:Nat.blt d c.n=true:=by rfl):Rd c ops (.v i π) ⟨Γ,H⟩ Q:=zj ho (zm hx) k hd
theorem rG (ho:ops[i]?=some ⟨some d,op,ty,pos,af,some (j,want)⟩) (hb:b=want) (h:OpV c ⟨some d,op,ty,pos,af,some (j,want)⟩ ⟨Γ,H⟩ R) (k:Rd c ops π ⟨(d,R) :: Γ,H⟩ Q) (hl:gl ops j Γ=some (isv b):=by exact rfl) (hd:Nat.blt d c.n=true:=by rfl):Rd c ops (.v i π) ⟨Γ,H⟩ Q:=by
 obtain ⟨dj,h1,h2⟩:=zjK hl;exact zwa ho h1 h2 hb h k hd
theorem rP (ho:ops[i]?=some ⟨some d,op,ty,pos,af,some (j,want)⟩) (hb:b=!want) (k:Rd c ops π ⟨(d,undv) :: Γ,H⟩ Q) (hl:gl ops j Γ=some (isv b):=by exact rfl) (hd:Nat.blt d c.n=true:=by rfl):Rd c ops (.v i π) ⟨Γ,H⟩ Q:=by
 obtain ⟨dj,h1,h2⟩:=zjK hl;exact ztg ho h1 h2 hb k hd
theorem rU (ho:ops[i]?=some ⟨some d,op,ty,pos,af,some (j,want)⟩) (k:Rd c ops π ⟨(d,undv) :: Γ,H⟩ Q) (hl:gl ops j Γ=some undv:=by exact rfl) (hd:Nat.blt d c.n=true:=by rfl):Rd c ops (.v i π) ⟨Γ,H⟩ Q:=by
 obtain ⟨dj,h1,h2⟩:=zjK hl;exact zsP ho h1 h2 k hd
theorem rT (ho:ops[i]?=some o) (h:OpT c o σ λσ'=>Rd c ops π σ' Q) (hg:o.guard=none:=by exact rfl):Rd c ops (.t i π) σ Q:=zwn ho hg h
theorem rH {r:Option Nat} (ho:ops[i]?=some ⟨r,op,ty,pos,af,some (j,want)⟩) (hb:b=want) (h:OpT c ⟨r,op,ty,pos,af,some (j,want)⟩ σ λσ'=>Rd c ops π σ' Q) (hl:gl ops j σ.Γ=some (isv b):=by exact rfl):Rd c ops (.t i π) σ Q:=by
 obtain ⟨dj,h1,h2⟩:=zjK hl;exact zwd ho rfl h1 h2 hb h
end
section
variable {c:Ctx} {d:Option Nat} {ty:TypeId} {pos:String} {af:Array Edge} {g:Option (Nat × Bool)} {σ:St} {x i:Operand} {T f:Nat}
theorem vI {β γ:Type} [Rep β] [Rep γ] {y:β} (hx:opnd σ.Γ x=some (immv y)) (M:Fld β γ) (hf:FldB c.P T f M.off (Rep.n γ) (Rep.agg γ)=true) (z:γ) (hz:M.get y=z:=by exact rfl):OpV c ⟨d,.fieldAddr T x f,ty,pos,af,g⟩ σ (immv z):=zwp hx M hf hz
theorem vN {α:Type} [Rep α] {l:List α} {n:Nat} {agg:Bool} (hx:opnd σ.Γ x=some (isv l)) (hT:SlB c.P T n agg=true):OpV c ⟨d,.call ⟨.builtin .len,#[x],#[T]⟩,ty,pos,af,g⟩ σ (isv (l.length:Int)):=zl2 hx (λ_ _ h=>h) hT
theorem vX {α:Type} [Rep α] {l:List α} {k:Int} {y:α} (hx:opnd σ.Γ x=some (isv l)) (hi:opnd σ.Γ i=some (isv k)) (hT:SlB c.P T (Rep.n α) (Rep.agg α)=true) (hy:getI l k=some y):OpV c ⟨d,.indexAddr T x i,ty,pos,af,g⟩ σ (immv y):=zlL hx (λ_ _ h=>h) hi hT hy
theorem vP {α β:Type} [Rep α] [Rep β] {b:Nat} {L:Fld α β} {y:α} {T:TypeId} {o:Obj} (ht:TyB c.P T (Rep.n β) (Rep.agg β)=true) (hx:opnd σ.Γ x=some (pinv o b L y)) (hp:(b,o) ∈ c.pin) (z:β) (hz:L.get y=z:=by exact rfl):OpV c ⟨d,.load T x,ty,pos,af,g⟩ σ (isv z):=zrE ht hx hp (by subst hz;exact λ_ _ h=>h)
end
/-! ### What turns the world -/
theorem p0 {e:Ent} {l:List Ent}:Pick e (e :: l) l:=.here
theorem p1 {e a:Ent} {l:List Ent}:Pick e (a :: e :: l) (a :: l):=.there .here
theorem p2 {e a b:Ent} {l:List Ent}:Pick e (a :: b :: e :: l) (a :: b :: l):=.there p1
theorem p3 {e a b c:Ent} {l:List Ent}:Pick e (a :: b :: c :: e :: l) (a :: b :: c :: l):=.there p2
theorem p4 {e a b c d:Ent} {l:List Ent}:Pick e (a :: b :: c :: d :: e :: l) (a :: b :: c :: d :: l):=.there p3
theorem a0 {e:Ent} {H Hc Hr:List Ent} (h:Takes H Hc Hr):Takes (e :: H) (e :: Hc) Hr:=.cons .here h
theorem a1 {e a:Ent} {H Hc Hr:List Ent} (h:Takes (a :: H) Hc Hr):Takes (a :: e :: H) (e :: Hc) Hr:=.cons p1 h
theorem a2 {e a b:Ent} {H Hc Hr:List Ent} (h:Takes (a :: b :: H) Hc Hr):Takes (a :: b :: e :: H) (e :: Hc) Hr:=.cons p2 h
theorem a3 {e a b c:Ent} {H Hc Hr:List Ent} (h:Takes (a :: b :: c :: H) Hc Hr):Takes (a :: b :: c :: e :: H) (e :: Hc) Hr:=.cons p3 h
theorem k0 {H:List Ent}:Takes H [] H:=.nil
theorem k5 {e1 e2 e3 e4 e5:Ent} {H:List Ent}:Takes (e1 :: e2 :: e3 :: e4 :: e5 :: H) [e1,e2,e3,e4,e5] H:=a0 k4
theorem k6 {e1 e2 e3 e4 e5 e6:Ent} {H:List Ent}:Takes (e1 :: e2 :: e3 :: e4 :: e5 :: e6 :: H) [e1,e2,e3,e4,e5,e6] H:=a0 k5
theorem k7 {e1 e2 e3 e4 e5 e6 e7:Ent} {H:List Ent}:Takes (e1 :: e2 :: e3 :: e4 :: e5 :: e6 :: e7 :: H) [e1,e2,e3,e4,e5,e6,e7] H:=a0 k6
section
variable {c:Ctx} {ty:TypeId} {pos:String} {af:Array Edge} {g:Option (Nat × Bool)} {Γ:Slots} {H Hr Hc:List Ent} {K:St->Prop} {x u:Operand} {T dd:Nat}
theorem tL {α β:Type} [Rep α] [Rep β] {b:Nat} {L:Fld α β} {y:α} (ht:TyB c.P T (Rep.n β) (Rep.agg β)=true) (hx:opnd Γ x=some (ptrv b L)) (hp:Pick (boxE b y) H Hr) (z:β) (k:K ⟨(dd,isv z) :: Γ,H⟩) (hz:L.get y=z:=by exact rfl) (hd:Nat.blt dd c.n=true:=by rfl) :
    OpT c ⟨some dd,.load T x,ty,pos,af,g⟩ ⟨Γ,H⟩ K:=zaL ht hx hp (by subst hz;exact λ_ _ h=>h) k hd
theorem tS {α β:Type} [Rep α] [Rep β] {b:Nat} {L:Fld α β} {y:α} {z:β} (ht:TyB c.P T (Rep.n β) (Rep.agg β)=true) (hx:opnd Γ x=some (ptrv b L)) (hu:opnd Γ u=some (isv z)) (hp:Pick (boxE b y) H Hr) (y':α) (k:K ⟨Γ,boxE b y' :: Hr⟩) (hy:L.set y z=y':=by exact rfl) :
    OpT c ⟨none,.store T x u,ty,pos,af,g⟩ ⟨Γ,H⟩ K:=zpw ht hx hu (λ_ _ h=>h) hp hy k
theorem tR {α β:Type} [Rep α] [Rep β] {b:Nat} {L:Fld α β} {y:α} {z:β} {R:VP} (ht:TyB c.P T (Rep.n β) (Rep.agg β)=true) (hx:opnd Γ x=some (ptrv b L)) (hu:opnd Γ u=some R) (hc:∀ S v,R.p S v->(isv z).p S v) (hp:Pick (boxE b y) H Hr) (y':α) (hy:L.set y z=y') (k:K ⟨Γ,boxE b y' :: Hr⟩) :
    OpT c ⟨none,.store T x u,ty,pos,af,g⟩ ⟨Γ,H⟩ K:=zpw ht hx hu hc hp hy k
theorem tB {α:Type} [Rep α] {y:α} (hx:opnd Γ x=some (isv y)) (k:K ⟨(dd,immv y) :: Γ,H⟩) (hd:Nat.blt dd c.n=true:=by rfl):OpT c ⟨some dd,.box T x,ty,pos,af,g⟩ ⟨Γ,H⟩ K:=zmV hx (λ_ _ h=>h) k hd
section
variable {f:FuncId} {xs:Array Operand} {ats:Array TypeId} {args:List VP} {τ0 τ1 τ2 τ3 τ4:Type}
theorem tC {R0:List VP} {H0:List Ent} (hs:Ctr c.P f args Hc (Pt R0 H0)) (hT:TabsC c) (hx:Opnds Γ xs.toList args) (ht:Takes H Hc Hr) (k:K ⟨(dd,oneOf R0) :: Γ,H0 ++ Hr⟩) (hd:Nat.blt dd c.n=true:=by rfl) :
    OpT c ⟨some dd,.call ⟨.value (.func f),xs,ats⟩,ty,pos,af,g⟩ ⟨Γ,H⟩ K:=zuV hs hT hx ht k hd
theorem tC1 {R0:τ0->List VP} {H0:τ0->List Ent} (hs:Ctr c.P f args Hc (Pt1 R0 H0)) (hT:TabsC c) (hx:Opnds Γ xs.toList args) (ht:Takes H Hc Hr) (k:∀ t0,K ⟨(dd,oneOf (R0 t0)) :: Γ,H0 t0 ++ Hr⟩) (hd:Nat.blt dd c.n=true:=by rfl) :
    OpT c ⟨some dd,.call ⟨.value (.func f),xs,ats⟩,ty,pos,af,g⟩ ⟨Γ,H⟩ K:=zl9 hs hT hx ht (λR H' hR=>by obtain ⟨t0,rfl,rfl⟩:=hR;exact k t0) hd
theorem tC2 {R0:τ0->τ1->List VP} {H0:τ0->τ1->List Ent} (hs:Ctr c.P f args Hc (Pt2 R0 H0)) (hT:TabsC c) (hx:Opnds Γ xs.toList args) (ht:Takes H Hc Hr) (k:∀ t0 t1,K ⟨(dd,oneOf (R0 t0 t1)) :: Γ,H0 t0 t1 ++ Hr⟩) (hd:Nat.blt dd c.n=true:=by rfl) :
    OpT c ⟨some dd,.call ⟨.value (.func f),xs,ats⟩,ty,pos,af,g⟩ ⟨Γ,H⟩ K:=zl9 hs hT hx ht (λR H' hR=>by obtain ⟨t0,t1,rfl,rfl⟩:=hR;exact k t0 t1) hd
theorem tC3 {R0:τ0->τ1->τ2->List VP} {H0:τ0->τ1->τ2->List Ent} (hs:Ctr c.P f args Hc (Pt3 R0 H0)) (hT:TabsC c) (hx:Opnds Γ xs.toList args) (ht:Takes H Hc Hr) (k:∀ t0 t1 t2,K ⟨(dd,oneOf (R0 t0 t1 t2)) :: Γ,H0 t0 t1 t2 ++ Hr⟩) (hd:Nat.blt dd c.n=true:=by rfl) :
    OpT c ⟨some dd,.call ⟨.value (.func f),xs,ats⟩,ty,pos,af,g⟩ ⟨Γ,H⟩ K:=zl9 hs hT hx ht (λR H' hR=>by obtain ⟨t0,t1,t2,rfl,rfl⟩:=hR;exact k t0 t1 t2) hd
theorem tC4 {R0:τ0->τ1->τ2->τ3->List VP} {H0:τ0->τ1->τ2->τ3->List Ent} (hs:Ctr c.P f args Hc (Pt4 R0 H0)) (hT:TabsC c) (hx:Opnds Γ xs.toList args) (ht:Takes H Hc Hr) (k:∀ t0 t1 t2 t3,K ⟨(dd,oneOf (R0 t0 t1 t2 t3)) :: Γ,H0 t0 t1 t2 t3 ++ Hr⟩) (hd:Nat.blt dd c.n=true:=by rfl) :
    OpT c ⟨some dd,.call ⟨.value (.func f),xs,ats⟩,ty,pos,af,g⟩ ⟨Γ,H⟩ K:=zl9 hs hT hx ht (λR H' hR=>by obtain ⟨t0,t1,t2,t3,rfl,rfl⟩:=hR;exact k t0 t1 t2 t3) hd
theorem tC5 {R0:τ0->τ1->τ2->τ3->τ4->List VP} {H0:τ0->τ1->τ2->τ3->τ4->List Ent} (hs:Ctr c.P f args Hc (Pt5 R0 H0)) (hT:TabsC c) (hx:Opnds Γ xs.toList args) (ht:Takes H Hc Hr) (k:∀ t0 t1 t2 t3 t4,K ⟨(dd,oneOf (R0 t0 t1 t2 t3 t4)) :: Γ,H0 t0 t1 t2 t3 t4 ++ Hr⟩) (hd:Nat.blt dd c.n=true:=by rfl) :
    OpT c ⟨some dd,.call ⟨.value (.func f),xs,ats⟩,ty,pos,af,g⟩ ⟨Γ,H⟩ K:=zl9 hs hT hx ht (λR H' hR=>by obtain ⟨t0,t1,t2,t3,t4,rfl,rfl⟩:=hR;exact k t0 t1 t2 t3 t4) hd
end
end
theorem m0 {α:Type} {a:α} {l:List α}:a ∈ a :: l:=List.Mem.head _
theorem m1 {α:Type} {a b:α} {l:List α}:a ∈ b :: a :: l:=List.Mem.tail _ (List.Mem.head _)
theorem r1 {P:Program} {σ:St} {t:Nat} {R:VP} (h:look σ.Γ t=some R):Results P σ [.tmp t] [R]:=.tmp h .nil
theorem r2 {P:Program} {σ:St} {t u:Nat} {R S:VP} (h:look σ.Γ t=some R) (k:look σ.Γ u=some S):Results P σ [.tmp t,.tmp u] [R,S]:=.tmp h (.tmp k .nil)
/-! ### Joins, loops, what is returned -/
section
variable {c:Ctx} {ops:Array Oper} {Q:Exit->Act->World->Prop} {ι β γ:Type} {r:β} {Γ:Slots} {H Hc Hr:List Ent} {l:List Oper} {π:Ord} {σ:St} {B:(ι->Option β)->Option β} {R:ι->Option β} {x y:Code}
theorem MD {mod:Slots} (h:mods Γ mod:=by
 repeat first
 | exact zal
 | refine zu rfl (λ_ _ h=>h) ?_
 | refine zu rfl (by first | exact zz | exact zcC | exact zdQ | exact isvT1 | exact λ_ _ _=>trivial | exact vecvE (by first | rfl | simp)) ?_):mods Γ mod:=h
theorem tk0:∃ Hx,Takes H [] Hx:=⟨_,.nil⟩
theorem tkC {e:Ent} {H1:List Ent} (h:Pick e H H1) (k:∃ Hx,Takes H1 Hc Hx):∃ Hx,Takes H (e :: Hc) Hx:=k.elim λ_ k=>⟨_,.cons h k⟩
theorem TK (h:∃ Hx,Takes H Hc Hx:=by
 repeat first
 | exact tk0
 | refine tkC .here ?_
 | refine tkC p1 ?_
 | refine tkC p2 ?_
 | refine tkC p3 ?_
 | refine tkC p4 ?_
 | refine tkC (.there p4) ?_
 | refine tkC (.there (.there p4)) ?_
 | refine tkC (.there (.there (.there p4))) ?_
 | refine tkC (.there (.there (.there (.there p4)))) ?_):∃ Hx,Takes H Hc Hx:=h
theorem oI {b:Bool} {T E:Option β} (h:br b T E=some r) (ht:b=true->T=some r->Rl c ops l σ Q) (hf:b=false->E=some r->Rl c ops l σ Q):Rl c ops l σ Q:=by
 cases b with
 | true=>exact ht rfl h
 | false=>exact hf rfl h
theorem rJ {b:Bool} {T E:Option β} (h:br b T E=some r) (ht:b=true->T=some r->Rd c ops π σ Q) (hf:b=false->E=some r->Rd c ops π σ Q):Rd c ops π σ Q:=by
 cases b with
 | true=>exact ht rfl h
 | false=>exact hf rfl h
def Jo (J:ι->Option β) (r:β) (P:St->Prop) (mod:ι->Slots) (ds:List Nat) (Γ:Slots) (Hr:List Ent):Prop :=
 ∀ {i},J i=some r->∀ (k:Nat) {Γ':Slots} {H':List Ent} (_:Γ'.drop k=Γ:=by exact rfl) (_:tailB (Γ'.take k) ds Γ=true:=by exact rfl) (_:mods Γ' (mod i):=by exact MD) (_:∃ Hx,Takes H' Hr Hx:=by exact TK),P ⟨Γ',H'⟩
def Jn (J:ι->Option β) (r:β) (P:St->Prop) (mod:ι->γ->Slots) (Hm:ι->γ->List Ent) (Γ:Slots) (Hr:List Ent):Prop :=
 ∀ {i},J i=some r->∀ (g:γ) (k:Nat) {Γ':Slots} {H':List Ent} (_:Γ'.drop k=Γ:=by exact rfl) (_:tailB (Γ'.take k) ((mod i g).map (·.1)) Γ=true:=by exact rfl) (_:mods Γ' (mod i g):=by exact MD) (_:∃ Hx,Takes H' (Hm i g ++ Hr) Hx:=by exact TK),P ⟨Γ',H'⟩
theorem jO [Rep ι] (n d:Nat) (h:jp B R=some r) (hk:∀ i,R i=some r->Rl c ops (l.drop n) ⟨(d,isv i) :: Γ,H⟩ Q)
    (hx:∀ J:ι->Option β,B J=some r->Jo J r (λσ'=>Rl c ops (l.drop n) σ' Q) (λi=>[(d,isv i)]) [d] Γ H->Rl c ops l ⟨Γ,H⟩ Q):Rl c ops l ⟨Γ,H⟩ Q :=
  zwk (γ:=Unit) (λi _=>[(d,isv i)]) (λ_ _=>[]) .nil h n rfl (λi _=>hk i) λJ h hJ=>hx J h (by intro i hi k Γ' H' h1 h2 h3 ⟨Hx,h4⟩;exact hJ i () hi _ (zfN (mod:=[(d,isv i)]) (Hm:=[]) k h1 h2 h3 h4))
theorem jD [Rep ι] (n d:Nat) (h:jp B R=some r) (hk:∀ i,R i=some r->Rd c ops (π.drop n) ⟨(d,isv i) :: Γ,H⟩ Q)
    (hx:∀ J:ι->Option β,B J=some r->Jo J r (λσ'=>Rd c ops (π.drop n) σ' Q) (λi=>[(d,isv i)]) [d] Γ H->Rd c ops π ⟨Γ,H⟩ Q):Rd c ops π ⟨Γ,H⟩ Q :=
  hx R h (by intro i hi k Γ' H' h1 h2 h3 ⟨Hx,h4⟩;exact λS a w m=>hk i hi S a w (m.weak (zfN (mod:=[(d,isv i)]) (Hm:=[]) k h1 h2 h3 h4)))
theorem jW [Rep ι] (d:Nat) (h:jp B R=some r) (hk:∀ i,R i=some r->Wp c y ⟨(d,isv i) :: Γ,H⟩ Q)
    (hx:∀ J:ι->Option β,B J=some r->Jo J r (λσ'=>Fin c σ' (nxt c y Q)) (λi=>[(d,isv i)]) [d] Γ H->Wp c x ⟨Γ,H⟩ (nxt c y Q)):Wp c x ⟨Γ,H⟩ (nxt c y Q) :=
  hx R h (by intro i hi k Γ' H' h1 h2 h3 ⟨Hx,h4⟩;exact zp (zvB (zfN (mod:=[(d,isv i)]) (Hm:=[]) k h1 h2 h3 h4) (hk i hi)))
theorem jo (n:Nat) (h:jp B R=some r) (γ:Type) (mod:ι->γ->Slots) (Hm:ι->γ->List Ent) (hT:Takes H Hc Hr) (hk:∀ i g,R i=some r->Rl c ops (l.drop n) ⟨mod i g ++ Γ,Hm i g ++ Hr⟩ Q)
    (hx:∀ J:ι->Option β,B J=some r->Jn J r (λσ'=>Rl c ops (l.drop n) σ' Q) mod Hm Γ Hr->Rl c ops l ⟨Γ,H⟩ Q):Rl c ops l ⟨Γ,H⟩ Q :=
  zwk mod Hm hT h n rfl hk λJ h hJ=>hx J h (by intro i hi g k Γ' H' h1 h2 h3 ⟨Hx,h4⟩;exact hJ i g hi _ (zfN k h1 h2 h3 h4))
theorem jd (n:Nat) (h:jp B R=some r) (γ:Type) (mod:ι->γ->Slots) (Hm:ι->γ->List Ent) (hT:Takes H Hc Hr) (hk:∀ i g,R i=some r->Rd c ops (π.drop n) ⟨mod i g ++ Γ,Hm i g ++ Hr⟩ Q)
    (hx:∀ J:ι->Option β,B J=some r->Jn J r (λσ'=>Rd c ops (π.drop n) σ' Q) mod Hm Γ Hr->Rd c ops π ⟨Γ,H⟩ Q):Rd c ops π ⟨Γ,H⟩ Q :=
  zws mod Hm hT h n rfl hk λJ h hJ=>hx J h (by intro i hi g k Γ' H' h1 h2 h3 ⟨Hx,h4⟩;exact hJ i g hi _ (zfN k h1 h2 h3 h4))
theorem jw (h:jp B R=some r) (γ:Type) (mod:ι->γ->Slots) (Hm:ι->γ->List Ent) (hT:Takes H Hc Hr) (hk:∀ i g,R i=some r->Wp c y ⟨mod i g ++ Γ,Hm i g ++ Hr⟩ Q)
    (hx:∀ J:ι->Option β,B J=some r->Jn J r (λσ'=>Fin c σ' (nxt c y Q)) mod Hm Γ Hr->Wp c x ⟨Γ,H⟩ (nxt c y Q)):Wp c x ⟨Γ,H⟩ (nxt c y Q) :=
  zwu mod Hm hT h hk λJ h hJ=>hx J h (by intro i hi g k Γ' H' h1 h2 h3 ⟨Hx,h4⟩;exact hJ i g hi _ (zfN k h1 h2 h3 h4))
theorem lP {F:(ι->Option β)->ι->Option β} {i0:ι} (h:lp F i0=some r) (γ:Type) (g0:γ) (mod:ι->γ->Slots) (Hm:ι->γ->List Ent) (hm:mods Γ (mod i0 g0)) (hT:Takes H (Hm i0 g0) Hr)
    (hx:∀ (L:ι->Option β) (i:ι) (g:γ) (Q':Exit->Act->World->Prop),F L i=some r->Jn L r (λσ'=>Fin c σ' Q') mod Hm Γ Hr->(∀ id σ',Exi c id σ' Q->Exi c id σ' Q')->(∀ σ',Ret c σ' Q->Ret c σ' Q')->Wp c x ⟨mod i g ++ Γ,Hm i g ++ Hr⟩ Q'):Wp c (.loop x) ⟨Γ,H⟩ Q :=
  zwb mod Hm h g0 hm hT λL i g Q' h hL hE hR=>hx L i g Q' h (by intro i hi g k Γ' H' h1 h2 h3 ⟨Hx,h4⟩;exact hL i g hi _ (zfN k h1 h2 h3 h4)) hE hR
theorem lO [Rep ι] {F:(ι->Option β)->ι->Option β} {i0:ι} (d:Nat) (h:lp F i0=some r) (hm:look Γ d=some (isv i0))
    (hx:∀ (L:ι->Option β) (i:ι) (Q':Exit->Act->World->Prop),F L i=some r->Jo L r (λσ'=>Fin c σ' Q') (λi=>[(d,isv i)]) [d] Γ H->(∀ id σ',Exi c id σ' Q->Exi c id σ' Q')->(∀ σ',Ret c σ' Q->Ret c σ' Q')->Wp c x ⟨(d,isv i) :: Γ,H⟩ Q'):Wp c (.loop x) ⟨Γ,H⟩ Q :=
  zwb (γ:=Unit) (λi _=>[(d,isv i)]) (λ_ _=>[]) h () (zu hm (λ_ _ h=>h) zal) .nil λL i _ Q' h hL hE hR=>hx L i Q' h (by intro i hi k Γ' H' h1 h2 h3 ⟨Hx,h4⟩;exact hL i () hi _ (zfN (mod:=[(d,isv i)]) (Hm:=[]) k h1 h2 h3 h4)) hE hR
theorem iS {s:β} (h:some s=some r):s=r:=Option.some.inj h
end
end Go.Sy


namespace Go.Sy
section ops
variable {c:Ctx} {ty:TypeId} {pos:String} {af:Array Edge} {g:Option (Nat × Bool)} {σ:St} {d:Option Nat}
end ops
theorem ztV {c:Ctx} {σ:St} {d:Option Nat} {ty:TypeId} {pos:String} {af:Array Edge} {g:Option (Nat × Bool)} {x o1 o2:Operand} {s:Str} {k q:UInt8} {T:Nat} (hT:StrB c.P T=true) (hx:opnd σ.Γ x=some (isv s))
    (ho1:opnd σ.Γ o1=some (isv k)) (ho2:opnd σ.Γ o2=some (isv q))
    (hkq:(k.toNat:Int) <= (q.toNat:Int)) (hq:(q.toNat:Int) <= s.b.length):OpV c ⟨d,.slice T x (some o1) (some o2) none,ty,pos,af,g⟩ σ (isv (Str.mk ((s.b.take (q.toNat:Int).toNat).drop (k.toNat:Int).toNat))):=λS a w m=>by
  obtain ⟨h1,h2⟩:=zcG.1 (zk m hx)
  refine ⟨.string (Str.ba ⟨(s.b.take (q.toNat:Int).toNat).drop (k.toNat:Int).toNat⟩),zcG.2 ⟨rfl,by simp only [zLd,zLt];omega⟩,λw' _=>?_⟩
  have hsz:s.ba.size=s.b.length:=Str.ba_size s
  have b1:∀ (v:Value) (code:BoundsCode),v=.int .u8 (q.toNat:Int)->(Instr.sliceBound v s.ba.size code).run c.P w'=.ok q.toNat w':=λv code hv=>by
    have:q.toNat <= s.ba.size:=by omega
    rw [hv];simp [Instr.sliceBound,asIntOf,this]
  have b2:∀ (v:Value) (code:BoundsCode),v=.int .u8 (k.toNat:Int)->(Instr.sliceBound v q.toNat code).run c.P w'=.ok k.toNat w':=λv code hv=>by
    have:k.toNat <= q.toNat:=by omega
    rw [hv];simp [Instr.sliceBound,asIntOf,this]
  have ex:=zg7 s k.toNat q.toNat
  have e1:=λcode=>b2 _ code (zbt.1 (zk m ho1))
  have e2:=b1 _ .sliceAlen (zbt.1 (zk m ho2))
  simp [execOp,h1,Instr.sliceAt,Instr.slice,Instr.sliceBounds,underlying,StrB.spec hT,e2,e1] <;> exact ex
end Go.Sy


namespace Go.Sy
section val
variable (a n r:Int) (b:List UInt8) (l:List Val) (m:List Raw)
@[simp] theorem Val.kind_mk:(Val.mk a n b l r m).kind=a:=rfl
@[simp] theorem Val.n_mk:(Val.mk a n b l r m).n=n:=rfl
@[simp] theorem Val.b_mk:(Val.mk a n b l r m).b=b:=rfl
@[simp] theorem Val.l_mk:(Val.mk a n b l r m).l=l:=rfl
@[simp] theorem Val.rule_mk:(Val.mk a n b l r m).rule=r:=rfl
@[simp] theorem Val.more_mk:(Val.mk a n b l r m).more=m:=rfl
end val
section cut
variable {c:Ctx} {ty:TypeId} {pos:String} {af:Array Edge} {g:Option (Nat × Bool)} {σ:St} {d:Option Nat}
theorem zs8 (a:Addr):a.add 0=a:=by unfold Addr.add;simp
theorem zt7 {α:Type} [Rep α] {x o:Operand} {t:Vt} {n:Nat} {l:List α} {k:Int} {T:Nat} {Hr:List Ent} (hx:opnd σ.Γ x=some (vecv t n)) (hT:SlB c.P T (Rep.n α) (Rep.agg α)=true) (hp:Pick (vecE t l) σ.H Hr) (he:n=l.length)
    (ho:opnd σ.Γ o=some (isv k)) (hk:0 <= k) (hq:k <= (l.length:Int)):OpV c ⟨d,.slice T x none (some o) none,ty,pos,af,g⟩ σ (vecv t (l.take k.toNat).length):=λS a w m=>by
  obtain ⟨hn,h1⟩:=zk m hx
  obtain ⟨h5,_⟩:=zas.1 (zk m ho)
  obtain ⟨e,hu,hte⟩:=SlB.spec hT
  have hlen:(l.take k.toNat).length=k.toNat:=by rw [zLt];omega
  have hs:=m.owns.sat _ ((hp.perm).mem_iff.2 (zMs ..))
  rw [hlen]
  cases t with
  | none =>
    obtain ⟨h1,h2⟩:=h1
    have hk0:k=0:=by omega
    subst hk0
    refine ⟨.slice none 0 0,⟨by simp,rfl,rfl⟩,λw' _=>?_⟩
    have e2:(Instr.sliceBound (a.eval o) 0 .sliceAcap).run c.P w'=.ok 0 w':=by rw [h5];exact zdk (by omega) (by omega)
    simp [execOp,h1,Instr.sliceAt,Instr.slice,Instr.sliceBounds,underlying,hu,TyB.size hte,e2]
  | some t =>
    obtain ⟨b,cap⟩:=t
    obtain ⟨ob,_,_,cs,T',_,_,hc,_⟩:=hs
    have hc:l.length <= cap:=hc
    simp only at h1
    refine ⟨.slice (some ⟨b,0,none⟩) k.toNat cap,⟨by omega,rfl⟩,λw' _=>?_⟩
    have e2:(Instr.sliceBound (a.eval o) cap .sliceAcap).run c.P w'=.ok k.toNat w':=by rw [h5];exact zdk (by omega) (by omega)
    simp [execOp,h1,Instr.sliceAt,Instr.slice,Instr.sliceBounds,underlying,hu,TyB.size hte,e2,zs8]
theorem zpH {α:Type} [Rep α] {Γ:Slots} {H Hr:List Ent} {t:Vt} {l:List α} (k:Nat) (hp:Pick (vecE t l) H Hr):Upd c ⟨Γ,H⟩ ⟨Γ,vecE t (l.take k) :: Hr⟩:=(zg2 hp).trans λS a w m =>
 ⟨S, S.le_refl,m.ent rfl λhs=>by
  unfold Ent.sat vecE at *
  cases t with
  | none=>trivial
  | some t =>
   obtain ⟨b,cap⟩:=t
   obtain ⟨o,h1,h2,cs,T,h3,h4,h5,h6⟩:=hs
   refine ⟨o,h1,h2,cs,T,h3,h4,by rw [zLt];omega,?_⟩
   have:=zg8 (r:=Rep.rd S) (λ_ _ h=>Rep.len h) k h6
   rw [List.take_take] at this
   rw [zLt]
   rcases Nat.le_total k l.length with hk | hk
   ·rw [Nat.min_eq_left hk]
    rwa [Nat.min_eq_left (Nat.mul_le_mul_right _ hk)] at this
   ·rw [Nat.min_eq_right hk]
    rwa [Nat.min_eq_right (Nat.mul_le_mul_right _ hk)] at this⟩
def appSB (P:Program) (T U:TypeId):Bool :=
  (match P.underlying T with
   | some (.slice e)=>(match P.info? e with
     | some i=>i.size == 1 && Nat.ble i.bytes 1024 && i.bytes != 0 && i.zero.any (·.cells.size == 1)
     | none=>false)
   | _=>false) && (match P.underlying U with | some .string=>true | _=>false)
theorem AppSB.of {P:Program} {T U:TypeId} (h:appSB P T U=true):(∃ e i z,P.underlying T=some (.slice e)/\P.info? e=some i/\i.size=Rep.n UInt8/\i.bytes <= 1024/\i.bytes ≠ 0/\i.zero=some z/\z.cells.size=Rep.n UInt8)/\P.underlying U=some .string:=by
 unfold appSB at h
 simp only [zBa] at h
 obtain ⟨h1,h2⟩:=h
 constructor
 ·split at h1
  ·rename_i e hu
   split at h1
   ·rename_i i hi
    simp only [zBa,beq_iff_eq,bne_iff_ne] at h1
    obtain ⟨z,hz,hz'⟩:=(Option.any_eq_true _ _).1 h1.2
    exact ⟨e,i,z,hu,hi,h1.1.1.1,Nat.le_of_ble_eq_true h1.1.1.2,h1.1.2,hz,(by simpa using hz':z.cells.size=1)⟩
   ·cases h1
  ·cases h1
 ·split at h2
  ·rename_i hu;exact hu
  ·cases h2
theorem zrm {P:Program} (s:Str) (w:World):(Builtin.firstCells (Rep.n UInt8) s.b.length (.string s.ba)).run P w=.ok (s.b.map λx=>Value.int .u8 (x.toNat:Int)).toArray w:=by
 have h:(s.ba.extract 0 s.b.length)=s.ba:=by
  have:=zg7 s 0 s.b.length
  rw [List.take_length,List.drop_zero] at this
  exact this
 simp [Builtin.firstCells,h,Str.ba]
theorem zmn {P:Program} {T U e:TypeId} {i:TypeInfo} {z:Value} {p:Option Addr} {s:ByteArray} {ln mn cap n:Nat} {ty:TypeId} {cl cm:Array Value} {w:World}
    (hu:P.underlying T=some (.slice e)) (hu':P.underlying U=some .string) (hsn:s.size=mn) (hi:P.info? e=some i) (hsz:i.size=n) (hz:i.zero=some z) (hby0:i.bytes ≠ 0)
    (hneed:¬ ln + mn <= cap) (hbig:¬ 2 ^ 48 < Builtin.nextslicecap (ln + mn) cap * i.bytes)
    (h1:(Builtin.firstCells n ln (.slice p ln cap)).run P { w with drawn:=w.drawn + 1 }=.ok cl { w with drawn:=w.drawn + 1 })
    (h2:(Builtin.firstCells n mn (.string s)).run P { w with drawn:=w.drawn + 1 }=.ok cm { w with drawn:=w.drawn + 1 }) :
    (Builtin.append_ #[T,U] ty #[.slice p ln cap,.string s]).run P w =
      .ok (.slice (some ⟨w.heap.size,0,none⟩) (ln + mn) ((Question.appendCap (ln + mn) cap e).cut (w.tape w.drawn (.appendCap (ln + mn) cap e))))
        { w with drawn:=w.drawn + 1,heap:=w.heap.push (.cells (cl ++ cm ++ Builtin.zeroCells z.cells ((Question.appendCap (ln + mn) cap e).cut (w.tape w.drawn (.appendCap (ln + mn) cap e)) - (ln + mn))) e (0,0)) }:=by
  have hroom:∀ (k:Nat) (w:World),(askRoom k).run P w=.ok () w:=λk w=>by unfold askRoom;split <;> rfl
  have hch:(choose (.appendCap (ln + mn) cap e)).run P w=.ok ((Question.appendCap (ln + mn) cap e).cut (w.tape w.drawn (.appendCap (ln + mn) cap e))) { w with drawn:=w.drawn + 1 }:=by
    simp [choose,Sem.run,Question.forced]
  generalize (Question.appendCap (ln + mn) cap e).cut (w.tape w.drawn (.appendCap (ln + mn) cap e))=nc at *
  have hu1:∀ w:World,(underlying T).run P w=.ok (.slice e) w:=λw=>by simp [underlying,hu]
  have hu2:∀ w:World,(underlying U).run P w=.ok .string w:=λw=>by simp [underlying,hu']
  have hs1:∀ w:World,(sizeOf e).run P w=.ok n w:=λw=>by simp [sizeOf,typeInfo,hi,hsz]
  have ht1:∀ w:World,(typeInfo e).run P w=.ok i w:=λw=>by simp [typeInfo,hi]
  have hz1:∀ w:World,(zeroValue e).run P w=.ok z w:=λw=>by simp [zeroValue,typeInfo,hi,hz]
  have hl:∀ w:World,(Builtin.lenOf (.string s)).run P w=.ok mn w:=λw=>by subst hsn;rfl
  have hnr:∀ (cs:Array Value) (w:World),(newRow e cs).run P w=.ok ⟨w.heap.size,0,none⟩ { w with heap:=w.heap.push (.cells cs e (0,0)) }:=λcs w=>by simp [newRow,newObj,Sem.run]
  unfold Builtin.append_
  simp only [List.getElem?_toArray,List.getElem?_cons_zero,List.getElem?_cons_succ,Sem.run_bind,hu1,hu2,hs1,Result.andThen_ok,Sem.run_pure,hl,Bool.false_eq_true,if_false,Sem.run_ite,hneed,ht1,gt_iff_lt,hbig,hch,hroom,h1,h2,hz1,hnr,Bool.not_false,if_true]
  rw [if_neg (λh=>by rcases h.2 with h | h;exact h;exact hby0 h)]
theorem zt0 {Γ:Slots} {H:List Ent} {x y:Operand} {t:Vt} {n:Nat} {l:List UInt8} {s:Str} {T U:TypeId} {dd:Nat} {K:St->Prop} {Hr:List Ent} (hT:appSB c.P T U=true)
    (hx:opnd Γ x=some (vecv t n)) (hy:opnd Γ y=some (isv s)) (hp:Pick (vecE t l) H Hr) (hnl:n <= l.length)
    (hb:Nat.ble (n + s.b.length) 68719476736=true)
    (k:∀ t',K ⟨(dd,vecv t' (l.take n ++ s.b).length) :: Γ,vecE t' (l.take n ++ s.b) :: Hr⟩) (hd:Nat.blt dd c.n=true:=by rfl) :
    OpT c ⟨some dd,.call ⟨.builtin .append,#[x,y],#[T,U]⟩,ty,pos,af,g⟩ ⟨Γ,H⟩ K:=by
  intro S a w next Q mm hn
  replace hb:=Nat.le_of_ble_eq_true hb
  have hll:(l.take n ++ s.b).length=n + s.b.length:=by rw [zLa,zLt];omega
  obtain ⟨⟨e,i,z,hu,hi,hsz,hby,hby0,hz,hzn⟩,hu'⟩:=AppSB.of hT
  obtain ⟨hnm,htk⟩:=zk mm hx
  have ev':a.eval y=.string s.ba:=(zcG.1 (zk mm hy)).1
  obtain ⟨cm,hcme⟩:∃ cm,cm=s.b.map λx=>Value.int .u8 (x.toNat:Int):=⟨_,rfl⟩
  have hcm1:cm.length=s.b.length * Rep.n UInt8:=by rw [hcme,List.length_map];exact (Nat.mul_one _).symm
  have hcm2:rdL (Rep.rd S) s.b cm:=by rw [hcme];exact znm _
  have hcm4:∀ w',(Builtin.firstCells (Rep.n UInt8) s.b.length (a.eval y)).run c.P w'=.ok cm.toArray w':=λw'=>by rw [ev',hcme];exact zrm s w'
  have hcmo:∀ v ∈ cm,v.oneCell'=true:=zh7 (λ_ _ h=>Rep.cell h) hcm2
  have hml:maxList=281474976710656:=rfl
  have hs:(vecE t l).sat S w:=mm.owns.get hp
  have hrun:∀ w',(execOp a.eval ⟨some dd,.call ⟨.builtin .append,#[x,y],#[T,U]⟩,ty,pos,af,g⟩).run c.P w' =
      ((Builtin.append_ #[T,U] ty #[a.eval x,a.eval y]).run c.P w').andThen λv w'=>.ok (.value v) w':=by
    intro w'
    simp [execOp,resolve,invoke,builtin]
  unfold Oper.wp
  rw [hrun]
  -- a new block
  have grown:∀ (p:Option Addr) (cap:Nat) (cl:List Value),a.eval x=.slice p n cap->¬ n + s.b.length <= cap->cl.length=n * Rep.n UInt8->rdL (Rep.rd S) (l.take n) cl->(∀ v ∈ cl,v.oneCell'=true) ->
      ((Builtin.firstCells (Rep.n UInt8) n (.slice p n cap)).run c.P { w with drawn:=w.drawn + 1 }=.ok cl.toArray { w with drawn:=w.drawn + 1 }) ->
      (∃ v w',(Builtin.append_ #[T,U] ty #[a.eval x,a.eval y]).run c.P w=.ok v w'/\next (a.put (some dd) v) w'):=by
    intro p cap cl ev hneed hcl1 hcl2 _ hf1
    have hgrow:=zgI (need:=n + s.b.length) (cap:=cap) (by omega)
    have hbig:¬ 281474976710656 < Builtin.nextslicecap (n + s.b.length) cap * i.bytes:=by
      have h1:Builtin.nextslicecap (n + s.b.length) cap * i.bytes <= (2 * (n + s.b.length) + 1024) * 1024:=Nat.mul_le_mul hgrow hby
      omega
    let q0:Question:=.appendCap (n + s.b.length) cap e
    let nc:=q0.cut (w.tape w.drawn q0)
    have hnc:n + s.b.length <= nc:=Nat.le_add_right _ _
    let w1:World:={ w with drawn:=w.drawn + 1 }
    have hs1:S.sub w1:=mm.sub
    have hrun2:(Builtin.append_ #[T,U] ty #[a.eval x,a.eval y]).run c.P w=.ok (.slice (some ⟨w.heap.size,0,none⟩) (n + s.b.length) nc) { w1 with heap:=w.heap.push (.cells (cl.toArray ++ cm.toArray ++ Builtin.zeroCells z.cells (nc - (n + s.b.length))) e (0,0)) }:=by
      have hf2:=hcm4 w1
      rw [ev'] at hf2
      rw [ev,ev']
      exact zmn hu hu' (Str.ba_size s) hi hsz hz hby0 hneed (by simpa using hbig) hf1 hf2
    have hzs:(Builtin.zeroCells z.cells (nc - (n + s.b.length))).size=(nc - (n + s.b.length)) * z.cells.size:=by simp [Builtin.zeroCells]
    have hsp:=zj5 (w:=w1) hs1 (.cells (cl.toArray ++ cm.toArray ++ Builtin.zeroCells z.cells (nc - (n + s.b.length))) e (0,0))
    have hstep':Step (keys [vecE t l]) S S w { w1 with heap:=w.heap.push (.cells (cl.toArray ++ cm.toArray ++ Builtin.zeroCells z.cells (nc - (n + s.b.length))) e (0,0)) } :=
      ⟨⟨rfl,rfl,rfl,hsp.keep.size,λk hk _=>hsp.keep.block k hk (by simp)⟩,Grow.refl _ _ _,hsp.sub⟩
    have hlc:(cl ++ cm).length=(n + s.b.length) * Rep.n UInt8:=by rw [zLa,hcl1,hcm1,Nat.add_mul]
    have m1:=mm.step (H':=[vecE (some (w.heap.size,nc)) (l.take n ++ s.b)]) (Takes.cons hp .nil) hstep'
      (zeX ⟨.cells (cl.toArray ++ cm.toArray ++ Builtin.zeroCells z.cells (nc - (n + s.b.length))) e (0,0),by simp,zg3 mm.sub,_,e,rfl,by
        rw [Array.size_append,Array.size_append,List.size_toArray,List.size_toArray,hzs,hzn,<- zLa,hlc,<- Nat.add_mul]
        congr 1;omega,by rw [hll];exact hnc,by
        rw [hll,<- hlc]
        simp only [Array.toList_append,List.toList_toArray]
        rw [List.take_left' rfl]
        exact zff hcl2 hcm2⟩ λb' hb'=>by simp [vecE] at hb';subst hb';exact .inr (zNl _))
    exact ⟨_,_,hrun2,hn _ _ _ _ (Frz.le_refl _) (k (some (w.heap.size,nc))) (m1.put hd ⟨by rw [hll];omega,by rw [hll]⟩)⟩
  have fin : (∃ v w',(Builtin.append_ #[T,U] ty #[a.eval x,a.eval y]).run c.P w=.ok v w'/\next (a.put (some dd) v) w'):=by
    cases t with
    | none =>
      obtain ⟨ev,rfl⟩:=htk
      by_cases hneed:0 + s.b.length <= 0
      · have hm0:s.b=[]:=by cases hsb:s.b with | nil=>rfl | cons _ _=>rw [hsb] at hneed;exact absurd hneed (by simp)
        refine ⟨.slice none 0 0,w,?_,?_⟩
        · have hf:=hcm4 w
          have hcm0:cm=[]:=List.length_eq_zero_iff.1 (by rw [hcm1,hm0];simp)
          rw [hcm0,ev',hm0] at hf
          simp only [zLn] at hf
          simp [Builtin.append_,underlying,hu,hu',ev,ev',sizeOf,typeInfo,hi,hsz,Builtin.lenOf,Str.ba_size,hm0,hf]
        · have m1:=mm.step (H':=[vecE none (l.take 0 ++ ([]:List UInt8))]) (Takes.cons hp .nil) (S':=S) (w':=w) ⟨Keep.refl _ _,Grow.refl _ _ _,mm.sub⟩
            ⟨λx hx=>by simp at hx;subst hx;trivial,by simp [keys,vecE],λb hb=>by simp [keys,vecE] at hb⟩
          have k':=k none
          rw [hm0] at k'
          exact hn _ _ _ _ (Frz.le_refl _) k' (m1.put hd ⟨by simp,rfl,by simp⟩)
      · refine grown none 0 [] ev hneed (by simp) (by simp [rdL]) (by simp) (by simp [Builtin.firstCells])
    | some t =>
      obtain ⟨b,cap⟩:=t
      simp only at htk
      obtain ⟨o,ho,hnone,cs,T0,e1,hcsz,hlc,hr⟩:=hs
      subst e1
      have hle:n * Rep.n UInt8 <= l.length * Rep.n UInt8:=Nat.mul_le_mul_right _ hnl
      have hle2:l.length * Rep.n UInt8 <= cap * Rep.n UInt8:=Nat.mul_le_mul_right _ hlc
      have htk2:(cs.toList.take (l.length * Rep.n UInt8)).take (n * Rep.n UInt8)=cs.toList.take (n * Rep.n UInt8):=by rw [List.take_take,Nat.min_eq_left hle]
      have hrn:rdL (Rep.rd S) (l.take n) (cs.toList.take (n * Rep.n UInt8)):=by rw [<- htk2];exact zg8 (λ_ _ h=>Rep.len h) n hr
      have hcln:(cs.toList.take (n * Rep.n UInt8)).length=n * Rep.n UInt8:=by
        have:cs.toList.length=cs.size:=by simp
        rw [zLt];omega
      by_cases hneed:n + s.b.length <= cap
      · have hfit:n * Rep.n UInt8 + cm.length <= cs.size:=by
          have h2:(n + s.b.length) * Rep.n UInt8 <= cap * Rep.n UInt8:=Nat.mul_le_mul_right _ hneed
          rw [Nat.add_mul] at h2
          rw [hcm1];omega
        have hst:=run_storeCells_at (P:=c.P) b (n * Rep.n UInt8) T0 cm 0 cs w ho (by omega) hcmo
        have hadd:(⟨b,0,none⟩:Addr).add (n * Rep.n UInt8)=⟨b,n * Rep.n UInt8,none⟩:=by rw [zcy,Nat.zero_add]
        have hrun2:(Builtin.append_ #[T,U] ty #[a.eval x,a.eval y]).run c.P w=.ok (.slice (some ⟨b,0,none⟩) (n + s.b.length) cap) (w.setRow b (cs.toList.take (n * Rep.n UInt8 + 0) ++ cm ++ cs.toList.drop (n * Rep.n UInt8 + 0 + cm.length)).toArray):=by
          have hf:=hcm4 w
          rw [ev'] at hf
          simp [Builtin.append_,underlying,hu,hu',htk,ev',sizeOf,typeInfo,hi,hsz,Builtin.lenOf,Str.ba_size,hf,hneed,hadd,hst]
        obtain ⟨hstep,hh⟩:=zhH (cs:=(cs.toList.take (n * Rep.n UInt8 + 0) ++ cm ++ cs.toList.drop (n * Rep.n UInt8 + 0 + cm.length)).toArray) mm.sub hnone ho
        have m1:=mm.step (Hc:=[vecE (some (b,cap)) l]) (H':=[vecE (some (b,cap)) (l.take n ++ s.b)]) (Takes.cons hp .nil) hstep
          (zeX ⟨_,hh,hnone,_,_,rfl,by
            have hcl:cs.toList.length=cs.size:=by simp
            simp only [List.size_toArray,zLa,zLt,zLd,hcl]
            omega,by rw [hll];exact hneed,by
            rw [hll,Nat.add_mul,<- hcm1,Nat.add_zero]
            simp only
            have:(cs.toList.take (n * Rep.n UInt8) ++ cm ++ cs.toList.drop (n * Rep.n UInt8 + cm.length)).take (n * Rep.n UInt8 + cm.length)=cs.toList.take (n * Rep.n UInt8) ++ cm:=List.take_left' (by rw [zLa,hcln])
            rw [this]
            exact zff hrn hcm2⟩ λb' hb=>by simp [vecE] at hb;subst hb;exact .inl (by simp [keys,vecE]))
        exact ⟨_,_,hrun2,hn _ _ _ _ (Frz.le_refl _) (k (some (b,cap))) (m1.put hd ⟨by rw [hll];omega,by rw [hll]⟩)⟩
      · refine grown (some ⟨b,0,none⟩) cap (cs.toList.take (n * Rep.n UInt8)) htk hneed hcln hrn (λv hv=>zh7 (λ_ _ h=>Rep.cell h) hrn v hv) ?_
        have:=run_loadCells_list (P:=c.P) { w with drawn:=w.drawn + 1 } ⟨b,0,none⟩ (cs.toList.take (n * Rep.n UInt8)) (λj u hj=>by
          rw [zcy]
          unfold World.cell?
          show (match w.heap[b]? with | _=>_)=_
          rw [ho]
          simp only
          rw [List.getElem?_take] at hj
          split at hj
          · simpa using hj
          · cases hj)
        rw [hcln] at this
        simpa [Builtin.firstCells] using this
  obtain ⟨v,w',h1,h2⟩:=fin
  rw [h1]
  exact h2
theorem zuZ {Γ:Slots} {H:List Ent} {x y:Operand} {t:Vt} {n:Nat} {l:List UInt8} {s:Str} {T U:TypeId} {dd:Nat} {K:St->Prop} {Hr:List Ent} (hT:appSB c.P T U=true)
    (hx:opnd Γ x=some (vecv t n)) (hy:opnd Γ y=some (isv s)) (hp:Pick (vecE t l) H Hr) (hnl:n=l.length)
    (hb:Nat.ble (l.length + s.b.length) 68719476736=true)
    (k:∀ t',K ⟨(dd,vecv t' (l ++ s.b).length) :: Γ,vecE t' (l ++ s.b) :: Hr⟩) (hd:Nat.blt dd c.n=true:=by rfl) :
    OpT c ⟨some dd,.call ⟨.builtin .append,#[x,y],#[T,U]⟩,ty,pos,af,g⟩ ⟨Γ,H⟩ K:=by
  subst hnl
  exact zt0 hT hx hy hp (zNl _) hb (λt'=>by rw [List.take_length];exact k t') hd
theorem zr3 {x i:Operand} {s:Str} {k:UInt8} (y:UInt8) {T:Nat} (hT:StrB c.P T=true) (hx:opnd σ.Γ x=some (isv s)) (hi:opnd σ.Γ i=some (isv k))
    (hy:getI s.b (k.toNat:Int)=some y):OpV c ⟨d,.index T x i,ty,pos,af,g⟩ σ (isv y):=λS a w m=>by
  obtain ⟨h1,h2⟩:=zcG.1 (zk m hx)
  have h5:=zbt.1 (zk m hi)
  obtain ⟨hk,hy⟩:=zna hy
  refine ⟨.int .u8 y.toNat,zbt.2 rfl,λw' _=>?_⟩
  have h3:s.ba[k.toNat]?=some y:=by
    rw [Int.toNat_natCast] at hy
    have hlt:=(List.getElem?_eq_some_iff.1 hy).1
    have hlt2:k.toNat < s.ba.size:=by rw [Str.ba_size];exact hlt
    rw [getElem?_pos s.ba k.toNat hlt2]
    have:s.ba[k.toNat]=s.b[k.toNat]:=rfl
    rw [this];exact congrArg some (List.getElem?_eq_some_iff.1 hy).2
  simp [execOp,h1,h5,Instr.index,asIntOf,underlying,StrB.spec hT,h3]
end cut
end Go.Sy


namespace Go.Proofs.Q
open Go.Sy
def zdA (n b:Int):Option Str:=bif decide (b=10) && Nat.ble (Lib.itoa n).length 100 then some ⟨Lib.itoa n⟩ else none
def strings_ReplaceAll (s o n:Str):Option Str:=bif Nat.ble s.b.length 1000000 && Nat.ble 1 o.b.length && Nat.ble (s.b.length + Lib.count s.b o.b * n.b.length) 140737488355328 && Nat.ble (Lib.replaceAll s.b o.b n.b).length 4294967296 then some ⟨Lib.replaceAll s.b o.b n.b⟩ else none
end Go.Proofs.Q


namespace Go.Proofs.Q
open Go.Sy
end Go.Proofs.Q


namespace Go.Proofs.Q
open Go.Sy
def utf8_ValidString (s:Str):Option Bool:=some (Lib.validD s.b)
end Go.Proofs.Q


namespace Go.Proofs.Q
open Go.Sy
set_option maxRecDepth 4000
def zfV (a_s:Str) (a_i:Int):Option (UInt8) :=
 jp (ι:=Bool) (λJ2=>br (decide (a_i < (0:Int))) (J2 (true)) (J2 ((decide ((a_s.b.length:Int) <= a_i))))) (λq1=>br q1 (some ((0:UInt8))) (cal (getI a_s.b a_i) λy4=>some (y4)))

def zgc (a_s:Str) (a_i:Int):Option (Int) :=
 lp (ι:=Int) (λL2 q1=>br (decide (q1 < (a_s.b.length:Int))) (cal (getI a_s.b q1) λy51=>jp (ι:=Bool) (λJ53=>br (decide (y51=(32:UInt8))) (J53 (true)) (cal (getI a_s.b q1) λy55=>J53 ((decide (y55=(9:UInt8)))))) (λq52=>jp (ι:=Bool) (λJ57=>br q52 (J57 (true)) (cal (getI a_s.b q1) λy59=>J57 ((decide (y59=(10:UInt8)))))) (λq56=>jp (ι:=Bool) (λJ61=>br q56 (J61 (true)) (cal (getI a_s.b q1) λy63=>J61 ((decide (y63=(13:UInt8)))))) (λq60=>br q60 (ck ((q1 + (1:Int))) <| L2 ((q1 + (1:Int)))) (cal (getI a_s.b q1) λy65=>jp (ι:=Bool) (λJ67=>br (decide (y65=(45:UInt8))) (ck ((q1 + (1:Int))) <| cal (zfV a_s (q1 + (1:Int))) λy70=>J67 ((decide (y70=(45:UInt8))))) (J67 (false))) (λq66=>br q66 (ck ((q1 + (2:Int))) <| lp (ι:=Int) (λL73 q72=>jp (ι:=Bool) (λJ87=>br (decide (q72 < (a_s.b.length:Int))) (cal (getI a_s.b q72) λy89=>J87 ((!decide (y89=(10:UInt8))))) (J87 (false))) (λq86=>br q86 (cal (getI a_s.b q72) λy90=>jp (ι:=Bool) (λJ92=>br (decide (y90=(45:UInt8))) (ck ((q72 + (1:Int))) <| cal (zfV a_s (q72 + (1:Int))) λy95=>J92 ((decide (y95=(45:UInt8))))) (J92 (false))) (λq91=>br q91 (ck ((q72 + (2:Int))) <| L2 ((q72 + (2:Int)))) (ck ((q72 + (1:Int))) <| L73 ((q72 + (1:Int)))))) (L2 (q72)))) (((q1 + (2:Int))))) (some (q1)))))))) (some (q1))) ((a_i))

def zfg (a_c:UInt8):Option (Bool) :=
 jp (ι:=Bool) (λJ2=>br (decide ((97:UInt8) <= a_c)) (J2 ((decide (a_c <= (122:UInt8))))) (J2 (false))) (λq1=>jp (ι:=Bool) (λJ5=>br q1 (J5 (true)) (jp (ι:=Bool) (λJ8=>br (decide ((65:UInt8) <= a_c)) (J8 ((decide (a_c <= (90:UInt8))))) (J8 (false))) (λq7=>J5 (q7)))) (λq4=>some (q4)))

def zeE (a_c:UInt8):Option (Bool) :=
 jp (ι:=Bool) (λJ2=>br (decide ((48:UInt8) <= a_c)) (J2 ((decide (a_c <= (57:UInt8))))) (J2 (false))) (λq1=>some (q1))

def zhr (a_s:Str) (a_i:Int):Option (Int) :=
 lp (ι:=Int) (λL2 q1=>jp (ι:=Bool) (λJ30=>br (decide (q1 < (a_s.b.length:Int))) (cal (getI a_s.b q1) λy32=>cal (zfg y32) λy33=>jp (ι:=Bool) (λJ35=>br y33 (J35 (true)) (cal (getI a_s.b q1) λy37=>cal (zeE y37) λy38=>J35 (y38))) (λq34=>jp (ι:=Bool) (λJ40=>br q34 (J40 (true)) (cal (getI a_s.b q1) λy42=>jp (ι:=Bool) (λJ44=>br (decide (y42=(45:UInt8))) (ck ((q1 + (1:Int))) <| cal (zfV a_s (q1 + (1:Int))) λy47=>J44 ((!decide (y47=(45:UInt8))))) (J44 (false))) (λq43=>J40 (q43)))) (λq39=>J30 (q39)))) (J30 (false))) (λq29=>br q29 (ck ((q1 + (1:Int))) <| L2 ((q1 + (1:Int)))) (ck ((q1 - (1:Int))) <| cal (getI a_s.b (q1 - (1:Int))) λy50=>jp (ι:=Bool) (λJ52=>br (decide (y50=(45:UInt8))) (J52 (true)) (ck ((q1 - a_i)) <| J52 ((decide ((60:Int) < (q1 - a_i)))))) (λq51=>br q51 (some ((-1:Int))) (some (q1)))))) ((a_i))

def zh3 :Option ((List Str)) :=
 some (([(Str.mk [68,69,70,73,78,73,84,73,79,78,83]),(Str.mk [69,88,80,76,73,67,73,84]),(Str.mk [73,77,80,76,73,67,73,84]),(Str.mk [65,85,84,79,77,65,84,73,67]),(Str.mk [84,65,71,83]),(Str.mk [66,69,71,73,78]),(Str.mk [69,78,68]),(Str.mk [66,79,79,76,69,65,78]),(Str.mk [73,78,84,69,71,69,82]),(Str.mk [69,78,85,77,69,82,65,84,69,68]),(Str.mk [78,85,76,76]),(Str.mk [79,67,84,69,84]),(Str.mk [83,84,82,73,78,71]),(Str.mk [85,84,70,56,83,116,114,105,110,103]),(Str.mk [83,69,81,85,69,78,67,69]),(Str.mk [83,69,84]),(Str.mk [67,72,79,73,67,69]),(Str.mk [79,70]),(Str.mk [79,80,84,73,79,78,65,76]),(Str.mk [68,69,70,65,85,76,84]),(Str.mk [83,73,90,69]),(Str.mk [77,73,78]),(Str.mk [77,65,88]),(Str.mk [84,82,85,69]),(Str.mk [70,65,76,83,69])]:(List Str)))

def zfs (a_l:(List Str)) (a_x:Str):Option (Bool) :=
 lp (ι:=Int) (λL2 q1=>br (decide (q1 < (a_l.length:Int))) (cal (getI a_l q1) λy5=>br (decide (y5=a_x)) (some (true)) (ck ((q1 + (1:Int))) <| L2 ((q1 + (1:Int))))) (some (false))) (((0:Int)))

def zho (a_s:Str):Option (Bool) :=
 cal (zh3 ) λy1=>cal (zfs y1 a_s) λy2=>some (y2)

def zfe (a_s:Str) (a_i:Int):Option (Int) :=
 cal (getI a_s.b a_i) λy1=>jp (ι:=Int) (λJ3=>br (decide (y1=(45:UInt8))) (ck ((a_i + (1:Int))) <| J3 ((a_i + (1:Int)))) (J3 (a_i))) (λq2=>lp (ι:=Int × UInt64) (λL6 q5=>jp (ι:=Bool) (λJ50=>br (decide (q5.1 < (a_s.b.length:Int))) (cal (getI a_s.b q5.1) λy52=>cal (zeE y52) λy53=>J50 (y53)) (J50 (false))) (λq49=>br q49 (ck ((q5.1 - q2)) <| jp (ι:=UInt64) (λJ56=>br (decide ((q5.1 - q2) < (19:Int))) (cal (getI a_s.b q5.1) λy57=>J56 ((((10:UInt64) * q5.2) + (y57 - (48:UInt8)).toUInt64))) (J56 (q5.2))) (λq55=>ck ((q5.1 + (1:Int))) <| L6 ((q5.1 + (1:Int)),q55))) (ck ((q5.1 - q2)) <| jp (ι:=Bool) (λJ61=>br (decide ((q5.1 - q2) < (1:Int))) (J61 (true)) (J61 ((decide ((19:Int) < (q5.1 - q2)))))) (λq60=>jp (ι:=Bool) (λJ64=>br q60 (J64 (true)) (jp (ι:=Bool) (λJ67=>br (decide ((1:Int) < (q5.1 - q2))) (cal (getI a_s.b q2) λy69=>J67 ((decide (y69=(48:UInt8))))) (J67 (false))) (λq66=>J64 (q66)))) (λq63=>jp (ι:=Bool) (λJ71=>br q63 (J71 (true)) (jp (ι:=Bool) (λJ74=>br (decide (y1=(45:UInt8))) (cal (getI a_s.b q2) λy76=>J74 ((decide (y76=(48:UInt8))))) (J74 (false))) (λq73=>J71 (q73)))) (λq70=>jp (ι:=Bool) (λJ78=>br q70 (J78 (true)) (cal (zfV a_s q5.1) λy80=>cal (zfg y80) λy81=>J78 (y81))) (λq77=>jp (ι:=Bool) (λJ83=>br q77 (J83 (true)) (J83 ((decide ((9223372036854775808:UInt64) < q5.2))))) (λq82=>jp (ι:=Bool) (λJ86=>br q82 (J86 (true)) (jp (ι:=Bool) (λJ89=>br (!(decide (y1=(45:UInt8)))) (J89 ((decide (q5.2=(9223372036854775808:UInt64))))) (J89 (false))) (λq88=>J86 (q88)))) (λq85=>br q85 (some ((-1:Int))) (some (q5.1))))))))))) ((q2,(0:UInt64))))

def zi1 (a_s:Str) (a_i:Int):Option (Int × Str) :=
 ck ((a_i + (1:Int))) <| lp (ι:=Int) (λL3 q2=>jp (ι:=Bool) (λJ32=>br (decide (q2 < (a_s.b.length:Int))) (cal (getI a_s.b q2) λy34=>cal (zeE y34) λy35=>jp (ι:=Bool) (λJ37=>br y35 (J37 (true)) (cal (getI a_s.b q2) λy39=>jp (ι:=Bool) (λJ41=>br (decide ((65:UInt8) <= y39)) (cal (getI a_s.b q2) λy43=>J41 ((decide (y43 <= (70:UInt8))))) (J41 (false))) (λq40=>J37 (q40)))) (λq36=>J32 (q36))) (J32 (false))) (λq31=>br q31 (ck ((q2 + (1:Int))) <| L3 ((q2 + (1:Int)))) (ck ((q2 - (a_i + (1:Int)))) <| asr (!decide ((2:Int)=0)) <| jp (ι:=Bool) (λJ48=>br (!decide (((q2 - (a_i + (1:Int))).tmod (2:Int))=(0:Int))) (J48 (true)) (cal (zfV a_s q2) λy50=>J48 ((!decide (y50=(39:UInt8)))))) (λq47=>jp (ι:=Bool) (λJ52=>br q47 (J52 (true)) (ck ((q2 + (1:Int))) <| cal (zfV a_s (q2 + (1:Int))) λy55=>J52 ((!decide (y55=(72:UInt8)))))) (λq51=>br q51 (some ((-1:Int),(Str.mk []))) (ck ((q2 + (2:Int))) <| asr (decide (0 <= (a_i + (1:Int))/\(a_i + (1:Int)) <= q2/\q2 <= (a_s.b.length:Int))) <| some ((q2 + (2:Int)),(Str.mk ((a_s.b.take (q2).toNat).drop ((a_i + (1:Int))).toNat))))))))) (((a_i + (1:Int))))

def ze6 (a_s:Str) (a_i:Int):Option (Int × Str) :=
 ck ((a_i + (1:Int))) <| lp (ι:=Int × Str) (λL3 q2=>br (decide (q2.1 < (a_s.b.length:Int))) (jp (ι:=Int × Str) (λJ18=>cal (getI a_s.b q2.1) λy19=>br (!decide (y19=(34:UInt8))) (ck ((q2.1 + (1:Int))) <| asr (decide (0 <= q2.1/\q2.1 <= (q2.1 + (1:Int))/\(q2.1 + (1:Int)) <= (a_s.b.length:Int))) <| asr (Nat.ble (q2.2.b.length + (Str.mk ((a_s.b.take ((q2.1 + (1:Int))).toNat).drop (q2.1).toNat)).b.length) 4611686018427387904) <| J18 (q2.1,(Str.mk (q2.2.b ++ (Str.mk ((a_s.b.take ((q2.1 + (1:Int))).toNat).drop (q2.1).toNat)).b)))) (ck ((q2.1 + (1:Int))) <| cal (zfV a_s (q2.1 + (1:Int))) λy24=>br (!decide (y24=(34:UInt8))) (cal (utf8_ValidString q2.2) λy25=>br (!y25) (some ((-1:Int),(Str.mk []))) (ck ((q2.1 + (1:Int))) <| some ((q2.1 + (1:Int)),q2.2))) (asr (Nat.ble (q2.2.b.length + (Str.mk [34]).b.length) 4611686018427387904) <| ck ((q2.1 + (1:Int))) <| J18 ((q2.1 + (1:Int)),(Str.mk (q2.2.b ++ (Str.mk [34]).b)))))) (λq17=>ck ((q17.1 + (1:Int))) <| L3 ((q17.1 + (1:Int)),q17.2))) (some ((-1:Int),(Str.mk [])))) (((a_i + (1:Int)),(Str.mk [])))

def zhs (a_s:Str) (a_i:Int):Option (Int) :=
 asr (decide (0 <= a_i/\a_i <= (a_s.b.length:Int)/\(a_s.b.length:Int) <= (a_s.b.length:Int))) <| lp (ι:=Int) (λL4 q3=>br (decide (q3 < (([(Str.mk [58,58,61]),(Str.mk [46,46,46]),(Str.mk [46,46]),(Str.mk [91,91]),(Str.mk [93,93]),(Str.mk [123]),(Str.mk [125]),(Str.mk [91]),(Str.mk [93]),(Str.mk [40]),(Str.mk [41]),(Str.mk [44]),(Str.mk [58])]:(List Str)).length:Int))) (cal (getI ([(Str.mk [58,58,61]),(Str.mk [46,46,46]),(Str.mk [46,46]),(Str.mk [91,91]),(Str.mk [93,93]),(Str.mk [123]),(Str.mk [125]),(Str.mk [91]),(Str.mk [93]),(Str.mk [40]),(Str.mk [41]),(Str.mk [44]),(Str.mk [58])]:(List Str)) q3) λy12=>jp (ι:=Bool) (λJ14=>br (decide ((y12.b.length:Int) <= ((Str.mk ((a_s.b.take ((a_s.b.length:Int)).toNat).drop (a_i).toNat)).b.length:Int))) (asr (decide (0 <= (0:Int)/\(0:Int) <= (y12.b.length:Int)/\(y12.b.length:Int) <= ((Str.mk ((a_s.b.take ((a_s.b.length:Int)).toNat).drop (a_i).toNat)).b.length:Int))) <| cal (getI ([(Str.mk [58,58,61]),(Str.mk [46,46,46]),(Str.mk [46,46]),(Str.mk [91,91]),(Str.mk [93,93]),(Str.mk [123]),(Str.mk [125]),(Str.mk [91]),(Str.mk [93]),(Str.mk [40]),(Str.mk [41]),(Str.mk [44]),(Str.mk [58])]:(List Str)) q3) λy17=>J14 ((decide ((Str.mk (((Str.mk ((a_s.b.take ((a_s.b.length:Int)).toNat).drop (a_i).toNat)).b.take ((y12.b.length:Int)).toNat).drop (0:Int).toNat))=y17)))) (J14 (false))) (λq13=>br q13 (some ((y12.b.length:Int))) (ck ((q3 + (1:Int))) <| L4 ((q3 + (1:Int)))))) (some ((0:Int)))) (((0:Int)))

def ziG (a_s:Str) (a_i:Int):Option (GTok × Int) :=
 cal (getI a_s.b a_i) λy3=>jp (ι:=Int × GTok) (λJ5=>cal (zfg y3) λy6=>br y6 (cal (zhr a_s a_i) λy7=>br (decide (y7 < (0:Int))) (some ((GTok.mk (0:Int) (Str.mk []) a_i),(-1:Int))) (asr (decide (0 <= a_i/\a_i <= y7/\y7 <= (a_s.b.length:Int))) <| jp (ι:=GTok) (λJ10=>br (decide (y3 <= (90:UInt8))) (J10 ((GTok.mk (1:Int) (Str.mk ((a_s.b.take (y7).toNat).drop (a_i).toNat)) a_i))) (J10 ((GTok.mk (2:Int) (Str.mk ((a_s.b.take (y7).toNat).drop (a_i).toNat)) a_i)))) (λq9=>cal (zho q9.text) λy11=>br y11 (J5 (y7,{ q9 with kind:=(5:Int) })) (J5 (y7,q9))))) (cal (zeE y3) λy12=>jp (ι:=Bool) (λJ14=>br y12 (J14 (true)) (jp (ι:=Bool) (λJ17=>br (decide (y3=(45:UInt8))) (ck ((a_i + (1:Int))) <| cal (zfV a_s (a_i + (1:Int))) λy20=>cal (zeE y20) λy21=>J17 (y21)) (J17 (false))) (λq16=>J14 (q16)))) (λq13=>br q13 (cal (zfe a_s a_i) λy22=>br (decide (y22 < (0:Int))) (some ((GTok.mk (0:Int) (Str.mk []) a_i),(-1:Int))) (asr (decide (0 <= a_i/\a_i <= y22/\y22 <= (a_s.b.length:Int))) <| J5 (y22,(GTok.mk (3:Int) (Str.mk ((a_s.b.take (y22).toNat).drop (a_i).toNat)) a_i)))) (br (decide (y3=(39:UInt8))) (cal (zi1 a_s a_i) λy24=>J5 (y24.1,(GTok.mk (4:Int) y24.2 a_i))) (br (decide (y3=(34:UInt8))) (cal (ze6 a_s a_i) λy25=>J5 (y25.1,(GTok.mk (7:Int) y25.2 a_i))) (cal (zhs a_s a_i) λy26=>br (decide ((0:Int) < y26)) (ck ((a_i + y26)) <| asr (decide (0 <= a_i/\a_i <= (a_i + y26)/\(a_i + y26) <= (a_s.b.length:Int))) <| ck ((a_i + y26)) <| J5 ((a_i + y26),(GTok.mk (6:Int) (Str.mk ((a_s.b.take ((a_i + y26)).toNat).drop (a_i).toNat)) a_i))) (J5 ((-1:Int),(GTok.mk (0:Int) (Str.mk []) a_i))))))))) (λq4=>some (q4.2,q4.1))

def zev (zbV:Str):Option ((List GTok) × Int × Int) :=
 br (decide ((8000:Int) < (zbV.b.length:Int))) (some (([]:(List GTok)),(0:Int),(5:Int))) (lp (ι:=(List GTok) × Int) (λL2 q1=>cal (zgc zbV q1.2) λy12=>br (decide ((zbV.b.length:Int) <= y12)) (asr (Nat.ble (q1.1.length + ([(GTok.mk (0:Int) (Str.mk []) (zbV.b.length:Int))]:(List GTok)).length) 68719476736) <| some ((q1.1 ++ ([(GTok.mk (0:Int) (Str.mk []) (zbV.b.length:Int))]:(List GTok))),(0:Int),(0:Int))) (cal (ziG zbV y12) λy16=>br (decide (y16.2 < (0:Int))) (some (([]:(List GTok)),y12,(6:Int))) (asr (Nat.ble (q1.1.length + ([y16.1]:(List GTok)).length) 68719476736) <| L2 ((q1.1 ++ ([y16.1]:(List GTok))),y16.2)))) ((([]:(List GTok)),(0:Int))))

def zaw (a_x:GPar):Option (GTok × GPar) :=
 cal (getI a_x.l a_x.at_) λy7=>some (y7,a_x)

def zaK (a_x:GPar) (a_e:Int) (a_t:GTok):Option (GPar) :=
 br (decide (a_x.e=(0:Int))) (some ((GPar.mk a_x.l a_x.at_ a_x.m a_e a_t.at_))) (some (a_x))

def za9 (a_x:GPar):Option (GTok × GPar) :=
 cal (getI a_x.l a_x.at_) λy7=>ck ((a_x.at_ + (1:Int))) <| jp (ι:=GPar) (λJ13=>br (decide ((a_x.at_ + (1:Int)) < (a_x.l.length:Int))) (ck ((a_x.at_ + (1:Int))) <| J13 ((GPar.mk a_x.l (a_x.at_ + (1:Int)) a_x.m a_x.e a_x.p))) (J13 (a_x))) (λq12=>some (y7,q12))

def za7 (a_x:GPar) (a_k:Int):Option (Str × GPar) :=
 cal (zaw a_x) λy4=>jp (ι:=Bool) (λJ9=>br (!decide (y4.2.e=(0:Int))) (J9 (true)) (J9 ((!decide (y4.1.kind=a_k))))) (λq8=>br q8 (cal (zaK y4.2 (7:Int) y4.1) λy11=>some ((Str.mk []),y11)) (cal (za9 y4.2) λy14=>some (y14.1.text,y14.2)))

def zH (a_x:GPar) (a_s:Str):Option (Bool × GPar) :=
 cal (zaw a_x) λy4=>jp (ι:=Bool) (λJ9=>br (decide (y4.2.e=(0:Int))) (jp (ι:=Bool) (λJ12=>br (decide (y4.1.kind=(5:Int))) (J12 (true)) (J12 ((decide (y4.1.kind=(6:Int)))))) (λq11=>J9 (q11))) (J9 (false))) (λq8=>jp (ι:=Bool) (λJ15=>br q8 (J15 ((decide (y4.1.text=a_s)))) (J15 (false))) (λq14=>br q14 (cal (za9 y4.2) λy17=>some (true,y17.2)) (some (false,y4.2))))

def zP (a_x:GPar) (a_s:Str):Option (GPar) :=
 jp (ι:=Bool × GPar) (λJ5=>br (decide (a_x.e=(0:Int))) (cal (zH a_x a_s) λy7=>J5 ((!y7.1),y7.2)) (J5 (false,a_x))) (λq4=>br q4.1 (cal (zaw q4.2) λy10=>cal (zaK y10.2 (7:Int) y10.1) λy13=>some (y13)) (some (q4.2)))

def zhy (a_t:GTok):Option (Bool) :=
 lp (ι:=Int) (λL3 q2=>br (decide (q2 < (([(Str.mk [91]),(Str.mk [66,79,79,76,69,65,78]),(Str.mk [78,85,76,76]),(Str.mk [85,84,70,56,83,116,114,105,110,103]),(Str.mk [73,78,84,69,71,69,82]),(Str.mk [79,67,84,69,84]),(Str.mk [69,78,85,77,69,82,65,84,69,68]),(Str.mk [83,69,84]),(Str.mk [67,72,79,73,67,69]),(Str.mk [83,69,81,85,69,78,67,69])]:(List Str)).length:Int))) (cal (getI ([(Str.mk [91]),(Str.mk [66,79,79,76,69,65,78]),(Str.mk [78,85,76,76]),(Str.mk [85,84,70,56,83,116,114,105,110,103]),(Str.mk [73,78,84,69,71,69,82]),(Str.mk [79,67,84,69,84]),(Str.mk [69,78,85,77,69,82,65,84,69,68]),(Str.mk [83,69,84]),(Str.mk [67,72,79,73,67,69]),(Str.mk [83,69,81,85,69,78,67,69])]:(List Str)) q2) λy12=>jp (ι:=Bool) (λJ14=>br (decide (y12=a_t.text)) (jp (ι:=Bool) (λJ17=>br (decide (a_t.kind=(5:Int))) (J17 (true)) (J17 ((decide (a_t.kind=(6:Int)))))) (λq16=>J14 (q16))) (J14 (false))) (λq13=>br q13 (some (true)) (ck ((q2 + (1:Int))) <| L3 ((q2 + (1:Int)))))) (some ((decide (a_t.kind=(1:Int)))))) (((0:Int)))

def zg1 (a_s:Str):Option (Int) :=
 cal (getI a_s.b (0:Int)) λy1=>jp (ι:=Str) (λJ3=>br (decide (y1=(45:UInt8))) (asr (decide (0 <= (1:Int)/\(1:Int) <= (a_s.b.length:Int)/\(a_s.b.length:Int) <= (a_s.b.length:Int))) <| J3 ((Str.mk ((a_s.b.take ((a_s.b.length:Int)).toNat).drop ((1:Int)).toNat)))) (J3 (a_s))) (λq2=>lp (ι:=UInt64 × Int) (λL6 q5=>br (decide (q5.2 < (q2.b.length:Int))) (cal (getI q2.b q5.2) λy13=>ck ((q5.2 + (1:Int))) <| L6 ((((10:UInt64) * q5.1) + (y13 - (48:UInt8)).toUInt64),(q5.2 + (1:Int)))) (br (decide (y1=(45:UInt8))) (ck (((q5.1 - (1:UInt64)).toNat:Int)) <| ck ((-((q5.1 - (1:UInt64)).toNat:Int))) <| ck (((-((q5.1 - (1:UInt64)).toNat:Int)) - (1:Int))) <| some (((-((q5.1 - (1:UInt64)).toNat:Int)) - (1:Int)))) (ck ((q5.1.toNat:Int)) <| some ((q5.1.toNat:Int))))) (((0:UInt64),(0:Int))))

def zbs (a_x:GPar):Option (Int × GPar) :=
 cal (za7 a_x (3:Int)) λy4=>br (decide (y4.1=(Str.mk []))) (some ((0:Int),y4.2)) (cal (zg1 y4.1) λy7=>some (y7,y4.2))

def zb3 (a_x:GPar):Option (GCon × GPar) :=
 cal (zH a_x (Str.mk [77,73,78])) λy6=>jp (ι:=GPar × GCon) (λJ10=>br (!y6.1) (cal (zbs y6.2) λy11=>J10 (y11.2,(GCon.mk true true false false y11.1 (0:Int)))) (J10 (y6.2,(GCon.mk true false false false (0:Int) (0:Int))))) (λq9=>jp (ι:=GPar × GCon) (λJ15=>cal (zH q9.1 (Str.mk [46,46])) λy16=>br y16.1 (cal (zH y16.2 (Str.mk [77,65,88])) λy19=>br (!y19.1) (cal (zbs y19.2) λy22=>J15 (y22.2,{ { q9.2 with hasHigh:=true } with high:=y22.1 })) (J15 (y19.2,q9.2))) (br q9.2.hasLow (J15 (y16.2,{ { q9.2 with hasHigh:=true } with high:=q9.2.low })) (J15 (y16.2,q9.2)))) (λq14=>cal (zH q14.1 (Str.mk [44])) λy25=>jp (ι:=GPar × GCon) (λJ29=>br y25.1 (cal (zP y25.2 (Str.mk [46,46,46])) λy30=>J29 (y30,{ q14.2 with more:=true })) (J29 (y25.2,q14.2))) (λq28=>some (q28.2,q28.1))))

def zcc (a_x:GPar):Option (GCon × GPar) :=
 cal (zH a_x (Str.mk [40])) λy5=>br (!y5.1) (some ((GCon.mk false false false false (0:Int) (0:Int)),y5.2)) (cal (zP y5.2 (Str.mk [83,73,90,69])) λy8=>cal (zP y8 (Str.mk [40])) λy11=>cal (zb3 y11) λy14=>cal (zP y14.2 (Str.mk [41])) λy18=>cal (zP y18 (Str.mk [41])) λy21=>some (y14.1,y21))

def zcQ (a_x:GPar) (a_n_:GNode):Option (GPar × GNode) :=
 jp (ι:=GPar × GNode) (λJ7=>lp (ι:=GPar × GNode) (λL9 q8=>br (decide (q8.1.e=(0:Int))) (jp (ι:=Bool) (λJ47=>br (decide ((0:Int) < (q8.2.items.length:Int))) (J47 ((!q8.2.more))) (J47 (false))) (λq46=>jp (ι:=Bool × GPar) (λJ50=>br q46 (cal (zH q8.1 (Str.mk [46,46,46])) λy52=>J50 (y52.1,y52.2)) (J50 (false,q8.1))) (λq49=>jp (ι:=GPar × GNode) (λJ56=>br q49.1 (J56 (q49.2,(GNode.mk q8.2.kind q8.2.name q8.2.mark q8.2.con q8.2.items q8.2.fields (q8.2.items.length:Int) true q8.2.of))) (cal (za7 q49.2 (2:Int)) λy57=>cal (zH y57.2 (Str.mk [40])) λy61=>jp (ι:=GPar × GItem) (λJ65=>br y61.1 (cal (zbs y61.2) λy66=>cal (zP y66.2 (Str.mk [41])) λy69=>J65 (y69,(GItem.mk y57.1 y66.1 true))) (J65 (y61.2,(GItem.mk y57.1 (0:Int) false)))) (λq64=>asr (Nat.ble (q8.2.items.length + ([q64.2]:(List GItem)).length) 68719476736) <| J56 (q64.1,(GNode.mk q8.2.kind q8.2.name q8.2.mark q8.2.con (q8.2.items ++ ([q64.2]:(List GItem))) q8.2.fields q8.2.root q8.2.more q8.2.of))))) (λq55=>cal (zH q55.1 (Str.mk [44])) λy79=>br (!y79.1) (J7 (y79.2,q55.2)) (L9 (y79.2,q55.2)))))) (J7 (q8.1,q8.2))) ((a_x,a_n_))) (λq6=>br (!q6.2.more) (some (q6.1,(GNode.mk q6.2.kind q6.2.name q6.2.mark q6.2.con q6.2.items q6.2.fields (q6.2.items.length:Int) q6.2.more q6.2.of))) (some (q6.1,q6.2)))

def zlQ (a_s:Str):Option ((List UInt8)) :=
 lp (ι:=(List UInt8) × Int) (λL2 q1=>ck ((q1.2 + (1:Int))) <| br (decide ((q1.2 + (1:Int)) < (a_s.b.length:Int))) (lp (ι:=UInt8 × Int) (λL33 q32=>ck ((q1.2 + (2:Int))) <| br (decide (q32.2 < (q1.2 + (2:Int)))) (cal (getI a_s.b q32.2) λy47=>cal (getI a_s.b q32.2) λy48=>jp (ι:=UInt8) (λJ50=>br (decide ((65:UInt8) <= y48)) (cal (getI a_s.b q32.2) λy51=>J50 (((y51 - (65:UInt8)) + (10:UInt8)))) (J50 ((y47 - (48:UInt8))))) (λq49=>asr (Nat.ble (4:UInt64).toNat 8) <| ck ((q32.2 + (1:Int))) <| L33 (((shl8 q32.1 (4:UInt64).toNat) ||| q49),(q32.2 + (1:Int))))) (asr (Nat.ble (q1.1.length + ([q32.1]:(List UInt8)).length) 68719476736) <| ck ((q1.2 + (2:Int))) <| L2 ((q1.1 ++ ([q32.1]:(List UInt8))),(q1.2 + (2:Int))))) (((0:UInt8),q1.2))) (some (q1.1))) ((([]:(List UInt8)),(0:Int)))

def zcV (a_x:GPar):Option (Val × GPar) :=
 cal (zaw a_x) λy5=>jp (ι:=GPar) (λJ10=>br (!decide (y5.2.e=(0:Int))) (J10 (y5.2)) (cal (zH y5.2 (Str.mk [84,82,85,69])) λy11=>br y11.1 (some ((Val.mk (1:Int) (1:Int) ([]:(List UInt8)) ([]:(List Val)) (0:Int) ([]:(List Raw))),y11.2)) (cal (zH y11.2 (Str.mk [70,65,76,83,69])) λy14=>br y14.1 (some ((Val.mk (1:Int) (0:Int) ([]:(List UInt8)) ([]:(List Val)) (0:Int) ([]:(List Raw))),y14.2)) (cal (zH y14.2 (Str.mk [78,85,76,76])) λy17=>br y17.1 (some ((Val.mk (4:Int) (0:Int) ([]:(List UInt8)) ([]:(List Val)) (0:Int) ([]:(List Raw))),y17.2)) (br (decide (y5.1.kind=(3:Int))) (cal (za9 y17.2) λy20=>cal (zg1 y20.1.text) λy23=>some ((Val.mk (2:Int) y23 ([]:(List UInt8)) ([]:(List Val)) (0:Int) ([]:(List Raw))),y20.2)) (br (decide (y5.1.kind=(2:Int))) (cal (za9 y17.2) λy24=>asr (Nat.ble y24.1.text.b.length 68719476736) <| some ((Val.mk (3:Int) (0:Int) y24.1.text.b ([]:(List Val)) (0:Int) ([]:(List Raw))),y24.2)) (br (decide (y5.1.kind=(4:Int))) (cal (za9 y17.2) λy28=>cal (zlQ y28.1.text) λy31=>some ((Val.mk (5:Int) (0:Int) y31 ([]:(List Val)) (0:Int) ([]:(List Raw))),y28.2)) (br (decide (y5.1.kind=(7:Int))) (cal (za9 y17.2) λy32=>asr (Nat.ble y32.1.text.b.length 68719476736) <| some ((Val.mk (6:Int) (0:Int) y32.1.text.b ([]:(List Val)) (0:Int) ([]:(List Raw))),y32.2)) (cal (zaK y17.2 (7:Int) y5.1) λy36=>J10 (y36)))))))))) (λq9=>some ((Val.mk (0:Int) (0:Int) ([]:(List UInt8)) ([]:(List Val)) (0:Int) ([]:(List Raw))),q9))

def zcf (zay:GPar->GNode->Int->Int->Option (GPar × GNode)) (zaI:GPar->Int->Option (Int × GPar)) (zaH:GPar->GNode->Int->Option (GPar × GNode)) (zan:GPar->GNode->Int->Option (GPar × GNode)) (a_x:GPar) (a_n_:GNode) (zI:Int) (zeh:Int):Option (GPar × GNode) :=
 cal (za7 a_x (2:Int)) λy6=>ck ((zI + (1:Int))) <| cal (zaI y6.2 (zI + (1:Int))) λy11=>jp (ι:=GFld × GPar) (λJ16=>br (decide (a_n_.kind=(9:Int))) (J16 ((GFld.mk y6.1 y11.1 false false (Val.mk (0:Int) (0:Int) ([]:(List UInt8)) ([]:(List Val)) (0:Int) ([]:(List Raw))) zeh),y11.2)) (cal (zH y11.2 (Str.mk [79,80,84,73,79,78,65,76])) λy17=>br y17.1 (J16 ((GFld.mk y6.1 y11.1 true false (Val.mk (0:Int) (0:Int) ([]:(List UInt8)) ([]:(List Val)) (0:Int) ([]:(List Raw))) zeh),y17.2)) (cal (zH y17.2 (Str.mk [68,69,70,65,85,76,84])) λy20=>br y20.1 (cal (zcV y20.2) λy23=>J16 ((GFld.mk y6.1 y11.1 false true y23.1 zeh),y23.2)) (J16 ((GFld.mk y6.1 y11.1 false false (Val.mk (0:Int) (0:Int) ([]:(List UInt8)) ([]:(List Val)) (0:Int) ([]:(List Raw))) zeh),y20.2))))) (λq15=>asr (Nat.ble (a_n_.fields.length + ([q15.1]:(List GFld)).length) 68719476736) <| some (q15.2,(GNode.mk a_n_.kind a_n_.name a_n_.mark a_n_.con a_n_.items (a_n_.fields ++ ([q15.1]:(List GFld))) a_n_.root a_n_.more a_n_.of)))
def zcS (zay:GPar->GNode->Int->Int->Option (GPar × GNode)) (zaI:GPar->Int->Option (Int × GPar)) (zaH:GPar->GNode->Int->Option (GPar × GNode)) (zan:GPar->GNode->Int->Option (GPar × GNode)) (a_x:GPar) (zI:Int):Option (Int × GPar) :=
 br (!decide (a_x.e=(0:Int))) (some ((0:Int),a_x)) (cal (zaw a_x) λy4=>cal (zhy y4.1) λy7=>br (!y7) (cal (zaw y4.2) λy8=>cal (zaK y8.2 (7:Int) y8.1) λy11=>some ((0:Int),y11)) (jp (ι:=Bool) (λJ15=>br (decide ((16:Int) < zI)) (J15 (true)) (J15 ((decide ((300:Int) <= ((y4.2.m.nodes.length:Nat):Int)))))) (λq14=>br q14 (cal (zaw y4.2) λy17=>cal (zaK y17.2 (5:Int) y17.1) λy20=>some ((0:Int),y20)) (asr (Nat.ble (y4.2.m.nodes.length + ([(GNode.mk (0:Int) (Str.mk []) (GMark.mk false (0:Int) (0:Int)) (GCon.mk false false false false (0:Int) (0:Int)) ([]:(List GItem)) ([]:(List GFld)) (0:Int) false (0:Int))]:(List GNode)).length) 68719476736) <| cal (zH (GPar.mk y4.2.l y4.2.at_ (GMod.mk y4.2.m.name y4.2.m.tagging y4.2.m.names y4.2.m.types (y4.2.m.nodes ++ ([(GNode.mk (0:Int) (Str.mk []) (GMark.mk false (0:Int) (0:Int)) (GCon.mk false false false false (0:Int) (0:Int)) ([]:(List GItem)) ([]:(List GFld)) (0:Int) false (0:Int))]:(List GNode)))) y4.2.e y4.2.p) (Str.mk [91])) λy31=>jp (ι:=GPar × GNode) (λJ35=>br y31.1 (cal (zaw y31.2) λy36=>cal (zbs y36.2) λy40=>jp (ι:=Bool) (λJ44=>br (decide (y40.2.e=(0:Int))) (jp (ι:=Bool) (λJ47=>br (decide (y40.1 < (0:Int))) (J47 (true)) (J47 ((decide ((268435456:Int) < y40.1))))) (λq46=>J44 (q46))) (J44 (false))) (λq43=>jp (ι:=GPar) (λJ50=>br q43 (cal (zaK y40.2 (12:Int) y36.1) λy51=>J50 (y51)) (J50 (y40.2))) (λq49=>cal (zP q49 (Str.mk [93])) λy54=>cal (zH y54 (Str.mk [69,88,80,76,73,67,73,84])) λy57=>br y57.1 (J35 (y57.2,(GNode.mk (0:Int) (Str.mk []) (GMark.mk true y40.1 (1:Int)) (GCon.mk false false false false (0:Int) (0:Int)) ([]:(List GItem)) ([]:(List GFld)) (0:Int) false (0:Int)))) (cal (zH y57.2 (Str.mk [73,77,80,76,73,67,73,84])) λy60=>br y60.1 (J35 (y60.2,(GNode.mk (0:Int) (Str.mk []) (GMark.mk true y40.1 (2:Int)) (GCon.mk false false false false (0:Int) (0:Int)) ([]:(List GItem)) ([]:(List GFld)) (0:Int) false (0:Int)))) (J35 (y60.2,(GNode.mk (0:Int) (Str.mk []) (GMark.mk true y40.1 (0:Int)) (GCon.mk false false false false (0:Int) (0:Int)) ([]:(List GItem)) ([]:(List GFld)) (0:Int) false (0:Int)))))))) (J35 (y31.2,(GNode.mk (0:Int) (Str.mk []) (GMark.mk false (0:Int) (0:Int)) (GCon.mk false false false false (0:Int) (0:Int)) ([]:(List GItem)) ([]:(List GFld)) (0:Int) false (0:Int))))) (λq34=>cal (zaH q34.1 q34.2 zI) λy63=>br (!decide (y63.1.e=(0:Int))) (some ((0:Int),y63.1)) (asr (decide (0 <= ((y4.2.m.nodes.length:Nat):Int)/\((y4.2.m.nodes.length:Nat):Int) < ((y63.1.m.nodes.length:Nat):Int))) <| cal (y63.1.m.nodes[((y4.2.m.nodes.length:Nat):Int).toNat]?) λy74=>some (((y4.2.m.nodes.length:Nat):Int),(GPar.mk y63.1.l y63.1.at_ (GMod.mk y63.1.m.name y63.1.m.tagging y63.1.m.names y63.1.m.types (y63.1.m.nodes.set (((y4.2.m.nodes.length:Nat):Int).toNat) y63.2)) y63.1.e y63.1.p))))))))
def zcv (zay:GPar->GNode->Int->Int->Option (GPar × GNode)) (zaI:GPar->Int->Option (Int × GPar)) (zaH:GPar->GNode->Int->Option (GPar × GNode)) (zan:GPar->GNode->Int->Option (GPar × GNode)) (a_x:GPar) (a_n_:GNode) (zI:Int):Option (GPar × GNode) :=
 cal (zaw a_x) λy6=>br (!decide (y6.2.e=(0:Int))) (some (y6.2,a_n_)) (cal (zH y6.2 (Str.mk [66,79,79,76,69,65,78])) λy10=>br y10.1 (some (y10.2,(GNode.mk (1:Int) a_n_.name a_n_.mark a_n_.con a_n_.items a_n_.fields a_n_.root a_n_.more a_n_.of))) (cal (zH y10.2 (Str.mk [78,85,76,76])) λy13=>br y13.1 (some (y13.2,(GNode.mk (4:Int) a_n_.name a_n_.mark a_n_.con a_n_.items a_n_.fields a_n_.root a_n_.more a_n_.of))) (cal (zH y13.2 (Str.mk [85,84,70,56,83,116,114,105,110,103])) λy16=>br y16.1 (cal (zcc y16.2) λy19=>some (y19.2,(GNode.mk (6:Int) a_n_.name a_n_.mark y19.1 a_n_.items a_n_.fields a_n_.root a_n_.more a_n_.of))) (cal (zH y16.2 (Str.mk [73,78,84,69,71,69,82])) λy22=>br y22.1 (cal (zH y22.2 (Str.mk [40])) λy25=>br y25.1 (cal (zb3 y25.2) λy28=>cal (zP y28.2 (Str.mk [41])) λy31=>some (y31,(GNode.mk (2:Int) a_n_.name a_n_.mark y28.1 a_n_.items a_n_.fields a_n_.root a_n_.more a_n_.of))) (some (y25.2,(GNode.mk (2:Int) a_n_.name a_n_.mark a_n_.con a_n_.items a_n_.fields a_n_.root a_n_.more a_n_.of)))) (cal (zH y22.2 (Str.mk [79,67,84,69,84])) λy34=>br y34.1 (cal (zP y34.2 (Str.mk [83,84,82,73,78,71])) λy37=>cal (zcc y37) λy40=>some (y40.2,(GNode.mk (5:Int) a_n_.name a_n_.mark y40.1 a_n_.items a_n_.fields a_n_.root a_n_.more a_n_.of))) (cal (zH y34.2 (Str.mk [69,78,85,77,69,82,65,84,69,68])) λy43=>br y43.1 (cal (zP y43.2 (Str.mk [123])) λy46=>cal (zcQ y46 (GNode.mk (3:Int) a_n_.name a_n_.mark a_n_.con a_n_.items a_n_.fields a_n_.root a_n_.more a_n_.of)) λy49=>cal (zP y49.1 (Str.mk [125])) λy54=>some (y54,y49.2)) (cal (zH y43.2 (Str.mk [83,69,84])) λy57=>br y57.1 (cal (zP y57.2 (Str.mk [123])) λy60=>cal (zan y60 (GNode.mk (8:Int) a_n_.name a_n_.mark a_n_.con a_n_.items a_n_.fields a_n_.root a_n_.more a_n_.of) zI) λy63=>some (y63.1,y63.2)) (cal (zH y57.2 (Str.mk [67,72,79,73,67,69])) λy69=>br y69.1 (cal (zP y69.2 (Str.mk [123])) λy72=>cal (zan y72 (GNode.mk (9:Int) a_n_.name a_n_.mark a_n_.con a_n_.items a_n_.fields a_n_.root a_n_.more a_n_.of) zI) λy75=>some (y75.1,y75.2)) (cal (zH y69.2 (Str.mk [83,69,81,85,69,78,67,69])) λy81=>br y81.1 (cal (zH y81.2 (Str.mk [123])) λy84=>br y84.1 (cal (zan y84.2 (GNode.mk (7:Int) a_n_.name a_n_.mark a_n_.con a_n_.items a_n_.fields a_n_.root a_n_.more a_n_.of) zI) λy87=>some (y87.1,y87.2)) (cal (zcc y84.2) λy93=>cal (zP y93.2 (Str.mk [79,70])) λy96=>ck ((zI + (1:Int))) <| cal (zaI y96 (zI + (1:Int))) λy100=>some (y100.2,(GNode.mk (10:Int) a_n_.name a_n_.mark y93.1 a_n_.items a_n_.fields a_n_.root a_n_.more y100.1)))) (br (decide (y6.1.kind=(1:Int))) (cal (za9 y81.2) λy104=>some (y104.2,(GNode.mk (11:Int) y6.1.text a_n_.mark a_n_.con a_n_.items a_n_.fields a_n_.root a_n_.more a_n_.of))) (cal (zaK y81.2 (7:Int) y6.1) λy107=>some (y107,a_n_))))))))))))
def zb0 (zay:GPar->GNode->Int->Int->Option (GPar × GNode)) (zaI:GPar->Int->Option (Int × GPar)) (zaH:GPar->GNode->Int->Option (GPar × GNode)) (zan:GPar->GNode->Int->Option (GPar × GNode)) (a_x:GPar) (a_n_:GNode) (zI:Int):Option (GPar × GNode) :=
 cal (zH a_x (Str.mk [125])) λy6=>br y6.1 (some (y6.2,a_n_)) (jp (ι:=GPar × GNode) (λJ10=>lp (ι:=Int × GPar × GNode) (λL12 q11=>br (decide (q11.2.1.e=(0:Int))) (jp (ι:=Int × GPar × GNode) (λJ64=>jp (ι:=Bool × GPar) (λJ66=>br (!q11.2.2.more) (cal (zH q11.2.1 (Str.mk [46,46,46])) λy68=>J66 (y68.1,y68.2)) (J66 (false,q11.2.1))) (λq65=>br q65.1 (J64 (q11.1,q65.2,(GNode.mk q11.2.2.kind q11.2.2.name q11.2.2.mark q11.2.2.con q11.2.2.items q11.2.2.fields (q11.2.2.fields.length:Int) true q11.2.2.of))) (jp (ι:=Bool × GPar) (λJ72=>br q11.2.2.more (cal (zH q65.2 (Str.mk [91,91])) λy74=>J72 (y74.1,y74.2)) (J72 (false,q65.2))) (λq71=>br q71.1 (ck ((q11.1 + (1:Int))) <| jp (ι:=GPar × GNode) (λJ79=>lp (ι:=GPar × GNode) (λL81 q80=>br (decide (q80.1.e=(0:Int))) (cal (zay q80.1 q80.2 zI (q11.1 + (1:Int))) λy91=>cal (zH y91.1 (Str.mk [44])) λy97=>br (!y97.1) (J79 (y97.2,y91.2)) (L81 (y97.2,y91.2))) (J79 (q80.1,q80.2))) ((q71.2,q11.2.2))) (λq78=>cal (zP q78.1 (Str.mk [93,93])) λy101=>J64 ((q11.1 + (1:Int)),y101,q78.2))) (cal (zay q71.2 q11.2.2 zI (0:Int)) λy104=>J64 (q11.1,y104.1,y104.2)))))) (λq63=>cal (zH q63.2.1 (Str.mk [44])) λy110=>br (!y110.1) (J10 (y110.2,q63.2.2)) (L12 (q63.1,y110.2,q63.2.2)))) (J10 (q11.2.1,q11.2.2))) (((0:Int),y6.2,a_n_))) (λq9=>cal (zP q9.1 (Str.mk [125])) λy114=>br (!q9.2.more) (some (y114,(GNode.mk q9.2.kind q9.2.name q9.2.mark q9.2.con q9.2.items q9.2.fields (q9.2.fields.length:Int) q9.2.more q9.2.of))) (some (y114,q9.2))))
def zc1:Nat->(GPar->GNode->Int->Int->Option (GPar × GNode)) × (GPar->Int->Option (Int × GPar)) × (GPar->GNode->Int->Option (GPar × GNode)) × (GPar->GNode->Int->Option (GPar × GNode))
 | 0=>(λ_ _ _ _=>none,λ_ _=>none,λ_ _ _=>none,λ_ _ _=>none)
 | n + 1=>let p:=zc1 n;(zcf p.1 p.2.1 p.2.2.1 p.2.2.2,zcS p.1 p.2.1 p.2.2.1 p.2.2.2,zcv p.1 p.2.1 p.2.2.1 p.2.2.2,zb0 p.1 p.2.1 p.2.2.1 p.2.2.2)
def zbo (n:Nat):GPar->GNode->Int->Int->Option (GPar × GNode):=(zc1 n).1
def za2 (n:Nat):GPar->Int->Option (Int × GPar):=(zc1 n).2.1
def zbC (n:Nat):GPar->GNode->Int->Option (GPar × GNode):=(zc1 n).2.2.1
def zba (n:Nat):GPar->GNode->Int->Option (GPar × GNode):=(zc1 n).2.2.2

def zeJ (zbV:Str):Option (GMod × Int × Int) :=
 cal (zev zbV) λy2=>br (!decide (y2.2.2=(0:Int))) (some ((GMod.mk (Str.mk []) (0:Int) ([]:(List Str)) ([]:(List Int)) ([]:(List GNode))),y2.2.1,y2.2.2)) (cal (za7 (GPar.mk y2.1 (0:Int) (GMod.mk (Str.mk []) (0:Int) ([]:(List Str)) ([]:(List Int)) ([]:(List GNode))) (0:Int) (0:Int)) (1:Int)) λy7=>cal (zP (GPar.mk y7.2.l y7.2.at_ (GMod.mk y7.1 y7.2.m.tagging y7.2.m.names y7.2.m.types y7.2.m.nodes) y7.2.e y7.2.p) (Str.mk [68,69,70,73,78,73,84,73,79,78,83])) λy10=>jp (ι:=GPar) (λJ14=>cal (zH y10 (Str.mk [69,88,80,76,73,67,73,84])) λy15=>br y15.1 (cal (zP y15.2 (Str.mk [84,65,71,83])) λy18=>J14 (y18)) (cal (zH y15.2 (Str.mk [73,77,80,76,73,67,73,84])) λy21=>br y21.1 (cal (zP (GPar.mk y21.2.l y21.2.at_ (GMod.mk y21.2.m.name (1:Int) y21.2.m.names y21.2.m.types y21.2.m.nodes) y21.2.e y21.2.p) (Str.mk [84,65,71,83])) λy24=>J14 (y24)) (cal (zH y21.2 (Str.mk [65,85,84,79,77,65,84,73,67])) λy27=>br y27.1 (cal (zP (GPar.mk y27.2.l y27.2.at_ (GMod.mk y27.2.m.name (2:Int) y27.2.m.names y27.2.m.types y27.2.m.nodes) y27.2.e y27.2.p) (Str.mk [84,65,71,83])) λy30=>J14 (y30)) (J14 (y27.2))))) (λq13=>cal (zP q13 (Str.mk [58,58,61])) λy33=>cal (zP y33 (Str.mk [66,69,71,73,78])) λy36=>lp (ι:=GPar) (λL40 q39=>jp (ι:=Bool × GPar) (λJ92=>br (decide (q39.e=(0:Int))) (cal (zH q39 (Str.mk [69,78,68])) λy94=>J92 ((!y94.1),y94.2)) (J92 (false,q39))) (λq91=>br q91.1 (cal (zaw q91.2) λy97=>cal (za7 y97.2 (1:Int)) λy101=>jp (ι:=Bool) (λJ105=>br (decide (y101.2.e=(0:Int))) (J105 ((decide ((40:Int) <= (y101.2.m.names.length:Int))))) (J105 (false))) (λq104=>jp (ι:=GPar) (λJ108=>br q104 (cal (zaK y101.2 (5:Int) y97.1) λy109=>J108 (y109)) (J108 (y101.2))) (λq107=>cal (zP q107 (Str.mk [58,58,61])) λy112=>cal (za2 fuel y112 (0:Int)) λy115=>asr (Nat.ble (y115.2.m.names.length + ([y101.1]:(List Str)).length) 68719476736) <| asr (Nat.ble (y115.2.m.types.length + ([y115.1]:(List Int)).length) 68719476736) <| L40 ((GPar.mk y115.2.l y115.2.at_ (GMod.mk y115.2.m.name y115.2.m.tagging (y115.2.m.names ++ ([y101.1]:(List Str))) (y115.2.m.types ++ ([y115.1]:(List Int))) y115.2.m.nodes) y115.2.e y115.2.p))))) (jp (ι:=Bool × GPar) (λJ126=>br (decide (q91.2.e=(0:Int))) (cal (zaw q91.2) λy128=>J126 ((!decide (y128.1.kind=(0:Int))),y128.2)) (J126 (false,q91.2))) (λq125=>jp (ι:=GPar) (λJ132=>br q125.1 (cal (zaw q125.2) λy133=>cal (zaK y133.2 (7:Int) y133.1) λy136=>J132 (y136)) (J132 (q125.2))) (λq131=>br (!decide (q131.e=(0:Int))) (some ((GMod.mk (Str.mk []) (0:Int) ([]:(List Str)) ([]:(List Int)) ([]:(List GNode))),q131.p,q131.e)) (some (q131.m,(0:Int),(0:Int)))))))) ((y36))))
end Go.Proofs.Q


namespace Go.Sy
section tot
variable {α β ι:Type}
def T (R:β->Prop) (o:Option β):Prop:=∃ r,o=some r/\R r
theorem T.some {R:β->Prop} {r:β} (h:R r):T R (some r):=⟨r,rfl,h⟩
theorem T.cal {Q:α->Prop} {R:β->Prop} {m:Option α} {k:α->Option β} (h:T Q m) (hk:∀ y,m=Option.some y->Q y->T R (k y)):T R (cal m k):=by
 obtain ⟨y,h1,h2⟩:=h
 subst h1
 exact hk y rfl h2
theorem T.eq {R:β->Prop} {m:Option α} {k:α->Option β} {y:α} (h:m=Option.some y) (hk:T R (k y)):T R (Sy.cal m k):=by subst h;exact hk
theorem zvh {x:Int} (h:inI64 x):bI64 x=true:=by
 unfold inI64 at h
 cases x with
 | ofNat n =>
  simp only [Int.ofNat_eq_natCast] at h
  exact Nat.ble_eq_true_of_le (by omega)
 | negSucc n=>exact Nat.ble_eq_true_of_le (by omega)
theorem T.ck {R:β->Prop} {x:Int} {k:Option β} (hx:-9223372036854775808 <= x/\x <= 9223372036854775807) (h:T R k):T R (ck x k):=by
 unfold Sy.ck;rw [zvh hx];exact h
theorem T.asr {R:β->Prop} {b:Bool} {k:Option β} (hb:b=true) (h:T R k):T R (asr b k):=by subst hb;exact h
theorem T.asd {R:β->Prop} {p:Prop} [Decidable p] {k:Option β} (hb:p) (h:T R k):T R (Sy.asr (decide p) k):=T.asr (zDT hb) h
theorem T.abl {R:β->Prop} {a b:Nat} {k:Option β} (hb:a <= b) (h:T R k):T R (Sy.asr (Nat.ble a b) k):=T.asr (Nat.ble_eq_true_of_le hb) h
theorem T.br {R:β->Prop} {b:Bool} {t e:Option β} (ht:b=true->T R t) (he:b=false->T R e):T R (br b t e):=by
 cases b with
 | true=>exact ht rfl
 | false=>exact he rfl
theorem T.brT {R:β->Prop} {b:Bool} {t e:Option β} (hb:b=true) (h:T R t):T R (Sy.br b t e):=by subst hb;exact h
theorem T.brF {R:β->Prop} {b:Bool} {t e:Option β} (hb:b=false) (h:T R e):T R (Sy.br b t e):=by subst hb;exact h
theorem T.jp (Q:ι->Prop) {R:β->Prop} {B:(ι->Option β)->Option β} {K:ι->Option β} (hB:∀ J,(∀ i,Q i->T R (J i))->T R (B J)) (hK:∀ i,Q i->T R (K i)):T R (jp B K):=hB K hK
theorem T.lp (I:ι->Prop) (μ:ι->Nat) {R:β->Prop} {F:(ι->Option β)->ι->Option β} {i0:ι} (h0:I i0) (hμ:μ i0 < 1000000000000000000) (h:∀ (L:ι->Option β) i,I i->(∀ j,I j->μ j < μ i->T R (L j))->T R (F L i)):T R (lp F i0):=by
 have key:∀ n i,I i->μ i < n->T R (lpN F n i):=by
  intro n
  induction n with
  | zero=>intro i _ hn;omega
  | succ n ih=>intro i hi hn;exact h (lpN F n) i hi λj hj hl=>ih j hj (by omega)
 unfold Sy.lp fuel
 exact key _ _ h0 hμ
theorem zbF {l:List α} {i:Int} (h0:0 <= i) (h1:i < l.length):getI l i=some (l[i.toNat]'(by omega)):=by
 unfold getI
 cases i with
 | ofNat n=>simp only [Int.ofNat_eq_natCast] at h1;simp
 | negSucc n=>omega
theorem T.get {R:β->Prop} {l:List α} {i:Int} {k:α->Option β} (h0:0 <= i) (h1:i < l.length) (hk:∀ y,l[i.toNat]?=Option.some y->T R (k y)):T R (Sy.cal (getI l i) k) :=
 T.eq (zbF h0 h1) (hk _ (List.getElem?_eq_getElem (by omega)))
theorem T.fin {o:Option β} {x:β} (h:T (λr=>r=x) o):o=Option.some x:=by
 obtain ⟨r,h1,h2⟩:=h;rw [h1,h2]
theorem T.of {o:Option β} {R:β->Prop} {x:β} (h:o=Option.some x) (hx:R x):T R o:=⟨x,h,hx⟩
end tot
end Go.Sy


namespace Go.Proofs.Q
open Go.Sy
set_option linter.unusedVariables false

theorem ziT (s:Str) (i:Int):T (λr=>r=(if 0 <= i then (s.b[i.toNat]?).getD 0 else 0)) (zfV s i):=by
 unfold zfV
 refine T.jp (λq=>q=decide (¬ (0 <= i/\i < s.b.length))) (λJ h=>?_) (λq hq=>?_)
 ·refine T.br (λh1=>h _ ?_) (λh1=>h _ ?_)
  ·have:=zOT h1;simp;omega
  ·have:=zOF h1
   by_cases h2:(s.b.length:Int) <= i <;> simp [h2] <;> omega
 ·subst hq
  refine T.br (λh1=>T.some ?_) (λh1=>?_)
  ·have h2:=zOT h1
   split
   ·rename_i h3
    rw [List.getElem?_eq_none (by omega)];rfl
   ·rfl
  ·have h2:=zOF h1
   refine T.get (by omega) (by omega) λy hy=>T.some ?_
   rw [if_pos (by omega),hy];rfl

def zcm (c:UInt8):Bool:=(decide (97 <= c) && decide (c <= 122)) || (decide (65 <= c) && decide (c <= 90))
def isDigit (c:UInt8):Bool:=decide (48 <= c) && decide (c <= 57)
theorem zgX (c:UInt8):zfg c=some (zcm c):=by
 unfold zfg zcm jp br
 cases decide (97 <= c) <;> cases decide (c <= 122) <;> cases decide (65 <= c) <;> cases decide (c <= 90) <;> rfl
theorem zeW (c:UInt8):zeE c=some (isDigit c):=by
 unfold zeE isDigit jp br
 cases decide (48 <= c) <;> cases decide (c <= 57) <;> rfl

theorem zsU (s:Str) (i:Int) (h0:0 <= i) (h1:i <= s.b.length) (hl:s.b.length <= 1000000):T (λr=>i <= r/\r <= s.b.length) (zgc s i):=by
 unfold zgc
 refine T.lp (λk=>i <= k/\k <= s.b.length) (λk=>(s.b.length - k).toNat) ⟨zIl _,h1⟩ (by omega) λL k hk hL=>?_
 refine T.br (λhb=>?_) (λ_=>T.some hk)
 have hb:=zOT hb
 refine T.get (by omega) hb λy hy=>?_
 refine T.jp (λ_=>True) (λJ h=>T.br (λ_=>h _ trivial) λ_=>T.get (by omega) hb λ_ _=>h _ trivial) λq _=>?_
 refine T.jp (λ_=>True) (λJ h=>T.br (λ_=>h _ trivial) λ_=>T.get (by omega) hb λ_ _=>h _ trivial) λq _=>?_
 refine T.jp (λ_=>True) (λJ h=>T.br (λ_=>h _ trivial) λ_=>T.get (by omega) hb λ_ _=>h _ trivial) λq _=>?_
 refine T.br (λ_=>T.ck (by omega) (hL _ (by omega) (by omega))) λ_=>?_
 refine T.get (by omega) hb λy hy=>?_
 refine T.jp (λq=>q=true->k + 2 <= s.b.length) (λJ h=>T.br (λ_=>T.ck (by omega) (T.cal (ziT s (k + 1)) λy _ hy=>h _ λhq=>?_)) λ_=>h _ (λh=>by cases h)) λq hq=>?_
 ·have:=zOT hq
  subst this
  rw [if_pos (by omega)] at hy
  rcases Nat.lt_or_ge (k + 1).toNat s.b.length with h3 | h3
  ·omega
  ·rw [List.getElem?_eq_none h3] at hy;cases hy
 refine T.br (λhb2=>T.ck (by omega) ?_) (λ_=>T.some hk)
 have hq':=hq hb2
 refine T.lp (λj=>k + 2 <= j/\j <= s.b.length) (λj=>(s.b.length - j).toNat) ⟨zIl _,hq'⟩ (by omega) λL2 j hj hL2=>?_
 refine T.jp (λq=>q=true->j < s.b.length) (λJ h=>T.br (λh2=>?_) λ_=>h _ (λh=>by cases h)) λq hq2=>?_
 ·have h2:=zOT h2
  exact T.get (by omega) h2 λ_ _=>h _ λ_=>h2
 refine T.br (λh2=>?_) (λ_=>hL _ (by omega) (by omega))
 have h2:=hq2 h2
 refine T.get (by omega) h2 λy hy=>?_
 refine T.jp (λq=>q=true->j + 2 <= s.b.length) (λJ h=>T.br (λ_=>T.ck (by omega) (T.cal (ziT s (j + 1)) λy _ hy=>h _ λhq=>?_)) λ_=>h _ (λh=>by cases h)) λq hq3=>?_
 ·have:=zOT hq
  subst this
  rw [if_pos (by omega)] at hy
  rcases Nat.lt_or_ge (j + 1).toNat s.b.length with h3 | h3
  ·omega
  ·rw [List.getElem?_eq_none h3] at hy;cases hy
 refine T.br (λh3=>T.ck (by omega) ?_) (λ_=>T.ck (by omega) (hL2 _ (by omega) (by omega)))
 have h3:=hq3 h3
 exact hL _ (by omega) (by omega)

theorem ztM (s:Str) (i:Int) (h0:0 <= i) (h1:i < s.b.length) (hl:s.b.length <= 1000000) (hc:∀ y,s.b[i.toNat]?=some y->zcm y=true):T (λr=>r=-1 \/ (i < r/\r <= s.b.length)) (zhr s i):=by
 unfold zhr
 refine T.lp (λk=>i <= k/\k <= s.b.length) (λk=>(s.b.length - k).toNat) ⟨zIl _,by omega⟩ (by omega) λL k hk hL=>?_
 refine T.jp (λq=>(q=true->k < s.b.length)/\(q=false->i < k)) (λJ h=>?_) λq hq=>?_
 ·refine T.br (λhb=>?_) (λhb=>h _ ⟨(λh=>by cases h),λ_=>by have:=zOF hb;omega⟩)
  have hb:=zOT hb
  refine T.get (by omega) hb λy hy=>?_
  refine T.eq (zgX y) ?_
  refine T.jp (λq=>zcm y=true->q=true) (λJ2 h2=>?_) λq hq=>?_
  ·exact T.br (λ_=>h2 _ λ_=>rfl) λhn=>T.get (by omega) hb λy2 _=>T.eq (zeW y2) (h2 _ λhy=>by rw [hn] at hy;cases hy)
  refine T.jp (λq=>zcm y=true->q=true) (λJ2 h2=>?_) λq hq=>?_
  ·refine T.br (λ_=>h2 _ λ_=>rfl) λhn=>T.get (by omega) hb λy2 _=>?_
   have hno:¬ zcm y=true:=λhy=>by rw [hq hy] at hn;cases hn
   refine T.jp (λ_=>True) (λJ3 h3=>T.br (λ_=>T.ck (by omega) (T.cal (ziT s _) λ_ _ _=>h3 _ trivial)) λ_=>h3 _ trivial) λq _=>h2 _ λhy=>absurd hy hno
  ·refine h _ ⟨λ_=>hb,λhn=>?_⟩
   rcases Int.lt_or_eq_of_le hk.1 with h2 | h2
   ·exact h2
   ·subst h2
    have:=hq (hc y hy)
    rw [this] at hn;cases hn
 refine T.br (λhb=>T.ck (by have:=hq.1 hb;omega) (hL _ (by have:=hq.1 hb;omega) (by have:=hq.1 hb;omega))) λhb=>?_
 have hlt:=hq.2 hb
 refine T.ck (by omega) (T.get (by omega) (by omega) λy _=>?_)
 refine T.jp (λ_=>True) (λJ h=>T.br (λ_=>h _ trivial) λ_=>T.ck (by omega) (h _ trivial)) λq _=>?_
 exact T.br (λ_=>T.some (.inl rfl)) λ_=>T.some (.inr ⟨hlt,hk.2⟩)
end Go.Proofs.Q


namespace Go.Proofs.Q
open Go.Sy
set_option linter.unusedVariables false

theorem snocInd {α:Type} {P:List α->Prop} (h0:P []) (h1:∀ l a,P l->P (l ++ [a])) (l:List α):P l:=by
 have:∀ m:List α,P m.reverse:=by
  intro m
  induction m with
  | nil=>exact h0
  | cons a m ih=>rw [List.reverse_cons];exact h1 _ _ ih
 have h:=this l.reverse
 rwa [List.reverse_reverse] at h

def dval (l:List UInt8):Nat:=l.foldl (λv d=>10 * v + (d.toNat - 48)) 0
def uval (l:List UInt8):UInt64:=l.foldl (λv d=>10 * v + (d - 48).toUInt64) 0
theorem zgz {d:UInt8} (h:isDigit d=true):48 <= d.toNat/\d.toNat <= 57:=by
 unfold isDigit at h
 simp only [zBa,decide_eq_true_eq] at h
 have h1:=UInt8.le_iff_toNat_le.1 h.1
 have h2:=UInt8.le_iff_toNat_le.1 h.2
 simp at h1 h2
 omega
theorem zu8 {d:UInt8} (h:isDigit d=true):(d - 48).toUInt64.toNat=d.toNat - 48:=by
 have h1:=zgz h
 have h2:=d.toNat_lt
 have h3:(48:UInt8).toNat=48:=rfl
 rw [UInt8.toNat_toUInt64,UInt8.toNat_sub,h3]
 omega
theorem zko (l:List UInt8) (d:UInt8):dval (l ++ [d])=10 * dval l + (d.toNat - 48):=by simp [dval]
theorem zku (l:List UInt8) (d:UInt8):uval (l ++ [d])=10 * uval l + (d - 48).toUInt64:=by simp [uval]
def digs (l:List UInt8):Prop:=∀ d ∈ l,isDigit d=true
theorem zl6 {l:List UInt8} {d:UInt8} (h:digs (l ++ [d])):digs l/\isDigit d=true :=
 ⟨λx hx=>h x (List.mem_append_left _ hx),h d (List.mem_append_right _ (zMo.2 rfl))⟩
theorem zuH (l:List UInt8):digs l->dval l < 10 ^ l.length:=by
 refine snocInd (P:=λl=>digs l->dval l < 10 ^ l.length) (λ_=>by simp [dval]) (λl d ih h=>?_) l
 obtain ⟨h1,h2⟩:=zl6 h
 have h3:=ih h1
 have h4:=zgz h2
 rw [zko,zLa,zLs,Nat.pow_succ]
 omega
theorem pow19 {n:Nat} (h:n <= 19):10 ^ n <= 10000000000000000000:=by
 have:=Nat.pow_le_pow_right (show 0 < 10 by omega) h
 simpa using this
theorem zoc (l:List UInt8):digs l->l.length <= 19->(uval l).toNat=dval l:=by
 refine snocInd (P:=λl=>digs l->l.length <= 19->(uval l).toNat=dval l) (λ_ _=>by simp [dval,uval]) (λl d ih h hl=>?_) l
 obtain ⟨h1,h2⟩:=zl6 h
 rw [zLa,zLs] at hl
 have h3:=ih h1 (by omega)
 have h4:=zgz h2
 have h5:=zuH (l ++ [d]) h
 rw [zLa,zLs] at h5
 have h6:=pow19 hl
 rw [zko] at h5
 rw [zku,zko,UInt64.toNat_add,UInt64.toNat_mul,h3,zu8 h2]
 have h7:(10:UInt64).toNat=10:=rfl
 rw [h7]
 omega
theorem zum {d:UInt8} {l:List UInt8} (h:digs (d :: l)) (hd:d ≠ 48):1 <= dval (d :: l):=by
 refine snocInd (P:=λl=>digs (d :: l)->1 <= dval (d :: l)) (λh=>?_) (λl e ih h=>?_) l h
 ·have h1:=zgz (h d (zMo.2 rfl))
  have h2:d.toNat ≠ 48:=λe=>hd (UInt8.toNat_inj.1 e)
  have e:dval [d]=d.toNat - 48:=by simp [dval]
  omega
 ·have h2:=ih (zl6 (l:=d :: l) h).1
  have e1:=zko (d :: l) e
  have e2:d :: (l ++ [e])=d :: l ++ [e]:=rfl
  rw [e2,e1];omega

def NumOk (b:List UInt8):Prop:=∃ ds,digs ds/\ds ≠ []/\ds.length <= 19/\((b=ds/\dval ds < 9223372036854775808) \/ (b=45 :: ds/\1 <= dval ds/\dval ds <= 9223372036854775808))

theorem ztY {l:List UInt8} {f k:Nat} {y:UInt8} (hf:f <= k) (hy:l[k]?=some y):(l.take (k + 1)).drop f=(l.take k).drop f ++ [y]:=by
 have hlt:=(List.getElem?_eq_some_iff.1 hy).1
 have h1:l.take (k + 1)=l.take k ++ [y]:=by
  rw [List.take_add_one,hy];rfl
 rw [h1,List.drop_append_of_le_length (by rw [zLt];omega)]
theorem zqI {l:List UInt8} {f k:Nat} {y:UInt8} (hf:f < k) (hk:k <= l.length) (hy:l[f]?=some y):(l.take k).drop f=y :: (l.take k).drop (f + 1):=by
 have h1:(l.take k)[f]?=some y:=by rw [List.getElem?_take,if_pos hf,hy]
 obtain ⟨h2,h3⟩:=List.getElem?_eq_some_iff.1 h1
 rw [List.drop_eq_getElem_cons h2,h3]
theorem zu9 {l:List UInt8} {f k:Nat} (hk:k <= l.length):((l.take k).drop f).length=k - f:=by
 rw [zLd,zLt];omega

set_option maxHeartbeats 1000000 in
theorem zqO (s:Str) (i:Int) (h0:0 <= i) (h1:i < s.b.length) (hl:s.b.length <= 1000000) :
    T (λr=>r=-1 \/ (i < r/\r <= s.b.length/\NumOk ((s.b.take r.toNat).drop i.toNat))) (zfe s i):=by
  unfold zfe
  refine T.get h0 h1 λy1 hy1=>?_
  refine T.jp (λf=>(y1=45/\f=i + 1) \/ (y1 ≠ 45/\f=i)) (λJ h=>T.br (λhb=>T.ck (by omega) (h _ (.inl ⟨zOT hb,rfl⟩))) λhb=>h _ (.inr ⟨zOF hb,rfl⟩)) λf hf=>?_
  have hf0:i <= f/\f <= i + 1:=by omega
  have hfl:f <= s.b.length:=by omega
  refine T.lp (ι:=Int × UInt64) (λq=>f <= q.1/\q.1 <= s.b.length/\digs ((s.b.take q.1.toNat).drop f.toNat)/\(q.1 - f <= 19->q.2=uval ((s.b.take q.1.toNat).drop f.toNat))) (λq=>(s.b.length - q.1).toNat)
    (by
      have e:(s.b.take f.toNat).drop f.toNat=[]:=zDn (by rw [zLt];omega)
      refine ⟨zIl _,hfl,?_,?_⟩
      · rw [e];intro d hd;cases hd
      · intro _;rw [e];rfl) (by simp only;omega) λL q hq hL=>?_
  obtain ⟨k,v⟩:=q
  obtain ⟨hq1,hq2,hq3,hq4⟩:=hq
  simp only at hq1 hq2 hq3 hq4 ⊢
  refine T.jp (λb=>b=true->k < s.b.length/\∀ y,s.b[k.toNat]?=some y->isDigit y=true) (λJ h=>?_) λb hb=>?_
  · refine T.br (λh2=>?_) λ_=>h _ (λh=>by cases h)
    have h2:=zOT h2
    exact T.get (by omega) h2 λy hy=>T.eq (zeW y) (h _ λhd=>⟨h2,λy' hy'=>by rw [hy] at hy';cases hy';exact hd⟩)
  refine T.br (λh2=>?_) λ_=>?_
  · obtain ⟨hk,hd⟩:=hb h2
    obtain ⟨y,hy⟩:∃ y,s.b[k.toNat]?=some y:=⟨_,List.getElem?_eq_getElem (by omega)⟩
    have hsn:=ztY (l:=s.b) (f:=f.toNat) (k:=k.toNat) (y:=y) (by omega) hy
    have hk1:(k + 1).toNat=k.toNat + 1:=by omega
    refine T.ck (by omega) (T.jp (λu=>k - f < 19->u=10 * v + (y - 48).toUInt64) (λJ h=>T.br (λ_=>?_) λh3=>h _ λh4=>by have:=zOF h3;omega) λu hu=>T.ck (by omega) (hL _ ?_ (by simp only;omega)))
    · exact T.get (by omega) hk λy' hy'=>h _ λ_=>by rw [hy] at hy';cases hy';rfl
    · refine ⟨by simp only;omega,by simp only;omega,?_,λh19=>?_⟩
      · simp only
        rw [hk1,hsn]
        intro d hd'
        rcases List.mem_append.1 hd' with h | h
        · exact hq3 d h
        · rw [zMo.1 h];exact hd y hy
      · simp only at h19 ⊢
        rw [hk1,hsn,zku,hu (by omega),hq4 (by omega)]
  refine T.ck (by omega) ?_
  have hlen:=zu9 (l:=s.b) (f:=f.toNat) (k:=k.toNat) (by omega)
  refine T.jp (λb=>b=false->1 <= k - f/\k - f <= 19) (λJ h=>T.br (λ_=>h _ (λh=>by cases h)) λh2=>h _ λh3=>by have:=zOF h2;have:=zOF h3;omega) λb1 hb1=>?_
  refine T.jp (λb=>b=false->b1=false) (λJ h=>T.br (λ_=>h _ (λh=>by cases h)) λh2=>?_) λb2 hb2=>?_
  · refine T.jp (λ_=>True) (λJ3 h3=>T.br (λh4=>T.get (by omega) (by have:=zOT h4;omega) λ_ _=>h3 _ trivial) λ_=>h3 _ trivial) λb _=>h _ λ_=>h2
  refine T.jp (λb=>b=false->b2=false/\(y1=45->∀ y,s.b[f.toNat]?=some y->y ≠ 48)) (λJ h=>T.br (λ_=>h _ (λh=>by cases h)) λh2=>?_) λb3 hb3=>?_
  · have h5:=hb1 (hb2 h2)
    refine T.jp (λb=>b=false->(y1=45->∀ y,s.b[f.toNat]?=some y->y ≠ 48)) (λJ3 h3=>T.br (λh4=>T.get (by omega) (by omega) λy hy=>h3 _ λh6 _ y' hy'=>?_) λh4=>h3 _ λ_ h7=>absurd h7 (zOF h4)) λb hb=>h _ λh6=>⟨h2,hb h6⟩
    rw [hy] at hy';cases hy'
    exact zOF h6
  refine T.jp (λb=>b=false->b3=false) (λJ h=>T.br (λ_=>h _ (λh=>by cases h)) λh2=>T.cal (ziT s k) λy _ _=>T.eq (zgX y) (h _ λ_=>h2)) λb4 hb4=>?_
  refine T.jp (λb=>b=false->b4=false/\¬ (9223372036854775808:UInt64) < v) (λJ h=>T.br (λ_=>h _ (λh=>by cases h)) λh2=>h _ λh3=>⟨h2,zOF h3⟩) λb5 hb5=>?_
  refine T.jp (λb=>b=false->b5=false/\(y1 ≠ 45->v ≠ 9223372036854775808)) (λJ h=>T.br (λ_=>h _ (λh=>by cases h)) λh2=>?_) λb6 hb6=>?_
  · refine T.jp (λb=>b=false->(y1 ≠ 45->v ≠ 9223372036854775808)) (λJ3 h3=>T.br (λh4=>h3 _ λh5 _=>zOF h5) λh4=>h3 _ λ_ h5=>absurd h4 (by simp [h5])) λb hb=>h _ λh6=>⟨h2,hb h6⟩
  refine T.br (λ_=>T.some (.inl rfl)) λh2=>T.some (.inr ?_)
  obtain ⟨e5,hv2⟩:=hb6 h2
  obtain ⟨e4,hv1⟩:=hb5 e5
  obtain ⟨e2,hz⟩:=hb3 (hb4 e4)
  obtain ⟨n1,n2⟩:=hb1 (hb2 e2)
  have hv:=hq4 n2
  have hvn:=zoc _ hq3 (by rw [hlen];omega)
  rw [<- hv] at hvn
  have hle:v.toNat <= 9223372036854775808:=by
    have:¬ (9223372036854775808:UInt64).toNat < v.toNat:=λh=>hv1 (UInt64.lt_iff_toNat_lt.2 h)
    have e:(9223372036854775808:UInt64).toNat=9223372036854775808:=rfl
    omega
  refine ⟨by omega,hq2,(s.b.take k.toNat).drop f.toNat,hq3,λh=>by rw [h] at hlen;simp at hlen;omega,by rw [hlen];omega,?_⟩
  rcases hf with ⟨h45,hfi⟩ | ⟨h45,hfi⟩
  · right
    have hs:=zqI (l:=s.b) (f:=i.toNat) (k:=k.toNat) (y:=y1) (by omega) (by omega) hy1
    have e:i.toNat + 1=f.toNat:=by omega
    rw [e] at hs
    refine ⟨by rw [hs,h45],?_,by omega⟩
    obtain ⟨y,hy⟩:∃ y,s.b[f.toNat]?=some y:=⟨_,List.getElem?_eq_getElem (by omega)⟩
    have hs2:=zqI (l:=s.b) (f:=f.toNat) (k:=k.toNat) (y:=y) (by omega) (by omega) hy
    rw [hs2] at hq3 ⊢
    exact zum hq3 (hz h45 y hy)
  · left
    subst hfi
    refine ⟨rfl,?_⟩
    have h3:=hv2 h45
    have:v.toNat ≠ 9223372036854775808:=λe=>h3 (UInt64.toNat_inj.1 e)
    omega
end Go.Proofs.Q


namespace Go.Proofs.Q
open Go.Sy
set_option linter.unusedVariables false

theorem zu1 (s:Str) (i:Int) (h0:0 <= i) (h1:i < s.b.length) (hl:s.b.length <= 1000000) :
    T (λ(r:Int × Str)=>r.1=-1 \/ (i < r.1/\r.1 <= (s.b.length:Int)/\r.2.b.length <= s.b.length)) (zi1 s i):=by
  unfold zi1
  refine T.ck (by omega) (T.lp (λ(k:Int)=>i + 1 <= k/\k <= (s.b.length:Int)) (λ(k:Int)=>((s.b.length:Int) - k).toNat) ⟨zIl _,by omega⟩ (by omega) λL k hk hL=>?_)
  refine T.jp (λb=>b=true->k < s.b.length) (λJ h=>T.br (λh2=>?_) λ_=>h _ (λh=>by cases h)) λb hb=>?_
  · have h2:=zOT h2
    refine T.get (by omega) h2 λy _=>T.eq (zeW y) ?_
    refine T.jp (λ_=>True) (λJ2 h3=>T.br (λ_=>h3 _ trivial) λ_=>T.get (by omega) h2 λy _=>?_) λq _=>h _ λ_=>h2
    refine T.jp (λ_=>True) (λJ4 h4=>T.br (λ_=>T.get (by omega) h2 λ_ _=>h4 _ trivial) λ_=>h4 _ trivial) λq _=>h3 _ trivial
  refine T.br (λh2=>T.ck (by have:=hb h2;omega) (hL _ (by have:=hb h2;omega) (by have:=hb h2;omega))) λ_=>?_
  refine T.ck (by omega) (T.asr rfl ?_)
  have hat:∀ (j:Int) y,y=(if 0 <= j then (s.b[j.toNat]?).getD 0 else 0)->y ≠ 0->0 <= j/\j < s.b.length:=by
    intro j y hy h0
    split at hy
    · rename_i h3
      refine ⟨h3,?_⟩
      rcases Nat.lt_or_ge j.toNat s.b.length with h4 | h4
      · omega
      · rw [List.getElem?_eq_none h4] at hy;exact absurd hy h0
    · exact absurd hy h0
  refine T.jp (λ_=>True) (λJ h=>T.br (λ_=>h _ trivial) λ_=>T.cal (ziT s k) λy _ hy=>h _ trivial) λb1 hb1=>?_
  refine T.jp (λb=>b=false->k + 1 < s.b.length) (λJ h=>T.br (λ_=>h _ (λh=>by cases h)) λ_=>T.ck (by omega) (T.cal (ziT s (k + 1)) λy _ hy=>h _ λh4=>?_)) λb2 hb2=>?_
  · have h5:y=72:=by simpa using h4
    exact (hat _ _ hy (by rw [h5];decide)).2
  refine T.br (λ_=>T.some (.inl rfl)) λh3=>T.ck (by omega) (T.asd ?_ (T.some (.inr ?_)))
  · have:=hb2 h3;omega
  · have:=hb2 h3
    refine ⟨by dsimp only;omega,by dsimp only;omega,?_⟩
    simp only [zLd,zLt];omega

theorem zq7 (s:Str) (i:Int) (h0:0 <= i) (h1:i < s.b.length) (hl:s.b.length <= 1000000) :
    T (λ(r:Int × Str)=>r.1=-1 \/ (i < r.1/\r.1 <= (s.b.length:Int)/\r.2.b.length <= s.b.length)) (ze6 s i):=by
  unfold ze6
  refine T.ck (by omega) (T.lp (ι:=Int × Str) (λq=>i + 1 <= q.1/\q.1 <= s.b.length + 1/\(q.2.b.length:Int) < q.1) (λq=>(s.b.length + 1 - q.1).toNat) ⟨zIl _,by dsimp only;omega,by dsimp only;simp only [zLn];omega⟩ (by dsimp only;omega) λL q hq hL=>?_)
  obtain ⟨k,o⟩:=q
  obtain ⟨hq1,hq2,hq3⟩:=hq
  simp only at hq1 hq2 hq3 ⊢
  refine T.br (λh2=>?_) λ_=>T.some (.inl rfl)
  have h2:=zOT h2
  refine T.jp (λ(q:Int × Str)=>k <= q.1/\q.1 < (s.b.length:Int)/\(q.2.b.length:Int) < q.1 + 1) (λJ h=>?_) λq hq=>?_
  · refine T.get (by omega) h2 λy _=>T.br (λ_=>?_) λ_=>?_
    · refine T.ck (by omega) (T.asd (by omega) (T.abl ?_ (h _ ?_)))
      · simp only [zLd,zLt];omega
      · refine ⟨zIl _,by dsimp only;omega,?_⟩
        simp only [zLa,zLd,zLt];omega
    · refine T.ck (by omega) (T.cal (ziT s (k + 1)) λy2 _ hy2=>T.br (λ_=>?_) λh34=>?_)
      · exact T.eq rfl (T.br (λ_=>T.some (.inl rfl)) λ_=>T.ck (by omega) (T.some (.inr ⟨by dsimp only;omega,by dsimp only;omega,by dsimp only;omega⟩)))
      · have hlt:k + 1 < s.b.length:=by
          have h5:y2=34:=by simpa using h34
          rw [if_pos (by omega)] at hy2
          rcases Nat.lt_or_ge (k + 1).toNat s.b.length with h4 | h4
          · omega
          · rw [List.getElem?_eq_none h4,h5] at hy2;cases hy2
        refine T.abl ?_ (T.ck (by omega) (h _ ?_))
        · simp only [zLc,zLn];omega
        · refine ⟨by dsimp only;omega,by dsimp only;omega,?_⟩
          simp only [zLa,zLc,zLn];omega
  · exact T.ck (by omega) (hL _ ⟨by dsimp only;omega,by dsimp only;omega,hq.2.2⟩ (by dsimp only;omega))

theorem zhY (l:List Str) (x:Str) (hl:l.length <= 1000000):T (λr=>r=decide (x ∈ l)) (zfs l x):=by
 unfold zfs
 refine T.lp (λ(k:Int)=>0 <= k/\k <= (l.length:Int)/\x ∉ l.take k.toNat) (λ(k:Int)=>((l.length:Int) - k).toNat) ⟨zIl _,by omega,by simp⟩ (by omega) λL k hk hL=>?_
 refine T.br (λh2=>?_) λh2=>T.some ?_
 ·have h2:=zOT h2
  refine T.get hk.1 h2 λy hy=>T.br (λh3=>T.some ?_) λh3=>T.ck (by omega) (hL _ ⟨by omega,by omega,?_⟩ (by omega))
  ·have h3:=zOT h3
   subst h3
   exact (zDT (List.mem_of_getElem? hy)).symm
  ·have h3:=zOF h3
   have e:(k + 1).toNat=k.toNat + 1:=by omega
   rw [e,List.take_add_one,hy]
   simp only [Option.toList_some,List.mem_append,zMo,not_or]
   exact ⟨hk.2.2,λh=>h3 h.symm⟩
 ·have h2:=zOF h2
  have h4:=hk.2.2
  rw [zTl (by omega)] at h4
  exact (zDF h4).symm

theorem zuk (s:Str) (i:Int) (h0:0 <= i) (h1:i < s.b.length) (hl:s.b.length <= 1000000):T (λ(r:Int)=>0 <= r/\i + r <= (s.b.length:Int)) (zhs s i):=by
 unfold zhs
 refine T.asd (by omega) (T.lp (λ(k:Int)=>0 <= k) (λ(k:Int)=>(13 - k).toNat) (zIl _) (by omega) λL k hk hL=>?_)
 refine T.br (λh2=>?_) λ_=>T.some ⟨zIl _,by omega⟩
 have h2:=zOT h2
 have hrest:((Str.mk ((s.b.take ((s.b.length:Int)).toNat).drop i.toNat)).b.length:Int)=s.b.length - i:=by
  simp only [zLd,zLt];omega
 refine T.get hk h2 λy hy=>?_
 refine T.jp (λb=>b=true->i + (y.b.length:Int) <= s.b.length) (λJ h=>T.br (λh3=>?_) λ_=>h _ (λh=>by cases h)) λb hb=>?_
 ·have h3:=zOT h3
  rw [hrest] at h3
  refine T.asd ⟨zIl _,by omega,by rw [hrest];exact h3⟩ (T.get hk h2 λy2 hy2=>h _ λ_=>by omega)
 ·refine T.br (λh3=>T.some ⟨by omega,hb h3⟩) λ_=>T.ck (by have h2:k < 13:=h2;omega) (hL _ (by omega) ?_)
  have h2:k < 13:=h2
  omega

structure TokOk (n:Nat) (t:GTok):Prop where
 num:t.kind=3->NumOk t.text.b
 len:t.text.b.length <= n
 at0:0 <= t.at_/\t.at_ <= n
theorem zsh:∀ r,zh3=some r->r.length <= 1000000:=by
 intro r h
 unfold zh3 at h
 have:=Option.some.inj h
 subst this
 decide
theorem ztp (s:Str):T (λ_=>True) (zho s):=by
 unfold zho
 refine T.cal (Q:=λ_=>True) ⟨_,rfl,trivial⟩ λy hy _=>T.cal (zhY y s (zsh y hy)) λ_ _ _=>T.some trivial

theorem zu3 (s:Str) (i:Int) (h0:0 <= i) (h1:i < s.b.length) (hl:s.b.length <= 1000000) :
    T (λ(r:GTok × Int)=>r.2 < 0 \/ (i < r.2/\r.2 <= (s.b.length:Int)/\TokOk s.b.length r.1/\1 <= r.1.kind/\r.1.kind <= 7)) (ziG s i):=by
  unfold ziG
  refine T.get h0 h1 λy hy=>?_
  refine T.jp (ι:=Int × GTok) (λ(q:Int × GTok)=>q.1 < 0 \/ (i < q.1/\q.1 <= (s.b.length:Int)/\TokOk s.b.length q.2/\1 <= q.2.kind/\q.2.kind <= 7)) (λJ h=>?_) λq hq=>T.some hq
  have hsub:∀ (a b:Nat),((s.b.take a).drop b).length <= s.b.length:=λa b=>by rw [zLd,zLt];omega
  refine T.eq (zgX y) (T.br (λhle=>?_) λ_=>T.eq (zeW y) ?_)
  · refine T.cal (ztM s i h0 h1 hl λy' hy'=>by rw [hy] at hy';cases hy';exact hle) λe _ he=>T.br (λ_=>T.some (.inl (by dsimp only;omega))) λhn=>?_
    have hn:=zOF hn
    have he':i < e/\e <= s.b.length:=by omega
    refine T.asd (by omega) (T.jp (ι:=GTok) (λt=>(t.kind=1 \/ t.kind=2)/\t.text.b.length <= s.b.length/\t.at_=i) (λJ2 h2=>T.br (λ_=>h2 _ ⟨.inl rfl,hsub _ _,rfl⟩) λ_=>h2 _ ⟨.inr rfl,hsub _ _,rfl⟩) λt ht=>?_)
    obtain ⟨ht1,ht2,ht3⟩:=ht
    refine T.cal (ztp t.text) λw _ _=>T.br (λ_=>h _ (.inr ⟨he'.1,he'.2,⟨λh=>by simp at h,ht2,by dsimp only;omega⟩,by simp,by simp⟩)) λ_=>h _ (.inr ⟨he'.1,he'.2,⟨λh=>by rw [h] at ht1;omega,ht2,by dsimp only;omega⟩,by dsimp only;omega,by dsimp only;omega⟩)
  · refine T.jp (λ_=>True) (λJ2 h2=>T.br (λ_=>h2 _ trivial) λ_=>?_) λb _=>?_
    · refine T.jp (λ_=>True) (λJ3 h3=>T.br (λ_=>T.ck (by omega) (T.cal (ziT s _) λy _ _=>T.eq (zeW y) (h3 _ trivial))) λ_=>h3 _ trivial) λ_ _=>h2 _ trivial
    refine T.br (λ_=>T.cal (zqO s i h0 h1 hl) λe _ he=>T.br (λ_=>T.some (.inl (by dsimp only;omega))) λhn=>?_) λ_=>?_
    · have hn:=zOF hn
      have he':i < e/\e <= s.b.length/\NumOk ((s.b.take e.toNat).drop i.toNat):=by
        rcases he with h | h
        · omega
        · exact h
      exact T.asd (by omega) (h _ (.inr ⟨he'.1,he'.2.1,⟨λ_=>he'.2.2,hsub _ _,by dsimp only;omega⟩,by simp,by simp⟩))
    · refine T.br (λ_=>T.cal (zu1 s i h0 h1 hl) λe _ he=>h _ ?_) λ_=>T.br (λ_=>T.cal (zq7 s i h0 h1 hl) λe _ he=>h _ ?_) λ_=>?_
      · rcases he with h | h
        · left;rw [h];decide
        · exact .inr ⟨h.1,h.2.1,⟨λh=>by simp at h,h.2.2,by dsimp only;omega⟩,by simp,by simp⟩
      · rcases he with h | h
        · left;rw [h];decide
        · exact .inr ⟨h.1,h.2.1,⟨λh=>by simp at h,h.2.2,by dsimp only;omega⟩,by simp,by simp⟩
      · refine T.cal (zuk s i h0 h1 hl) λe _ he=>T.br (λhp=>?_) λ_=>h _ (.inl (by dsimp only;omega))
        have hp:=zOT hp
        exact T.ck (by omega) (T.asd (by omega) (T.ck (by omega) (h _ (.inr ⟨by dsimp only;omega,by dsimp only;omega,⟨λh=>by simp at h,hsub _ _,by dsimp only;omega⟩,by simp,by simp⟩))))

structure ToksOk (l:List GTok):Prop where
 len:l.length <= 8001
 ok:∀ t ∈ l,TokOk 8000 t
 last:∃ m e,l=m ++ [e]/\e.kind=0/\∀ t ∈ m,1 <= t.kind/\t.kind <= 7

theorem zrk (s:Str):T (λr=>r.2.2=0->ToksOk r.1) (zev s):=by
 unfold zev
 refine T.br (λ_=>T.some (λh=>by cases h)) λhl=>?_
 have hl:=zOF hl
 refine T.lp (ι:=List GTok × Int) (λ(q:List GTok × Int)=>0 <= q.2/\q.2 <= (s.b.length:Int)/\(q.1.length:Int) <= q.2/\(∀ t ∈ q.1,TokOk 8000 t/\1 <= t.kind/\t.kind <= 7)) (λ(q:List GTok × Int)=>((s.b.length:Int) - q.2).toNat) ⟨zIl _,by dsimp only;omega,by simp,by simp⟩ (by dsimp only;omega) λL q hq hL=>?_
 obtain ⟨l,k⟩:=q
 obtain ⟨h1,h2,h3,h4⟩:=hq
 simp only at h1 h2 h3 h4 ⊢
 refine T.cal (zsU s k h1 h2 (by omega)) λe _ he=>T.br (λ_=>?_) λhb=>?_
 ·refine T.abl (by simp only [zLc,zLn];omega) (T.some λ_=>⟨?_,?_,⟨l,_,rfl,rfl,λt ht=>(h4 t ht).2⟩⟩)
  ·simp only [zLa,zLc,zLn];omega
  ·intro t ht
   rcases List.mem_append.1 ht with h | h
   ·exact (h4 t h).1
   ·rw [zMo.1 h];exact ⟨λh=>by simp at h,by simp,by dsimp only;omega⟩
 ·have hb:=zOF hb
  refine T.cal (zu3 s e (by omega) (by omega) (by omega)) λr _ hr=>T.br (λ_=>T.some (λh=>by cases h)) λhn=>?_
  have hn:=zOF hn
  rcases hr with h | ⟨r1,r2,r3,r4,r5⟩
  ·exact absurd h hn
  refine T.abl (by simp only [zLc,zLn];omega) (hL _ ⟨by dsimp only;omega,by dsimp only;omega,?_,λt ht=>?_⟩ (by dsimp only;omega))
  ·simp only [zLa,zLc,zLn];omega
  ·rcases List.mem_append.1 ht with h | h
   ·exact h4 t h
   ·rw [zMo.1 h];exact ⟨⟨r3.num,by have:=r3.len;omega,by have:=r3.at0;omega⟩,r4,r5⟩
end Go.Proofs.Q


namespace Go.Proofs.Q
open Go.Sy
set_option linter.unusedVariables false

structure Ok (l:List GTok) (m:GMod) (a:Int) (P:Prop) (y:GPar):Prop where
 toks:ToksOk l
 yl:y.l=l
 ym:y.m=m
 a0:0 <= y.at_
 a1:y.at_ < l.length
 ok:y.e=0->P/\a <= y.at_
theorem Ok.to {l m a P y} {a':Int} {P':Prop} (h:Ok l m a P y) (k:y.e=0->P->a <= y.at_->P'/\a' <= y.at_):Ok l m a' P' y:=⟨h.toks,h.yl,h.ym,h.a0,h.a1,λe=>k e (h.ok e).1 (h.ok e).2⟩
theorem Ok.err {l m a P y} {a':Int} {P':Prop} (h:Ok l m a P y) (k:¬ y.e=0):Ok l m a' P' y:=h.to λe=>absurd e k

def Tk (x:GPar) (t:GTok):Prop:=x.l[x.at_.toNat]?=some t
theorem Tk.ok {l m a P x t} (h:Ok l m a P x) (ht:Tk x t):TokOk 8000 t:=by
 unfold Tk at ht
 rw [h.yl] at ht
 exact h.toks.ok t (List.mem_of_getElem? ht)
theorem Tk.last {l m a P x t} (h:Ok l m a P x) (ht:Tk x t) (hk:t.kind ≠ 0):x.at_ + 1 < l.length:=by
 unfold Tk at ht
 rw [h.yl] at ht
 obtain ⟨m',e,h1,h2,h3⟩:=h.toks.last
 rcases Nat.lt_or_ge (x.at_.toNat + 1) l.length with h4 | h4
 ·have:=h.a0;omega
 ·exfalso
  have h5:=h.a1
  have h6:=h.a0
  have h7:x.at_.toNat=m'.length:=by rw [h1] at h4 h5;simp only [zLa,zLs] at h4 h5;omega
  rw [h1,h7,List.getElem?_append_right (zNl _)] at ht
  simp at ht
  subst ht
  exact hk h2

theorem ze1 {l m a P x} (h:Ok l m a P x):T (λr=>Tk x r.1/\r.2=x) (zaw x):=by
 unfold zaw
 refine T.get h.a0 (by rw [h.yl];exact h.a1) λy hy=>T.some ⟨hy,rfl⟩
theorem zfM {l m a P x} (e:Int) (t:GTok) (h:Ok l m a P x) (he:e ≠ 0):T (λr=>Ok l m a P r/\r.e ≠ 0) (zaK x e t):=by
 unfold zaK
 refine T.br (λh1=>T.some ⟨⟨h.toks,h.yl,h.ym,h.a0,h.a1,λh2=>absurd h2 he⟩,he⟩) λh1=>T.some ⟨h,zOF h1⟩
theorem zlA {l m a P x} (h:Ok l m a P x):T (λr=>Tk x r.1/\Ok l m a P r.2/\(r.1.kind ≠ 0->r.2.at_=x.at_ + 1)/\r.2.e=x.e) (za9 x):=by
 unfold za9
 have hl:=h.toks.len
 have h1:=h.a0
 have h2:=h.a1
 refine T.get h.a0 (by rw [h.yl];exact h.a1) λy hy=>T.ck (by omega) (T.jp (λr=>Ok l m a P r/\(y.kind ≠ 0->r.at_=x.at_ + 1)/\r.e=x.e) (λJ k=>T.br (λh3=>?_) λh3=>k _ ?_) λq hq=>T.some ⟨hy,hq⟩)
 ·have h3:=zOT h3
  rw [h.yl] at h3
  refine T.ck (by omega) (k _ ⟨⟨h.toks,h.yl,h.ym,by dsimp only;omega,h3,λe=>?_⟩,λ_=>rfl,rfl⟩)
  have:=h.ok e
  exact ⟨this.1,by dsimp only;omega⟩
 ·have h3:=zOF h3
  rw [h.yl] at h3
  exact ⟨h,λhk=>absurd (Tk.last h hy hk) h3,rfl⟩
theorem zjr {l m a P x} (k:Int) (hk:1 <= k) (h:Ok l m a P x):T (λr=>Ok l m a P r.2/\(r.2.e=0->x.e=0/\r.2.at_=x.at_ + 1/\∃ t,Tk x t/\t.kind=k/\r.1=t.text)/\(r.2.e ≠ 0->r.1=⟨[]⟩)) (za7 x k):=by
 unfold za7
 refine T.cal (ze1 h) λ⟨t,x'⟩ _ ⟨ht,hx⟩=>?_
 subst hx
 dsimp only at ht ⊢
 refine T.jp (λb=>b=false->x'.e=0/\t.kind=k) (λJ h1=>T.br (λ_=>h1 _ λh=>by cases h) λh2=>h1 _ λh3=>⟨by simpa using h2,by simpa using h3⟩) λb hb=>T.br (λ_=>?_) λh2=>?_
 ·exact T.cal (zfM _ _ h (by decide)) λy _ hy=>T.some ⟨hy.1,λe=>absurd e hy.2,λ_=>rfl⟩
 ·obtain ⟨h3,h4⟩:=hb h2
  refine T.cal (zlA h) λy _ hy=>T.some ⟨hy.2.1,λe=>⟨h3,?_,t,ht,h4,?_⟩,λe=>absurd (hy.2.2.2.trans h3) e⟩
  ·have:y.1=t:=by have:=hy.1;unfold Tk at this ht;rw [ht] at this;cases this;rfl
   exact hy.2.2.1 (by rw [this];omega)
  ·have:y.1=t:=by have:=hy.1;unfold Tk at this ht;rw [ht] at this;cases this;rfl
   rw [this]
theorem zbJ {l m a P x} (s:Str) (h:Ok l m a P x):T (λr=>Ok l m a P r.2/\r.2.e=x.e/\(r.1=true->x.e=0/\r.2.at_=x.at_ + 1)/\(r.1=false->r.2=x)) (zH x s):=by
 unfold zH
 refine T.cal (ze1 h) λ⟨t,x'⟩ _ ⟨ht,hx⟩=>?_
 subst hx
 dsimp only at ht ⊢
 refine T.jp (λb=>b=true->x'.e=0/\t.kind ≠ 0) (λJ h1=>T.br (λh2=>?_) λ_=>h1 _ λh=>by cases h) λb hb=>?_
 ·have h2:=zOT h2
  refine T.jp (λb=>b=true->t.kind ≠ 0) (λJ h3=>T.br (λh4=>h3 _ λ_=>by have:=zOT h4;omega) λ_=>h3 _ λh=>by have:=zOT h;omega) λb hb=>h1 _ λh=>⟨h2,hb h⟩
 ·refine T.jp (λb=>b=true->x'.e=0/\t.kind ≠ 0) (λJ h1=>T.br (λh2=>h1 _ λ_=>hb h2) λ_=>h1 _ λh=>by cases h) λb2 hb2=>T.br (λh2=>?_) λ_=>T.some ⟨h,rfl,(λh=>by cases h),λ_=>rfl⟩
  obtain ⟨h3,h4⟩:=hb2 h2
  refine T.cal (zlA h) λy _ hy=>T.some ⟨hy.2.1,hy.2.2.2,λ_=>⟨h3,?_⟩,λh=>by cases h⟩
  have:y.1=t:=by have:=hy.1;unfold Tk at this ht;rw [ht] at this;cases this;rfl
  exact hy.2.2.1 (by rw [this];exact h4)
theorem zbU {l m a P x} (s:Str) (h:Ok l m a P x):T (λr=>Ok l m a P r/\(r.e=0->x.e=0/\r.at_=x.at_ + 1)) (zP x s):=by
 unfold zP
 refine T.jp (λq=>Ok l m a P q.2/\(q.2.e=0->x.e=0)/\(q.1=false->q.2.e=0->q.2.at_=x.at_ + 1)) (λJ h1=>T.br (λh2=>T.cal (zbJ s h) λy _ hy=>h1 _ ⟨hy.1,λ_=>zOT h2,λh3 _=>(hy.2.2.1 (by simpa using h3)).2⟩) λh2=>h1 _ ⟨h,λh=>h,λ_ h3=>absurd h3 (zOF h2)⟩) λq hq=>T.br (λh2=>?_) λh2=>T.some ⟨hq.1,λh3=>⟨hq.2.1 h3,hq.2.2 h2 h3⟩⟩
 refine T.cal (ze1 hq.1) λ⟨t,x'⟩ _ ⟨ht,hx⟩=>?_
 subst hx
 exact T.cal (zfM _ _ hq.1 (by decide)) λy _ hy=>T.some ⟨hy.1,λe=>absurd e hy.2⟩
theorem zry (t:GTok):T (λ_=>True) (zhy t):=by
 unfold zhy
 refine T.lp (λ(k:Int)=>0 <= k) (λ(k:Int)=>(10 - k).toNat) (zIl _) (by omega) λL k hk hL=>?_
 refine T.br (λh2=>?_) λ_=>T.some trivial
 have h2:k < 10:=zOT h2
 refine T.get hk h2 λy _=>T.jp (λ_=>True) (λJ h3=>T.br (λ_=>T.jp (λ_=>True) (λJ4 h4=>T.br (λ_=>h4 _ trivial) λ_=>h4 _ trivial) λ_ _=>h3 _ trivial) λ_=>h3 _ trivial) λq _=>T.br (λ_=>T.some trivial) λ_=>T.ck (by omega) (hL _ (by omega) (by omega))
end Go.Proofs.Q


namespace Go.Proofs.Q
open Go.Sy
set_option linter.unusedVariables false

theorem zoi (s:Str) (h:NumOk s.b):T (λr=>-9223372036854775808 <= r/\r <= 9223372036854775807) (zg1 s):=by
 obtain ⟨ds,hd,hne,hlen,hv⟩:=h
 unfold zg1
 have hlb:s.b.length <= 20/\0 < s.b.length:=by
  have:0 < ds.length:=List.length_pos_iff.2 hne
  rcases hv with ⟨h1,_⟩ | ⟨h1,_⟩
  ·rw [h1];omega
  ·rw [h1];simp only [zLc];omega
 refine T.get (zIl _) (by omega) λy1 hy1=>?_
 refine T.jp (λq=>q.b=ds/\(y1=45->1 <= dval ds/\dval ds <= 9223372036854775808)/\(y1 ≠ 45->dval ds < 9223372036854775808)) (λJ k=>T.br (λh1=>?_) λh1=>k _ ?_) λq hq=>?_
 ·have h1:=zOT h1
  refine T.asd (by omega) (k _ ?_)
  rcases hv with ⟨h2,h3⟩ | ⟨h2,h3⟩
  ·exfalso
   rw [h2] at hy1
   have:=zgz (hd y1 (List.mem_of_getElem? hy1))
   rw [h1] at this
   have e:(45:UInt8).toNat=45:=rfl
   omega
  ·refine ⟨?_,λ_=>h3,λh=>absurd h1 h⟩
   dsimp only
   rw [h2]
   simp
 ·have h1:=zOF h1
  rcases hv with ⟨h2,h3⟩ | ⟨h2,h3⟩
  ·exact ⟨h2,λh=>absurd h h1,λ_=>h3⟩
  ·rw [h2] at hy1
   simp at hy1
   exact absurd hy1.symm h1
 ·obtain ⟨q1,q2,q3⟩:=hq
  refine T.lp (λ(p:UInt64 × Int)=>0 <= p.2/\p.2 <= (ds.length:Int)/\p.1=uval (ds.take p.2.toNat)) (λ(p:UInt64 × Int)=>((ds.length:Int) - p.2).toNat) ⟨zIl _,by dsimp only;omega,rfl⟩ (by dsimp only;omega) λL p hp hL=>?_
  obtain ⟨v,k⟩:=p
  obtain ⟨p1,p2,p3⟩:=hp
  dsimp only at p1 p2 p3 ⊢
  rw [q1]
  refine T.br (λh1=>?_) λh1=>?_
  ·have h1:=zOT h1
   refine T.get p1 h1 λy hy=>T.ck (by omega) (hL _ ⟨by dsimp only;omega,by dsimp only;omega,?_⟩ (by dsimp only;omega))
   have e:(k + 1).toNat=k.toNat + 1:=by omega
   dsimp only
   rw [e,List.take_add_one,hy,Option.toList_some,zku,p3]
  ·have h1:=zOF h1
   rw [zTl (by omega)] at p3
   have hn:=zoc ds hd hlen
   rw [<- p3] at hn
   refine T.br (λh2=>?_) λh2=>?_
   ·have h3:=q2 (zOT h2)
    have e:(v - 1).toNat=dval ds - 1:=by
     have e1:(1:UInt64).toNat=1:=rfl
     rw [UInt64.toNat_sub_of_le v 1 (by rw [UInt64.le_iff_toNat_le,e1];omega),e1,hn]
    rw [e]
    exact T.ck (by omega) (T.ck (by omega) (T.ck (by omega) (T.some (by omega))))
   ·have h3:=q3 (zOF h2)
    exact T.ck (by omega) (T.some (by omega))
theorem zkf {l m a P x} (h:Ok l m a P x):T (λr=>Ok l m a P r.2/\(r.2.e=0->x.e=0/\r.2.at_=x.at_ + 1)/\-9223372036854775808 <= r.1/\r.1 <= 9223372036854775807) (zbs x):=by
 unfold zbs
 refine T.cal (zjr 3 (by decide) h) λr _ hr=>T.br (λh2=>T.some ⟨hr.1,λe=>⟨(hr.2.1 e).1,(hr.2.1 e).2.1⟩,by dsimp only;omega,by dsimp only;omega⟩) λh2=>?_
 have h2:=zOF h2
 by_cases he:r.2.e=0
 ·obtain ⟨h3,h4,t,h5,h6,h7⟩:=hr.2.1 he
  refine T.cal (zoi r.1 (by rw [h7];exact (Tk.ok h h5).num h6)) λv _ hv=>T.some ⟨hr.1,λe=>⟨h3,h4⟩,hv⟩
 ·exact absurd (hr.2.2 he) h2
theorem zm6 {l m a P x} (h:Ok l m a P x):T (λr=>Ok l m a P r.2/\(r.2.e=0->x.e=0)) (zb3 x):=by
 unfold zb3
 refine T.cal (zbJ _ h) λr _ hr=>T.jp (λq=>Ok l m a P q.1/\(q.1.e=0->x.e=0)) (λJ k=>T.br (λ_=>T.cal (zkf hr.1) λs _ hs=>k _ ⟨hs.1,λe=>hr.2.1 ▸ (hs.2.1 e).1⟩) λ_=>k _ ⟨hr.1,λe=>hr.2.1 ▸ e⟩) λq hq=>?_
 refine T.jp (λq=>Ok l m a P q.1/\(q.1.e=0->x.e=0)) (λJ k=>T.cal (zbJ _ hq.1) λs _ hs=>T.br (λ_=>T.cal (zbJ _ hs.1) λu _ hu=>T.br (λ_=>T.cal (zkf hu.1) λv _ hv=>k _ ⟨hv.1,λe=>hq.2 (hs.2.1 ▸ hu.2.1 ▸ (hv.2.1 e).1)⟩) λ_=>k _ ⟨hu.1,λe=>hq.2 (hs.2.1 ▸ hu.2.1 ▸ e)⟩) λ_=>T.br (λ_=>k _ ⟨hs.1,λe=>hq.2 (hs.2.1 ▸ e)⟩) λ_=>k _ ⟨hs.1,λe=>hq.2 (hs.2.1 ▸ e)⟩) λq2 hq2=>?_
 refine T.cal (zbJ _ hq2.1) λs _ hs=>T.jp (λq=>Ok l m a P q.1/\(q.1.e=0->x.e=0)) (λJ k=>T.br (λ_=>T.cal (zbU _ hs.1) λu _ hu=>k _ ⟨hu.1,λe=>hq2.2 (hs.2.1 ▸ (hu.2 e).1)⟩) λ_=>k _ ⟨hs.1,λe=>hq2.2 (hs.2.1 ▸ e)⟩) λq3 hq3=>T.some hq3
theorem znn {l m a P x} (h:Ok l m a P x):T (λr=>Ok l m a P r.2/\(r.2.e=0->x.e=0)) (zcc x):=by
 unfold zcc
 refine T.cal (zbJ _ h) λr _ hr=>T.br (λ_=>T.some ⟨hr.1,λe=>hr.2.1 ▸ e⟩) λ_=>?_
 refine T.cal (zbU _ hr.1) λy1 _ h1=>T.cal (zbU _ h1.1) λy2 _ h2=>T.cal (zm6 h2.1) λy3 _ h3=>T.cal (zbU _ h3.1) λy4 _ h4=>T.cal (zbU _ h4.1) λy5 _ h5=>T.some ⟨h5.1,λe=>?_⟩
 exact hr.2.1 ▸ (h1.2 (h2.2 (h3.2 (h4.2 (h5.2 e).1).1)).1).1

def I64 (x:Int):Prop:=-9223372036854775808 <= x/\x <= 9223372036854775807
def IOk (n:GNode):Prop:=(∀ it ∈ n.items,I64 it.number)/\(n.more=true->0 <= n.root/\n.root <= n.items.length)
structure SameN (n n':GNode):Prop where
 kind:n'.kind=n.kind
 fields:n'.fields=n.fields
 of:n'.of=n.of
theorem zs4 {l m a P x} (n:GNode) (h:Ok l m a P x) (hn:n.items=[]) (hm:n.more=false):T (λr=>Ok l m a P r.1/\(r.1.e=0->x.e=0)/\SameN n r.2/\(∀ it ∈ r.2.items,I64 it.number)/\0 <= r.2.root/\r.2.root <= r.2.items.length/\r.2.items.length <= 8001) (zcQ x n):=by
 unfold zcQ
 have hl:=h.toks.len
 refine T.jp (λq=>Ok l m a P q.1/\(q.1.e=0->x.e=0)/\SameN n q.2/\IOk q.2/\q.2.items.length <= 8001) (λJ k=>?_) λq hq=>T.br (λ_=>T.some ⟨hq.1,hq.2.1,⟨hq.2.2.1.kind,hq.2.2.1.fields,hq.2.2.1.of⟩,hq.2.2.2.1.1,by dsimp only;omega,zIl _,hq.2.2.2.2⟩) λhm2=>T.some ⟨hq.1,hq.2.1,hq.2.2.1,hq.2.2.2.1.1,(hq.2.2.2.1.2 (by simpa using hm2)).1,(hq.2.2.2.1.2 (by simpa using hm2)).2,hq.2.2.2.2⟩
 have ha0:=h.a0
 have ha1:=h.a1
 refine T.lp (λ(q:GPar × GNode)=>Ok l m a P q.1/\(q.1.e=0->x.e=0)/\SameN n q.2/\(q.2.items.length:Int) <= q.1.at_/\IOk q.2) (λ(q:GPar × GNode)=>((l.length:Int) - q.1.at_).toNat) ⟨h,λe=>e,⟨rfl,rfl,rfl⟩,by dsimp only;rw [hn];simpa using ha0,by dsimp only;rw [hn];simp,λh=>by dsimp only at h;rw [hm] at h;cases h⟩ (by dsimp only;omega) λL q hq hL=>?_
 obtain ⟨y,n1⟩:=q
 obtain ⟨h1,h2,h3,h4,h5⟩:=hq
 dsimp only at h1 h2 h3 h4 h5 ⊢
 refine T.br (λhe=>?_) λ_=>k _ ⟨h1,h2,h3,h5,by have:=h1.a1;dsimp only;omega⟩
 have he:=zOT he
 refine T.jp (λ_=>True) (λJ2 k2=>T.br (λ_=>k2 _ trivial) λ_=>k2 _ trivial) λb _=>?_
 refine T.jp (λ(q:Bool × GPar)=>Ok l m a P q.2/\q.2.e=y.e/\(q.1=true->q.2.at_=y.at_ + 1)/\(q.1=false->q.2.at_=y.at_)) (λJ3 k3=>T.br (λ_=>T.cal (zbJ _ h1) λr _ hr=>k3 _ ⟨hr.1,hr.2.1,λe=>(hr.2.2.1 e).2,λe=>by rw [hr.2.2.2 e]⟩) λ_=>k3 _ ⟨h1,rfl,(λh=>by cases h),λ_=>rfl⟩) λq3 hq3=>?_
 refine T.jp (λ(q:GPar × GNode)=>Ok l m a P q.1/\(q.1.e=0->q.1.at_ ≥ y.at_ + 1)/\SameN n q.2/\(q.2.items.length:Int) <= y.at_ + 1/\IOk q.2) (λJ4 k4=>T.br (λhb=>k4 _ ⟨hq3.1,λ_=>by dsimp only;rw [hq3.2.2.1 hb];omega,⟨h3.kind,h3.fields,h3.of⟩,by dsimp only;omega,h5.1,λ_=>⟨by dsimp only;omega,zIl _⟩⟩) λhb=>?_) λq4 hq4=>?_
 ·have hq5:=hq3.2.2.2 hb
  refine T.cal (zjr 2 (by decide) hq3.1) λr _ hr=>T.cal (zbJ _ hr.1) λs _ hs=>T.jp (λ(q:GPar × GItem)=>Ok l m a P q.1/\(q.1.e=0->r.2.e=0/\q.1.at_ ≥ r.2.at_)/\I64 q.2.number) (λJ5 k5=>T.br (λhb2=>T.cal (zkf hs.1) λu _ hu=>T.cal (zbU _ hu.1) λw _ hw=>k5 _ ⟨hw.1,λe=>?_,hu.2.2⟩) λhb2=>k5 _ ⟨hs.1,λe=>⟨hs.2.1 ▸ e,by dsimp only;rw [hs.2.2.2 hb2];omega⟩,by unfold I64;dsimp only;omega⟩) λq5 hq5'=>T.abl ?_ (k4 _ ⟨hq5'.1,λe=>?_,⟨h3.kind,h3.fields,h3.of⟩,?_,?_,?_⟩)
  ·have e1:=hw.2 e
   have e2:=hu.2.1 e1.1
   have e3:=hs.2.2.1 hb2
   exact ⟨e3.1,by dsimp only at e ⊢;omega⟩
  ·have h9:=h1.a1
   simp only [zLs];omega
  ·have e1:=hq5'.2.1 e
   have e2:=hr.2.1 e1.1
   dsimp only at e ⊢
   omega
  ·simp only [zLa,zLs];omega
  ·intro it hit
   rcases List.mem_append.1 hit with h | h
   ·exact h5.1 it h
   ·rw [zMo.1 h];exact hq5'.2.2
  ·intro hmo
   have:=h5.2 hmo
   simp only [zLa,zLs]
   omega
 ·refine T.cal (zbJ _ hq4.1) λr _ hr=>T.br (λhb=>k _ ⟨hr.1,λ_=>h2 he,hq4.2.2.1,hq4.2.2.2.2,by have:=h1.a1;have:=hq4.2.2.2.1;dsimp only;omega⟩) λhb=>?_
  have hb:r.1=true:=by simpa using hb
  have e1:=hr.2.2.1 hb
  have e2:=hq4.2.1 e1.1
  have e3:=hr.1.a1
  exact hL _ ⟨hr.1,λ_=>h2 he,hq4.2.2.1,by dsimp only;omega,hq4.2.2.2.2⟩ (by dsimp only;omega)
end Go.Proofs.Q


namespace Go.Proofs.Q
open Go.Sy
set_option linter.unusedVariables false

theorem ztH (s:Str) (hl:s.b.length <= 1000000):T (λr=>r.length <= s.b.length) (zlQ s):=by
 unfold zlQ
 refine T.lp (λ(q:List UInt8 × Int)=>0 <= q.2/\q.2 <= (s.b.length:Int)/\(q.1.length:Int) <= q.2) (λ(q:List UInt8 × Int)=>((s.b.length:Int) - q.2).toNat) ⟨zIl _,by dsimp only;omega,by simp⟩ (by dsimp only;omega) λL q hq hL=>?_
 obtain ⟨o,i⟩:=q
 obtain ⟨h1,h2,h3⟩:=hq
 dsimp only at h1 h2 h3 ⊢
 refine T.ck (by omega) (T.br (λhb=>?_) λ_=>T.some (by omega))
 have hb:=zOT hb
 refine T.lp (λ(p:UInt8 × Int)=>i <= p.2/\p.2 <= i + 2) (λ(p:UInt8 × Int)=>(i + 2 - p.2).toNat) ⟨zIl _,by dsimp only;omega⟩ (by dsimp only;omega) λL2 p hp hL2=>?_
 obtain ⟨v,k⟩:=p
 obtain ⟨h4,h5⟩:=hp
 dsimp only at h4 h5 ⊢
 refine T.ck (by omega) (T.br (λhb2=>?_) λhb2=>?_)
 ·have hb2:=zOT hb2
  refine T.get (by omega) (by omega) λy _=>T.get (by omega) (by omega) λy2 _=>T.jp (λ_=>True) (λJ h6=>T.br (λ_=>T.get (by omega) (by omega) λ_ _=>h6 _ trivial) λ_=>h6 _ trivial) λu _=>T.asr (by decide) (T.ck (by omega) (hL2 _ ⟨by dsimp only;omega,by dsimp only;omega⟩ (by dsimp only;omega)))
 ·refine T.abl ?_ (T.ck (by omega) (hL _ ⟨by dsimp only;omega,by dsimp only;omega,?_⟩ (by dsimp only;omega)))
  ·simp only [zLs];omega
  ·simp only [zLa,zLs];omega

def DOk (v:Val):Prop:=v.b.length <= 8000/\v.l=[]/\v.more=[]/\0 <= v.kind/\v.kind <= 6/\v.rule=0
theorem Tk.eq {x:GPar} {t t':GTok} (h:Tk x t) (h':Tk x t'):t'=t:=by unfold Tk at h h';rw [h] at h';cases h';rfl
theorem zsW {l m a P x} (h:Ok l m a P x):T (λr=>Ok l m a P r.2/\DOk r.1) (zcV x):=by
 unfold zcV
 refine T.cal (ze1 h) λ⟨t,x'⟩ _ ⟨ht,hx⟩=>?_
 subst hx
 dsimp only at ht ⊢
 refine T.jp (λy=>Ok l m a P y) (λJ k=>T.br (λ_=>k _ h) λ_=>?_) λy hy=>T.some ⟨hy,zNz _,rfl,rfl,zOT rfl,zOT rfl,rfl⟩
 refine T.cal (zbJ _ h) λy1 _ h1=>T.br (λ_=>T.some ⟨h1.1,⟨zNz _,rfl,rfl,zOT rfl,zOT rfl,rfl⟩⟩) λb1=>?_
 refine T.cal (zbJ _ h1.1) λy2 _ h2=>T.br (λ_=>T.some ⟨h2.1,⟨zNz _,rfl,rfl,zOT rfl,zOT rfl,rfl⟩⟩) λb2=>?_
 refine T.cal (zbJ _ h2.1) λy3 _ h3=>T.br (λ_=>T.some ⟨h3.1,⟨zNz _,rfl,rfl,zOT rfl,zOT rfl,rfl⟩⟩) λb3=>?_
 have e:y3.2=x':=by rw [h3.2.2.2 b3,h2.2.2.2 b2,h1.2.2.2 b1]
 have htl:=(Tk.ok h ht).len
 have hnx:=zlA h3.1
 rw [e] at hnx
 refine T.br (λhk=>?_) λ_=>T.br (λhk=>?_) λ_=>T.br (λhk=>?_) λ_=>T.br (λhk=>?_) λ_=>?_
 ·rw [e]
  refine T.cal hnx λr _ hr=>T.cal (zoi r.1.text ?_) λv _ _=>T.some ⟨hr.2.1,zNz _,rfl,rfl,zOT rfl,zOT rfl,rfl⟩
  rw [Tk.eq ht hr.1];exact (Tk.ok h ht).num (zOT hk)
 ·rw [e]
  refine T.cal hnx λr _ hr=>T.abl ?_ (T.some ⟨hr.2.1,?_,rfl,rfl,zOT rfl,zOT rfl,rfl⟩)
  ·rw [Tk.eq ht hr.1];omega
  ·have h9:r.1.text.b.length <= 8000:=by rw [Tk.eq ht hr.1];omega
   exact h9
 ·rw [e]
  refine T.cal hnx λr _ hr=>T.cal (ztH r.1.text ?_) λv _ hv=>T.some ⟨hr.2.1,?_,rfl,rfl,zOT rfl,zOT rfl,rfl⟩
  ·rw [Tk.eq ht hr.1];omega
  ·have h9:v.length <= 8000:=by rw [Tk.eq ht hr.1] at hv;omega
   exact h9
 ·rw [e]
  refine T.cal hnx λr _ hr=>T.abl ?_ (T.some ⟨hr.2.1,?_,rfl,rfl,zOT rfl,zOT rfl,rfl⟩)
  ·rw [Tk.eq ht hr.1];omega
  ·have h9:r.1.text.b.length <= 8000:=by rw [Tk.eq ht hr.1];omega
   exact h9
 ·exact T.cal (zfM _ _ h3.1 (by decide)) λy _ hy=>k _ hy.1

def kidsOf (n:GNode):List Int:=if n.kind=11 then [] else n.fields.map (λf=>f.ty) ++ (if n.kind=10 then [n.of] else [])
def Kids (S:Nat->Nat->Prop):List Int->Nat->Nat->Prop
 | [],a,b=>a=b
 | k :: r,a,b=>∃ c,k=(a:Int)/\S a c/\Kids S r c b
def Sub:Nat->List GNode->Nat->Nat->Prop
 | 0,_,_,_=>False
 | h + 1,l,i,j=>∃ n,l[i]?=some n/\Kids (Sub h l) (kidsOf n) (i + 1) j
theorem Kids.le {S:Nat->Nat->Prop} (hS:∀ x y,S x y->x <= y):∀ {r a b},Kids S r a b->a <= b:=by
 intro r
 induction r with
 | nil=>intro a b h;exact Nat.le_of_eq h
 | cons k r ih=>intro a b ⟨c,_,h1,h2⟩;exact Nat.le_trans (hS _ _ h1) (ih h2)
theorem Sub.lt:∀ {h l i j},Sub h l i j->i < j:=by
 intro h
 induction h with
 | zero=>intro l i j h;exact h.elim
 | succ h ih=>intro l i j ⟨n,_,h2⟩;exact Kids.le (λx y h=>Nat.le_of_lt (ih h)) h2
theorem Kids.mono {S S':Nat->Nat->Prop} (hS:∀ x y,S x y->x <= y):∀ {r a b},(∀ x y,a <= x->y <= b->S x y->S' x y)->Kids S r a b->Kids S' r a b:=by
 intro r
 induction r with
 | nil=>intro a b _ h;exact h
 | cons k r ih =>
  intro a b hm ⟨c,h0,h1,h2⟩
  have:=Kids.le hS h2
  exact ⟨c,h0,hm _ _ (zNl _) this h1,ih (λx y hx hy=>hm x y (Nat.le_trans (hS _ _ h1) hx) hy) h2⟩
theorem Kids.snoc {S:Nat->Nat->Prop} {c:Nat}:∀ {r a b},Kids S r a b->S b c->Kids S (r ++ [(b:Int)]) a c:=by
 intro r
 induction r with
 | nil=>intro a b h h2;cases h;exact ⟨c,rfl,h2,rfl⟩
 | cons k r ih=>intro a b ⟨d,h0,h1,h3⟩ h2;exact ⟨d,h0,h1,ih h3 h2⟩
theorem Sub.mono:∀ {h l l' i j},(∀ k,i <= k->k < j->l'[k]?=l[k]?)->Sub h l i j->Sub h l' i j:=by
 intro h
 induction h with
 | zero=>intro l l' i j _ h;exact h
 | succ h ih =>
  intro l l' i j hl hs
  have hlt:=hs.lt
  obtain ⟨n,h1,h2⟩:=hs
  refine ⟨n,by rw [hl i (zNl _) hlt];exact h1,Kids.mono (λx y h=>Nat.le_of_lt h.lt) (λx y hx hy hs=>ih (λk h3 h4=>hl k (by omega) (by omega)) hs) h2⟩
theorem Kids.monoL {h l l' r a b} (hl:∀ k,a <= k->k < b->l'[k]?=l[k]?) (hk:Kids (Sub h l) r a b):Kids (Sub h l') r a b :=
 Kids.mono (λx y h=>Nat.le_of_lt h.lt) (λx y hx hy hs=>hs.mono λk h3 h4=>hl k (by omega) (by omega)) hk
def FOk (n:GNode):Prop:=∀ f ∈ n.fields,DOk f.dflt
structure NodeOk (n:GNode):Prop where
 root0:0 <= n.root
 items:n.kind=3->n.root <= n.items.length
 nums:∀ it ∈ n.items,I64 it.number
 ilen:n.items.length <= 8001
 fields:n.kind=7 \/ n.kind=8 \/ n.kind=9->n.root <= n.fields.length
 dflt:FOk n
 rootZ:n.kind ≠ 3->¬ (n.kind=7 \/ n.kind=8 \/ n.kind=9)->n.root=0
structure Grow (m m':GMod):Prop where
 name:m'.name=m.name
 tagging:m'.tagging=m.tagging
 names:m'.names=m.names
 types:m'.types=m.types
 le:m.nodes.length <= m'.nodes.length
 lim:m'.nodes.length <= 300
 pre:∀ i,i < m.nodes.length->m'.nodes[i]?=m.nodes[i]?
 ok:(∀ n ∈ m.nodes,NodeOk n)->∀ n ∈ m'.nodes,NodeOk n
theorem Grow.refl {m:GMod} (h:m.nodes.length <= 300):Grow m m:=⟨rfl,rfl,rfl,rfl,zNl _,h,λ_ _=>rfl,λh=>h⟩
theorem Grow.trans {m m' m'':GMod} (h:Grow m m') (h':Grow m' m''):Grow m m'' :=
 ⟨h'.name.trans h.name,h'.tagging.trans h.tagging,h'.names.trans h.names,h'.types.trans h.types,Nat.le_trans h.le h'.le,h'.lim,λi hi=>(h'.pre i (Nat.lt_of_lt_of_le hi h.le)).trans (h.pre i hi),λk=>h'.ok (h.ok k)⟩
end Go.Proofs.Q


namespace Go.Proofs.Q
open Go.Sy
set_option linter.unusedVariables false

def NI (n q:GNode):Prop:=q.kind=n.kind/\FOk q/\(q.more=true->0 <= q.root/\q.root <= q.fields.length)
def FX (n r:GNode):Prop:=r.kind=n.kind/\r.more=n.more/\r.root=n.root/\(FOk n->FOk r)
theorem NI.next {n q r:GNode} (h:NI n q) (k:FX q r) (hl:r.fields.length=q.fields.length + 1):NI n r :=
 ⟨k.1.trans h.1,k.2.2.2 h.2.1,λe=>by have:=h.2.2 (k.2.1 ▸ e);rw [k.2.2.1,hl];omega⟩
def TypS (l:List GTok) (f:GPar->Int->Option (Int × GPar)) (D:Nat):Prop:=∀ x m a P (d:Int),Ok l m a P x->m.nodes.length <= 300->0 <= d->d + D=17 ->
 T (λr=>∃ m',Grow m m'/\Ok l m' a (P/\r.1=(m.nodes.length:Int)/\Sub D m'.nodes m.nodes.length m'.nodes.length) r.2) (f x d)
def BaseS (l:List GTok) (f:GPar->GNode->Int->Option (GPar × GNode)) (D:Nat):Prop:=∀ x n m a P (d:Int),Ok l m a P x->m.nodes.length <= 300->0 <= d->d + D=16->n.fields=[]->n.items=[]->n.kind=0->n.more=false->n.root=0 ->
 T (λr=>(∃ m',Grow m m'/\Ok l m' a (P/\Kids (Sub D m'.nodes) (kidsOf r.2) m.nodes.length m'.nodes.length) r.1)/\NodeOk r.2) (f x n d)
def FieldsS (l:List GTok) (f:GPar->GNode->Int->Option (GPar × GNode)) (D:Nat):Prop:=∀ x n m a P (d:Int),Ok l m a P x->m.nodes.length <= 300->0 <= d->d + D=16->n.fields=[]->n.more=false->n.root=0 ->
 T (λr=>(∃ m',Grow m m'/\Ok l m' a (P/\Kids (Sub D m'.nodes) (r.2.fields.map (λf=>f.ty)) m.nodes.length m'.nodes.length) r.1)/\r.2.kind=n.kind/\r.2.items=n.items/\FOk r.2/\0 <= r.2.root/\r.2.root <= r.2.fields.length) (f x n d)
def FieldS (l:List GTok) (f:GPar->GNode->Int->Int->Option (GPar × GNode)) (D:Nat):Prop:=∀ x n m a P (d g:Int) b0,Ok l m a (P/\Kids (Sub D m.nodes) (n.fields.map (λf=>f.ty)) b0 m.nodes.length) x->m.nodes.length <= 300->0 <= d->d + D=16->(n.fields.length:Int) <= x.at_->b0 <= m.nodes.length ->
 T (λr=>(∃ m',Grow m m'/\Ok l m' a (P/\Kids (Sub D m'.nodes) (r.2.fields.map (λf=>f.ty)) b0 m'.nodes.length/\x.at_ + 1 <= r.1.at_) r.1)/\(FX n r.2/\r.2.items=n.items)/\r.2.fields.length=n.fields.length + 1) (f x n d g)

theorem zrn {l F Ty B Fs D} (hT:TypS l Ty D):FieldS l (zcf F Ty B Fs) D:=by
 intro x n m a P d g b0 h hm hd0 hd hn hb
 unfold zcf
 have hl:=h.toks.len
 have ha:=h.a1
 refine T.cal (zjr 2 (by decide) h) λr _ hr=>T.ck (by omega) ?_
 have h1:Ok l m (x.at_ + 1) ((P/\Kids (Sub D m.nodes) (n.fields.map (λf=>f.ty)) b0 m.nodes.length)/\a <= x.at_) r.2:=hr.1.to λe h2 h3=>⟨⟨h2,(h.ok (hr.2.1 e).1).2⟩,by have:=hr.2.1 e;omega⟩
 refine T.cal (hT _ _ _ _ (d + 1) h1 hm (by omega) (by omega)) λs _ ⟨m',hg,hs⟩=>?_
 refine T.jp (λq=>Ok l m' (x.at_ + 1) (((P/\Kids (Sub D m.nodes) (n.fields.map (λf=>f.ty)) b0 m.nodes.length)/\a <= x.at_)/\s.1=(m.nodes.length:Int)/\Sub D m'.nodes m.nodes.length m'.nodes.length) q.2/\q.1.ty=s.1/\DOk q.1.dflt) (λJ k=>?_) λq hq=>?_
 ·refine T.br (λ_=>k _ ⟨hs,rfl,zNz _,rfl,rfl,zOT rfl,zOT rfl,rfl⟩) λ_=>T.cal (zbJ _ hs) λy1 _ e1=>T.br (λ_=>k _ ⟨e1.1,rfl,zNz _,rfl,rfl,zOT rfl,zOT rfl,rfl⟩) λ_=>T.cal (zbJ _ e1.1) λy2 _ e2=>T.br (λ_=>T.cal (zsW e2.1) λy3 _ e3=>k _ ⟨e3.1,rfl,e3.2⟩) λ_=>k _ ⟨e2.1,rfl,zNz _,rfl,rfl,zOT rfl,zOT rfl,rfl⟩
 ·refine T.abl (by simp only [zLs];omega) (T.some ⟨⟨m',hg,hq.1.to λe ⟨⟨⟨p1,p2⟩,p3⟩,p4,p5⟩ p6=>⟨⟨p1,?_,p6⟩,?_⟩⟩,⟨⟨rfl,rfl,rfl,λhf f hf2=>?_⟩,rfl⟩,by simp⟩)
  rotate_left 2
  ·rcases List.mem_append.1 hf2 with h | h
   ·exact hf f h
   ·rw [zMo.1 h];exact hq.2.2
  ·dsimp only
   rw [List.map_append,List.map_singleton,hq.2.1,p4]
   exact (p2.monoL λk hk1 hk2=>hg.pre k hk2).snoc p5
  ·omega

theorem zp5 {l F Ty B Fs D} (hF:FieldS l F D):FieldsS l (zb0 F Ty B Fs) D:=by
 intro x n m a P d h hm hd0 hd hn hnm hnr
 have hni:NI n n:=⟨rfl,by unfold FOk;rw [hn];simp,λh=>by rw [hnm] at h;cases h⟩
 unfold zb0
 have hl:=h.toks.len
 have ha0:=h.a0
 have ha1:=h.a1
 have hk0:Kids (Sub D m.nodes) (n.fields.map (λf=>f.ty)) m.nodes.length m.nodes.length:=by rw [hn];rfl
 refine T.cal (zbJ _ h) λr _ hr=>T.br (λ_=>T.some ⟨⟨m,Grow.refl hm,hr.1.to λe p1 p2=>⟨⟨p1,hk0⟩,p2⟩⟩,rfl,rfl,hni.2.1,by dsimp only;omega,by dsimp only;omega⟩) λhb=>?_
 have hrx:=hr.2.2.2 hb
 -- what holds between
 refine T.jp (λ(q:GPar × GNode)=>(∃ m',Grow m m'/\Ok l m' a (P/\Kids (Sub D m'.nodes) (q.2.fields.map (λf=>f.ty)) m.nodes.length m'.nodes.length) q.1)/\(NI n q.2/\q.2.items=n.items)) (λJ k=>?_) λq ⟨⟨m',hg,hq⟩,hqk⟩=>?_
 ·refine T.lp (λ(q:Int × GPar × GNode)=>((∃ m',Grow m m'/\Ok l m' a (P/\Kids (Sub D m'.nodes) (q.2.2.fields.map (λf=>f.ty)) m.nodes.length m'.nodes.length) q.2.1)/\(NI n q.2.2/\q.2.2.items=n.items))/\0 <= q.1/\q.1 <= q.2.1.at_/\(q.2.2.fields.length:Int) <= q.2.1.at_) (λ(q:Int × GPar × GNode)=>((l.length:Int) - q.2.1.at_).toNat) ⟨⟨⟨m,Grow.refl hm,hr.1.to λe p1 p2=>⟨⟨p1,hk0⟩,p2⟩⟩,⟨hni,rfl⟩⟩,zIl _,by dsimp only;rw [hrx];exact ha0,by dsimp only;rw [hrx,hn];exact ha0⟩ (by dsimp only;rw [hrx];omega) λL q hq hL=>?_
  obtain ⟨g,y,n1⟩:=q
  obtain ⟨⟨⟨m1,hg1,h1⟩,hk1⟩,h2,h3,h4⟩:=hq
  dsimp only at h1 h2 h3 h4 hk1 ⊢
  have hy1:=h1.a1
  refine T.br (λhe=>?_) λ_=>k _ ⟨⟨m1,hg1,h1⟩,hk1⟩
  have he:=zOT he
  refine T.jp (λ(q:Int × GPar × GNode)=>((∃ m',Grow m m'/\Ok l m' a (P/\Kids (Sub D m'.nodes) (q.2.2.fields.map (λf=>f.ty)) m.nodes.length m'.nodes.length) q.2.1)/\(NI n q.2.2/\q.2.2.items=n.items))/\0 <= q.1/\(q.2.1.e=0->q.1 <= q.2.1.at_ + 1/\(q.2.2.fields.length:Int) <= q.2.1.at_ + 1/\y.at_ <= q.2.1.at_)) (λJ2 k2=>?_) λq hq=>?_
  ·refine T.jp (λ(q:Bool × GPar)=>Ok l m1 a (P/\Kids (Sub D m1.nodes) (n1.fields.map (λf=>f.ty)) m.nodes.length m1.nodes.length) q.2/\q.2.at_ ≥ y.at_/\(q.1=false->q.2=y)) (λJ3 k3=>T.br (λ_=>T.cal (zbJ _ h1) λu _ hu=>k3 _ ⟨hu.1,?_,hu.2.2.2⟩) λ_=>k3 _ ⟨h1,zIl _,λ_=>rfl⟩) λq3 hq3=>?_
   ·cases hu1:u.1 with
    | true=>have:=hu.2.2.1 hu1;dsimp only;omega
    | false=>have:=hu.2.2.2 hu1;dsimp only;rw [this];omega
   refine T.br (λ_=>k2 _ ⟨⟨⟨m1,hg1,hq3.1⟩,⟨⟨hk1.1.1,hk1.1.2.1,λ_=>⟨by dsimp only;omega,zIl _⟩⟩,hk1.2⟩⟩,h2,λ_=>⟨by dsimp only;omega,by dsimp only;omega,by dsimp only;omega⟩⟩) λb3=>?_
   have e3:=hq3.2.2 b3
   refine T.jp (λ(q:Bool × GPar)=>Ok l m1 a (P/\Kids (Sub D m1.nodes) (n1.fields.map (λf=>f.ty)) m.nodes.length m1.nodes.length) q.2/\q.2.at_ ≥ y.at_/\(q.1=true->q.2.at_ ≥ y.at_ + 1)/\(q.1=false->q.2=y)) (λJ3 k3=>T.br (λ_=>T.cal (zbJ _ hq3.1) λu _ hu=>k3 _ ⟨hu.1,?_,λhu1=>?_,λhu1=>?_⟩) λ_=>k3 _ ⟨hq3.1,by dsimp only;omega,(λh=>by cases h),λ_=>e3⟩) λq4 hq4=>?_
   ·cases hu1:u.1 with
    | true=>have:=hu.2.2.1 hu1;dsimp only;omega
    | false=>have:=hu.2.2.2 hu1;dsimp only;rw [this];omega
   ·have:=hu.2.2.1 hu1;dsimp only;omega
   ·have:=hu.2.2.2 hu1;dsimp only;rw [this,e3]
   refine T.br (λb4=>T.ck (by omega) ?_) λb4=>?_
   ·have a4:=hq4.2.2.1 b4
    have a5:=hq4.1.a1
    refine T.jp (λ(q:GPar × GNode)=>(∃ m',Grow m m'/\Ok l m' a (P/\Kids (Sub D m'.nodes) (q.2.fields.map (λf=>f.ty)) m.nodes.length m'.nodes.length) q.1)/\(NI n q.2/\q.2.items=n.items)/\(q.1.e=0->(q.2.fields.length:Int) <= q.1.at_ + 1/\q4.2.at_ <= q.1.at_)) (λJ5 k5=>?_) λq ⟨⟨m2,hg2,hq⟩,hqk,hql⟩=>?_
    ·refine T.lp (λ(q:GPar × GNode)=>(∃ m',Grow m m'/\Ok l m' a (P/\Kids (Sub D m'.nodes) (q.2.fields.map (λf=>f.ty)) m.nodes.length m'.nodes.length) q.1)/\(NI n q.2/\q.2.items=n.items)/\(q.2.fields.length:Int) <= q.1.at_/\q4.2.at_ <= q.1.at_) (λ(q:GPar × GNode)=>((l.length:Int) - q.1.at_).toNat) ⟨⟨m1,hg1,hq4.1⟩,hk1,by dsimp only;omega,zIl _⟩ (by have:=hq4.1.a0;dsimp only;omega) λL6 q ⟨⟨m2,hg2,hq⟩,hqk,hql,hqa⟩ hL6=>?_
     refine T.br (λb6=>?_) λ_=>k5 _ ⟨⟨m2,hg2,hq⟩,hqk,λ_=>⟨by dsimp only;omega,hqa⟩⟩
     refine T.cal (hF _ _ _ _ _ _ _ _ hq hg2.lim hd0 hd hql hg2.le) λs _ ⟨⟨m3,hg3,hs⟩,hsk,hsl⟩=>T.cal (zbJ _ hs) λu _ hu=>T.br (λb7=>k5 _ ⟨⟨m3,hg2.trans hg3,hu.1.to λe ⟨p1,p2,p3⟩ p4=>⟨⟨p1,p2⟩,p4⟩⟩,⟨hqk.1.next hsk.1 hsl,hsk.2.trans hqk.2⟩,λe=>?_⟩) λb7=>?_
     ·have b7:u.1=false:=by simpa using b7
      have e7:=hu.2.2.2 b7
      have e8:=(hs.ok (by rw [<- e7];exact e)).1.2.2
      dsimp only
      rw [e7]
      exact ⟨by omega,by omega⟩
     ·have b7:u.1=true:=by simpa using b7
      have e7:=hu.2.2.1 b7
      have e8:=(hs.ok e7.1).1.2.2
      have e9:=hu.1.a1
      exact hL6 _ ⟨⟨m3,hg2.trans hg3,hu.1.to λe ⟨p1,p2,p3⟩ p4=>⟨⟨p1,p2⟩,p4⟩⟩,⟨hqk.1.next hsk.1 hsl,hsk.2.trans hqk.2⟩,by dsimp only;omega,by dsimp only;omega⟩ (by dsimp only;omega)
    ·refine T.cal (zbU _ hq) λw _ hw=>k2 _ ⟨⟨⟨m2,hg2,hw.1⟩,hqk⟩,by dsimp only;omega,λe=>?_⟩
     have e1:=hw.2 e
     have e2:=hql e1.1
     dsimp only
     omega
   ·have e4:=hq4.2.2.2 b4
    refine T.cal (hF _ _ _ _ _ _ (0:Int) _ hq4.1 hg1.lim hd0 hd (by rw [e4];exact h4) hg1.le) λs _ ⟨⟨m3,hg3,hs⟩,hsk,hsl⟩=>k2 _ ⟨⟨⟨m3,hg1.trans hg3,hs.to λe ⟨p1,p2,p3⟩ p4=>⟨⟨p1,p2⟩,p4⟩⟩,⟨hk1.1.next hsk.1 hsl,hsk.2.trans hk1.2⟩⟩,h2,λe=>?_⟩
    have e8:=(hs.ok e).1.2.2
    rw [e4] at e8
    dsimp only
    omega
  ·obtain ⟨⟨⟨m2,hg2,hq1⟩,hqk⟩,hq0,hql⟩:=hq
   refine T.cal (zbJ _ hq1) λu _ hu=>T.br (λb7=>k _ ⟨⟨m2,hg2,hu.1⟩,hqk⟩) λb7=>?_
   have b7:u.1=true:=by simpa using b7
   have e7:=hu.2.2.1 b7
   have e8:=hql e7.1
   have e9:=hu.1.a1
   exact hL _ ⟨⟨⟨m2,hg2,hu.1⟩,hqk⟩,hq0,by dsimp only;omega,by dsimp only;omega⟩ (by dsimp only;omega)
 ·refine T.cal (zbU _ hq) λw _ hw=>T.br (λ_=>T.some ⟨⟨m',hg,hw.1⟩,hqk.1.1,hqk.2,hqk.1.2.1,by dsimp only;omega,zIl _⟩) λhmo=>T.some ⟨⟨m',hg,hw.1⟩,hqk.1.1,hqk.2,hqk.1.2.1,hqk.1.2.2 (by simpa using hmo)⟩
end Go.Proofs.Q


namespace Go.Proofs.Q
open Go.Sy
set_option linter.unusedVariables false

theorem zq4 {n:GNode} (h:n.fields=[]) (hk:n.kind ≠ 10):kidsOf n=[]:=by
 unfold kidsOf;rw [h,if_neg hk];split <;> rfl
theorem znW {n:GNode} (h:n.kind ≠ 11) (hk:n.kind ≠ 10):kidsOf n=n.fields.map (λf=>f.ty):=by
 unfold kidsOf;rw [if_neg h,if_neg hk,List.append_nil]

theorem zs0 {l F Ty B Fs D} (hT:TypS l Ty D) (hF:FieldsS l Fs D):BaseS l (zcv F Ty B Fs) D:=by
 intro x n m a P d h hm hd0 hd hn hi hk hmo hro
 unfold zcv
 have nok:∀ n':GNode,n'.fields=[]->n'.items=[]->n'.root=0->NodeOk n':=λn' h1 h2 h3=>⟨by omega,λ_=>by omega,by rw [h2];simp,by rw [h2];simp,λ_=>by omega,by unfold FOk;rw [h1];simp,λ_ _=>h3⟩
 have leaf0:∀ y n',Ok l m a P y->n'.fields=[]->n'.kind ≠ 10->∃ m',Grow m m'/\Ok l m' a (P/\Kids (Sub D m'.nodes) (kidsOf n') m.nodes.length m'.nodes.length) y:=λy n' hy h1 h2=>⟨m,Grow.refl hm,hy.to λe p1 p2=>⟨⟨p1,by rw [zq4 h1 h2];rfl⟩,p2⟩⟩
 have leaf:∀ y n',Ok l m a P y->n'.fields=[]->n'.items=[]->n'.root=0->n'.kind ≠ 10->(∃ m',Grow m m'/\Ok l m' a (P/\Kids (Sub D m'.nodes) (kidsOf n') m.nodes.length m'.nodes.length) y)/\NodeOk n':=λy n' hy h1 h3 h4 h2=>⟨leaf0 y n' hy h1 h2,nok n' h1 h3 h4⟩
 have leaf2:∀ (r:GPar × GNode) (n0:GNode),((∃ m',Grow m m'/\Ok l m' a (P/\Kids (Sub D m'.nodes) (r.2.fields.map (λf=>f.ty)) m.nodes.length m'.nodes.length) r.1)/\r.2.kind=n0.kind/\r.2.items=n0.items/\FOk r.2/\0 <= r.2.root/\r.2.root <= r.2.fields.length)->n0.items=[]->n0.kind ≠ 11->n0.kind ≠ 10->n0.kind ≠ 3->(n0.kind=7 \/ n0.kind=8 \/ n0.kind=9)->(∃ m',Grow m m'/\Ok l m' a (P/\Kids (Sub D m'.nodes) (kidsOf r.2) m.nodes.length m'.nodes.length) r.1)/\NodeOk r.2:=λr n0 h0 hi0 h1 h2 h3 h4=>by
  obtain ⟨k0,k1,k2,k3,k4,k5⟩:=h0
  rw [<- k1] at h1 h2 h3 h4
  refine ⟨by rw [znW h1 h2];exact k0,k4,λe=>absurd e h3,by rw [k2,hi0];simp,by rw [k2,hi0];simp,λ_=>k5,k3,λ_ e=>absurd h4 e⟩
 refine T.cal (ze1 h) λ⟨t,x'⟩ _ ⟨ht,hx⟩=>?_
 subst hx
 dsimp only at ht ⊢
 refine T.br (λhe=>T.some ⟨⟨m,Grow.refl hm,h.err (by simpa using he)⟩,nok _ hn hi hro⟩) λ_=>?_
 refine T.cal (zbJ _ h) λy1 _ h1=>T.br (λ_=>T.some (leaf _ _ h1.1 hn hi hro (by dsimp only;decide))) λb1=>?_
 refine T.cal (zbJ _ h1.1) λy2 _ h2=>T.br (λ_=>T.some (leaf _ _ h2.1 hn hi hro (by dsimp only;decide))) λb2=>?_
 refine T.cal (zbJ _ h2.1) λy3 _ h3=>T.br (λ_=>T.cal (znn h3.1) λs _ hs=>T.some (leaf _ _ hs.1 hn hi hro (by dsimp only;decide))) λb3=>?_
 refine T.cal (zbJ _ h3.1) λy4 _ h4=>T.br (λ_=>T.cal (zbJ _ h4.1) λs _ hs=>T.br (λ_=>T.cal (zm6 hs.1) λu _ hu=>T.cal (zbU _ hu.1) λw _ hw=>T.some (leaf _ _ hw.1 hn hi hro (by dsimp only;decide))) λ_=>T.some (leaf _ _ hs.1 hn hi hro (by dsimp only;decide))) λb4=>?_
 refine T.cal (zbJ _ h4.1) λy5 _ h5=>T.br (λ_=>T.cal (zbU _ h5.1) λs _ hs=>T.cal (znn hs.1) λu _ hu=>T.some (leaf _ _ hu.1 hn hi hro (by dsimp only;decide))) λb5=>?_
 refine T.cal (zbJ _ h5.1) λy6 _ h6=>T.br (λ_=>T.cal (zbU _ h6.1) λs _ hs=>T.cal (zs4 _ hs.1 hi hmo) λu _ hu=>T.cal (zbU _ hu.1) λw _ hw=>T.some ⟨leaf0 _ _ hw.1 (hu.2.2.1.fields.trans hn) (by rw [hu.2.2.1.kind];dsimp only;decide),hu.2.2.2.2.1,λ_=>hu.2.2.2.2.2.1,hu.2.2.2.1,hu.2.2.2.2.2.2,λe=>by rw [hu.2.2.1.kind] at e;dsimp only at e;omega,by unfold FOk;rw [hu.2.2.1.fields,hn];simp,λe _=>absurd hu.2.2.1.kind e⟩) λb6=>?_
 refine T.cal (zbJ _ h6.1) λy7 _ h7=>T.br (λ_=>T.cal (zbU _ h7.1) λs _ hs=>T.cal (hF _ _ _ _ _ _ hs.1 hm hd0 hd hn hmo hro) λu _ hu=>T.some (leaf2 _ _ hu hi (by dsimp only;decide) (by dsimp only;decide) (by dsimp only;decide) (by dsimp only;decide))) λb7=>?_
 refine T.cal (zbJ _ h7.1) λy8 _ h8=>T.br (λ_=>T.cal (zbU _ h8.1) λs _ hs=>T.cal (hF _ _ _ _ _ _ hs.1 hm hd0 hd hn hmo hro) λu _ hu=>T.some (leaf2 _ _ hu hi (by dsimp only;decide) (by dsimp only;decide) (by dsimp only;decide) (by dsimp only;decide))) λb8=>?_
 refine T.cal (zbJ _ h8.1) λy9 _ h9=>T.br (λ_=>T.cal (zbJ _ h9.1) λs _ hs=>T.br (λ_=>T.cal (hF _ _ _ _ _ _ hs.1 hm hd0 hd hn hmo hro) λu _ hu=>T.some (leaf2 _ _ hu hi (by dsimp only;decide) (by dsimp only;decide) (by dsimp only;decide) (by dsimp only;decide))) λ_=>?_) λb9=>?_
 ·refine T.cal (znn hs.1) λu _ hu=>T.cal (zbU _ hu.1) λw _ hw=>T.ck (by omega) (T.cal (hT _ _ _ _ (d + 1) hw.1 hm (by omega) (by omega)) λv _ ⟨m',hg,hv⟩=>T.some ⟨⟨m',hg,hv.to λe ⟨p1,p2,p3⟩ p4=>⟨⟨p1,?_⟩,p4⟩⟩,nok _ hn hi hro⟩)
  have e:kidsOf (GNode.mk 10 n.name n.mark u.1 n.items n.fields n.root n.more v.1)=[(m.nodes.length:Int)]:=by
   unfold kidsOf;dsimp only;rw [hn,p2];rfl
  dsimp only
  rw [e]
  exact ⟨_,rfl,p3,rfl⟩
 ·refine T.br (λ_=>T.cal (zlA h9.1) λs _ hs=>T.some (leaf _ _ hs.2.1 hn hi hro (by dsimp only;decide))) λ_=>T.cal (zfM _ _ h9.1 (by decide)) λs _ hs=>T.some ⟨⟨m,Grow.refl hm,hs.1.err hs.2⟩,nok _ hn hi hro⟩

theorem zti {l F Ty B Fs D} (hB:∀ D',D=D' + 1->BaseS l B D'):TypS l (zcS F Ty B Fs) D:=by
 intro x m a P d h hm hd0 hd
 unfold zcS
 refine T.br (λhe=>T.some ⟨m,Grow.refl hm,h.err (by simpa using he)⟩) λhe=>?_
 refine T.cal (ze1 h) λ⟨t,x'⟩ _ ⟨ht,hx⟩=>?_
 subst hx
 dsimp only at ht h ⊢
 obtain rfl:=h.ym
 refine T.cal (zry t) λb _ _=>T.br (λ_=>?_) λ_=>?_
 ·refine T.cal (ze1 h) λ⟨t2,x2⟩ _ ⟨_,hx2⟩=>?_
  subst hx2
  exact T.cal (zfM _ _ h (by decide)) λy _ hy=>T.some ⟨_,Grow.refl hm,hy.1.err hy.2⟩
 refine T.jp (λb=>b=false->d <= 16/\x'.m.nodes.length < 300) (λJ k=>T.br (λ_=>k _ λh=>by cases h) λh1=>k _ λh2=>by have:=zOF h1;have:=zOF h2;omega) λb2 hb2=>T.br (λ_=>?_) λhb3=>?_
 ·refine T.cal (ze1 h) λ⟨t2,x2⟩ _ ⟨_,hx2⟩=>?_
  subst hx2
  exact T.cal (zfM _ _ h (by decide)) λy _ hy=>T.some ⟨_,Grow.refl hm,hy.1.err hy.2⟩
 obtain ⟨hd16,hlt⟩:=hb2 hb3
 obtain ⟨D',rfl⟩:∃ D',D=D' + 1:=⟨D - 1,by omega⟩
 refine T.abl (by simp only [zLs];omega) ?_
 have hx1:∀ z,Ok l (GMod.mk x'.m.name x'.m.tagging x'.m.names x'.m.types (x'.m.nodes ++ [z])) a P (GPar.mk x'.l x'.at_ (GMod.mk x'.m.name x'.m.tagging x'.m.names x'.m.types (x'.m.nodes ++ [z])) x'.e x'.p):=λz=>⟨h.toks,h.yl,rfl,h.a0,h.a1,h.ok⟩
 have zok:∀ z:GNode,z.fields=[]/\z.items=[]/\z.root=0->NodeOk z:=λn' ⟨h1,h2,h3⟩=>⟨by omega,λ_=>by omega,by rw [h2];simp,by rw [h2];simp,λ_=>by omega,by unfold FOk;rw [h1];simp,λ_ _=>h3⟩
 have hg1:∀ z,(z.fields=[]/\z.items=[]/\z.root=0)->Grow x'.m (GMod.mk x'.m.name x'.m.tagging x'.m.names x'.m.types (x'.m.nodes ++ [z])):=λz hz0=>⟨rfl,rfl,rfl,rfl,by simp,by simp only [zLa,zLs];omega,λi hi=>List.getElem?_append_left hi,λhk n hn=>by
  rcases List.mem_append.1 hn with h | h
  ·exact hk n h
  ·rw [zMo.1 h];exact zok z hz0⟩
 have hzf:∃ z,GNode.mk (0:Int) (Str.mk []) (GMark.mk false (0:Int) (0:Int)) (GCon.mk false false false false (0:Int) (0:Int)) ([]:(List GItem)) ([]:(List GFld)) (0:Int) false (0:Int)=z/\z.fields=[]/\z.items=[]/\z.kind=0/\z.more=false/\z.root=0:=⟨_,rfl,rfl,rfl,rfl,rfl,rfl⟩
 obtain ⟨z,hz,z1,z2,z3,z4,z5⟩:=hzf
 rw [hz]
 refine T.cal (zbJ _ (hx1 _)) λy1 _ h1=>T.jp (λ(q:GPar × GNode)=>Ok l (GMod.mk x'.m.name x'.m.tagging x'.m.names x'.m.types (x'.m.nodes ++ [z])) a P q.1/\q.2.fields=[]/\q.2.items=[]/\q.2.kind=0/\q.2.more=false/\q.2.root=0) (λJ k=>T.br (λ_=>?_) λ_=>k _ ⟨h1.1,z1,z2,z3,z4,z5⟩) λq ⟨hq,q1,q2,q3,q4,q5⟩=>?_
 ·refine T.cal (ze1 h1.1) λ⟨t2,x2⟩ _ ⟨_,hx2⟩=>?_
  subst hx2
  refine T.cal (zkf h1.1) λu _ hu=>?_
  refine T.jp (λ_=>True) (λJ2 k2=>T.br (λ_=>T.jp (λ_=>True) (λJ3 k3=>T.br (λ_=>k3 _ trivial) λ_=>k3 _ trivial) λ_ _=>k2 _ trivial) λ_=>k2 _ trivial) λb5 _=>?_
  refine T.jp (λy=>Ok l (GMod.mk x'.m.name x'.m.tagging x'.m.names x'.m.types (x'.m.nodes ++ [z])) a P y) (λJ2 k2=>T.br (λ_=>T.cal (zfM _ _ hu.1 (by decide)) λw _ hw=>k2 _ hw.1) λ_=>k2 _ hu.1) λy5 h5=>?_
  refine T.cal (zbU _ h5) λy6 _ h6=>T.cal (zbJ _ h6.1) λy7 _ h7=>T.br (λ_=>k _ ⟨h7.1,rfl,rfl,rfl,rfl,rfl⟩) λ_=>T.cal (zbJ _ h7.1) λy8 _ h8=>T.br (λ_=>k _ ⟨h8.1,rfl,rfl,rfl,rfl,rfl⟩) λ_=>k _ ⟨h8.1,rfl,rfl,rfl,rfl,rfl⟩
 ·refine T.cal (hB D' rfl _ _ _ _ _ _ hq (hg1 z ⟨z1,z2,z5⟩).lim hd0 (by omega) q1 q2 q3 q4 q5) λv _ ⟨⟨m2,hg2,hv⟩,hvo⟩=>T.br (λhe2=>T.some ⟨m2,(hg1 z ⟨z1,z2,z5⟩).trans hg2,hv.err (by simpa using he2)⟩) λhe2=>?_
  have hvm:=hv.ym
  have hle:=hg2.le
  dsimp only at hle
  rw [zLa,zLs] at hle
  rw [hvm]
  refine T.asd (by omega) (T.cal (Q:=λ_=>True) ⟨_,List.getElem?_eq_getElem (by omega),trivial⟩ λw _ _=>T.some ⟨GMod.mk m2.name m2.tagging m2.names m2.types (m2.nodes.set x'.m.nodes.length v.2),?_,⟨hv.toks,hv.yl,rfl,hv.a0,hv.a1,λe=>?_⟩⟩)
  ·have hg3:=(hg1 z ⟨z1,z2,z5⟩).trans hg2
   refine ⟨hg3.name,hg3.tagging,hg3.names,hg3.types,by dsimp only;rw [List.length_set];exact hg3.le,by dsimp only;rw [List.length_set];exact hg3.lim,λi hi=>?_,λhk n hn=>?_⟩
   ·dsimp only
    rw [List.getElem?_set_ne (by omega)]
    exact hg3.pre i hi
   ·rcases List.mem_or_eq_of_mem_set hn with h | h
    ·exact hg3.ok hk n h
    ·rw [h];exact hvo
  ·obtain ⟨⟨p1,p2⟩,p3⟩:=hv.ok e
   dsimp only at p2 ⊢
   rw [zLa,zLs] at p2
   refine ⟨⟨p1,rfl,?_⟩,p3⟩
   rw [List.length_set]
   refine ⟨v.2,by rw [List.getElem?_set_self (by omega)],p2.monoL λk hk1 hk2=>?_⟩
   rw [List.getElem?_set_ne (by omega)]
theorem group (l:List GTok):∀ n,
    (∀ D,4 * D < n->TypS l (za2 n) D)/\(∀ D,4 * (D + 1) < n + 1->BaseS l (zbC n) D)/\(∀ D,4 * (D + 1) < n + 2->FieldsS l (zba n) D)/\(∀ D,4 * (D + 1) < n + 3->FieldS l (zbo n) D):=by
  intro n
  induction n with
  | zero=>exact ⟨λD h=>by omega,λD h=>by omega,λD h=>by omega,λD h=>by omega⟩
  | succ n ih =>
    obtain ⟨i1,i2,i3,i4⟩:=ih
    refine ⟨λD h=>zti (F:=zbo n) (Ty:=za2 n) (B:=zbC n) (Fs:=zba n) λD' e=>i2 D' (by omega),λD h=>zs0 (F:=zbo n) (Ty:=za2 n) (B:=zbC n) (Fs:=zba n) (i1 D (by omega)) (i3 D (by omega)),λD h=>zp5 (F:=zbo n) (Ty:=za2 n) (B:=zbC n) (Fs:=zba n) (i4 D (by omega)),λD h=>zrn (F:=zbo n) (Ty:=za2 n) (B:=zbC n) (Fs:=zba n) (i1 D (by omega))⟩
theorem zu7 (l:List GTok):TypS l (za2 fuel) 17:=(group l fuel).1 17 (by unfold fuel;omega)
end Go.Proofs.Q


namespace Go.Proofs.Q
open Go.Sy
set_option linter.unusedVariables false

structure WF (m:GMod):Prop where
 names:m.names.length <= 40
 types:m.types.length=m.names.length
 nodes:m.nodes.length <= 300
 forest:Kids (Sub 17 m.nodes) m.types 0 m.nodes.length
 ok:∀ n ∈ m.nodes,NodeOk n
theorem WF.empty:WF (GMod.mk (Str.mk []) (0:Int) ([]:(List Str)) ([]:(List Int)) ([]:(List GNode))):=⟨by decide,rfl,by decide,rfl,by simp⟩
structure PInv (l:List GTok) (y:GPar):Prop where
 ok:Ok l y.m 0 (y.m.names.length <= 40/\Kids (Sub 17 y.m.nodes) y.m.types 0 y.m.nodes.length/\(y.m.names.length:Int) <= y.at_) y
 nodes:y.m.nodes.length <= 300
 names:y.m.names.length <= 10000
 types:y.m.types.length=y.m.names.length
 nok:∀ n ∈ y.m.nodes,NodeOk n
theorem PInv.re {l y y'} (h:PInv l y) (hm:y'.m=y.m) (hl:y'.l=y.l) (h0:y.at_ <= y'.at_) (h1:y'.at_ < (l.length:Int)) (he:y'.e=0->y.e=0):PInv l y':=by
 have:=h.ok.a0
 refine ⟨⟨h.ok.toks,hl.trans h.ok.yl,rfl,by omega,h1,λe=>?_⟩,by rw [hm];exact h.nodes,by rw [hm];exact h.names,by rw [hm];exact h.types,by rw [hm];exact h.nok⟩
 have:=h.ok.ok (he e)
 rw [hm]
 exact ⟨⟨this.1.1,this.1.2.1,by omega⟩,by omega⟩

theorem zsI (s:Str):T (λr=>WF r.1) (zeJ s):=by
 unfold zeJ
 refine T.cal (zrk s) λr _ hr=>T.br (λ_=>T.some WF.empty) λhe=>?_
 have he:r.2.2=0:=by simpa using he
 have htk:=hr he
 obtain ⟨ml,le,hle,_,_⟩:=htk.last
 have hll:0 < r.1.length:=by rw [hle];simp
 have hl8:=htk.len
 -- the head: no names yet
 have head:∀ y:GPar,Ok r.1 y.m 0 True y->y.m.names=[]->y.m.types=[]->y.m.nodes=[]->PInv r.1 y:=λy hy h1 h2 h3=>⟨hy.to λe _ p=>⟨⟨by rw [h1];decide,by rw [h2,h3];rfl,by rw [h1];simpa using p⟩,p⟩,by rw [h3];decide,by rw [h1];decide,by rw [h1,h2];rfl,by rw [h3];simp⟩
 have h0:Ok r.1 (GMod.mk (Str.mk []) (0:Int) ([]:(List Str)) ([]:(List Int)) ([]:(List GNode))) 0 True (GPar.mk r.1 (0:Int) (GMod.mk (Str.mk []) (0:Int) ([]:(List Str)) ([]:(List Int)) ([]:(List GNode))) (0:Int) (0:Int)):=⟨htk,rfl,rfl,zIl _,by dsimp only;omega,λ_=>⟨trivial,zIl _⟩⟩
 let Em:GMod->Prop:=λm=>m.names=[]/\m.types=[]/\m.nodes=[]
 have hE:∀ (y:GPar) m (m':GMod),Ok r.1 m 0 True y->Ok r.1 m' 0 True (GPar.mk y.l y.at_ m' y.e y.p):=λy m m' h=>⟨h.toks,h.yl,rfl,h.a0,h.a1,h.ok⟩
 refine T.cal (zjr 1 (by decide) h0) λy1 _ h1=>T.cal (zbU _ (hE _ _ _ h1.1)) λy2 _ h2=>?_
 have hm2:=h2.1.ym
 have e1:=h1.1.ym
 rw [e1] at hm2
 dsimp only at hm2
 refine T.jp (λy=>∃ m,Em m/\Ok r.1 m 0 True y) (λJ k=>?_) λy ⟨m,hem,hy⟩=>?_
 ·have hb:∃ m,Em m/\Ok r.1 m 0 True y2:=⟨y2.m,by rw [hm2];exact ⟨rfl,rfl,rfl⟩,⟨htk,h2.1.yl,rfl,h2.1.a0,h2.1.a1,h2.1.ok⟩⟩
  obtain ⟨m,hem,hb⟩:=hb
  refine T.cal (zbJ _ hb) λy3 _ h3=>T.br (λ_=>T.cal (zbU _ h3.1) λy4 _ h4=>k _ ⟨m,hem,h4.1⟩) λ_=>?_
  refine T.cal (zbJ _ h3.1) λy5 _ h5=>T.br (λ_=>T.cal (zbU _ (hE _ _ _ h5.1)) λy4 _ h4=>k _ ⟨_,by rw [h5.1.ym];exact hem,h4.1⟩) λ_=>?_
  refine T.cal (zbJ _ h5.1) λy6 _ h6=>T.br (λ_=>T.cal (zbU _ (hE _ _ _ h6.1)) λy4 _ h4=>k _ ⟨_,by rw [h6.1.ym];exact hem,h4.1⟩) λ_=>k _ ⟨m,hem,h6.1⟩
 refine T.cal (zbU _ hy) λy3 _ h3=>T.cal (zbU _ h3.1) λy4 _ h4=>?_
 have hstart:PInv r.1 y4:=by
  have e:=h4.1.ym
  exact head y4 ⟨htk,h4.1.yl,rfl,h4.1.a0,h4.1.a1,h4.1.ok⟩ (by rw [e];exact hem.1) (by rw [e];exact hem.2.1) (by rw [e];exact hem.2.2)
 refine T.lp (λy=>PInv r.1 y) (λy=>if y.e=0 then ((r.1.length:Int) - y.at_).toNat + 1 else 0) hstart (by have:=hstart.ok.a0;split <;> omega) λL y hy hL=>?_
 refine T.jp (λ(q:Bool × GPar)=>PInv r.1 q.2/\(q.1=true->y.e=0/\q.2.e=0/\q.2.at_ ≥ y.at_)) (λJ k=>T.br (λhe=>T.cal (zbJ _ hy.ok) λu _ hu=>?_) λ_=>k _ ⟨hy,λh=>by cases h⟩) λq ⟨hq,hqb⟩=>?_
 ·have hge:y.at_ <= u.2.at_:=by
   cases hu1:u.1 with
   | true=>have:=hu.2.2.1 hu1;omega
   | false=>rw [hu.2.2.2 hu1];omega
  refine k _ ⟨hy.re hu.1.ym (hu.1.yl.trans hy.ok.yl.symm) hge hu.1.a1 (λe=>hu.2.1 ▸ e),λhb=>?_⟩
  have hb:u.1=false:=by simpa using hb
  have:=hu.2.2.2 hb
  dsimp only
  rw [this]
  exact ⟨zOT he,zOT he,zIl _⟩
 refine T.br (λhb=>?_) λhb=>?_
 ·obtain ⟨b1,b2,b3⟩:=hqb hb
  refine T.cal (ze1 hq.ok) λ⟨t,x'⟩ _ ⟨ht,hx⟩=>?_
  dsimp only at ht hx ⊢
  subst hx
  have hq1:Ok r.1 q.2.m (q.2.at_ + 0) (q.2.m.names.length <= 40/\Kids (Sub 17 q.2.m.nodes) q.2.m.types 0 q.2.m.nodes.length/\(q.2.m.names.length:Int) <= q.2.at_) q.2:=hq.ok.to λ_ p1 _=>⟨p1,by omega⟩
  refine T.cal (zjr 1 (by decide) hq.ok) λu _ hu=>?_
  have hu1:Ok r.1 q.2.m (q.2.at_ + 1) (q.2.m.names.length <= 40/\Kids (Sub 17 q.2.m.nodes) q.2.m.types 0 q.2.m.nodes.length/\(q.2.m.names.length:Int) <= q.2.at_) u.2:=hu.1.to λe p1 _=>⟨p1,by have:=hu.2.1 e;omega⟩
  refine T.jp (λb=>b=false->u.2.e=0->q.2.m.names.length < 40) (λJ k=>T.br (λhe=>k _ λhb _=>?_) λhe=>k _ λ_ e=>absurd e (zOF he)) λb hb2=>?_
  ·have:=zOF hb
   rw [hu.1.ym] at this
   omega
  refine T.jp (λy5=>Ok r.1 q.2.m (q.2.at_ + 1) (q.2.m.names.length < 40/\Kids (Sub 17 q.2.m.nodes) q.2.m.types 0 q.2.m.nodes.length/\(q.2.m.names.length:Int) <= q.2.at_) y5) (λJ k=>T.br (λ_=>T.cal (zfM _ _ hu1 (by decide)) λw _ hw=>k _ (hw.1.err hw.2)) λhb3=>k _ (hu1.to λe p1 p2=>⟨⟨hb2 hb3 e,p1.2⟩,p2⟩)) λy5 h5=>?_
  refine T.cal (zbU _ h5) λy6 _ h6=>T.cal (zu7 r.1 _ _ _ _ 0 h6.1 hq.nodes (zIl _) rfl) λv _ ⟨m',hg,hv⟩=>?_
  have hvm:=hv.ym
  have hn:=hq.names
  have hn1:m'.names.length <= 9000:=by
   rw [hg.names]
   have h9:=(hq.ok.ok b2).1.2.2
   have:=hq.ok.a1
   omega
  have ht1:m'.types.length=m'.names.length:=by rw [hg.types,hg.names];exact hq.types
  rw [hvm]
  refine T.abl (by simp only [zLs];omega) (T.abl (by simp only [zLs];omega) (hL _ ⟨⟨hv.toks,hv.yl,rfl,hv.a0,hv.a1,λe=>?_⟩,hg.lim,?_,?_,hg.ok hq.nok⟩ ?_))
  ·obtain ⟨⟨⟨p1,p2,p3⟩,p4,p5⟩,p6⟩:=hv.ok e
   dsimp only
   refine ⟨⟨?_,?_,?_⟩,hv.a0⟩
   ·rw [hg.names,zLa,zLs];omega
   ·rw [hg.types,p4]
    exact (p2.monoL λk _ hk=>hg.pre k hk).snoc p5
   ·rw [hg.names,zLa,zLs];omega
  ·dsimp only;rw [zLa,zLs];omega
  ·dsimp only;rw [zLa,zLa,zLs,zLs];omega
  ·dsimp only
   rw [if_pos b1]
   split
   ·rename_i e
    have p6:=(hv.ok e).2
    have:=hv.a1
    omega
   ·omega
 ·refine T.jp (λ(q2:Bool × GPar)=>PInv r.1 q2.2) (λJ k=>T.br (λ_=>T.cal (ze1 hq.ok) λ⟨t,x'⟩ _ ⟨ht,hx⟩=>k _ (by dsimp only at hx ⊢;subst hx;exact hq)) λ_=>k _ hq) λq2 hq2=>?_
  refine T.jp (λ(y5:GPar)=>y5.e=0->PInv r.1 y5) (λJ k=>T.br (λ_=>T.cal (ze1 hq2.ok) λ⟨t,x'⟩ _ ⟨ht,hx⟩=>?_) λ_=>k _ λ_=>hq2) λy5 h5=>?_
  ·dsimp only at hx ⊢
   subst hx
   exact T.cal (zfM _ _ hq2.ok (by decide)) λw _ hw=>k _ λe=>absurd e hw.2
  ·refine T.br (λ_=>T.some WF.empty) λhe=>T.some ?_
   have he:y5.e=0:=by simpa using he
   have h6:=h5 he
   have h7:=(h6.ok.ok he).1
   exact ⟨h7.1,h6.types,h6.nodes,h7.2.1,h6.nok⟩
end Go.Proofs.Q


namespace Go.Proofs.Q
open Go.Sy
set_option maxRecDepth 4000
def ziw (a_m:GMod) (zoP:Str):Option (Int) :=
 lp (ι:=Int) (λL2 q1=>br (decide (q1 < (a_m.names.length:Int))) (cal (getI a_m.names q1) λy5=>br (decide (y5=zoP)) (some (q1)) (ck ((q1 + (1:Int))) <| L2 ((q1 + (1:Int))))) (some ((-1:Int)))) (((0:Int)))

def zgD (a_l:(List Int)) (a_x:Int):Option (Bool) :=
 lp (ι:=Int) (λL2 q1=>br (decide (q1 < (a_l.length:Int))) (cal (getI a_l q1) λy5=>br (decide (y5=a_x)) (some (true)) (ck ((q1 + (1:Int))) <| L2 ((q1 + (1:Int))))) (some (false))) (((0:Int)))

def ze8 (zic:GMod->Int->Int->(List Int)->Option ((List Int) × Bool)) (a_m:GMod) (zk6:Int) (zI:Int) (a_l:(List Int)):Option ((List Int) × Bool) :=
 jp (ι:=Bool) (λJ2=>br (decide (zk6 < (0:Int))) (J2 (true)) (J2 ((decide ((a_m.nodes.length:Int) <= zk6))))) (λq1=>jp (ι:=Bool) (λJ5=>br q1 (J5 (true)) (J5 ((decide ((16:Int) < zI))))) (λq4=>br q4 (some (a_l,false)) (cal (getI a_m.nodes zk6) λy7=>br (decide (y7.kind=(11:Int))) (cal (ziw a_m y7.name) λy9=>br (decide (y9 < (0:Int))) (some (a_l,true)) (cal (zgD a_l y9) λy10=>jp (ι:=(List Int)) (λJ12=>br (!y10) (asr (Nat.ble (a_l.length + ([y9]:(List Int)).length) 68719476736) <| J12 ((a_l ++ ([y9]:(List Int))))) (J12 (a_l))) (λq11=>some (q11,false)))) (lp (ι:=(List Int) × Bool × Int) (λL17 q16=>br (decide (q16.2.2 < (y7.fields.length:Int))) (cal (getI y7.fields q16.2.2) λy28=>ck ((zI + (1:Int))) <| cal (zic a_m y28.ty (zI + (1:Int)) q16.1) λy30=>jp (ι:=Bool) (λJ33=>br q16.2.1 (J33 (true)) (J33 (y30.2))) (λq32=>ck ((q16.2.2 + (1:Int))) <| L17 (y30.1,q32,(q16.2.2 + (1:Int))))) (jp (ι:=(List Int) × Bool) (λJ37=>br (decide (y7.kind=(10:Int))) (ck ((zI + (1:Int))) <| cal (zic a_m y7.of (zI + (1:Int)) q16.1) λy39=>jp (ι:=Bool) (λJ42=>br q16.2.1 (J42 (true)) (J42 (y39.2))) (λq41=>J37 (y39.1,q41))) (J37 (q16.1,q16.2.1))) (λq36=>some (q36.1,q36.2)))) ((a_l,false,(0:Int)))))))
def zlo:Nat->(GMod->Int->Int->(List Int)->Option ((List Int) × Bool))
 | 0=>(λ_ _ _ _=>none)
 | n + 1=>let p:=zlo n;(ze8 p)
def zhl (n:Nat):GMod->Int->Int->(List Int)->Option ((List Int) × Bool):=(zlo n)

def zin (zlY:(List (List Int))) (zgS:Int) (a_to:Int):Option (Bool) :=
 cal (getI zlY zgS) λy2=>asr (Nat.ble (([]:(List Int)).length + y2.length) 68719476736) <| lp (ι:=(List Int) × (List Int)) (λL6 q5=>br (decide ((0:Int) < (q5.2.length:Int))) (cal (getI q5.2 (0:Int)) λy17=>asr (decide (0 <= (1:Int)/\(1:Int) <= (q5.2.length:Int))) <| br (decide (y17=a_to)) (some (true)) (cal (zgD q5.1 y17) λy20=>br (!y20) (asr (Nat.ble (q5.1.length + ([y17]:(List Int)).length) 68719476736) <| cal (getI zlY y17) λy24=>asr (Nat.ble ((q5.2.drop ((1:Int)).toNat).length + y24.length) 68719476736) <| L6 ((q5.1 ++ ([y17]:(List Int))),((q5.2.drop ((1:Int)).toNat) ++ y24))) (L6 (q5.1,(q5.2.drop ((1:Int)).toNat))))) (some (false))) ((([]:(List Int)),(([]:(List Int)) ++ y2)))

def ziq (a_m:GMod):Option ((List Int) × Int × Int) :=
 lp (ι:=Int) (λL2 q1=>br (decide (q1 < (a_m.names.length:Int))) (asr (decide (0 <= (0:Int)/\(0:Int) <= q1/\q1 <= (a_m.names.length:Int))) <| cal (getI a_m.names q1) λy804=>cal (zfs ((a_m.names.take (q1).toNat).drop (0:Int).toNat) y804) λy805=>br y805 (some (([]:(List Int)),q1,(8:Int))) (ck ((q1 + (1:Int))) <| L2 ((q1 + (1:Int))))) (lp (ι:=(List (List Int)) × Int × Int) (λL808 q807=>br (decide (q807.2.2 < (a_m.names.length:Int))) (jp (ι:=(List (List Int)) × Int) (λJ1338=>cal (getI a_m.types q807.2.2) λy1339=>cal (zhl fuel a_m y1339 (0:Int) ([]:(List Int))) λy1341=>asr (Nat.ble (q807.1.length + ([y1341.1]:(List (List Int))).length) 68719476736) <| jp (ι:=Bool) (λJ1347=>br y1341.2 (J1347 ((decide (q807.2.1 < (0:Int))))) (J1347 (false))) (λq1346=>br q1346 (J1338 ((q807.1 ++ ([y1341.1]:(List (List Int)))),q807.2.2)) (J1338 ((q807.1 ++ ([y1341.1]:(List (List Int)))),q807.2.1)))) (λq1337=>ck ((q807.2.2 + (1:Int))) <| L808 (q1337.1,q1337.2,(q807.2.2 + (1:Int))))) (br (decide ((0:Int) <= q807.2.1)) (some (([]:(List Int)),q807.2.1,(9:Int))) (lp (ι:=Int) (λL1351 q1350=>br (decide (q1350 < (a_m.names.length:Int))) (cal (zin q807.1 q1350 q1350) λy1476=>br y1476 (some (([]:(List Int)),q1350,(10:Int))) (ck ((q1350 + (1:Int))) <| L1351 ((q1350 + (1:Int))))) (lp (ι:=(List Int)) (λL1479 q1478=>br (decide ((q1478.length:Int) < (a_m.names.length:Int))) (lp (ι:=Int) (λL1540 q1539=>br (decide (q1539 < (a_m.names.length:Int))) (cal (zgD q1478 q1539) λy1569=>lp (ι:=Bool × Int) (λL1571 q1570=>cal (getI q807.1 q1539) λy1584=>br (decide (q1570.2 < (y1584.length:Int))) (jp (ι:=Bool) (λJ1586=>br q1570.1 (cal (getI q807.1 q1539) λy1588=>cal (getI y1588 q1570.2) λy1589=>cal (zgD q1478 y1589) λy1590=>J1586 (y1590)) (J1586 (false))) (λq1585=>ck ((q1570.2 + (1:Int))) <| L1571 (q1585,(q1570.2 + (1:Int))))) (br q1570.1 (asr (Nat.ble (q1478.length + ([q1539]:(List Int)).length) 68719476736) <| L1479 ((q1478 ++ ([q1539]:(List Int))))) (ck ((q1539 + (1:Int))) <| L1540 ((q1539 + (1:Int)))))) (((!y1569),(0:Int)))) (L1479 (q1478))) (((0:Int)))) (some (q1478,(0:Int),(0:Int)))) ((([]:(List Int)))))) (((0:Int)))))) ((([]:(List (List Int))),(-1:Int),(0:Int))))) (((0:Int)))
end Go.Proofs.Q


namespace Go.Proofs.Q
open Go.Sy
set_option linter.unusedVariables false

theorem T.eqs {β:Type} {o:Option β} {x:β} (h:T (λr=>r=x) o):o=some x:=by
 obtain ⟨r,h1,h2⟩:=h;rw [h1,h2]
section lists
variable {α β:Type} [DecidableEq α] [DecidableEq β]
def add (l:List α) (x:α):List α:=if x ∈ l then l else l ++ [x]
def adds (l xs:List α):List α:=xs.foldl add l
theorem zpy (l:List α):adds l []=l:=rfl
theorem zom (l:List α) (x:α) (xs:List α):adds l (x :: xs)=adds (add l x) xs:=rfl
theorem zmu (l xs ys:List α):adds l (xs ++ ys)=adds (adds l xs) ys:=by unfold adds;rw [List.foldl_append]
theorem zuI {l:List α} {x y:α}:y ∈ add l x ↔ y ∈ l \/ y=x:=by
 unfold add
 split
 ·rename_i h
  exact ⟨.inl,λh2=>h2.elim (λh=>h) λe=>by rw [e];exact h⟩
 ·rw [List.mem_append,zMo]
theorem zp4 {xs:List α}:∀ {l:List α} {y:α},y ∈ adds l xs ↔ y ∈ l \/ y ∈ xs:=by
 induction xs with
 | nil=>intro l y;rw [zpy];simp
 | cons x xs ih=>intro l y;rw [zom,ih,zuI,List.mem_cons,or_assoc]
theorem zss {l:List α} {x:α} (h:l.Nodup):(add l x).Nodup:=by
 unfold add
 split
 ·exact h
 ·rename_i hx
  rw [List.nodup_append]
  exact ⟨h,by simp,λa ha b hb=>by rw [zMo.1 hb];exact λe=>hx (e ▸ ha)⟩
theorem zrs {xs:List α}:∀ {l:List α},l.Nodup->(adds l xs).Nodup:=by
 induction xs with
 | nil=>intro l h;exact h
 | cons x xs ih=>intro l h;rw [zom];exact ih (zss h)
theorem zqU (l:List α) (x:α):(add l x).length <= l.length + 1:=by
 unfold add;split
 ·omega
 ·rw [zLa,zLs];omega
theorem zcP:∀ {a b:List α},a.Nodup->(∀ x ∈ a,x ∈ b)->a.length <= b.length:=by
 intro a
 induction a with
 | nil=>intro b _ _;exact zNz _
 | cons x a ih =>
  intro b hn hs
  rw [List.nodup_cons] at hn
  have hx:=hs x zMs
  have h1:=ih (b:=b.erase x) hn.2 λy hy=>(List.mem_erase_of_ne (λe:y=x=>hn.1 (e ▸ hy))).2 (hs y (zMm _ hy))
  have h2:=List.length_erase_of_mem hx
  have h3:=List.length_pos_of_mem hx
  rw [zLc]
  omega
def nums (n:Nat):List Int:=(List.range n).map (λ(k:Nat)=>(k:Int))
theorem zhw {n:Nat} {x:Int}:x ∈ nums n ↔ 0 <= x/\x < n:=by
 unfold nums
 rw [List.mem_map]
 refine ⟨λ⟨k,hk,e⟩=>?_,λ⟨h1,h2⟩=>⟨x.toNat,List.mem_range.2 (by omega),by omega⟩⟩
 have:=List.mem_range.1 hk
 omega
theorem zfq (n:Nat):(nums n).length=n:=by unfold nums;rw [List.length_map,List.length_range]
theorem zrh (n:Nat):(nums n).Nodup:=by
 unfold nums
 rw [List.Nodup,List.pairwise_map]
 exact List.Pairwise.imp (λ{a b:Nat} (h:a ≠ b) (e:(a:Int)=(b:Int))=>h (by omega)) (List.nodup_range:(List.range n).Nodup)
end lists

/-! ### Places of names -/
def fndFrom:List Str->Str->Int->Int
 | [],_,_=>-1
 | y :: r,s,k=>if y=s then k else fndFrom r s (k + 1)
def fnd (l:List Str) (s:Str):Int:=fndFrom l s 0
theorem zoE:∀ (l:List Str) (s:Str) (k:Int),0 <= k->(fndFrom l s k=-1/\s ∉ l) \/ (k <= fndFrom l s k/\fndFrom l s k < k + l.length/\l[(fndFrom l s k - k).toNat]?=some s/\∀ j:Nat,j < (fndFrom l s k - k).toNat->l[j]? ≠ some s):=by
 intro l
 induction l with
 | nil=>intro s k _;exact .inl ⟨rfl,by simp⟩
 | cons y r ih =>
  intro s k hk
  unfold fndFrom
  by_cases h:y=s
  ·rw [if_pos h]
   right
   refine ⟨zIl _,by simp only [zLc];omega,by rw [h];simp,λj hj=>by omega⟩
  ·rw [if_neg h]
   rcases ih s (k + 1) (by omega) with ⟨h1,h2⟩ | ⟨h1,h2,h3,h4⟩
   ·left
    refine ⟨h1,?_⟩
    rw [List.mem_cons]
    exact λh5=>h5.elim (λe=>h e.symm) h2
   ·right
    have e:(fndFrom r s (k + 1) - k).toNat=(fndFrom r s (k + 1) - (k + 1)).toNat + 1:=by omega
    refine ⟨by omega,by simp only [zLc];omega,by rw [e,List.getElem?_cons_succ];exact h3,λj hj=>?_⟩
    cases j with
    | zero=>simp only [List.getElem?_cons_zero];exact λe=>h (Option.some.inj e)
    | succ j=>rw [List.getElem?_cons_succ];exact h4 j (by omega)
theorem zli (l:List Str) (s:Str):(fnd l s=-1/\s ∉ l) \/ (0 <= fnd l s/\fnd l s < l.length/\l[(fnd l s).toNat]?=some s/\∀ j:Nat,j < (fnd l s).toNat->l[j]? ≠ some s):=by
 have:=zoE l s 0 (zIl _)
 unfold fnd
 simpa using this
def idx (l:List Str) (s:Str):Option Int:=if fnd l s < 0 then none else some (fnd l s)
theorem zso {l:List Str} {s:Str} {c:Int} (h:idx l s=some c):0 <= c/\c < l.length:=by
 unfold idx at h
 split at h
 ·cases h
 cases h
 rcases zli l s with h' | h'
 ·omega
 ·exact ⟨h'.1,h'.2.1⟩
theorem zpB (m:GMod) (s:Str) (hl:m.names.length <= 1000000):ziw m s=some (fnd m.names s):=by
 refine T.eqs ?_
 unfold ziw
 refine T.lp (λ(k:Int)=>0 <= k/\k <= (m.names.length:Int)/\fnd m.names s=fndFrom (m.names.drop k.toNat) s k) (λ(k:Int)=>((m.names.length:Int) - k).toNat) ⟨zIl _,by omega,rfl⟩ (by omega) λL k ⟨h1,h2,h3⟩ hL=>?_
 refine T.br (λhb=>?_) λhb=>T.some ?_
 ·have hb:=zOT hb
  refine T.get h1 hb λy hy=>?_
  have hd:m.names.drop k.toNat=y :: m.names.drop (k.toNat + 1):=by
   rw [List.drop_eq_getElem_cons (by omega)]
   rw [List.getElem?_eq_getElem (by omega)] at hy
   rw [Option.some.inj hy]
  rw [hd] at h3
  unfold fndFrom at h3
  refine T.br (λhe=>T.some ?_) λhe=>T.ck (by omega) (hL _ ⟨by omega,by omega,?_⟩ (by omega))
  ·rw [h3,if_pos (zOT he)]
  ·have e:(k + 1).toNat=k.toNat + 1:=by omega
   rw [h3,if_neg (zOF he),e]
 ·have hb:=zOF hb
  rw [zDn (by omega)] at h3
  exact h3.symm
end Go.Proofs.Q


namespace Go.Proofs.Q
open Go.Sy
set_option linter.unusedVariables false

def nmx (l:List GNode):Nat->Int->List Str
 | 0,_=>[]
 | h + 1,i=>match (if 0 <= i then l[i.toNat]? else none) with
  | none=>[]
  | some n=>if n.kind=11 then [n.name] else (kidsOf n).flatMap (nmx l h)
theorem zmP {l:List GNode} {h:Nat} {i:Nat} {n:GNode} (e:l[i]?=some n):nmx l (h + 1) (i:Int)=if n.kind=11 then [n.name] else (kidsOf n).flatMap (nmx l h):=by
 rw [nmx,if_pos (by omega)]
 have:((i:Int)).toNat=i:=by omega
 rw [this,e]
theorem Kids.append {S:Nat->Nat->Prop} {ys:List Int}:∀ {xs:List Int} {a b:Nat},Kids S (xs ++ ys) a b->∃ c,Kids S xs a c/\Kids S ys c b:=by
 intro xs
 induction xs with
 | nil=>intro a b h;exact ⟨a,rfl,h⟩
 | cons k r ih=>intro a b ⟨c,h0,h1,h2⟩;obtain ⟨d,h3,h4⟩:=ih h2;exact ⟨d,⟨c,h0,h1,h3⟩,h4⟩
theorem Kids.length {h:Nat} {l:List GNode}:∀ {r a b},Kids (Sub h l) r a b->r.length <= b - a:=by
 intro r
 induction r with
 | nil=>intro a b _;exact zNz _
 | cons k r ih =>
  intro a b ⟨c,_,h4,h5⟩
  have:=h4.lt
  have:=ih h5
  have:=Kids.le (λx y h=>Nat.le_of_lt h.lt) h5
  rw [zLc]
  omega
theorem Kids.sub {h:Nat} {l:List GNode}:∀ {r a b},Kids (Sub h l) r a b->∀ i,a <= i->i < b->∃ h' j,h' <= h/\Sub h' l i j/\j <= b:=by
 induction h with
 | zero =>
  intro r a b hk i h1 h2
  cases r with
  | nil=>cases hk;omega
  | cons k r=>obtain ⟨c,_,h,_⟩:=hk;exact h.elim
 | succ h ih =>
  intro r
  induction r with
  | nil=>intro a b hk i h1 h2;cases hk;omega
  | cons k r ihr =>
   intro a b ⟨c,h3,h4,h5⟩ i h1 h2
   have hle:=Kids.le (λx y h=>Nat.le_of_lt h.lt) h5
   rcases Nat.lt_or_ge i c with h6 | h6
   ·rcases Nat.lt_or_ge a i with h7 | h7
    ·obtain ⟨n,h8,h9⟩:=h4
     obtain ⟨h',j,e1,e2,e3⟩:=ih h9 i (by omega) h6
     exact ⟨h',j,by omega,e2,by omega⟩
    ·have:i=a:=by omega
     subst this
     exact ⟨h + 1,c,zNl _,h4,hle⟩
   ·exact ihr h5 i h6 h2

/-! ### The program's walk -/
end Go.Proofs.Q


namespace Go.Proofs.Q
open Go.Sy
set_option linter.unusedVariables false

theorem zrd {α β:Type} {f g:α->List β}:∀ {l:List α},(∀ x ∈ l,f x=g x)->l.flatMap f=l.flatMap g:=by
 intro l
 induction l with
 | nil=>intro _;rfl
 | cons x l ih=>intro h;rw [List.flatMap_cons,List.flatMap_cons,h x zMs,ih λy hy=>h y (zMm _ hy)]
theorem Kids.mem {S:Nat->Nat->Prop} {k:Int}:∀ {r a b},Kids S r a b->k ∈ r->∃ (c d:Nat),k=(c:Int)/\S c d:=by
 intro r
 induction r with
 | nil=>intro a b _ h;cases h
 | cons x r ih =>
  intro a b ⟨c,h1,h2,h3⟩ h
  rcases List.mem_cons.1 h with e | e
  ·exact ⟨a,c,e.trans h1,h2⟩
  ·exact ih h3 e
theorem zuG:∀ {h h' l i j},Sub h l i j->h <= h'->nmx l h' (i:Int)=nmx l h (i:Int):=by
 intro h
 induction h with
 | zero=>intro h' l i j hs;exact hs.elim
 | succ h ih =>
  intro h' l i j ⟨n,h1,h2⟩ hle
  obtain ⟨h'',rfl⟩:∃ h'',h'=h'' + 1:=⟨h' - 1,by omega⟩
  rw [zmP h1,zmP h1]
  split
  ·rfl
  ·refine zrd λk hk=>?_
   obtain ⟨c,d,e1,e2⟩:=h2.mem hk
   rw [e1]
   exact ih e2 (by omega)
theorem zvT {l:List GNode} {h:Nat} {i:Int} (hi:i < 0 \/ (l.length:Int) <= i):nmx l h i=[]:=by
 cases h with
 | zero=>rfl
 | succ h =>
  rw [nmx]
  have:(if 0 <= i then l[i.toNat]? else none)=none:=by
   split
   ·rename_i h0
    exact List.getElem?_eq_none (by omega)
   ·rfl
  rw [this]

theorem WF.at {m:GMod} (w:WF m) {i:Nat} (hi:i < m.nodes.length):∃ h j,h <= 17/\Sub h m.nodes i j/\j <= m.nodes.length:=w.forest.sub i (zNz _) hi
def nms (m:GMod) (node:Int):List Str:=nmx m.nodes 17 node
def uses (m:GMod) (node:Int):List Int:=adds [] ((nms m node).filterMap (idx m.names))
def lost (m:GMod) (node:Int):Bool:=(nms m node).any (λs=>fnd m.names s < 0)
theorem ziv {α:Type} {l:List α} {k:Int} {y:α} (h0:0 <= k) (h:l[k.toNat]?=some y):l.drop k.toNat=y :: l.drop (k + 1).toNat:=by
 have hk:k.toNat < l.length:=by
  rcases Nat.lt_or_ge k.toNat l.length with h1 | h1
  ·exact h1
  ·rw [List.getElem?_eq_none h1] at h;cases h
 have e:(k + 1).toNat=k.toNat + 1:=by omega
 rw [e,List.drop_eq_getElem_cons hk]
 rw [List.getElem?_eq_getElem hk] at h
 rw [Option.some.inj h]
end Go.Proofs.Q


namespace Go.Proofs.Q
open Go.Sy
set_option linter.unusedVariables false

theorem zj3 (l:List Int) (x:Int) (hl:l.length <= 1000000):zgD l x=some (decide (x ∈ l)):=by
 refine T.eqs ?_
 unfold zgD
 refine T.lp (λ(k:Int)=>0 <= k/\k <= (l.length:Int)/\(x ∈ l ↔ x ∈ l.drop k.toNat)) (λ(k:Int)=>((l.length:Int) - k).toNat) ⟨zIl _,by omega,Iff.rfl⟩ (by omega) λL k ⟨h1,h2,h3⟩ hL=>?_
 refine T.br (λhb=>?_) λhb=>T.some ?_
 ·have hb:=zOT hb
  refine T.get h1 hb λy hy=>?_
  rw [ziv h1 hy,List.mem_cons] at h3
  refine T.br (λhe=>T.some (zDT (h3.2 (.inl (zOT he).symm))).symm) λhe=>T.ck (by omega) (hL _ ⟨by omega,by omega,?_⟩ (by omega))
  rw [h3]
  exact ⟨λh=>h.elim (λe=>absurd e.symm (zOF he)) λh=>h,.inr⟩
 ·have hb:=zOF hb
  rw [zDn (by omega)] at h3
  exact (zDF (λh=>by cases h3.1 h)).symm

def UsesS (m:GMod) (f:GMod->Int->Int->List Int->Option (List Int × Bool)) (h:Nat):Prop:=∀ i j (d:Int) acc,Sub h m.nodes i j->j <= m.nodes.length->0 <= d->d + h <= 17->acc.length <= i ->
 T (λr=>r.1=adds acc ((nmx m.nodes h i).filterMap (idx m.names))/\r.2=(nmx m.nodes h i).any (λs=>decide (fnd m.names s < 0))/\r.1.length <= j) (f m i d acc)
theorem zrc {m f h} (w:WF m) (ih:UsesS m f h):UsesS m (ze8 f) (h + 1):=by
 intro i j d acc hs hj hd0 hd hacc
 have hl:=w.nodes
 have hnl:=w.names
 have hij:=hs.lt
 obtain ⟨n,hn,hk⟩:=hs
 unfold ze8
 have hi:i < m.nodes.length:=by omega
 have htn:((i:Int)).toNat=i:=by omega
 refine T.jp (λb=>b=false) (λJ k=>T.br (λhb=>by have:=zOT hb;omega) λ_=>k _ (zDF (by omega))) λb hb=>?_
 subst hb
 refine T.jp (λb=>b=false) (λJ k=>T.br (λhb=>by cases hb) λ_=>k _ (zDF (by omega))) λb hb=>?_
 subst hb
 refine T.br (λhb=>by cases hb) λ_=>?_
 refine T.get (by omega) (by omega) λn' hn'=>?_
 rw [htn,hn] at hn'
 cases hn'
 rw [zmP hn]
 refine T.br (λhr=>?_) λhr=>?_
 ·have hr:=zOT hr
  rw [if_pos hr]
  refine T.eq (zpB _ _ (by omega)) (T.br (λhf=>T.some ⟨?_,?_,by dsimp only;omega⟩) λhf=>T.eq (zj3 _ _ (by omega)) (T.jp (λl=>l=add acc (fnd m.names n.name)) (λJ k=>T.br (λhin=>T.abl (by simp only [zLs];omega) (k _ ?_)) λhin=>k _ ?_) λl hlq=>T.some ⟨?_,?_,?_⟩))
  ·have hf:=zOT hf
   have:idx m.names n.name=none:=by unfold idx;rw [if_pos hf]
   rw [List.filterMap_cons_none this];rfl
  ·rw [List.any_cons,hf];rfl
  ·unfold add;rw [if_neg (by simpa using hin)]
  ·unfold add;rw [if_pos (by simpa using hin)]
  ·have hf:=zOF hf
   have:idx m.names n.name=some (fnd m.names n.name):=by unfold idx;rw [if_neg hf]
   rw [List.filterMap_cons_some this,hlq];rfl
  ·rw [List.any_cons,hf];rfl
  ·have:=zqU acc (fnd m.names n.name)
   dsimp only
   rw [hlq];omega
 ·have hr:=zOF hr
  rw [if_neg hr]
  unfold kidsOf at hk ⊢
  rw [if_neg hr] at hk ⊢
  obtain ⟨c,hk1,hk2⟩:=Kids.append hk
  rw [List.flatMap_append]
  have hc:=Kids.le (λx y h=>Nat.le_of_lt h.lt) hk2
  have hfl:=hk1.length
  rw [List.length_map] at hfl
  refine T.lp (λ(q:List Int × Bool × Int)=>0 <= q.2.2/\q.2.2 <= (n.fields.length:Int)/\∃ e,Kids (Sub h m.nodes) ((n.fields.drop q.2.2.toNat).map (λf=>f.ty)) e c/\i + 1 <= e/\adds q.1 ((((n.fields.drop q.2.2.toNat).map (λf=>f.ty)).flatMap (nmx m.nodes h)).filterMap (idx m.names))=adds acc (((n.fields.map (λf=>f.ty)).flatMap (nmx m.nodes h)).filterMap (idx m.names))/\(q.2.1 || (((n.fields.drop q.2.2.toNat).map (λf=>f.ty)).flatMap (nmx m.nodes h)).any (λs=>decide (fnd m.names s < 0)))=((n.fields.map (λf=>f.ty)).flatMap (nmx m.nodes h)).any (λs=>decide (fnd m.names s < 0))/\q.1.length <= e) (λ(q:List Int × Bool × Int)=>((n.fields.length:Int) - q.2.2).toNat)
   ⟨zIl _,by dsimp only;omega,i + 1,hk1,zNl _,rfl,rfl,by dsimp only;omega⟩ ?_ λL q hq hL=>?_
  ·dsimp only;omega
  ·obtain ⟨a1,b1,k⟩:=q
   obtain ⟨q1,q2,e,q3,q4,q5,q6,q7⟩:=hq
   dsimp only at q1 q2 q3 q5 q6 q7 ⊢
   have he:=Kids.le (λx y h=>Nat.le_of_lt h.lt) q3
   refine T.br (λhb=>?_) λhb=>?_
   ·have hb:=zOT hb
    refine T.get q1 hb λy hy=>?_
    rw [ziv q1 hy,List.map_cons] at q3 q5 q6
    obtain ⟨c1,e1,e2,e3⟩:=q3
    have hc1:=Kids.le (λx y h=>Nat.le_of_lt h.lt) e3
    have:=e2.lt
    rw [List.flatMap_cons,e1] at q5 q6
    rw [List.filterMap_append,zmu] at q5
    rw [List.any_append,<- Bool.or_assoc] at q6
    rw [e1]
    refine T.ck (by omega) (T.cal (ih e c1 (d + 1) a1 e2 (by omega) (by omega) (by omega) q7) λr _ ⟨r1,r2,r3⟩=>T.jp (λb=>b=(b1 || r.2)) (λJ k2=>T.br (λh=>k2 _ (by rw [h];rfl)) λh=>k2 _ (by rw [h];rfl)) λb hb2=>T.ck (by omega) (hL _ ⟨by dsimp only;omega,by dsimp only;omega,c1,e3,by omega,?_,?_,r3⟩ (by dsimp only;omega)))
    ·dsimp only;rw [r1];exact q5
    ·dsimp only;rw [hb2,r2];exact q6
   ·have hb:=zOF hb
    rw [zDn (by omega)] at q3 q5 q6
    cases q3
    have q6':b1=((n.fields.map (λf=>f.ty)).flatMap (nmx m.nodes h)).any (λs=>decide (fnd m.names s < 0)):=by rw [<- q6];simp
    rw [List.filterMap_append,zmu,<- q5,List.any_append,<- q6']
    refine T.jp (λ(q:List Int × Bool)=>q.1=adds a1 (((if n.kind=10 then [n.of] else []).flatMap (nmx m.nodes h)).filterMap (idx m.names))/\q.2=(b1 || ((if n.kind=10 then [n.of] else []).flatMap (nmx m.nodes h)).any (λs=>decide (fnd m.names s < 0)))/\q.1.length <= j) (λJ k2=>T.br (λhl10=>?_) λhl10=>k2 _ ?_) λq hq=>T.some hq
    ·have h10:=zOT hl10
     rw [if_pos h10] at hk2
     obtain ⟨c1,e1,e2,e3⟩:=hk2
     cases e3
     have ih1:=ih c j (d + 1) a1 e2 (by omega) (by omega) (by omega) q7
     rw [<- e1] at ih1
     refine T.ck (by omega) (T.cal ih1 λr _ ⟨r1,r2,r3⟩=>T.jp (λb=>b=(b1 || r.2)) (λJ k3=>T.br (λh=>k3 _ (by rw [h];rfl)) λh=>k3 _ (by rw [h];rfl)) λb hb2=>k2 (r.1,b) ⟨?_,?_,r3⟩)
     ·dsimp only;rw [if_pos h10,r1];simp [zpy]
     ·dsimp only;rw [if_pos h10,hb2,r2];simp
    ·have h10:=zOF hl10
     rw [if_neg h10] at hk2 ⊢
     cases hk2
     exact ⟨rfl,by simp,q7⟩
theorem zsk {m:GMod} (w:WF m):∀ h n,h <= n->UsesS m (zhl n) h:=by
 intro h
 induction h with
 | zero=>intro n _ i j d acc hs;exact hs.elim
 | succ h ih =>
  intro n hn
  obtain ⟨n',rfl⟩:∃ n',n=n' + 1:=⟨n - 1,by omega⟩
  exact zrc w (ih n' (by omega))
theorem zsp {m n i d acc} (hi:i < 0 \/ (m.nodes.length:Int) <= i):zhl (n + 1) m i d acc=some (acc,false):=by
 refine T.eqs ?_
 show T _ (ze8 (zhl n) m i d acc)
 unfold ze8
 refine T.jp (λb=>b=true) (λJ k=>T.br (λ_=>k _ rfl) λhb=>k _ (zDT (by have:=zOF hb;omega))) λb hb=>?_
 subst hb
 refine T.jp (λb=>b=true) (λJ k=>T.br (λ_=>k _ rfl) λhb=>by cases hb) λb hb=>?_
 subst hb
 exact T.br (λ_=>T.some rfl) λhb=>by cases hb
theorem zui {m:GMod} (w:WF m) (node:Int):zhl fuel m node 0 []=some (uses m node,lost m node):=by
 by_cases hi:node < 0 \/ (m.nodes.length:Int) <= node
 ·obtain ⟨f',hf⟩:∃ f',fuel=f' + 1:=⟨fuel - 1,by unfold fuel;omega⟩
  rw [hf,zsp hi]
  unfold uses lost nms
  rw [zvT hi];rfl
 ·obtain ⟨i,rfl⟩:∃ i:Nat,node=(i:Int):=⟨node.toNat,by omega⟩
  obtain ⟨h,j,h1,h2,h3⟩:=w.at (i:=i) (by omega)
  obtain ⟨r,e,r1,r2,r3⟩:=zsk w h fuel (by unfold fuel;omega) i j 0 [] h2 h3 (zIl _) (by omega) (zNz _)
  rw [e]
  unfold uses lost nms
  rw [zuG h2 h1,<- r1,<- r2]
end Go.Proofs.Q


namespace Go.Proofs.Q
open Go.Sy
set_option linter.unusedVariables false

abbrev Gr:=List (List Int)
def Ed (U:Gr) (i j:Int):Prop:=0 <= i/\∃ l,U[i.toNat]?=some l/\j ∈ l
inductive Reach (U:Gr):Int->Int->Prop
 | one {i j}:Ed U i j->Reach U i j
 | tail {i j k}:Reach U i j->Ed U j k->Reach U i k
structure GOk (U:Gr):Prop where
 len:U.length <= 40
 ok:∀ l ∈ U,l.length <= 40/\∀ j ∈ l,0 <= j/\j < U.length
theorem GOk.ed {U i j} (g:GOk U) (h:Ed U i j):0 <= j/\j < U.length:=by
 obtain ⟨_,l,h1,h2⟩:=h
 exact (g.ok l (List.mem_of_getElem? h1)).2 j h2
/-! ### By breadth -/
theorem zse {U} (g:GOk U) {i t:Int} (hi:0 <= i) (hi1:i < U.length):T (λr=>r=true ↔ Reach U i t) (zin U i t):=by
 have hgl:=g.len
 unfold zin
 refine T.get hi hi1 λl hl=>?_
 obtain ⟨hll,hlr⟩:=g.ok l (List.mem_of_getElem? hl)
 have hed:∀ j,Ed U i j ↔ j ∈ l:=λj=>⟨λ⟨_,l',h1,h2⟩=>by rw [hl] at h1;cases h1;exact h2,λh=>⟨hi,l,hl,h⟩⟩
 refine T.abl (by simp only [zLn];omega) ?_
 refine T.lp (λ(q:List Int × List Int)=>q.1.Nodup/\(∀ v ∈ q.1,0 <= v/\v < U.length)/\(∀ v ∈ q.2,Reach U i v)/\(∀ j,Ed U i j->j ∈ q.1 \/ j ∈ q.2)/\(∀ v ∈ q.1,∀ j,Ed U v j->j ∈ q.1 \/ j ∈ q.2)/\t ∉ q.1/\q.2.length <= 40 * (q.1.length + 1)) (λ(q:List Int × List Int)=>(U.length - q.1.length) * 41 + q.2.length)
  ⟨List.nodup_nil,λv h=>(by cases h),λv hv=>.one ((hed v).2 (by simpa using hv)),λj hj=>.inr (by simpa using (hed j).1 hj),λv h=>(by cases h),(by simp),by simp;omega⟩ (by simp;omega) λL q ⟨h1,h2,h3,h4,h5,h6,h7⟩ hL=>?_
 obtain ⟨s,td⟩:=q
 dsimp only at h1 h2 h3 h4 h5 h6 h7 ⊢
 have hsl:s.length <= U.length:=by
  have:=zcP (b:=nums U.length) h1 λx hx=>zhw.2 (h2 x hx)
  rwa [zfq] at this
 refine T.br (λhb=>?_) λhb=>T.some ⟨(λh=>by cases h),λh=>?_⟩
 ·have hb:=zOT hb
  cases td with
  | nil=>simp at hb
  | cons y td =>
   refine T.get (zIl _) hb λy' hy'=>?_
   have hy':y=y':=by simpa using hy'
   subst hy'
   have hyr:=h3 y zMs
   have hy01:0 <= y/\y < U.length:=by
    cases hyr with
    | one e=>exact g.ed e
    | tail _ e=>exact g.ed e
   refine T.asd (by simp only [zLc];omega) (T.br (λhe=>T.some ⟨λ_=>?_,λ_=>rfl⟩) λhe=>?_)
   ·rw [<- zOT he];exact hyr
   have he:=zOF he
   have hdr:(y :: td).drop ((1:Int)).toNat=td:=rfl
   rw [hdr]
   rw [zLc] at h7
   refine T.eq (zj3 s y (by omega)) (T.br (λhn=>T.abl (by simp only [zLs];omega) ?_) λhn=>hL _ ⟨h1,h2,λv hv=>h3 v (zMm _ hv),?_,?_,h6,by dsimp only;omega⟩ (by dsimp only;rw [zLc];omega))
   ·have hys:y ∉ s:=by simpa using hn
    refine T.get hy01.1 hy01.2 λly hly=>?_
    obtain ⟨hyl,hyr2⟩:=g.ok ly (List.mem_of_getElem? hly)
    have hslt:s.length < U.length:=by
     have:=zcP (a:=y :: s) (b:=nums U.length) (List.nodup_cons.2 ⟨hys,h1⟩) λx hx=>zhw.2 (by rcases List.mem_cons.1 hx with e | e;rw [e];exact hy01;exact h2 x e)
     rw [zfq,zLc] at this
     omega
    refine T.abl (by omega) (hL _ ⟨?_,?_,?_,?_,?_,?_,?_⟩ ?_)
    ·dsimp only
     rw [List.nodup_append]
     exact ⟨h1,by simp,λa ha b hb=>by rw [zMo.1 hb];exact λe=>hys (e ▸ ha)⟩
    ·dsimp only
     intro v hv
     rcases List.mem_append.1 hv with e | e
     ·exact h2 v e
     ·rw [zMo.1 e];exact hy01
    ·dsimp only
     intro v hv
     rcases List.mem_append.1 hv with e | e
     ·exact h3 v (zMm _ e)
     ·exact hyr.tail ⟨hy01.1,ly,hly,e⟩
    ·dsimp only
     intro j hj
     rw [List.mem_append,List.mem_append,zMo]
     rcases h4 j hj with e | e
     ·exact .inl (.inl e)
     ·rcases List.mem_cons.1 e with e | e
      ·exact .inl (.inr e)
      ·exact .inr (.inl e)
    ·dsimp only
     intro v hv j hj
     rw [List.mem_append,List.mem_append,zMo]
     rcases List.mem_append.1 hv with e | e
     ·rcases h5 v e j hj with e | e
      ·exact .inl (.inl e)
      ·rcases List.mem_cons.1 e with e | e
       ·exact .inl (.inr e)
       ·exact .inr (.inl e)
     ·rw [zMo.1 e] at hj
      obtain ⟨_,l',e1,e2⟩:=hj
      rw [hly] at e1;cases e1
      exact .inr (.inr e2)
    ·dsimp only
     rw [List.mem_append,zMo]
     exact λh=>h.elim h6 λe=>he e.symm
    ·dsimp only
     rw [zLa,zLa,zLs]
     omega
    ·dsimp only
     rw [zLa,zLa,zLs,zLc]
     omega
   ·have hys:y ∈ s:=by simpa using hn
    intro j hj
    dsimp only
    rcases h4 j hj with e | e
    ·exact .inl e
    ·rcases List.mem_cons.1 e with e | e
     ·rw [e];exact .inl hys
     ·exact .inr e
   ·have hys:y ∈ s:=by simpa using hn
    intro v hv j hj
    dsimp only at hv ⊢
    rcases h5 v hv j hj with e | e
    ·exact .inl e
    ·rcases List.mem_cons.1 e with e | e
     ·rw [e];exact .inl hys
     ·exact .inr e
 ·have hb:=zOF hb
  cases td with
  | cons y td=>simp at hb
  | nil =>
   exfalso
   have key:∀ a b,Reach U a b->a=i->b ∈ s:=by
    intro a b hab
    induction hab with
    | one e=>intro ea;subst ea;simpa using h4 _ e
    | tail _ e ih=>intro ea;simpa using h5 _ (ih ea) _ e
   exact h6 (key _ _ h rfl)

/-! ### One that is ready -/
theorem zoS {U:Gr} (g:GOk U) (hac:∀ i,¬ Reach U i i) (out:List Int) (hl:out.length < U.length):∃ i:Int,0 <= i/\i < U.length/\i ∉ out/\∀ j,Ed U i j->j ∈ out:=by
 refine Classical.byContradiction λhno=>?_
 have hno:∀ i:Int,0 <= i->i < U.length->i ∉ out->∃ j,Ed U i j/\j ∉ out:=by
  intro i h1 h2 h3
  refine Classical.byContradiction λh4=>hno ⟨i,h1,h2,h3,λj hj=>Classical.byContradiction λh5=>h4 ⟨j,hj,h5⟩⟩
 have hst:∃ i:Int,0 <= i/\i < U.length/\i ∉ out:=by
  refine Classical.byContradiction λh=>?_
  have:=zcP (a:=nums U.length) (b:=out) (zrh _) λx hx=>by
   have:=zhw.1 hx
   exact Classical.byContradiction λh2=>h ⟨x,this.1,this.2,h2⟩
  rw [zfq] at this
  omega
 have path:∀ k:Nat,∃ (h:Int) (p:List Int),p.length=k/\(h :: p).Nodup/\(∀ x ∈ h :: p,0 <= x/\x < U.length/\x ∉ out)/\∀ x ∈ p,Reach U x h:=by
  intro k
  induction k with
  | zero =>
   obtain ⟨i,h1,h2,h3⟩:=hst
   exact ⟨i,[],rfl,by simp,λx hx=>by rw [zMo.1 hx];exact ⟨h1,h2,h3⟩,λx hx=>by cases hx⟩
  | succ k ih =>
   obtain ⟨h,p,e1,e2,e3,e4⟩:=ih
   obtain ⟨j,hj1,hj2⟩:=hno h (e3 h zMs).1 (e3 h zMs).2.1 (e3 h zMs).2.2
   have hall:∀ x ∈ h :: p,Reach U x j:=by
    intro x hx
    rcases List.mem_cons.1 hx with e | e
    ·rw [e];exact .one hj1
    ·exact (e4 x e).tail hj1
   refine ⟨j,h :: p,by rw [zLc,e1],List.nodup_cons.2 ⟨λhm=>hac j (hall j hm),e2⟩,λx hx=>?_,hall⟩
   rcases List.mem_cons.1 hx with e | e
   ·rw [e];have:=g.ed hj1;exact ⟨this.1,this.2,hj2⟩
   ·exact e3 x e
 obtain ⟨h,p,e1,e2,e3,_⟩:=path U.length
 have:=zcP (b:=nums U.length) e2 λx hx=>zhw.2 ⟨(e3 x hx).1,(e3 x hx).2.1⟩
 rw [zfq,zLc] at this
 omega
end Go.Proofs.Q


namespace Go.Proofs.Q
open Go.Sy
set_option linter.unusedVariables false

def first (P:Int->Bool):Nat->Int->Option Int
 | 0,_=>none
 | n + 1,k=>if P k then some k else first P n (k + 1)
theorem zja {P:Int->Bool}:∀ {n k},first P n k=none->∀ i,k <= i->i < k + n->P i=false:=by
 intro n
 induction n with
 | zero=>intro k _ i h1 h2;omega
 | succ n ih =>
  intro k h i h1 h2
  unfold first at h
  cases hp:P k with
  | true=>rw [hp] at h;cases h
  | false =>
   rw [hp] at h
   rcases Int.lt_or_le k i with h3 | h3
   ·exact ih h i (by omega) (by omega)
   ·have:i=k:=by omega
    rw [this];exact hp
theorem zq1 {P:Int->Bool}:∀ {n k i},first P n k=some i->k <= i/\i < k + n/\P i=true:=by
 intro n
 induction n with
 | zero=>intro k i h;cases h
 | succ n ih =>
  intro k i h
  unfold first at h
  cases hp:P k with
  | true=>rw [hp] at h;cases h;exact ⟨zIl _,by omega,hp⟩
  | false=>rw [hp] at h;have:=ih h;exact ⟨by omega,by omega,this.2.2⟩
def At (P:Int->Bool) (n:Nat) (k:Int):Prop:=0 <= k/\k <= n/\first P n 0=first P ((n:Int) - k).toNat k
theorem At.zero (P:Int->Bool) (n:Nat):At P n 0:=⟨zIl _,by omega,by simp⟩
theorem At.next {P:Int->Bool} {n:Nat} {k:Int} (h:At P n k) (hk:k < n) (hp:P k=false):At P n (k + 1):=by
 obtain ⟨h1,h2,h3⟩:=h
 have e:((n:Int) - k).toNat=((n:Int) - (k + 1)).toNat + 1:=by omega
 rw [e,first,hp] at h3
 exact ⟨by omega,by omega,h3⟩
theorem At.hit {P:Int->Bool} {n:Nat} {k:Int} (h:At P n k) (hk:k < n) (hp:P k=true):first P n 0=some k:=by
 obtain ⟨h1,h2,h3⟩:=h
 have e:((n:Int) - k).toNat=((n:Int) - (k + 1)).toNat + 1:=by omega
 rw [e,first,hp] at h3
 exact h3
theorem At.miss {P:Int->Bool} {n:Nat} {k:Int} (h:At P n k) (hk:¬ k < n):first P n 0=none:=by
 obtain ⟨h1,h2,h3⟩:=h
 have e:((n:Int) - k).toNat=0:=by omega
 rw [e] at h3
 exact h3

/-! ### What is wrong first -/
/-- What uses what. -/
def gr (m:GMod):Gr:=m.types.map (uses m)
theorem zmq {m:GMod} (w:WF m):(gr m).length=m.names.length:=by unfold gr;rw [List.length_map];exact w.types
theorem zm7 {m:GMod} {t x:Int} (h:x ∈ uses m t):0 <= x/\x < m.names.length:=by
 unfold uses at h
 rcases zp4.1 h with e | e
 ·cases e
 ·obtain ⟨s,_,h2⟩:=List.mem_filterMap.1 e
  exact zso h2
theorem zrO {m:GMod} (w:WF m):GOk (gr m):=by
 refine ⟨by rw [zmq w];exact w.names,λl hl=>?_⟩
 unfold gr at hl
 obtain ⟨t,_,rfl⟩:=List.mem_map.1 hl
 refine ⟨?_,λj hj=>by rw [zmq w];exact zm7 hj⟩
 have:=zcP (a:=uses m t) (b:=nums m.names.length) (zrs List.nodup_nil) λx hx=>zhw.2 (zm7 hx)
 rw [zfq] at this
 have:=w.names
 omega
def twice (m:GMod) (i:Int):Bool:=match m.names[i.toNat]? with | some s=>decide (fnd m.names s < i) | none=>false
def zlK (m:GMod) (i:Int):Bool:=match m.types[i.toNat]? with | some t=>lost m t | none=>false
open Classical in
noncomputable def cycle (m:GMod) (i:Int):Bool:=decide (Reach (gr m) i i)
noncomputable def wr (m:GMod):Int × Int :=
 match first (twice m) m.names.length 0 with
 | some i=>(i,8)
 | none=>match first (zlK m) m.names.length 0 with
  | some i=>(i,9)
  | none=>match first (cycle m) m.names.length 0 with
   | some i=>(i,10)
   | none=>(0,0)
open Classical in
theorem zqm {m:GMod} {b:Bool} {i:Int} (h:b=true ↔ Reach (gr m) i i):cycle m i=b:=by
 unfold cycle
 cases b with
 | true=>exact zDT (h.1 rfl)
 | false=>exact zDF λh2=>by cases h.2 h2
end Go.Proofs.Q


namespace Go.Proofs.Q
open Go.Sy
set_option linter.unusedVariables false

def rdy (U:Gr) (out:List Int) (i:Int):Bool:=decide (i ∉ out) && ((U[i.toNat]?).getD []).all (λj=>decide (j ∈ out))
def topo (U:Gr):Nat->List Int->List Int
 | 0,out=>out
 | k + 1,out=>match first (rdy U out) U.length 0 with
  | some i=>topo U k (out ++ [i])
  | none=>out
noncomputable def ordr (m:GMod):List Int × Int × Int:=if (wr m).2=0 then (topo (gr m) m.names.length [],0,0) else ([],(wr m).1,(wr m).2)
theorem ztz {m:GMod} (w:WF m) (h:(wr m).2=0):∀ i,¬ Reach (gr m) i i:=by
 intro i hr
 have hi:0 <= i/\i < (gr m).length:=by
  cases hr with
  | one e=>exact (zrO w).ed e
  | tail _ e=>exact (zrO w).ed e
 rw [zmq w] at hi
 unfold wr at h
 split at h
 ·cases h
 split at h
 ·cases h
 split at h
 ·cases h
 ·rename_i h3
  have:=zja h3 i hi.1 (by omega)
  have h4:cycle m i=true:=zqm (b:=true) ⟨λ_=>hr,λ_=>rfl⟩
  rw [this] at h4;cases h4
theorem zop {m:GMod} (w:WF m) (h:(wr m).2=0) {out:List Int} (hl:out.length < m.names.length):first (rdy (gr m) out) (gr m).length 0 ≠ none:=by
 intro hn
 obtain ⟨i,h1,h2,h3,h4⟩:=zoS (zrO w) (ztz w h) out (by rw [zmq w];exact hl)
 have:=zja hn i h1 (by omega)
 unfold rdy at this
 rw [zDT h3,Bool.true_and] at this
 have ha:((gr m)[i.toNat]?.getD []).all (λj=>decide (j ∈ out))=true:=by
  rw [List.all_eq_true]
  intro j hj
  rw [List.getElem?_eq_getElem (by omega)] at hj
  exact zDT (h4 j ⟨h1,_,List.getElem?_eq_getElem (by omega),hj⟩)
 rw [this] at ha;cases ha
def Tp (m:GMod) (out:List Int):Prop:=out.length <= m.names.length/\topo (gr m) (m.names.length - out.length) out=topo (gr m) m.names.length []
theorem Tp.nil (m:GMod):Tp m []:=⟨zNz _,rfl⟩
theorem Tp.next {m:GMod} {out:List Int} {i:Int} (h:Tp m out) (hl:out.length < m.names.length) (hf:first (rdy (gr m) out) (gr m).length 0=some i):Tp m (out ++ [i]):=by
 obtain ⟨h1,h2⟩:=h
 have e:m.names.length - out.length=(m.names.length - (out ++ [i]).length) + 1:=by rw [zLa,zLs];omega
 rw [e,topo,hf] at h2
 exact ⟨by rw [zLa,zLs];omega,h2⟩
theorem Tp.done {m:GMod} {out:List Int} (h:Tp m out) (hl:¬ (out.length:Int) < m.names.length):out=topo (gr m) m.names.length []:=by
 obtain ⟨h1,h2⟩:=h
 have e:m.names.length - out.length=0:=by omega
 rw [e] at h2
 exact h2

/-! ### The program's order -/
/-! ### The document's order -/
theorem zur {l:List Str} {k:Int} {s:Str} (h0:0 <= k) (h:l[k.toNat]?=some s):decide (s ∈ (l.take k.toNat).drop (0:Int).toNat)=decide (fnd l s < k):=by
 have e0:(l.take k.toNat).drop (0:Int).toNat=l.take k.toNat:=rfl
 rw [e0]
 rcases zli l s with h1 | ⟨h1,h2,h3,h4⟩
 ·exact absurd (List.mem_of_getElem? h) h1.2
 ·by_cases h5:fnd l s < k
  ·rw [zDT h5]
   refine zDT (List.mem_of_getElem? (i:=(fnd l s).toNat) ?_)
   rw [List.getElem?_take_of_lt (by omega)]
   exact h3
  ·rw [zDF h5]
   refine zDF λhm=>?_
   obtain ⟨j,hj⟩:=List.getElem?_of_mem hm
   rw [List.getElem?_take] at hj
   split at hj
   ·exact h4 j (by omega) hj
   ·cases hj
theorem zsC {m:GMod} (w:WF m):ziq m=some (ordr m):=by
 have hn:=w.names
 have ht:=w.types
 have hgl:=zmq w
 have hgo:=zrO w
 refine T.eqs ?_
 unfold ziq
 refine T.lp (λ(k:Int)=>At (twice m) m.names.length k) (λ(k:Int)=>((m.names.length:Int) - k).toNat) (At.zero _ _) (by omega) λL k hk hL=>?_
 have hk0:=hk.1
 refine T.br (λhb=>?_) λhb=>?_
 ·have hb:=zOT hb
  refine T.asd (by omega) (T.get hk0 hb λs hs=>T.cal (zhY _ s (by rw [zLd,zLt];omega)) λb _ hbq=>?_)
  rw [zur hk0 hs] at hbq
  have e:twice m k=decide (fnd m.names s < k):=by unfold twice;rw [hs]
  refine T.br (λh=>T.some ?_) λh=>T.ck (by omega) (hL _ (hk.next hb (by rw [e,<- hbq];exact h)) (by omega))
  have:wr m=(k,8):=by unfold wr;rw [hk.hit hb (by rw [e,<- hbq];exact h)]
  unfold ordr;rw [this];rfl
 have m1:=hk.miss (zOF hb)
 refine T.lp (λ(q:List (List Int) × Int × Int)=>0 <= q.2.2/\q.2.2 <= (m.names.length:Int)/\(q.1.length:Int)=q.2.2/\q.1 ++ (m.types.drop q.2.2.toNat).map (uses m)=gr m/\((q.2.1 < 0/\At (zlK m) m.names.length q.2.2) \/ (0 <= q.2.1/\first (zlK m) m.names.length 0=some q.2.1))) (λ(q:List (List Int) × Int × Int)=>((m.names.length:Int) - q.2.2).toNat) ⟨zIl _,by dsimp only;omega,rfl,rfl,.inl ⟨by dsimp only;omega,At.zero _ _⟩⟩ (by dsimp only;omega) λL q ⟨h1,h2,h3,h4,h5⟩ hL=>?_
 obtain ⟨U,mi,k⟩:=q
 dsimp only at h1 h2 h3 h4 h5 ⊢
 refine T.br (λhb=>?_) λhb=>?_
 ·have hb:=zOT hb
  obtain ⟨t,htt⟩:∃ t,m.types[k.toNat]?=some t:=⟨_,List.getElem?_eq_getElem (by omega)⟩
  rw [ziv h1 htt,List.map_cons] at h4
  have e:zlK m k=lost m t:=by unfold zlK;rw [htt]
  refine T.jp (λ(q:List (List Int) × Int)=>q.1=U ++ [uses m t]/\((q.2 < 0/\At (zlK m) m.names.length (k + 1)) \/ (0 <= q.2/\first (zlK m) m.names.length 0=some q.2))) (λJ kk=>?_) λq ⟨hq1,hq2⟩=>T.ck (by omega) (hL _ ⟨by dsimp only;omega,by dsimp only;omega,?_,?_,hq2⟩ (by dsimp only;omega))
  ·refine T.get h1 (by omega) λt' ht'=>?_
   rw [htt] at ht';cases ht'
   refine T.eq (zui w t) (T.abl (by simp only [zLs];omega) (T.jp (λb=>b=(lost m t && decide (mi < 0))) (λJ2 k2=>T.br (λh=>k2 _ ?_) λh=>k2 _ ?_) λb hbq=>T.br (λh=>kk _ ⟨rfl,?_⟩) λh=>kk _ ⟨rfl,?_⟩))
   ·dsimp only at h;rw [h];rfl
   ·dsimp only at h;rw [h];rfl
   ·rw [hbq,zBa] at h
    obtain ⟨l1,l2⟩:=h
    have l2:=zOT l2
    rcases h5 with h5 | h5
    ·exact .inr ⟨h1,h5.2.hit hb (by rw [e];exact l1)⟩
    ·omega
   ·rw [hbq,Bool.and_eq_false_iff] at h
    rcases h5 with h5 | h5
    ·refine .inl ⟨h5.1,h5.2.next hb ?_⟩
     rw [e]
     rcases h with h | h
     ·exact h
     ·have:=zOF h
      exact absurd h5.1 this
    ·exact .inr h5
  ·dsimp only;rw [hq1,zLa,zLs];omega
  ·dsimp only;rw [hq1,<- h4];simp
 have hb9:=zOF hb
 rw [zDn (by omega),List.map_nil,List.append_nil] at h4
 subst h4
 refine T.br (λhm=>T.some ?_) λhm=>?_
 ·have hm:=zOT hm
  have m2:=(h5.resolve_left λh=>by omega).2
  have:wr m=(mi,9):=by unfold wr;rw [m1,m2]
  unfold ordr;rw [this];rfl
 have hm:=zOF hm
 have m2:=(h5.resolve_right λh=>by omega).2.miss hb9
 refine T.lp (λ(k:Int)=>At (cycle m) m.names.length k) (λ(k:Int)=>((m.names.length:Int) - k).toNat) (At.zero _ _) (by omega) λL k hk hL=>?_
 have hk0:=hk.1
 refine T.br (λhb=>?_) λhb=>?_
 ·have hb:=zOT hb
  refine T.cal (zse hgo (t:=k) hk0 (by omega)) λb _ hbq=>?_
  have e:=zqm hbq
  refine T.br (λh=>T.some ?_) λh=>T.ck (by omega) (hL _ (hk.next hb (by rw [e];exact h)) (by omega))
  have:wr m=(k,10):=by unfold wr;rw [m1,m2,hk.hit hb (by rw [e];exact h)]
  unfold ordr;rw [this];rfl
 have m3:=hk.miss (zOF hb)
 have hwr:wr m=(0,0):=by unfold wr;rw [m1,m2,m3]
 have he:(wr m).2=0:=by rw [hwr]
 refine T.lp (λ(out:List Int)=>Tp m out) (λ(out:List Int)=>m.names.length - out.length) (Tp.nil m) (by omega) λL out ho hL=>?_
 have hol:=ho.1
 refine T.br (λhb=>?_) λhb=>T.some ?_
 ·have hb:=zOT hb
  have hlt:out.length < m.names.length:=by omega
  refine T.lp (λ(k:Int)=>At (rdy (gr m) out) (gr m).length k) (λ(k:Int)=>((m.names.length:Int) - k).toNat) (At.zero _ _) (by omega) λL2 k hk hL2=>?_
  have hk0:=hk.1
  refine T.br (λhb2=>?_) λhb2=>?_
  ·have hb2:=zOT hb2
   obtain ⟨l,hl⟩:∃ l,(gr m)[k.toNat]?=some l:=⟨_,List.getElem?_eq_getElem (by omega)⟩
   have hll:=(hgo.ok l (List.mem_of_getElem? hl)).1
   have hrd:rdy (gr m) out k=(!decide (k ∈ out) && l.all (λj=>decide (j ∈ out))):=by unfold rdy;rw [hl];simp
   refine T.eq (zj3 out k (by omega)) ?_
   refine T.lp (λ(q:Bool × Int)=>0 <= q.2/\q.2 <= (l.length:Int)/\(q.1 && (l.drop q.2.toNat).all (λj=>decide (j ∈ out)))=rdy (gr m) out k) (λ(q:Bool × Int)=>((l.length:Int) - q.2).toNat) ⟨zIl _,by dsimp only;omega,hrd.symm⟩ (by dsimp only;omega) λL3 q ⟨g1,g2,g3⟩ hL3=>?_
   obtain ⟨b,j⟩:=q
   dsimp only at g1 g2 g3 ⊢
   refine T.get hk0 (by omega) λl' hl'=>?_
   rw [hl] at hl';cases hl'
   refine T.br (λhb3=>?_) λhb3=>?_
   ·have hb3:=zOT hb3
    obtain ⟨x,hx⟩:∃ x,l[j.toNat]?=some x:=⟨_,List.getElem?_eq_getElem (by omega)⟩
    rw [ziv g1 hx,List.all_cons,<- Bool.and_assoc] at g3
    refine T.jp (λc=>c=(b && decide (x ∈ out))) (λJ kk=>T.br (λh=>T.get hk0 (by omega) λl' hl'=>?_) λh=>kk _ (by rw [h];rfl)) λc hc=>T.ck (by omega) (hL3 _ ⟨by dsimp only;omega,by dsimp only;omega,by dsimp only;rw [hc];exact g3⟩ (by dsimp only;omega))
    rw [hl] at hl';cases hl'
    refine T.get g1 hb3 λx' hx'=>?_
    rw [hx] at hx';cases hx'
    exact T.eq (zj3 out x (by omega)) (kk _ (by rw [h];rfl))
   ·have hb3:=zOF hb3
    rw [zDn (by omega),List.all_nil,Bool.and_true] at g3
    refine T.br (λhr=>T.abl (by simp only [zLs];omega) (hL _ (ho.next hlt (hk.hit (by omega) (by rw [<- g3];exact hr))) (by rw [zLa,zLs];omega))) λhr=>T.ck (by omega) (hL2 _ (hk.next (by omega) (by rw [<- g3];exact hr)) (by omega))
  ·have hb2:=zOF hb2
   exact absurd (hk.miss (by omega)) (zop w he hlt)
 ·unfold ordr;rw [if_pos he,ho.done (zOF hb)]
end Go.Proofs.Q


namespace Go.Proofs.Q
open Go.Sy
set_option linter.unusedVariables false

def Good (U:Gr) (out:List Int):Prop:=∀ (k:Nat) (i:Int),out[k]?=some i->0 <= i/\i < U.length/\i ∉ out.take k/\∀ j ∈ (U[i.toNat]?).getD [],j ∈ out.take k
theorem Good.nil (U:Gr):Good U []:=λk i h=>by simp at h
theorem Good.next {U:Gr} {out:List Int} {i:Int} (h:Good U out) (hf:first (rdy U out) U.length 0=some i):Good U (out ++ [i]):=by
 obtain ⟨h1,h2,h3⟩:=zq1 hf
 unfold rdy at h3
 rw [zBa] at h3
 intro k x hk
 rcases Nat.lt_trichotomy k out.length with e | e | e
 ·rw [List.getElem?_append_left e] at hk
  rw [List.take_append_of_le_length (by omega)]
  exact h k x hk
 ·subst e
  rw [List.getElem?_append_right (zNl _)] at hk
  simp at hk
  subst hk
  rw [List.take_append_of_le_length (zNl _),List.take_length]
  exact ⟨h1,by omega,zOT h3.1,λj hj=>zOT (List.all_eq_true.1 h3.2 j hj)⟩
 ·rw [List.getElem?_append_right (by omega),List.getElem?_eq_none (by simp;omega)] at hk
  cases hk
theorem zsu (U:Gr):∀ k out,Good U out->Good U (topo U k out):=by
 intro k
 induction k with
 | zero=>intro out h;exact h
 | succ k ih =>
  intro out h
  unfold topo
  split
  ·rename_i i hi;exact ih _ (h.next hi)
  ·exact h
theorem zsZ {m:GMod} (w:WF m) (h:(wr m).2=0):∀ k out,out.length + k=m.names.length->(topo (gr m) k out).length=m.names.length:=by
 intro k
 induction k with
 | zero=>intro out h;exact h
 | succ k ih =>
  intro out hl
  unfold topo
  split
  ·rename_i i hi;exact ih _ (by rw [zLa,zLs];omega)
  ·rename_i hn;exact absurd hn (zop w h (by omega))
theorem ranks {m:GMod} (w:WF m) (h:(wr m).2=0):∃ rk:Int->Nat,(∀ i,rk i <= m.names.length)/\∀ i j,Ed (gr m) i j->rk j < rk i:=by
 have hl:=zsZ w h m.names.length [] (by simp)
 have hg:=zsu (gr m) m.names.length [] (Good.nil _)
 generalize topo (gr m) m.names.length []=out at hl hg
 have hgl:=zmq w
 have hnd:out.Nodup:=by
  rw [List.nodup_iff_pairwise_ne,List.pairwise_iff_getElem]
  intro i j hi hj hij he
  have h1:=(hg j (out[j]) (List.getElem?_eq_getElem hj)).2.2.1
  refine h1 ?_
  rw [<- he]
  exact List.mem_take_iff_getElem.2 ⟨i,by omega,rfl⟩
 have hsub:∀ x ∈ out,x ∈ nums m.names.length:=λx hx=>by
  obtain ⟨k,hk⟩:=List.mem_iff_getElem?.1 hx
  have:=hg k x hk
  exact zhw.2 ⟨this.1,by omega⟩
 have hall:∀ i:Int,0 <= i->i < m.names.length->i ∈ out:=λi h0 h1=>by
  refine Classical.byContradiction λhno=>?_
  have:=zcP (a:=i :: out) (b:=nums m.names.length) (List.nodup_cons.2 ⟨hno,hnd⟩) (λx hx=>by
   rcases List.mem_cons.1 hx with e | e
   ·rw [e];exact zhw.2 ⟨h0,h1⟩
   ·exact hsub x e)
  rw [zfq,zLc] at this
  omega
 refine ⟨λi=>out.idxOf i,λi=>by rw [<- hl];exact List.idxOf_le_length,λi j ⟨h0,l,h1,h2⟩=>?_⟩
 have hi:i < m.names.length:=by
  have:=(List.getElem?_eq_some_iff.1 h1).1
  omega
 have hio:=hall i h0 hi
 have hlt:=List.idxOf_lt_length_of_mem hio
 have hk:=hg (out.idxOf i) i (by rw [List.getElem?_eq_getElem hlt,List.getElem_idxOf])
 have hj:=hk.2.2.2 j (by rw [h1];exact h2)
 obtain ⟨n,hn,he⟩:=List.mem_take_iff_getElem.1 hj
 have hn2:n < out.length:=by omega
 have:out.idxOf j <= n:=by
  rw [<- he]
  rw [hnd.idxOf_getElem n hn2]
  exact zNl _
 show out.idxOf j < out.idxOf i
 omega
end Go.Proofs.Q


namespace Go.Proofs.Q
open Go.Sy
set_option maxRecDepth 4000
def zaV (a_x:GMk) (a_e:Int):Option (GMk) :=
 br (decide (a_x.e=(0:Int))) (some ((GMk.mk a_x.m a_x.l a_e))) (some (a_x))

def zeQ (zgi:Int):Option (Tag) :=
 br (decide (zgi=(1:Int))) (some ((Tag.mk (0:Int) (1:Int)))) (br (decide (zgi=(2:Int))) (some ((Tag.mk (0:Int) (2:Int)))) (br (decide (zgi=(5:Int))) (some ((Tag.mk (0:Int) (4:Int)))) (br (decide (zgi=(4:Int))) (some ((Tag.mk (0:Int) (5:Int)))) (br (decide (zgi=(3:Int))) (some ((Tag.mk (0:Int) (10:Int)))) (br (decide (zgi=(6:Int))) (some ((Tag.mk (0:Int) (12:Int)))) (jp (ι:=Bool) (λJ3=>br (decide (zgi=(7:Int))) (J3 ((decide (zgi=(7:Int))))) (J3 ((decide (zgi=(10:Int)))))) (λq2=>br q2 (some ((Tag.mk (0:Int) (16:Int)))) (br (decide (zgi=(8:Int))) (some ((Tag.mk (0:Int) (17:Int)))) (some ((Tag.mk (0:Int) (0:Int))))))))))))

def zh6 (a_c:GCon) (zpn:Bool):Option (Int) :=
 br (!a_c.has) (some ((0:Int))) (jp (ι:=Bool) (λJ2=>br a_c.hasLow (J2 (a_c.hasHigh)) (J2 (false))) (λq1=>jp (ι:=Bool) (λJ5=>br q1 (J5 ((decide (a_c.high < a_c.low)))) (J5 (false))) (λq4=>br q4 (some ((11:Int))) (jp (ι:=Bool) (λJ8=>br zpn (jp (ι:=Bool) (λJ11=>br (!a_c.hasLow) (J11 (true)) (J11 ((decide (a_c.low < (0:Int)))))) (λq10=>jp (ι:=Bool) (λJ14=>br q10 (J14 (true)) (J14 ((decide ((70000:Int) < a_c.low))))) (λq13=>jp (ι:=Bool) (λJ17=>br q13 (J17 (true)) (jp (ι:=Bool) (λJ20=>br a_c.hasHigh (jp (ι:=Bool) (λJ23=>br (decide (a_c.high < (0:Int))) (J23 (true)) (J23 ((decide ((70000:Int) < a_c.high))))) (λq22=>J20 (q22))) (J20 (false))) (λq19=>J17 (q19)))) (λq16=>J8 (q16))))) (J8 (false))) (λq7=>br q7 (some ((11:Int))) (some ((0:Int))))))))

def zit (a_l:(List GItem)) (a_v:Int):Option (Bool) :=
 lp (ι:=Int) (λL2 q1=>br (decide (q1 < (a_l.length:Int))) (cal (getI a_l q1) λy9=>jp (ι:=Bool) (λJ11=>br y9.has (cal (getI a_l q1) λy13=>J11 ((decide (y13.number=a_v)))) (J11 (false))) (λq10=>br q10 (some (true)) (ck ((q1 + (1:Int))) <| L2 ((q1 + (1:Int)))))) (some (false))) (((0:Int)))

def zde (a_x:GMk) (a_n_:GNode):Option ((List GItem) × GMk) :=
 lp (ι:=(List GItem) × Int × Int) (λL3 q2=>br (decide (q2.2.2 < a_n_.root)) (cal (getI a_n_.items q2.2.2) λy335=>jp (ι:=Int × GItem) (λJ338=>br (!y335.has) (lp (ι:=Int) (λL340 q339=>asr (decide (0 <= (0:Int)/\(0:Int) <= a_n_.root/\a_n_.root <= (a_n_.items.length:Int))) <| cal (zit ((a_n_.items.take (a_n_.root).toNat).drop (0:Int).toNat) q339) λy346=>br y346 (ck ((q339 + (1:Int))) <| L340 ((q339 + (1:Int)))) (ck ((q339 + (1:Int))) <| J338 ((q339 + (1:Int)),{ y335 with number:=q339 }))) ((q2.2.1))) (J338 (q2.2.1,y335))) (λq337=>asr (Nat.ble (q2.1.length + ([{ q337.2 with has:=false }]:(List GItem)).length) 68719476736) <| ck ((q2.2.2 + (1:Int))) <| L3 ((q2.1 ++ ([{ q337.2 with has:=false }]:(List GItem))),q337.1,(q2.2.2 + (1:Int))))) (lp (ι:=(List GItem) × Int × Bool × Bool × Int) (λL355 q354=>br (decide (q354.2.2.2.2 < (a_n_.items.length:Int))) (cal (getI a_n_.items q354.2.2.2.2) λy558=>jp (ι:=GItem) (λJ561=>br (!y558.has) (lp (ι:=Int × GItem) (λL563 q562=>br (decide (q562.1 < (q354.1.length:Int))) (jp (ι:=GItem) (λJ578=>cal (getI q354.1 q562.1) λy579=>br (decide (y579.number=(9223372036854775807:Int))) (cal (zaV a_x (11:Int)) λy580=>some (([]:(List GItem)),y580)) (jp (ι:=Bool) (λJ584=>br (decide (q562.1=(0:Int))) (J584 (true)) (cal (getI q354.1 q562.1) λy586=>J584 ((decide (q562.2.number <= y586.number))))) (λq583=>br q583 (cal (getI q354.1 q562.1) λy587=>ck ((y587.number + (1:Int))) <| J578 ({ q562.2 with number:=(y587.number + (1:Int)) })) (J578 (q562.2))))) (λq577=>ck ((q562.1 + (1:Int))) <| L563 ((q562.1 + (1:Int)),q577))) (J561 (q562.2))) (((0:Int),{ y558 with number:=(0:Int) }))) (J561 (y558))) (λq560=>jp (ι:=Bool) (λJ592=>br q354.2.2.2.1 (J592 (true)) (jp (ι:=Bool) (λJ595=>br q354.2.2.1 (J595 ((decide (q560.number <= q354.2.1)))) (J595 (false))) (λq594=>J592 (q594)))) (λq591=>asr (Nat.ble (q354.1.length + ([{ q560 with has:=false }]:(List GItem)).length) 68719476736) <| ck ((q354.2.2.2.2 + (1:Int))) <| L355 ((q354.1 ++ ([{ q560 with has:=false }]:(List GItem))),q560.number,true,q591,(q354.2.2.2.2 + (1:Int)))))) (lp (ι:=Bool × Int) (λL602 q601=>br (decide (q601.2 < (q354.1.length:Int))) (lp (ι:=Bool × Int) (λL634 q633=>br (decide (q633.2 < q601.2)) (jp (ι:=Bool) (λJ648=>br q633.1 (J648 (true)) (cal (getI q354.1 q633.2) λy650=>cal (getI q354.1 q601.2) λy651=>J648 ((decide (y650.name=y651.name))))) (λq647=>jp (ι:=Bool) (λJ653=>br q647 (J653 (true)) (cal (getI q354.1 q633.2) λy655=>cal (getI q354.1 q601.2) λy656=>J653 ((decide (y655.number=y656.number))))) (λq652=>ck ((q633.2 + (1:Int))) <| L634 (q652,(q633.2 + (1:Int)))))) (ck ((q601.2 + (1:Int))) <| L602 (q633.1,(q601.2 + (1:Int))))) ((q601.1,(0:Int)))) (jp (ι:=GMk) (λJ661=>br q601.1 (cal (zaV a_x (8:Int)) λy662=>J661 (y662)) (J661 (a_x))) (λq660=>some (q354.1,q660)))) ((q354.2.2.2.1,(0:Int))))) ((q2.1,(0:Int),false,false,a_n_.root)))) ((([]:(List GItem)),(0:Int),(0:Int)))

def zdn (a_c:GCon) (a_v:Int):Option (Bool) :=
 jp (ι:=Bool) (λJ2=>br (!a_c.has) (J2 (true)) (jp (ι:=Bool) (λJ5=>br (!a_c.hasLow) (J5 (true)) (J5 ((decide (a_c.low <= a_v))))) (λq4=>jp (ι:=Bool) (λJ8=>br q4 (jp (ι:=Bool) (λJ11=>br (!a_c.hasHigh) (J11 (true)) (J11 ((decide (a_v <= a_c.high))))) (λq10=>J8 (q10))) (J8 (false))) (λq7=>J2 (q7))))) (λq1=>some (q1))

def zbE (a_s:(List UInt8)):Option (UInt64) :=
 cal (getI a_s (0:Int)) λy1=>cal (getI a_s (1:Int)) λy2=>asr (Nat.ble (8:UInt64).toNat 64) <| cal (getI a_s (2:Int)) λy4=>asr (Nat.ble (16:UInt64).toNat 64) <| cal (getI a_s (3:Int)) λy6=>asr (Nat.ble (24:UInt64).toNat 64) <| cal (getI a_s (4:Int)) λy8=>asr (Nat.ble (32:UInt64).toNat 64) <| cal (getI a_s (5:Int)) λy10=>asr (Nat.ble (40:UInt64).toNat 64) <| cal (getI a_s (6:Int)) λy12=>asr (Nat.ble (48:UInt64).toNat 64) <| cal (getI a_s (7:Int)) λy14=>asr (Nat.ble (56:UInt64).toNat 64) <| some ((((((((y1.toUInt64 ||| (shl64 y2.toUInt64 (8:UInt64).toNat)) ||| (shl64 y4.toUInt64 (16:UInt64).toNat)) ||| (shl64 y6.toUInt64 (24:UInt64).toNat)) ||| (shl64 y8.toUInt64 (32:UInt64).toNat)) ||| (shl64 y10.toUInt64 (40:UInt64).toNat)) ||| (shl64 y12.toUInt64 (48:UInt64).toNat)) ||| (shl64 y14.toUInt64 (56:UInt64).toNat)))

def zcs (a_p:(List UInt8)):Option (Bool) :=
 asr (decide (0 <= (a_p.length:Int)/\(a_p.length:Int) <= (a_p.length:Int))) <| lp (ι:=(List UInt8)) (λL3 q2=>br (decide ((0:Int) < (q2.length:Int))) (cal (getI q2 (0:Int)) λy99=>br (decide (y99 < (128:UInt8))) (asr (decide (0 <= (1:Int)/\(1:Int) <= (q2.length:Int)/\(q2.length:Int) <= (q2.length:Int))) <| jp (ι:=Bool) (λJ102=>br (decide ((8:Int) < (((q2.take ((q2.length:Int)).toNat).drop ((1:Int)).toNat).length:Int))) (cal (zbE ((q2.take ((q2.length:Int)).toNat).drop ((1:Int)).toNat)) λy104=>J102 ((decide ((y104 &&& (9259542123273814144:UInt64))=(0:UInt64))))) (J102 (false))) (λq101=>jp (ι:=(List UInt8)) (λJ106=>br q101 (asr (decide (0 <= (8:Int)/\(8:Int) <= (((q2.take ((q2.length:Int)).toNat).drop ((1:Int)).toNat).length:Int)/\(((q2.take ((q2.length:Int)).toNat).drop ((1:Int)).toNat).length:Int) <= (((q2.take ((q2.length:Int)).toNat).drop ((1:Int)).toNat).length:Int))) <| jp (ι:=Bool) (λJ109=>br (decide ((16:Int) < (((((q2.take ((q2.length:Int)).toNat).drop ((1:Int)).toNat).take ((((q2.take ((q2.length:Int)).toNat).drop ((1:Int)).toNat).length:Int)).toNat).drop ((8:Int)).toNat).length:Int))) (asr (decide (0 <= (8:Int)/\(8:Int) <= (((((q2.take ((q2.length:Int)).toNat).drop ((1:Int)).toNat).take ((((q2.take ((q2.length:Int)).toNat).drop ((1:Int)).toNat).length:Int)).toNat).drop ((8:Int)).toNat).length:Int)/\(((((q2.take ((q2.length:Int)).toNat).drop ((1:Int)).toNat).take ((((q2.take ((q2.length:Int)).toNat).drop ((1:Int)).toNat).length:Int)).toNat).drop ((8:Int)).toNat).length:Int) <= (((((q2.take ((q2.length:Int)).toNat).drop ((1:Int)).toNat).take ((((q2.take ((q2.length:Int)).toNat).drop ((1:Int)).toNat).length:Int)).toNat).drop ((8:Int)).toNat).length:Int))) <| cal (zbE ((((q2.take ((q2.length:Int)).toNat).drop ((1:Int)).toNat).take ((((q2.take ((q2.length:Int)).toNat).drop ((1:Int)).toNat).length:Int)).toNat).drop ((8:Int)).toNat)) λy112=>cal (zbE ((((((q2.take ((q2.length:Int)).toNat).drop ((1:Int)).toNat).take ((((q2.take ((q2.length:Int)).toNat).drop ((1:Int)).toNat).length:Int)).toNat).drop ((8:Int)).toNat).take ((((((q2.take ((q2.length:Int)).toNat).drop ((1:Int)).toNat).take ((((q2.take ((q2.length:Int)).toNat).drop ((1:Int)).toNat).length:Int)).toNat).drop ((8:Int)).toNat).length:Int)).toNat).drop ((8:Int)).toNat)) λy113=>J109 ((decide (((y112 ||| y113) &&& (9259542123273814144:UInt64))=(0:UInt64))))) (J109 (false))) (λq108=>br q108 (asr (decide (0 <= (16:Int)/\(16:Int) <= (((((q2.take ((q2.length:Int)).toNat).drop ((1:Int)).toNat).take ((((q2.take ((q2.length:Int)).toNat).drop ((1:Int)).toNat).length:Int)).toNat).drop ((8:Int)).toNat).length:Int)/\(((((q2.take ((q2.length:Int)).toNat).drop ((1:Int)).toNat).take ((((q2.take ((q2.length:Int)).toNat).drop ((1:Int)).toNat).length:Int)).toNat).drop ((8:Int)).toNat).length:Int) <= (((((q2.take ((q2.length:Int)).toNat).drop ((1:Int)).toNat).take ((((q2.take ((q2.length:Int)).toNat).drop ((1:Int)).toNat).length:Int)).toNat).drop ((8:Int)).toNat).length:Int))) <| lp (ι:=(List UInt8)) (λL116 q115=>jp (ι:=Bool) (λJ129=>br (decide ((32:Int) < (q115.length:Int))) (asr (decide (0 <= (8:Int)/\(8:Int) <= (q115.length:Int)/\(q115.length:Int) <= (q115.length:Int))) <| asr (decide (0 <= (16:Int)/\(16:Int) <= (q115.length:Int)/\(q115.length:Int) <= (q115.length:Int))) <| asr (decide (0 <= (24:Int)/\(24:Int) <= (q115.length:Int)/\(q115.length:Int) <= (q115.length:Int))) <| cal (zbE q115) λy134=>cal (zbE ((q115.take ((q115.length:Int)).toNat).drop ((8:Int)).toNat)) λy135=>cal (zbE ((q115.take ((q115.length:Int)).toNat).drop ((16:Int)).toNat)) λy136=>cal (zbE ((q115.take ((q115.length:Int)).toNat).drop ((24:Int)).toNat)) λy137=>J129 ((decide ((((y134 ||| y135) ||| (y136 ||| y137)) &&& (9259542123273814144:UInt64))=(0:UInt64))))) (J129 (false))) (λq128=>br q128 (asr (decide (0 <= (32:Int)/\(32:Int) <= (q115.length:Int)/\(q115.length:Int) <= (q115.length:Int))) <| L116 (((q115.take ((q115.length:Int)).toNat).drop ((32:Int)).toNat))) (J106 (q115)))) ((((((((q2.take ((q2.length:Int)).toNat).drop ((1:Int)).toNat).take ((((q2.take ((q2.length:Int)).toNat).drop ((1:Int)).toNat).length:Int)).toNat).drop ((8:Int)).toNat).take ((((((q2.take ((q2.length:Int)).toNat).drop ((1:Int)).toNat).take ((((q2.take ((q2.length:Int)).toNat).drop ((1:Int)).toNat).length:Int)).toNat).drop ((8:Int)).toNat).length:Int)).toNat).drop ((16:Int)).toNat)))) (J106 (((((q2.take ((q2.length:Int)).toNat).drop ((1:Int)).toNat).take ((((q2.take ((q2.length:Int)).toNat).drop ((1:Int)).toNat).length:Int)).toNat).drop ((8:Int)).toNat))))) (J106 (((q2.take ((q2.length:Int)).toNat).drop ((1:Int)).toNat)))) (λq105=>L3 (q105)))) (asr (Nat.ble (4:UInt64).toNat 8) <| asr (Nat.blt (shr8 (tab1 y99) (4:UInt64).toNat).toNat 16) <| br (decide ((((tab1 y99) &&& (7:UInt8)).toNat:Int)=(2:Int))) (jp (ι:=Bool) (λJ144=>br (decide ((q2.length:Int) < (2:Int))) (J144 (true)) (cal (getI q2 (1:Int)) λy146=>J144 ((decide (y146 < (tab2 (shr8 (tab1 y99) (4:UInt64).toNat)).lo))))) (λq143=>jp (ι:=Bool) (λJ148=>br q143 (J148 (true)) (cal (getI q2 (1:Int)) λy150=>J148 ((decide ((tab2 (shr8 (tab1 y99) (4:UInt64).toNat)).hi < y150))))) (λq147=>br q147 (some (false)) (asr (decide (0 <= (2:Int)/\(2:Int) <= (q2.length:Int)/\(q2.length:Int) <= (q2.length:Int))) <| L3 (((q2.take ((q2.length:Int)).toNat).drop ((2:Int)).toNat)))))) (br (decide ((((tab1 y99) &&& (7:UInt8)).toNat:Int)=(3:Int))) (jp (ι:=Bool) (λJ153=>br (decide ((q2.length:Int) < (3:Int))) (J153 (true)) (cal (getI q2 (1:Int)) λy155=>J153 ((decide (y155 < (tab2 (shr8 (tab1 y99) (4:UInt64).toNat)).lo))))) (λq152=>jp (ι:=Bool) (λJ157=>br q152 (J157 (true)) (cal (getI q2 (1:Int)) λy159=>J157 ((decide ((tab2 (shr8 (tab1 y99) (4:UInt64).toNat)).hi < y159))))) (λq156=>jp (ι:=Bool) (λJ161=>br q156 (J161 (true)) (cal (getI q2 (2:Int)) λy163=>J161 ((decide (y163 < (128:UInt8)))))) (λq160=>jp (ι:=Bool) (λJ165=>br q160 (J165 (true)) (cal (getI q2 (2:Int)) λy167=>J165 ((decide ((191:UInt8) < y167))))) (λq164=>br q164 (some (false)) (asr (decide (0 <= (3:Int)/\(3:Int) <= (q2.length:Int)/\(q2.length:Int) <= (q2.length:Int))) <| L3 (((q2.take ((q2.length:Int)).toNat).drop ((3:Int)).toNat)))))))) (br (decide ((((tab1 y99) &&& (7:UInt8)).toNat:Int)=(4:Int))) (jp (ι:=Bool) (λJ170=>br (decide ((q2.length:Int) < (4:Int))) (J170 (true)) (cal (getI q2 (1:Int)) λy172=>J170 ((decide (y172 < (tab2 (shr8 (tab1 y99) (4:UInt64).toNat)).lo))))) (λq169=>jp (ι:=Bool) (λJ174=>br q169 (J174 (true)) (cal (getI q2 (1:Int)) λy176=>J174 ((decide ((tab2 (shr8 (tab1 y99) (4:UInt64).toNat)).hi < y176))))) (λq173=>jp (ι:=Bool) (λJ178=>br q173 (J178 (true)) (cal (getI q2 (2:Int)) λy180=>J178 ((decide (y180 < (128:UInt8)))))) (λq177=>jp (ι:=Bool) (λJ182=>br q177 (J182 (true)) (cal (getI q2 (2:Int)) λy184=>J182 ((decide ((191:UInt8) < y184))))) (λq181=>jp (ι:=Bool) (λJ186=>br q181 (J186 (true)) (cal (getI q2 (3:Int)) λy188=>J186 ((decide (y188 < (128:UInt8)))))) (λq185=>jp (ι:=Bool) (λJ190=>br q185 (J190 (true)) (cal (getI q2 (3:Int)) λy192=>J190 ((decide ((191:UInt8) < y192))))) (λq189=>br q189 (some (false)) (asr (decide (0 <= (4:Int)/\(4:Int) <= (q2.length:Int)/\(q2.length:Int) <= (q2.length:Int))) <| L3 (((q2.take ((q2.length:Int)).toNat).drop ((4:Int)).toNat)))))))))) (some (false)))))) (some (true))) (((a_p.take ((a_p.length:Int)).toNat)))

def zce (a_x:GMk) (a_i:Int) (a_v:Val):Option (Val × GMk) :=
 asr (decide (0 <= a_i/\a_i < ((a_x.l.length:Nat):Int))) <| cal (a_x.l[a_i.toNat]?) λy5=>jp (ι:=Bool × Val) (λJ8=>jp (ι:=Bool) (λJ10=>br (decide (y5.kind=(1:Int))) (J10 ((decide (y5.kind=(1:Int))))) (J10 ((decide (y5.kind=(4:Int)))))) (λq9=>br q9 (J8 ((decide (a_v.kind=y5.kind)),a_v)) (br (decide (y5.kind=(2:Int))) (jp (ι:=Bool) (λJ12=>br (decide (a_v.kind=y5.kind)) (cal (zdn y5.con a_v.n) λy14=>J12 (y14)) (J12 (false))) (λq11=>J8 (q11,a_v))) (jp (ι:=Bool) (λJ16=>br (decide (y5.kind=(5:Int))) (J16 ((decide (y5.kind=(5:Int))))) (J16 ((decide (y5.kind=(6:Int)))))) (λq15=>br q15 (jp (ι:=Bool) (λJ18=>br (decide (a_v.kind=y5.kind)) (cal (zdn y5.con (a_v.b.length:Int)) λy20=>J18 (y20)) (J18 (false))) (λq17=>jp (ι:=Bool) (λJ22=>br q17 (jp (ι:=Bool) (λJ25=>br (decide (y5.kind=(5:Int))) (J25 (true)) (cal (zcs a_v.b) λy27=>J25 (y27))) (λq24=>J22 (q24))) (J22 (false))) (λq21=>J8 (q21,a_v)))) (br (decide (y5.kind=(3:Int))) (br (decide (a_v.kind=y5.kind)) (lp (ι:=Bool × Int × Val) (λL29 q28=>jp (ι:=Bool) (λJ41=>br (decide (q28.2.1 < y5.root)) (J41 ((!q28.1))) (J41 (false))) (λq40=>br q40 (jp (ι:=Bool × Val) (λJ44=>cal (getI y5.items q28.2.1) λy47=>br (decide (y47.name=(Str.mk q28.2.2.b))) (cal (getI y5.items q28.2.1) λy48=>J44 (true,(Val.mk (3:Int) y48.number ([]:(List UInt8)) ([]:(List Val)) (0:Int) ([]:(List Raw))))) (J44 (q28.1,q28.2.2))) (λq43=>ck ((q28.2.1 + (1:Int))) <| L29 (q43.1,(q28.2.1 + (1:Int)),q43.2))) (J8 (q28.1,q28.2.2)))) ((false,(0:Int),a_v))) (J8 ((decide (a_v.kind=y5.kind)),a_v))) (J8 (false,a_v)))))))) (λq7=>jp (ι:=GMk) (λJ52=>br (!q7.1) (cal (zaV a_x (13:Int)) λy53=>J52 (y53)) (J52 (a_x))) (λq51=>some (q7.2,q51)))

def zc2 (a_x:GMk) (a_i:Int):Option (Int × GMk) :=
 asr (decide (0 <= a_i/\a_i < ((a_x.l.length:Nat):Int))) <| cal (a_x.l[a_i.toNat]?) λy3=>br (decide ((0:Int) < (y3.tags.length:Int))) (some ((1:Int),a_x)) (some ((0:Int),a_x))

def zjC (zeq:(List Tag)) (zcJ:Int) (zhS:Int):Option ((List Tag) × Int) :=
 jp (ι:=Bool) (λJ2=>br (decide (zcJ < (0:Int))) (J2 (true)) (J2 ((decide ((268435456:Int) < zcJ))))) (λq1=>jp (ι:=Bool) (λJ5=>br q1 (J5 (true)) (jp (ι:=Bool) (λJ8=>br (decide (zhS=(1:Int))) (J8 ((decide ((zeq.length:Int)=(0:Int))))) (J8 (false))) (λq7=>J5 (q7)))) (λq4=>br q4 (some (([]:(List Tag)),(12:Int))) (br (decide (zhS=(1:Int))) (asr (decide (0 <= (1:Int)/\(1:Int) <= (zeq.length:Int)/\(zeq.length:Int) <= (zeq.length:Int))) <| asr (Nat.ble (([(Tag.mk (2:Int) zcJ)]:(List Tag)).length + ((zeq.take ((zeq.length:Int)).toNat).drop ((1:Int)).toNat).length) 68719476736) <| some ((([(Tag.mk (2:Int) zcJ)]:(List Tag)) ++ ((zeq.take ((zeq.length:Int)).toNat).drop ((1:Int)).toNat)),(0:Int))) (asr (Nat.ble (([(Tag.mk (2:Int) zcJ)]:(List Tag)).length + zeq.length) 68719476736) <| some ((([(Tag.mk (2:Int) zcJ)]:(List Tag)) ++ zeq),(0:Int))))))

def zc9 (a_x:GMk) (a_i:Int) (zcJ:Int) (zhS:Int):Option (GMk) :=
 br (!decide (a_x.e=(0:Int))) (some (a_x)) (asr (decide (0 <= a_i/\a_i < ((a_x.l.length:Nat):Int))) <| cal (a_x.l[a_i.toNat]?) λy3=>cal (zjC y3.tags zcJ zhS) λy4=>br (!decide (y4.2=(0:Int))) (cal (zaV a_x y4.2) λy5=>some (y5)) (asr (decide (0 <= a_i/\a_i < ((a_x.l.length:Nat):Int))) <| cal (a_x.l[a_i.toNat]?) λy7=>some ((GMk.mk a_x.m (a_x.l.set a_i.toNat ({ y7 with tags:=y4.1 })) a_x.e))))

def zg5 (zki:(List GTyp)->Int->Option (Bool)) (a_l:(List GTyp)) (a_i:Int):Option (Bool) :=
 asr (decide (0 <= a_i/\a_i < ((a_l.length:Nat):Int))) <| cal (a_l[a_i.toNat]?) λy2=>jp (ι:=Bool) (λJ4=>br (!decide (y2.kind=(9:Int))) (J4 (true)) (asr (decide (0 <= a_i/\a_i < ((a_l.length:Nat):Int))) <| cal (a_l[a_i.toNat]?) λy7=>J4 ((decide ((0:Int) < (y7.tags.length:Int)))))) (λq3=>br q3 (some (false)) (asr (decide (0 <= a_i/\a_i < ((a_l.length:Nat):Int))) <| cal (a_l[a_i.toNat]?) λy9=>lp (ι:=Bool × Int) (λL11 q10=>asr (decide (0 <= a_i/\a_i < ((a_l.length:Nat):Int))) <| cal (a_l[a_i.toNat]?) λy23=>br (decide (q10.2 < (y23.fields.length:Int))) (jp (ι:=Bool) (λJ25=>br q10.1 (J25 (true)) (asr (decide (0 <= a_i/\a_i < ((a_l.length:Nat):Int))) <| cal (a_l[a_i.toNat]?) λy28=>cal (getI y28.fields q10.2) λy29=>cal (zki a_l y29.ty) λy30=>J25 (y30))) (λq24=>ck ((q10.2 + (1:Int))) <| L11 (q24,(q10.2 + (1:Int))))) (some (q10.1))) ((y9.more,(0:Int)))))
def zlN:Nat->((List GTyp)->Int->Option (Bool))
 | 0=>(λ_ _=>none)
 | n + 1=>let p:=zlN n;(zg5 p)
def zjo (n:Nat):(List GTyp)->Int->Option (Bool):=(zlN n)

def zfI (zhN:(List GTyp)->Int->Option ((List Tag))) (a_l:(List GTyp)) (a_i:Int):Option ((List Tag)) :=
 asr (decide (0 <= a_i/\a_i < ((a_l.length:Nat):Int))) <| cal (a_l[a_i.toNat]?) λy2=>br (decide ((0:Int) < (y2.tags.length:Int))) (asr (decide (0 <= a_i/\a_i < ((a_l.length:Nat):Int))) <| cal (a_l[a_i.toNat]?) λy4=>asr (decide (0 <= (0:Int)/\(0:Int) <= (1:Int)/\(1:Int) <= (y4.tags.length:Int))) <| some (((y4.tags.take ((1:Int)).toNat).drop (0:Int).toNat))) (lp (ι:=(List Tag) × Int) (λL7 q6=>asr (decide (0 <= a_i/\a_i < ((a_l.length:Nat):Int))) <| cal (a_l[a_i.toNat]?) λy18=>br (decide (q6.2 < (y18.fields.length:Int))) (asr (decide (0 <= a_i/\a_i < ((a_l.length:Nat):Int))) <| cal (a_l[a_i.toNat]?) λy20=>cal (getI y20.fields q6.2) λy21=>cal (zhN a_l y21.ty) λy22=>asr (Nat.ble (q6.1.length + y22.length) 68719476736) <| ck ((q6.2 + (1:Int))) <| L7 ((q6.1 ++ y22),(q6.2 + (1:Int)))) (some (q6.1))) ((([]:(List Tag)),(0:Int))))
def zjQ:Nat->((List GTyp)->Int->Option ((List Tag)))
 | 0=>(λ_ _=>none)
 | n + 1=>let p:=zjQ n;(zfI p)
def zhh (n:Nat):(List GTyp)->Int->Option ((List Tag)):=(zjQ n)

def zeD (a_l:(List Tag)) (a_x:Tag):Option (Bool) :=
 lp (ι:=Int) (λL2 q1=>br (decide (q1 < (a_l.length:Int))) (cal (getI a_l q1) λy5=>br (decide (y5=a_x)) (some (true)) (ck ((q1 + (1:Int))) <| L2 ((q1 + (1:Int))))) (some (false))) (((0:Int)))

def zfX (zkU:(List (List Tag))):Option (Bool) :=
 lp (ι:=(List Tag) × Int) (λL2 q1=>br (decide (q1.2 < (zkU.length:Int))) (lp (ι:=(List Tag) × Int) (λL30 q29=>cal (getI zkU q1.2) λy42=>br (decide (q29.2 < (y42.length:Int))) (cal (getI zkU q1.2) λy43=>cal (getI y43 q29.2) λy44=>cal (zeD q29.1 y44) λy45=>br y45 (some (false)) (cal (getI zkU q1.2) λy46=>cal (getI y46 q29.2) λy47=>asr (Nat.ble (q29.1.length + ([y47]:(List Tag)).length) 68719476736) <| ck ((q29.2 + (1:Int))) <| L30 ((q29.1 ++ ([y47]:(List Tag))),(q29.2 + (1:Int))))) (ck ((q1.2 + (1:Int))) <| L2 (q29.1,(q1.2 + (1:Int))))) ((q1.1,(0:Int)))) (some (true))) ((([]:(List Tag)),(0:Int)))

def zcb (a_x:GMk) (a_l:(List GFld)) (zmH:Bool):Option (Bool × GMk) :=
 lp (ι:=(List (List Tag)) × Int) (λL3 q2=>br (decide (q2.2 < (a_l.length:Int))) (cal (getI a_l q2.2) λy25=>cal (zjo fuel a_x.l y25.ty) λy26=>jp (ι:=Bool) (λJ28=>br y26 (jp (ι:=Bool) (λJ31=>br zmH (J31 (true)) (J31 ((decide ((1:Int) < (a_l.length:Int)))))) (λq30=>J28 (q30))) (J28 (false))) (λq27=>br q27 (some (false,a_x)) (cal (getI a_l q2.2) λy35=>cal (zhh fuel a_x.l y35.ty) λy36=>asr (Nat.ble (q2.1.length + ([y36]:(List (List Tag))).length) 68719476736) <| ck ((q2.2 + (1:Int))) <| L3 ((q2.1 ++ ([y36]:(List (List Tag)))),(q2.2 + (1:Int)))))) (cal (zfX q2.1) λy41=>some (y41,a_x))) ((([]:(List (List Tag))),(0:Int)))

def zgZ (a_t:GTyp):Option ((List Bool)) :=
 lp (ι:=(List Bool) × Int) (λL2 q1=>br (decide (q1.2 < (a_t.fields.length:Int))) (cal (getI a_t.fields q1.2) λy15=>jp (ι:=Bool) (λJ17=>br y15.optional (J17 (true)) (cal (getI a_t.fields q1.2) λy19=>J17 (y19.has))) (λq16=>jp (ι:=Bool) (λJ21=>br q16 (J21 (true)) (J21 ((decide (a_t.root <= q1.2))))) (λq20=>asr (Nat.ble (q1.1.length + ([q20]:(List Bool)).length) 68719476736) <| ck ((q1.2 + (1:Int))) <| L2 ((q1.1 ++ ([q20]:(List Bool))),(q1.2 + (1:Int)))))) (some (q1.1))) ((([]:(List Bool)),(0:Int)))

def zir (a_t:GTyp):Option (Int) :=
 cal (zgZ a_t) λy1=>lp (ι:=Int) (λL3 q2=>jp (ι:=Bool) (λJ11=>br (decide ((0:Int) < q2)) (ck ((q2 - (1:Int))) <| cal (getI y1 (q2 - (1:Int))) λy14=>J11 (y14)) (J11 (false))) (λq10=>br q10 (ck ((q2 - (1:Int))) <| L3 ((q2 - (1:Int)))) (some (q2)))) ((a_t.root))

def zdd (a_x:GMk) (a_t:GTyp):Option (Bool × GMk) :=
 br (!decide (a_t.kind=(7:Int))) (cal (zcb a_x a_t.fields a_t.more) λy2=>some (y2.1,y2.2)) (cal (zgZ a_t) λy3=>lp (ι:=Int × GMk) (λL5 q4=>br (decide (q4.1 < (a_t.fields.length:Int))) (jp (ι:=GMk) (λJ37=>cal (getI y3 q4.1) λy38=>br (!y38) (J37 (q4.2)) (ck ((q4.1 + (1:Int))) <| lp (ι:=Int) (λL41 q40=>jp (ι:=Bool) (λJ51=>br (decide (q40 < (a_t.fields.length:Int))) (cal (getI y3 q40) λy53=>J51 (y53)) (J51 (false))) (λq50=>br q50 (ck ((q40 + (1:Int))) <| L41 ((q40 + (1:Int)))) (ck ((q40 + (1:Int))) <| asr (decide (0 <= q4.1/\q4.1 <= (min (q40 + (1:Int)) (a_t.fields.length:Int))/\(min (q40 + (1:Int)) (a_t.fields.length:Int)) <= (a_t.fields.length:Int))) <| cal (zcb q4.2 ((a_t.fields.take ((min (q40 + (1:Int)) (a_t.fields.length:Int))).toNat).drop (q4.1).toNat) false) λy57=>br (!y57.1) (some (false,y57.2)) (J37 (y57.2))))) (((q4.1 + (1:Int)))))) (λq36=>ck ((q4.1 + (1:Int))) <| L5 ((q4.1 + (1:Int)),q36))) (jp (ι:=Bool × GMk) (λJ61=>br (!a_t.more) (J61 (true,q4.2)) (cal (zir a_t) λy63=>asr (decide (0 <= y63/\y63 <= (a_t.fields.length:Int)/\(a_t.fields.length:Int) <= (a_t.fields.length:Int))) <| cal (zcb q4.2 ((a_t.fields.take ((a_t.fields.length:Int)).toNat).drop (y63).toNat) true) λy65=>J61 (y65.1,y65.2))) (λq60=>some (q60.1,q60.2)))) (((0:Int),a_x)))

def zcd (za1:GMk->Int->GNode->Int->Option (GMk)) (zaZ:GMk->Int->Int->Option (Int × GMk)) (zbm:GMk->GNode->Int->Option (Int × GMk)) (a_x:GMk) (a_i:Int) (a_n_:GNode) (zI:Int):Option (GMk) :=
 lp (ι:=Bool × Int) (λL3 q2=>br (decide (q2.2 < (a_n_.fields.length:Int))) (cal (getI a_n_.fields q2.2) λy170=>jp (ι:=Bool) (λJ175=>br q2.1 (J175 (true)) (cal (getI a_x.m.nodes y170.ty) λy177=>J175 (y177.mark.has))) (λq174=>ck ((q2.2 + (1:Int))) <| L3 (q174,(q2.2 + (1:Int))))) (jp (ι:=Bool) (λJ180=>br (decide (a_n_.kind=(9:Int))) (J180 ((decide ((a_n_.fields.length:Int)=(0:Int))))) (J180 (false))) (λq179=>jp (ι:=Bool) (λJ183=>br q179 (J183 ((!a_n_.more))) (J183 (false))) (λq182=>jp (ι:=GMk) (λJ186=>br q182 (cal (zaV a_x (11:Int)) λy187=>J186 (y187)) (J186 (a_x))) (λq185=>lp (ι:=(List GFld) × Int × GMk) (λL189 q188=>jp (ι:=Bool) (λJ263=>br (decide (q188.2.1 < (a_n_.fields.length:Int))) (J263 ((decide (q188.2.2.e=(0:Int))))) (J263 (false))) (λq262=>br q262 (cal (getI a_n_.fields q188.2.1) λy265=>lp (ι:=Int × GMk) (λL268 q267=>br (decide (q267.1 < q188.2.1)) (jp (ι:=GMk) (λJ299=>cal (getI a_n_.fields q267.1) λy302=>br (decide (y302.name=y265.name)) (cal (zaV q267.2 (8:Int)) λy303=>J299 (y303)) (J299 (q267.2))) (λq298=>ck ((q267.1 + (1:Int))) <| L268 ((q267.1 + (1:Int)),q298))) (ck ((zI + (1:Int))) <| cal (zaZ q267.2 y265.ty (zI + (1:Int))) λy306=>jp (ι:=Bool) (λJ309=>br (decide (y306.2.e=(0:Int))) (J309 (y265.has)) (J309 (false))) (λq308=>jp (ι:=GFld × GMk) (λJ312=>br q308 (cal (zce y306.2 y306.1 y265.dflt) λy313=>J312 ({ { y265 with ty:=y306.1 } with dflt:=y313.1 },y313.2)) (J312 ({ y265 with ty:=y306.1 },y306.2))) (λq311=>jp (ι:=Bool) (λJ315=>br (decide (q311.2.e=(0:Int))) (J315 ((!q2.1))) (J315 (false))) (λq314=>jp (ι:=GMk) (λJ318=>br q314 (cal (zc2 q311.2 q311.1.ty) λy321=>cal (zc9 y321.2 q311.1.ty q188.2.1 y321.1) λy322=>J318 (y322)) (J318 (q311.2))) (λq317=>asr (Nat.ble (q188.1.length + ([q311.1]:(List GFld)).length) 68719476736) <| ck ((q188.2.1 + (1:Int))) <| L189 ((q188.1 ++ ([q311.1]:(List GFld))),(q188.2.1 + (1:Int)),q317))))))) (((0:Int),q188.2.2))) (br (decide (q188.2.2.e=(0:Int))) (asr (decide (0 <= a_i/\a_i < ((q188.2.2.l.length:Nat):Int))) <| cal (q188.2.2.l[a_i.toNat]?) λy329=>asr (decide (0 <= a_i/\a_i < (((q188.2.2.l.set a_i.toNat ({ y329 with fields:=q188.1 })).length:Nat):Int))) <| cal ((q188.2.2.l.set a_i.toNat ({ y329 with fields:=q188.1 }))[a_i.toNat]?) λy331=>cal (zdd (GMk.mk q188.2.2.m (q188.2.2.l.set a_i.toNat ({ y329 with fields:=q188.1 })) q188.2.2.e) y331) λy332=>br (!y332.1) (cal (zaV y332.2 (12:Int)) λy333=>some (y333)) (some (y332.2))) (some (q188.2.2))))) ((([]:(List GFld)),(0:Int),q185))))))) (((!decide (a_x.m.tagging=(2:Int))),(0:Int)))
def zcN (za1:GMk->Int->GNode->Int->Option (GMk)) (zaZ:GMk->Int->Int->Option (Int × GMk)) (zbm:GMk->GNode->Int->Option (Int × GMk)) (a_x:GMk) (a_k:Int) (zI:Int):Option (Int × GMk) :=
 br (!decide (a_x.e=(0:Int))) (some ((0:Int),a_x)) (cal (getI a_x.m.nodes a_k) λy2=>jp (ι:=Int × GMk) (λJ5=>br (decide (y2.kind=(11:Int))) (cal (ziw a_x.m y2.name) λy6=>cal (getI a_x.m.types y6) λy7=>cal (zaZ a_x y7 zI) λy8=>J5 (y8.1,y8.2)) (cal (zbm a_x y2 zI) λy12=>J5 (y12.1,y12.2))) (λq4=>jp (ι:=Bool) (λJ15=>br (decide (q4.2.e=(0:Int))) (J15 (y2.mark.has)) (J15 (false))) (λq14=>jp (ι:=GMk) (λJ18=>br q14 (jp (ι:=Int × GMk) (λJ20=>br (decide (y2.mark.mode=(2:Int))) (J20 ((1:Int),q4.2)) (jp (ι:=Bool) (λJ22=>br (decide (y2.mark.mode=(0:Int))) (J22 ((!decide (q4.2.m.tagging=(0:Int))))) (J22 (false))) (λq21=>br q21 (cal (zc2 q4.2 q4.1) λy24=>J20 (y24.1,y24.2)) (J20 ((0:Int),q4.2))))) (λq19=>cal (zc9 q19.2 q4.1 y2.mark.number q19.1) λy25=>J18 (y25))) (J18 (q4.2))) (λq17=>some (q4.1,q17)))))
def zcO (za1:GMk->Int->GNode->Int->Option (GMk)) (zaZ:GMk->Int->Int->Option (Int × GMk)) (zbm:GMk->GNode->Int->Option (Int × GMk)) (a_x:GMk) (a_n_:GNode) (zI:Int):Option (Int × GMk) :=
 jp (ι:=Bool) (λJ3=>br (decide ((16:Int) < zI)) (J3 (true)) (J3 ((decide ((300:Int) <= ((a_x.l.length:Nat):Int)))))) (λq2=>br q2 (cal (zaV a_x (5:Int)) λy5=>some ((0:Int),y5)) (jp (ι:=GTyp) (λJ8=>br (!decide (a_n_.kind=(9:Int))) (cal (zeQ a_n_.kind) λy9=>J8 ((GTyp.mk a_n_.kind ([y9]:(List Tag)) a_n_.con ([]:(List GItem)) ([]:(List GFld)) a_n_.root a_n_.more (0:Int)))) (J8 ((GTyp.mk a_n_.kind ([]:(List Tag)) a_n_.con ([]:(List GItem)) ([]:(List GFld)) a_n_.root a_n_.more (0:Int))))) (λq7=>jp (ι:=GMk) (λJ12=>asr (Nat.ble (a_x.l.length + ([q7]:(List GTyp)).length) 68719476736) <| J12 ((GMk.mk a_x.m (a_x.l ++ ([q7]:(List GTyp))) a_x.e))) (λq11=>jp (ι:=GMk) (λJ21=>jp (ι:=Bool) (λJ23=>br (decide (a_n_.kind=(2:Int))) (J23 ((decide (a_n_.kind=(2:Int))))) (br (decide (a_n_.kind=(5:Int))) (J23 ((decide (a_n_.kind=(5:Int))))) (br (decide (a_n_.kind=(6:Int))) (J23 ((decide (a_n_.kind=(6:Int))))) (J23 ((decide (a_n_.kind=(10:Int)))))))) (λq22=>br q22 (cal (zh6 a_n_.con (!decide (a_n_.kind=(2:Int)))) λy24=>jp (ι:=GMk) (λJ26=>br (!decide (y24=(0:Int))) (cal (zaV q11 y24) λy27=>J26 (y27)) (J26 (q11))) (λq25=>br (decide (a_n_.kind=(10:Int))) (ck ((zI + (1:Int))) <| cal (zaZ q25 a_n_.of (zI + (1:Int))) λy29=>br (decide (y29.2.e=(0:Int))) (asr (decide (0 <= ((a_x.l.length:Nat):Int)/\((a_x.l.length:Nat):Int) < ((y29.2.l.length:Nat):Int))) <| cal (y29.2.l[((a_x.l.length:Nat):Int).toNat]?) λy32=>J21 ((GMk.mk y29.2.m (y29.2.l.set (((a_x.l.length:Nat):Int).toNat) ({ y32 with of:=y29.1 })) y29.2.e))) (J21 (y29.2))) (J21 (q25)))) (br (decide (a_n_.kind=(3:Int))) (cal (zde q11 a_n_) λy33=>asr (decide (y33.2.l.length=q11.l.length)) <| asr (decide (0 <= ((a_x.l.length:Nat):Int)/\((a_x.l.length:Nat):Int) < ((q11.l.length:Nat):Int))) <| cal (y33.2.l[((a_x.l.length:Nat):Int).toNat]?) λy36=>J21 ((GMk.mk y33.2.m (y33.2.l.set (((a_x.l.length:Nat):Int).toNat) ({ y36 with items:=y33.1 })) y33.2.e))) (jp (ι:=Bool) (λJ38=>br (decide (a_n_.kind=(7:Int))) (J38 ((decide (a_n_.kind=(7:Int))))) (br (decide (a_n_.kind=(8:Int))) (J38 ((decide (a_n_.kind=(8:Int))))) (J38 ((decide (a_n_.kind=(9:Int))))))) (λq37=>br q37 (cal (za1 q11 ((a_x.l.length:Nat):Int) a_n_ zI) λy39=>J21 (y39)) (J21 (q11))))))) (λq20=>some (((a_x.l.length:Nat):Int),q20))))))
def z8:Nat->(GMk->Int->GNode->Int->Option (GMk)) × (GMk->Int->Int->Option (Int × GMk)) × (GMk->GNode->Int->Option (Int × GMk))
 | 0=>(λ_ _ _ _=>none,λ_ _ _=>none,λ_ _ _=>none)
 | n + 1=>let p:=z8 n;(zcd p.1 p.2.1 p.2.2,zcN p.1 p.2.1 p.2.2,zcO p.1 p.2.1 p.2.2)
def zcp (n:Nat):GMk->Int->GNode->Int->Option (GMk):=(z8 n).1
def zc6 (n:Nat):GMk->Int->Int->Option (Int × GMk):=(z8 n).2.1
def zc4 (n:Nat):GMk->GNode->Int->Option (Int × GMk):=(z8 n).2.2

def zgw (a_m:GMod):Option (GTab × Int × Int) :=
 cal (ziq a_m) λy2=>br (!decide (y2.2.2=(0:Int))) (some ((GTab.mk (Str.mk []) ([]:(List Str)) ([]:(List Int)) ([]:(List GTyp))),y2.2.1,y2.2.2)) (jp (ι:=GTab) (λJ6=>asr (Nat.ble (([]:(List Str)).length + a_m.names.length) 68719476736) <| J6 ((GTab.mk a_m.name (([]:(List Str)) ++ a_m.names) ([]:(List Int)) ([]:(List GTyp))))) (λq5=>lp (ι:=Int × GTab × GMk) (λL17 q16=>br (decide (q16.1 < (a_m.names.length:Int))) (jp (ι:=GTab × GMk) (λJ35=>cal (getI a_m.types q16.1) λy36=>cal (zc6 fuel q16.2.2 y36 (0:Int)) λy37=>asr (Nat.ble (q16.2.1.roots.length + ([y37.1]:(List Int)).length) 68719476736) <| J35 ((GTab.mk q16.2.1.name q16.2.1.names (q16.2.1.roots ++ ([y37.1]:(List Int))) q16.2.1.types),y37.2)) (λq34=>br (!decide (q34.2.e=(0:Int))) (some ((GTab.mk (Str.mk []) ([]:(List Str)) ([]:(List Int)) ([]:(List GTyp))),q16.1,q34.2.e)) (ck ((q16.1 + (1:Int))) <| L17 ((q16.1 + (1:Int)),q34.1,q34.2)))) (some ((GTab.mk q16.2.1.name q16.2.1.names q16.2.1.roots q16.2.2.l),(0:Int),(0:Int)))) (((0:Int),q5,(GMk.mk a_m ([]:(List GTyp)) (0:Int))))))

def zbD (zbV:Str):Option (GTab × Bool) :=
 br (decide ((3000:Int) < (zbV.b.length:Int))) (some ((GTab.mk (Str.mk []) ([]:(List Str)) ([]:(List Int)) ([]:(List GTyp))),false)) (cal (zeJ zbV) λy2=>br (!decide (y2.2.2=(0:Int))) (some ((GTab.mk (Str.mk []) ([]:(List Str)) ([]:(List Int)) ([]:(List GTyp))),false)) (cal (zgw y2.1) λy4=>jp (ι:=Bool) (λJ7=>br (decide (y4.2.2=(0:Int))) (J7 ((decide ((y4.1.types.length:Int) <= (120:Int))))) (J7 (false))) (λq6=>some (y4.1,q6))))
end Go.Proofs.Q


namespace Go.Proofs.Q
open Go.Sy
set_option linter.unusedVariables false

theorem zl4 (x:GMk) (e:Int):zaV x e=some (if x.e=0 then GMk.mk x.m x.l e else x):=by
 unfold zaV br
 by_cases h:x.e=0 <;> simp [h]
theorem ztn (k:Int):T (λ_=>True) (zeQ k):=by
 unfold zeQ
 refine T.br (λ_=>T.some trivial) λ_=>T.br (λ_=>T.some trivial) λ_=>T.br (λ_=>T.some trivial) λ_=>T.br (λ_=>T.some trivial) λ_=>T.br (λ_=>T.some trivial) λ_=>T.br (λ_=>T.some trivial) λ_=>?_
 refine T.jp (λ_=>True) (λJ h=>T.br (λ_=>h _ trivial) λ_=>h _ trivial) λq _=>T.br (λ_=>T.some trivial) λ_=>T.br (λ_=>T.some trivial) λ_=>T.some trivial
theorem zs6 (c:GCon) (b:Bool):T (λ_=>True) (zh6 c b):=by
 unfold zh6
 refine T.br (λ_=>T.some trivial) λ_=>T.jp (λ_=>True) (λJ h=>T.br (λ_=>h _ trivial) λ_=>h _ trivial) λq _=>T.jp (λ_=>True) (λJ h=>T.br (λ_=>h _ trivial) λ_=>h _ trivial) λq2 _=>T.br (λ_=>T.some trivial) λ_=>?_
 refine T.jp (λ_=>True) (λJ h=>T.br (λ_=>?_) λ_=>h _ trivial) λq3 _=>T.br (λ_=>T.some trivial) λ_=>T.some trivial
 refine T.jp (λ_=>True) (λJ2 h2=>T.br (λ_=>h2 _ trivial) λ_=>h2 _ trivial) λq4 _=>T.jp (λ_=>True) (λJ2 h2=>T.br (λ_=>h2 _ trivial) λ_=>h2 _ trivial) λq5 _=>?_
 refine T.jp (λ_=>True) (λJ2 h2=>T.br (λ_=>h2 _ trivial) λ_=>T.jp (λ_=>True) (λJ3 h3=>T.br (λ_=>T.jp (λ_=>True) (λJ4 h4=>T.br (λ_=>h4 _ trivial) λ_=>h4 _ trivial) λq _=>h3 _ trivial) λ_=>h3 _ trivial) λq _=>h2 _ trivial) λq6 _=>h _ trivial
theorem zne (c:GCon) (v:Int):T (λ_=>True) (zdn c v):=by
 unfold zdn
 refine T.jp (λ_=>True) (λJ h=>T.br (λ_=>h _ trivial) λ_=>?_) λq _=>T.some trivial
 refine T.jp (λ_=>True) (λJ2 h2=>T.br (λ_=>h2 _ trivial) λ_=>h2 _ trivial) λq2 _=>?_
 exact T.jp (λ_=>True) (λJ2 h2=>T.br (λ_=>T.jp (λ_=>True) (λJ3 h3=>T.br (λ_=>h3 _ trivial) λ_=>h3 _ trivial) λq _=>h2 _ trivial) λ_=>h2 _ trivial) λq3 _=>h _ trivial

/-! ### Numbers of items -/
def hasNum (l:List GItem) (v:Int):Bool:=l.any λit=>it.has && decide (it.number=v)
theorem zpP (y:GItem) (l:List GItem) (v:Int):hasNum (y :: l) v=((y.has && decide (y.number=v)) || hasNum l v):=by unfold hasNum;rw [List.any_cons]
theorem ztt (l:List GItem) (v:Int) (hl:l.length <= 1000000):zit l v=some (hasNum l v):=by
 refine T.eqs ?_
 unfold zit
 refine T.lp (λ(k:Int)=>0 <= k/\k <= (l.length:Int)/\hasNum l v=hasNum (l.drop k.toNat) v) (λ(k:Int)=>((l.length:Int) - k).toNat) ⟨zIl _,by omega,rfl⟩ (by omega) λL k ⟨h1,h2,h3⟩ hL=>?_
 refine T.br (λhb=>?_) λhb=>T.some ?_
 ·have hb:=zOT hb
  refine T.get h1 hb λy hy=>?_
  rw [ziv h1 hy] at h3
  refine T.jp (λq=>q=(y.has && decide (y.number=v))) (λJ h=>T.br (λh4=>T.get h1 hb λy' hy'=>h _ (by rw [hy] at hy';cases hy';rw [h4];rfl)) λh4=>h _ (by rw [h4];rfl)) λq hq=>?_
  subst hq
  rw [zpP] at h3
  refine T.br (λh5=>T.some (by rw [h3,h5];rfl)) λh5=>T.ck (by omega) (hL _ ⟨by omega,by omega,?_⟩ (by omega))
  rw [h3,h5,Bool.false_or]
 ·have hb:=zOF hb
  rw [zDn (by omega)] at h3
  rw [h3];rfl
def cntGe (l:List GItem) (v:Int):Nat:=(l.filter λit=>it.has && decide (v <= it.number)).length
theorem zp1 (l:List GItem) (v:Int):cntGe l v <= l.length:=List.length_filter_le _ _
theorem znB (l:List GItem) (v:Int):cntGe l (v + 1) <= cntGe l v:=by
 unfold cntGe
 induction l with
 | nil=>exact zNl _
 | cons a l ih =>
  rw [List.filter_cons,List.filter_cons]
  by_cases h1:a.has && decide (v + 1 <= a.number)
  ·have h2:(a.has && decide (v <= a.number))=true:=by
    simp only [zBa,decide_eq_true_eq] at h1 ⊢
    exact ⟨h1.1,by omega⟩
   rw [if_pos h1,if_pos h2];simp only [zLc];omega
  ·rw [if_neg h1]
   split
   ·simp only [zLc];omega
   ·exact ih
theorem zms {l:List GItem} {v:Int} (h:hasNum l v=true):cntGe l (v + 1) + 1 <= cntGe l v:=by
 induction l with
 | nil=>cases h
 | cons a l ih =>
  unfold hasNum at h ih
  rw [List.any_cons,Bool.or_eq_true] at h
  have hm:=znB l v
  unfold cntGe at hm ih ⊢
  rw [List.filter_cons,List.filter_cons]
  by_cases h1:(a.has && decide (a.number=v))=true
  ·simp only [zBa,decide_eq_true_eq] at h1
   have h2:¬ (a.has && decide (v + 1 <= a.number))=true:=by
    simp only [zBa,decide_eq_true_eq,not_and]
    intro _;omega
   have h3:(a.has && decide (v <= a.number))=true:=by
    simp only [zBa,decide_eq_true_eq];exact ⟨h1.1,by omega⟩
   rw [if_neg h2,if_pos h3];simp only [zLc];omega
  ·have ih:=ih (by rcases h with h | h;exact absurd h h1;exact h)
   by_cases h2:(a.has && decide (v + 1 <= a.number))=true
   ·have h3:(a.has && decide (v <= a.number))=true:=by
     simp only [zBa,decide_eq_true_eq] at h2 ⊢;exact ⟨h2.1,by omega⟩
    rw [if_pos h2,if_pos h3];simp only [zLc];omega
   ·rw [if_neg h2]
    split
    ·simp only [zLc];omega
    ·exact ih
theorem zpU (x:GMk) (n:GNode) (ok:NodeOk n) (hk:n.root <= n.items.length):T (λr=>r.2.m=x.m/\r.2.l=x.l/\(r.2.e=0->x.e=0/\r.1.length=n.items.length/\∀ it ∈ r.1,I64 it.number)) (zde x n):=by
 unfold zde
 have hr0:=ok.root0
 have hil:=ok.ilen
 have htk:(n.items.take n.root.toNat).drop (0:Int).toNat=n.items.take n.root.toNat:=rfl
 refine T.lp (ι:=(List GItem) × Int × Int) (λq=>0 <= q.2.2/\q.2.2 <= n.root/\(q.1.length:Int)=q.2.2/\0 <= q.2.1/\q.2.1 + (cntGe (n.items.take n.root.toNat) q.2.1:Int) <= q.2.2 + n.root/\∀ it ∈ q.1,I64 it.number) (λq=>(n.root - q.2.2).toNat)
  ⟨zIl _,hr0,rfl,zIl _,by
   have:=zp1 (n.items.take n.root.toNat) 0
   rw [zLt] at this
   dsimp only;omega,by simp⟩ (by dsimp only;omega) λL q ⟨h1,h2,h3,h4,h5,h6⟩ hL=>?_
 obtain ⟨out,next,i⟩:=q
 dsimp only at h1 h2 h3 h4 h5 h6 hL ⊢
 refine T.br (λhb=>?_) λhb=>?_
 ·have hb:=zOT hb
  refine T.get h1 (by omega) λy hy=>?_
  have hyn:I64 y.number:=ok.nums y (List.mem_of_getElem? hy)
  refine T.jp (ι:=Int × GItem) (λp=>0 <= p.1/\p.1 + (cntGe (n.items.take n.root.toNat) p.1:Int) <= i + 1 + n.root/\I64 p.2.number) (λJ h=>T.br (λ_=>?_) λ_=>h _ ⟨h4,by dsimp only;omega,hyn⟩) λp ⟨p1,p2,p3⟩=>?_
  ·refine T.lp (λ(v:Int)=>0 <= v/\v + (cntGe (n.items.take n.root.toNat) v:Int) <= i + n.root) (λ(v:Int)=>cntGe (n.items.take n.root.toNat) v) ⟨h4,h5⟩ (by have:=zp1 (n.items.take n.root.toNat) next;rw [zLt] at this;omega) λL2 v ⟨v1,v2⟩ hL2=>?_
   refine T.asd ⟨zIl _,hr0,hk⟩ ?_
   rw [htk]
   refine T.eq (ztt _ v (by rw [zLt];omega)) (T.br (λht=>T.ck (by omega) (hL2 _ ⟨by omega,?_⟩ ?_)) λ_=>T.ck (by omega) (h _ ⟨by dsimp only;omega,?_,?_⟩))
   ·have:=zms ht;omega
   ·have:=zms ht;omega
   ·have:=znB (n.items.take n.root.toNat) v;dsimp only;omega
   ·unfold I64;dsimp only;omega
  ·refine T.abl (by simp only [zLs];omega) (T.ck (by omega) (hL _ ⟨by dsimp only;omega,by dsimp only;omega,by dsimp only;rw [zLa,zLs];omega,p1,p2,?_⟩ (by dsimp only;omega)))
   intro it hit
   rcases List.mem_append.1 hit with h | h
   ·exact h6 it h
   ·rw [zMo.1 h];exact p3
 ·have hb:=zOF hb
  refine T.lp (ι:=(List GItem) × Int × Bool × Bool × Int) (λq=>n.root <= q.2.2.2.2/\q.2.2.2.2 <= n.items.length/\(q.1.length:Int)=q.2.2.2.2/\∀ it ∈ q.1,I64 it.number) (λq=>((n.items.length:Int) - q.2.2.2.2).toNat) ⟨zIl _,hk,by dsimp only;omega,h6⟩ (by dsimp only;omega) λL2 q ⟨k1,k2,k3,k4⟩ hL2=>?_
  obtain ⟨o,rise,some_,twice_,j⟩:=q
  dsimp only at k1 k2 k3 k4 hL2 ⊢
  refine T.br (λhb2=>?_) λhb2=>?_
  ·have hb2:=zOT hb2
   refine T.get (by omega) hb2 λy hy=>?_
   have hyn:I64 y.number:=ok.nums y (List.mem_of_getElem? hy)
   refine T.jp (ι:=GItem) (λp=>I64 p.number) (λJ h=>T.br (λ_=>?_) λ_=>h _ hyn) λp hp=>?_
   ·refine T.lp (ι:=Int × GItem) (λp=>0 <= p.1/\p.1 <= o.length/\I64 p.2.number) (λp=>((o.length:Int) - p.1).toNat) ⟨zIl _,by dsimp only;omega,by unfold I64;dsimp only;omega⟩ (by dsimp only;omega) λL3 p ⟨p1,p2,p3⟩ hL3=>?_
    obtain ⟨k,it⟩:=p
    dsimp only at p1 p2 p3 hL3 ⊢
    refine T.br (λhb3=>?_) λ_=>h _ p3
    have hb3:=zOT hb3
    refine T.jp (ι:=GItem) (λit=>I64 it.number) (λJ2 h2=>T.get p1 hb3 λz hz=>T.br (λ_=>?_) λhne=>?_) λit2 hit2=>T.ck (by omega) (hL3 _ ⟨by dsimp only;omega,by dsimp only;omega,hit2⟩ (by dsimp only;omega))
    ·refine T.eq (zl4 _ _) (T.some ⟨?_,?_,?_⟩)
     ·dsimp only;split <;> rfl
     ·dsimp only;split <;> rfl
     ·dsimp only
      split
      ·intro h;cases h
      ·rename_i hx;intro h;exact absurd h hx
    ·have hz1:I64 z.number:=k4 z (List.mem_of_getElem? hz)
     have hne:=zOF hne
     refine T.jp (λ_=>True) (λJ3 h3=>T.br (λ_=>h3 _ trivial) λ_=>T.get p1 hb3 λ_ _=>h3 _ trivial) λq _=>T.br (λ_=>T.get p1 hb3 λz2 hz2=>?_) λ_=>h2 _ p3
     rw [hz] at hz2;cases hz2
     unfold I64 at hz1
     exact T.ck (by omega) (h2 _ (by unfold I64;dsimp only;omega))
   ·refine T.jp (λ_=>True) (λJ h=>T.br (λ_=>h _ trivial) λ_=>T.jp (λ_=>True) (λJ2 h2=>T.br (λ_=>h2 _ trivial) λ_=>h2 _ trivial) λ_ _=>h _ trivial) λq _=>?_
    refine T.abl (by simp only [zLs];omega) (T.ck (by omega) (hL2 _ ⟨by dsimp only;omega,by dsimp only;omega,by dsimp only;rw [zLa,zLs];omega,?_⟩ (by dsimp only;omega)))
    intro it hit
    rcases List.mem_append.1 hit with h | h
    ·exact k4 it h
    ·rw [zMo.1 h];exact hp
  ·have hb2:=zOF hb2
   refine T.lp (ι:=Bool × Int) (λq=>0 <= q.2/\q.2 <= o.length) (λq=>((o.length:Int) - q.2).toNat) ⟨zIl _,by dsimp only;omega⟩ (by dsimp only;omega) λL3 q ⟨p1,p2⟩ hL3=>?_
   obtain ⟨tw,k⟩:=q
   dsimp only at p1 p2 hL3 ⊢
   refine T.br (λhb3=>?_) λ_=>?_
   ·have hb3:=zOT hb3
    refine T.lp (ι:=Bool × Int) (λq=>0 <= q.2/\q.2 <= k) (λq=>(k - q.2).toNat) ⟨zIl _,p1⟩ (by dsimp only;omega) λL4 q ⟨s1,s2⟩ hL4=>?_
    refine T.br (λhb4=>?_) λ_=>T.ck (by omega) (hL3 _ ⟨by dsimp only;omega,by dsimp only;omega⟩ (by dsimp only;omega))
    have hb4:=zOT hb4
    refine T.jp (λ_=>True) (λJ h=>T.br (λ_=>h _ trivial) λ_=>T.get s1 (by omega) λ_ _=>T.get p1 hb3 λ_ _=>h _ trivial) λq2 _=>T.jp (λ_=>True) (λJ h=>T.br (λ_=>h _ trivial) λ_=>T.get s1 (by omega) λ_ _=>T.get p1 hb3 λ_ _=>h _ trivial) λq3 _=>T.ck (by omega) (hL4 _ ⟨by dsimp only;omega,by dsimp only;omega⟩ (by dsimp only;omega))
   ·refine T.jp (ι:=GMk) (λy=>y.m=x.m/\y.l=x.l/\(y.e=0->x.e=0)) (λJ h=>T.br (λ_=>T.eq (zl4 _ _) (h _ ?_)) λ_=>h _ ⟨rfl,rfl,λh=>h⟩) λy hy=>T.some ⟨hy.1,hy.2.1,λe=>⟨hy.2.2 e,by dsimp only;omega,k4⟩⟩
    refine ⟨by split <;> rfl,by split <;> rfl,?_⟩
    split
    ·intro h;cases h
    ·rename_i hx;intro h;exact absurd h hx

/-! ### UTF-8 -/
theorem tkl {α:Type} (l:List α):l.take ((l.length:Int)).toNat=l:=by rw [Int.toNat_natCast,List.take_length]
theorem zgj (s:List UInt8) (h:8 <= s.length):T (λ_=>True) (zbE s):=by
 unfold zbE
 refine T.get (by omega) (by omega) λ_ _=>T.get (by omega) (by omega) λ_ _=>T.asr (by decide) (T.get (by omega) (by omega) λ_ _=>T.asr (by decide) (T.get (by omega) (by omega) λ_ _=>T.asr (by decide) (T.get (by omega) (by omega) λ_ _=>T.asr (by decide) (T.get (by omega) (by omega) λ_ _=>T.asr (by decide) (T.get (by omega) (by omega) λ_ _=>T.asr (by decide) (T.get (by omega) (by omega) λ_ _=>T.asr (by decide) (T.some trivial)))))))
theorem zvq (y:UInt8):(shr8 (tab1 y) (4:UInt64).toNat).toNat < 16:=by
 unfold shr8
 have h:=(tab1 y).toNat_lt
 have e:(4:UInt64).toNat=4:=rfl
 rw [e,UInt8.toNat_ofNat',show (2:Nat) ^ 4=16 from rfl]
 omega
theorem zm2 (p:List UInt8) (hp:p.length <= 1000000):T (λ_=>True) (zcs p):=by
 unfold zcs
 have e1:(1:Int).toNat=1:=rfl
 have e2:(2:Int).toNat=2:=rfl
 have e3:(3:Int).toNat=3:=rfl
 have e4:(4:Int).toNat=4:=rfl
 have e8:(8:Int).toNat=8:=rfl
 have e16:(16:Int).toNat=16:=rfl
 have e24:(24:Int).toNat=24:=rfl
 have e32:(32:Int).toNat=32:=rfl
 simp only [tkl,e1,e2,e3,e4,e8,e16,e24,e32,List.drop_drop]
 refine T.asd ⟨by omega,zIl _⟩ (T.lp (λ(q:List UInt8)=>q.length <= 1000000) (λ(q:List UInt8)=>q.length) hp (by omega) λL q hq hL=>?_)
 refine T.br (λhb=>?_) λ_=>T.some trivial
 have hb:=zOT hb
 refine T.get (by omega) hb λy hy=>T.br (λ_=>?_) λ_=>?_
 ·have hd1:(q.drop 1).length=q.length - 1:=zLd
  refine T.asd ⟨by omega,by omega,by omega⟩ ?_
  refine T.jp (λb=>b=true->8 < (q.drop 1).length) (λJ h=>T.br (λh2=>?_) λ_=>h _ λh=>by cases h) λb hb1=>?_
  ·have h2:=zOT h2
   exact T.cal (zgj _ (by omega)) λ_ _ _=>h _ λ_=>by omega
  refine T.jp (λ(r:List UInt8)=>r.length < q.length) (λJ h=>T.br (λh2=>?_) λ_=>h _ (by omega)) λr hr=>hL _ (by omega) hr
  have h2:=hb1 h2
  have hd9:(q.drop (1 + 8)).length=q.length - 9:=zLd
  refine T.asd ⟨by omega,by omega,by omega⟩ ?_
  refine T.jp (λb=>b=true->16 < (q.drop (1 + 8)).length) (λJ2 h3=>T.br (λh4=>?_) λ_=>h3 _ λh=>by cases h) λb2 hb2=>?_
  ·have h4:=zOT h4
   have hd17:(q.drop (1 + 8 + 8)).length=q.length - 17:=zLd
   exact T.asd ⟨by omega,by omega,by omega⟩ (T.cal (zgj _ (by omega)) λ_ _ _=>T.cal (zgj _ (by omega)) λ_ _ _=>h3 _ λ_=>by omega)
  refine T.br (λh5=>?_) λ_=>h _ (by omega)
  have h5:=hb2 h5
  have hd25:(q.drop (1 + 8 + 16)).length=q.length - 25:=zLd
  refine T.asd ⟨by omega,by omega,by omega⟩ (T.lp (λ(r:List UInt8)=>r.length < q.length) (λ(r:List UInt8)=>r.length) (by omega) (by omega) λL2 r hr hL2=>?_)
  have r8:(r.drop 8).length=r.length - 8:=zLd
  have r16:(r.drop 16).length=r.length - 16:=zLd
  have r24:(r.drop 24).length=r.length - 24:=zLd
  have r32:(r.drop 32).length=r.length - 32:=zLd
  refine T.jp (λb=>b=true->32 < r.length) (λJ2 h3=>T.br (λh6=>?_) λ_=>h3 _ λh=>by cases h) λb3 hb3=>?_
  ·have h6:=zOT h6
   exact T.asd ⟨by omega,by omega,by omega⟩ (T.asd ⟨by omega,by omega,by omega⟩ (T.asd ⟨by omega,by omega,by omega⟩ (T.cal (zgj _ (by omega)) λ_ _ _=>T.cal (zgj _ (by omega)) λ_ _ _=>T.cal (zgj _ (by omega)) λ_ _ _=>T.cal (zgj _ (by omega)) λ_ _ _=>h3 _ λ_=>by omega)))
  ·refine T.br (λh6=>?_) λ_=>h _ hr
   have h6:=hb3 h6
   exact T.asd ⟨by omega,by omega,by omega⟩ (hL2 _ (by omega) (by omega))
 ·have hd2:(q.drop 2).length=q.length - 2:=zLd
  have hd3:(q.drop 3).length=q.length - 3:=zLd
  have hd4:(q.drop 4).length=q.length - 4:=zLd
  have ht:Nat.blt (shr8 (tab1 y) (4:UInt64).toNat).toNat 16=true:=by have:=zvq y;simpa using this
  have or1:∀ {β:Type} {R:β->Prop} {b:Bool} {n:Nat} {f:UInt8->Bool} {i:Int} {K:Bool->Option β},(b=false->(n:Int) <= q.length)->0 <= i->i < n->(∀ c,(c=false->(n:Int) <= q.length)->T R (K c))->T R (jp (ι:=Bool) (λJ=>br b (J true) (cal (getI q i) λz=>J (f z))) K):=λ{β R b n f i K} h1 h2 h3 h4=>T.jp (λc=>c=false->(n:Int) <= q.length) (λJ h=>T.br (λ_=>h _ λh=>by cases h) λhb=>T.get h2 (by have:=h1 hb;omega) λ_ _=>h _ λ_=>h1 hb) h4
  have lt1:∀ {n:Nat},decide ((q.length:Int) < (n:Int))=false->(n:Int) <= q.length:=λ{n} h=>by have:=zOF h;omega
  refine T.asr (by decide) (T.asr ht (T.br (λ_=>?_) λ_=>T.br (λ_=>?_) λ_=>T.br (λ_=>?_) λ_=>T.some trivial))
  ·refine or1 (n:=2) lt1 (by omega) (by omega) λc1 k1=>or1 (n:=2) k1 (by omega) (by omega) λc2 k2=>T.br (λ_=>T.some trivial) λh6=>?_
   have:=k2 h6
   exact T.asd ⟨by omega,by omega,by omega⟩ (hL _ (by omega) (by omega))
  ·refine or1 (n:=3) lt1 (by omega) (by omega) λc1 k1=>or1 (n:=3) k1 (by omega) (by omega) λc2 k2=>or1 (n:=3) k2 (by omega) (by omega) λc3 k3=>or1 (n:=3) k3 (by omega) (by omega) λc4 k4=>T.br (λ_=>T.some trivial) λh6=>?_
   have:=k4 h6
   exact T.asd ⟨by omega,by omega,by omega⟩ (hL _ (by omega) (by omega))
  ·refine or1 (n:=4) lt1 (by omega) (by omega) λc1 k1=>or1 (n:=4) k1 (by omega) (by omega) λc2 k2=>or1 (n:=4) k2 (by omega) (by omega) λc3 k3=>or1 (n:=4) k3 (by omega) (by omega) λc4 k4=>or1 (n:=4) k4 (by omega) (by omega) λc5 k5=>or1 (n:=4) k5 (by omega) (by omega) λc6 k6=>T.br (λ_=>T.some trivial) λh6=>?_
   have:=k6 h6
   exact T.asd ⟨by omega,by omega,by omega⟩ (hL _ (by omega) (by omega))
end Go.Proofs.Q


namespace Go.Proofs.Q
open Go.Sy
set_option linter.unusedVariables false

def kidsT (t:GTyp):List Int:=t.fields.map (λf=>f.ty) ++ (if t.kind=10 then [t.of] else [])
structure TypOk (t:GTyp):Prop where
 tags:t.kind ≠ 9->t.tags ≠ []
 tlen:t.tags.length <= 100000
 root0:0 <= t.root
 rootF:t.kind=7 \/ t.kind=8 \/ t.kind=9->t.root <= t.fields.length
 rootI:t.kind=3->t.root <= t.items.length
 fields:¬ (t.kind=7 \/ t.kind=8 \/ t.kind=9)->t.fields=[]
 items:t.kind ≠ 3->t.items=[]
 ilen:t.items.length <= 8001
 nums:∀ it ∈ t.items,I64 it.number
 dflt:∀ f ∈ t.fields,DOk f.dflt
 rootZ:t.kind ≠ 3->¬ (t.kind=7 \/ t.kind=8 \/ t.kind=9)->t.root=0
def SubT:Nat->List GTyp->Nat->Nat->Prop
 | 0,_,_,_=>False
 | h + 1,l,i,j=>∃ t,l[i]?=some t/\TypOk t/\Kids (SubT h l) (kidsT t) (i + 1) j
theorem SubT.lt:∀ {h l i j},SubT h l i j->i < j:=by
 intro h
 induction h with
 | zero=>intro l i j h;exact h.elim
 | succ h ih=>intro l i j ⟨n,_,_,h2⟩;exact Kids.le (λx y h=>Nat.le_of_lt (ih h)) h2
theorem SubT.mono:∀ {h l l' i j},(∀ k,i <= k->k < j->l'[k]?=l[k]?)->SubT h l i j->SubT h l' i j:=by
 intro h
 induction h with
 | zero=>intro l l' i j _ h;exact h
 | succ h ih =>
  intro l l' i j hl hs
  have hlt:=hs.lt
  obtain ⟨n,h1,h0,h2⟩:=hs
  refine ⟨n,by rw [hl i (zNl _) hlt];exact h1,h0,Kids.mono (λx y h=>Nat.le_of_lt h.lt) (λx y hx hy hs=>ih (λk h3 h4=>hl k (by omega) (by omega)) hs) h2⟩
theorem KidsT.monoL {h l l' r a b} (hl:∀ k,a <= k->k < b->l'[k]?=l[k]?) (hk:Kids (SubT h l) r a b):Kids (SubT h l') r a b :=
 Kids.mono (λx y h=>Nat.le_of_lt h.lt) (λx y hx hy hs=>hs.mono λk h3 h4=>hl k (by omega) (by omega)) hk
theorem SubT.up:∀ {h l i j},SubT h l i j->SubT (h + 1) l i j:=by
 intro h
 induction h with
 | zero=>intro l i j h;exact h.elim
 | succ h ih =>
  intro l i j ⟨n,h1,h0,h2⟩
  exact ⟨n,h1,h0,Kids.mono (λx y h=>Nat.le_of_lt h.lt) (λx y _ _ hs=>ih hs) h2⟩
theorem SubT.ups {h l i j} (hs:SubT h l i j):∀ {h'},h <= h'->SubT h' l i j:=by
 intro h' hle
 induction h' with
 | zero =>
  have:h=0:=by omega
  subst this;exact hs
 | succ n ih =>
  rcases Nat.lt_or_ge n h with h1 | h1
  ·have:h=n + 1:=by omega
   subst this;exact hs
  ·exact (ih h1).up
theorem SubT.set {h l i j t t'} (hs:SubT h l i j) (ht:l[i]?=some t) (ok:TypOk t') (hk:kidsT t'=kidsT t):SubT h (l.set i t') i j:=by
 cases h with
 | zero=>exact hs
 | succ h =>
  obtain ⟨n,h1,h0,h2⟩:=hs
  rw [ht] at h1;cases h1
  have hlt:=(List.getElem?_eq_some_iff.1 ht).1
  refine ⟨t',by rw [List.getElem?_set_self hlt],ok,?_⟩
  rw [hk]
  exact KidsT.monoL (λk h3 h4=>List.getElem?_set_ne (by omega)) h2
theorem Kids.mem3 {S:Nat->Nat->Prop} (hS:∀ x y,S x y->x <= y) {k:Int}:∀ {r a b},Kids S r a b->k ∈ r->∃ (c d:Nat),k=(c:Int)/\S c d/\a <= c/\d <= b:=by
 intro r
 induction r with
 | nil=>intro a b _ h;cases h
 | cons x r ih =>
  intro a b ⟨c,h0,h1,h2⟩ hm
  have h3:=Kids.le hS h2
  rcases List.mem_cons.1 hm with e | e
  ·exact ⟨a,c,e.trans h0,h1,zNl _,h3⟩
  ·obtain ⟨c',d',k1,k2,k3,k4⟩:=ih h2 e
   have:=hS _ _ h1
   exact ⟨c',d',k1,k2,by omega,k4⟩
theorem SubT.le' {h l}:∀ x y,SubT h l x y->x <= y:=λx y h=>Nat.le_of_lt h.lt
theorem zmI {t:GTyp} (f:GFld) (hf:f ∈ t.fields):f.ty ∈ kidsT t:=List.mem_append_left _ (List.mem_map.2 ⟨f,hf,rfl⟩)
theorem SubT.inb:∀ {h l i j},SubT h l i j->j <= l.length:=by
 intro h
 induction h with
 | zero=>intro l i j h;exact h.elim
 | succ h ih =>
  intro l i j ⟨t,h1,h0,h2⟩
  have hi:=(List.getElem?_eq_some_iff.1 h1).1
  have:∀ (r:List Int) (a b:Nat),Kids (SubT h l) r a b->a <= l.length->b <= l.length:=by
   intro r
   induction r with
   | nil=>intro a b h2 ha;cases h2;exact ha
   | cons x r ih2=>intro a b ⟨c,k1,k2,k3⟩ ha;exact ih2 c b k3 (ih k2)
  exact this _ _ _ h2 (by omega)

/-! ### By which tags they begin -/
def bgs:Nat->List GTyp->Int->List Tag
 | 0,_,_=>[]
 | h + 1,l,i=>match (if 0 <= i then l[i.toNat]? else none) with
  | none=>[]
  | some t=>if 0 < t.tags.length then t.tags.take 1 else t.fields.flatMap λf=>bgs h l f.ty
def wld:Nat->List GTyp->Int->Bool
 | 0,_,_=>false
 | h + 1,l,i=>match (if 0 <= i then l[i.toNat]? else none) with
  | none=>false
  | some t=>if t.kind ≠ 9 \/ 0 < t.tags.length then false else t.more || t.fields.any λf=>wld h l f.ty
theorem zpd {l:List GTyp} {h i:Nat} {t:GTyp} (e:l[i]?=some t):bgs (h + 1) l (i:Int)=if 0 < t.tags.length then t.tags.take 1 else t.fields.flatMap λf=>bgs h l f.ty:=by
 conv=>lhs;unfold bgs
 rw [if_pos (by omega),Int.toNat_natCast,e]
theorem zvD {l:List GTyp} {h i:Nat} {t:GTyp} (e:l[i]?=some t):wld (h + 1) l (i:Int)=if t.kind ≠ 9 \/ 0 < t.tags.length then false else t.more || t.fields.any λf=>wld h l f.ty:=by
 conv=>lhs;unfold wld
 rw [if_pos (by omega),Int.toNat_natCast,e]
theorem zoy {h:Nat} {l:List GTyp} (F:Int->List Tag) (hF:∀ x y,SubT h l x y->(F (x:Int)).length <= y - x):∀ {r:List Int} {a b:Nat},Kids (SubT h l) r a b->(r.flatMap F).length <= b - a:=by
 intro r
 induction r with
 | nil=>intro a b _;simp
 | cons k r ih =>
  intro a b ⟨c,h0,h1,h2⟩
  have e1:=hF _ _ h1
  have e2:=ih h2
  have e3:=h1.lt
  have e4:=Kids.le SubT.le' h2
  rw [List.flatMap_cons,zLa,h0]
  omega
theorem Kids.app {S:Nat->Nat->Prop} {ys:List Int}:∀ {xs:List Int} {a b:Nat},Kids S (xs ++ ys) a b->∃ c,Kids S xs a c/\Kids S ys c b:=by
 intro xs
 induction xs with
 | nil=>intro a b h;exact ⟨a,rfl,h⟩
 | cons x xs ih =>
  intro a b ⟨c,h0,h1,h2⟩
  obtain ⟨d,h3,h4⟩:=ih h2
  exact ⟨d,⟨c,h0,h1,h3⟩,h4⟩
theorem ziJ:∀ {h l i j},SubT h l i j->(bgs h l (i:Int)).length <= j - i:=by
 intro h
 induction h with
 | zero=>intro l i j h;exact h.elim
 | succ h ih =>
  intro l i j hs
  have hlt:=hs.lt
  obtain ⟨t,h1,h0,h2⟩:=hs
  rw [zpd h1]
  split
  ·rw [zLt];omega
  ·unfold kidsT at h2
   obtain ⟨c,h3,h4⟩:=Kids.app h2
   have:=zoy (bgs h l) (λx y hs=>ih hs) h3
   rw [List.flatMap_map] at this
   have e4:=Kids.le SubT.le' h4
   have e3:=Kids.le SubT.le' h3
   omega
theorem zmm {α β:Type} {l:List α} {f:α->List β} {k:Nat} {y:α} (h:l[k]?=some y):(l.take (k + 1)).flatMap f=(l.take k).flatMap f ++ f y:=by
 rw [List.take_add_one,h]
 simp
theorem zlO {α β:Type} {l:List α} {f:α->List β} {k:Nat}:((l.take k).flatMap f).length <= (l.flatMap f).length:=by
 conv=>rhs;rw [<- List.take_append_drop k l]
 rw [List.flatMap_append,zLa]
 omega
theorem zqa:∀ {h n l i j},SubT h l i j->h <= n->l.length <= 1000->zhh n l (i:Int)=some (bgs h l (i:Int)):=by
 intro h
 induction h with
 | zero=>intro n l i j h;exact h.elim
 | succ h ih =>
  intro n l i j hs hn hl
  obtain ⟨n,rfl⟩:∃ n',n=n' + 1:=⟨n - 1,by omega⟩
  have hjl:=hs.inb
  have hbl:=ziJ hs
  have hlt:=hs.lt
  obtain ⟨t,h1,h0,h2⟩:=hs
  have hti:(i:Int).toNat=i:=Int.toNat_natCast i
  have hget:∀ {β:Type} {R:β->Prop} {K:GTyp->Option β},T R (K t)->T R (asr (decide (0 <= (i:Int)/\(i:Int) < ((l.length:Nat):Int))) (cal (l[(i:Int).toNat]?) K)):=λh=>T.asd ⟨by omega,by omega⟩ (by rw [hti];exact T.eq h1 h)
  refine T.eqs ?_
  show T _ (zfI (zhh n) l (i:Int))
  unfold zfI
  rw [zpd h1] at hbl ⊢
  refine hget (T.br (λhb=>hget (T.asd ⟨zIl _,by omega,by have:=zOT hb;omega⟩ (T.some ?_))) λhb=>?_)
  ·have hb:=zOT hb
   rw [if_pos (by omega)];rfl
  have hb:=zOF hb
  rw [if_neg (by omega)] at hbl ⊢
  have hfl:∀ (k:Nat),(((t.fields.take k).flatMap λf=>bgs h l f.ty)).length <= 1000:=λk=>by
   have:=zlO (l:=t.fields) (f:=λf=>bgs h l f.ty) (k:=k)
   omega
  have hfc:t.fields.length <= 1000:=by
   unfold kidsT at h2
   obtain ⟨c,h3,h4⟩:=Kids.app h2
   have e:∀ (r:List Int) (a b:Nat),Kids (SubT h l) r a b->r.length <= b - a:=by
    intro r
    induction r with
    | nil=>intro a b _;exact zNz _
    | cons x r ih2 =>
     intro a b ⟨c,k0,k1,k2⟩
     have:=ih2 _ _ k2
     have:=k1.lt
     have:=Kids.le SubT.le' k2
     simp only [zLc];omega
   have:=e _ _ _ h3
   rw [List.length_map] at this
   have:=Kids.le SubT.le' h4
   omega
  refine T.lp (ι:=List Tag × Int) (λq=>0 <= q.2/\q.2 <= t.fields.length/\q.1=(t.fields.take q.2.toNat).flatMap λf=>bgs h l f.ty) (λq=>((t.fields.length:Int) - q.2).toNat) ⟨zIl _,by dsimp only;omega,rfl⟩ (by dsimp only;omega) λL q ⟨q1,q2,q3⟩ hL=>?_
  obtain ⟨o,k⟩:=q
  dsimp only at q1 q2 q3 hL ⊢
  refine hget (T.br (λhb2=>?_) λhb2=>T.some ?_)
  ·have hb2:=zOT hb2
   refine hget (T.get q1 hb2 λf hf=>?_)
   obtain ⟨c,d,e1,e2,e3,e4⟩:=Kids.mem3 SubT.le' h2 (zmI f (List.mem_of_getElem? hf))
   rw [e1]
   have hk1:(k + 1).toNat=k.toNat + 1:=by omega
   have hnx:=zmm (f:=λf:GFld=>bgs h l f.ty) hf
   have hle:=hfl (k.toNat + 1)
   rw [hnx,zLa,e1] at hle
   have hle2:=hfl k.toNat
   refine T.eq (ih e2 (by omega) hl) (T.abl (by rw [q3];omega) (T.ck (by omega) (hL _ ⟨by dsimp only;omega,by dsimp only;omega,?_⟩ (by dsimp only;omega))))
   dsimp only
   rw [hk1,hnx,q3,e1]
  ·have hb2:=zOF hb2
   rw [q3,zTl (by omega)]
theorem zsR:∀ {h n l i j},SubT h l i j->h <= n->l.length <= 1000->zjo n l (i:Int)=some (wld h l (i:Int)):=by
 intro h
 induction h with
 | zero=>intro n l i j h;exact h.elim
 | succ h ih =>
  intro n l i j hs hn hl
  obtain ⟨n,rfl⟩:∃ n',n=n' + 1:=⟨n - 1,by omega⟩
  have hjl:=hs.inb
  have hlt:=hs.lt
  obtain ⟨t,h1,h0,h2⟩:=hs
  have hti:(i:Int).toNat=i:=Int.toNat_natCast i
  have hget:∀ {β:Type} {R:β->Prop} {K:GTyp->Option β},T R (K t)->T R (asr (decide (0 <= (i:Int)/\(i:Int) < ((l.length:Nat):Int))) (cal (l[(i:Int).toNat]?) K)):=λh=>T.asd ⟨by omega,by omega⟩ (by rw [hti];exact T.eq h1 h)
  refine T.eqs ?_
  show T _ (zg5 (zjo n) l (i:Int))
  unfold zg5
  rw [zvD h1]
  have hfc:t.fields.length <= 1000:=by
   unfold kidsT at h2
   obtain ⟨c,h3,h4⟩:=Kids.app h2
   have e:∀ (r:List Int) (a b:Nat),Kids (SubT h l) r a b->r.length <= b - a:=by
    intro r
    induction r with
    | nil=>intro a b _;exact zNz _
    | cons x r ih2 =>
     intro a b ⟨c,k0,k1,k2⟩
     have:=ih2 _ _ k2
     have:=k1.lt
     have:=Kids.le SubT.le' k2
     simp only [zLc];omega
   have:=e _ _ _ h3
   rw [List.length_map] at this
   have:=Kids.le SubT.le' h4
   omega
  refine hget (T.jp (λb=>b=decide (t.kind ≠ 9 \/ 0 < t.tags.length)) (λJ hJ=>T.br (λhb=>hJ _ ?_) λhb=>hget (hJ _ ?_)) λb hb=>?_)
  ·have:¬ t.kind=9:=by simpa using hb
   rw [zDT (.inl this)]
  ·have:t.kind=9:=by simpa using hb
   rw [decide_eq_decide];omega
  subst hb
  refine T.br (λhb=>T.some ?_) λhb=>hget ?_
  ·rw [if_pos (zOT hb)]
  rw [if_neg (zOF hb)]
  refine T.lp (ι:=Bool × Int) (λq=>0 <= q.2/\q.2 <= t.fields.length/\q.1=(t.more || (t.fields.take q.2.toNat).any λf=>wld h l f.ty)) (λq=>((t.fields.length:Int) - q.2).toNat) ⟨zIl _,by dsimp only;omega,by simp⟩ (by dsimp only;omega) λL q ⟨q1,q2,q3⟩ hL=>?_
  obtain ⟨o,k⟩:=q
  dsimp only at q1 q2 q3 hL ⊢
  refine hget (T.br (λhb2=>?_) λhb2=>T.some ?_)
  ·have hb2:=zOT hb2
   have hk1:(k + 1).toNat=k.toNat + 1:=by omega
   obtain ⟨f,hf⟩:∃ f,t.fields[k.toNat]?=some f:=⟨_,List.getElem?_eq_getElem (by omega)⟩
   have hnx:(t.fields.take (k.toNat + 1)).any (λf=>wld h l f.ty)=((t.fields.take k.toNat).any (λf=>wld h l f.ty) || wld h l f.ty):=by
    rw [List.take_add_one,hf];simp
   refine T.jp (λb=>b=(o || wld h l f.ty)) (λJ hJ=>T.br (λhb=>hJ _ (by rw [hb];rfl)) λhb=>hget (T.get q1 hb2 λf' hf'=>?_)) λb hb=>T.ck (by omega) (hL _ ⟨by dsimp only;omega,by dsimp only;omega,by dsimp only;rw [hk1,hnx,hb,q3,Bool.or_assoc]⟩ (by dsimp only;omega))
   rw [hf] at hf';cases hf'
   obtain ⟨c,d,e1,e2,e3,e4⟩:=Kids.mem3 SubT.le' h2 (zmI f (List.mem_of_getElem? hf))
   rw [e1] at hJ ⊢
   exact T.eq (ih e2 (by omega) hl) (hJ _ (by rw [hb];rfl))
  ·have hb2:=zOF hb2
   rw [q3,zTl (by omega)]

/-! ### Told apart -/
theorem zoh (l:List Tag) (x:Tag) (hl:l.length <= 1000000):zeD l x=some (decide (x ∈ l)):=by
 refine T.eqs ?_
 unfold zeD
 refine T.lp (λ(k:Int)=>0 <= k/\k <= (l.length:Int)/\x ∉ l.take k.toNat) (λ(k:Int)=>((l.length:Int) - k).toNat) ⟨zIl _,by omega,by simp⟩ (by omega) λL k hk hL=>?_
 refine T.br (λh2=>?_) λh2=>T.some ?_
 ·have h2:=zOT h2
  refine T.get hk.1 h2 λy hy=>T.br (λh3=>T.some ?_) λh3=>T.ck (by omega) (hL _ ⟨by omega,by omega,?_⟩ (by omega))
  ·have h3:=zOT h3
   subst h3
   exact (zDT (List.mem_of_getElem? hy)).symm
  ·have h3:=zOF h3
   have e:(k + 1).toNat=k.toNat + 1:=by omega
   rw [e,List.take_add_one,hy]
   simp only [Option.toList_some,List.mem_append,zMo,not_or]
   exact ⟨hk.2.2,λh=>h3 h.symm⟩
 ·have h2:=zOF h2
  have h4:=hk.2.2
  rw [zTl (by omega)] at h4
  exact (zDF h4).symm
theorem zno {α:Type} {l:List (List α)} {k:Nat} {y:List α} (h:l[k]?=some y):(l.take (k + 1)).flatten=(l.take k).flatten ++ y:=by
 rw [List.take_add_one,h];simp
theorem zuK {α:Type} (l:List (List α)) (k:Nat):((l.take k).flatten).length <= l.flatten.length:=by
 conv=>rhs;rw [<- List.take_append_drop k l]
 rw [List.flatten_append,zLa]
 omega
theorem zpk (s:List (List Tag)) (h1:s.length <= 10000) (h2:s.flatten.length <= 100000):zfX s=some (decide s.flatten.Nodup):=by
 refine T.eqs ?_
 unfold zfX
 refine T.lp (ι:=List Tag × Int) (λq=>0 <= q.2/\q.2 <= s.length/\q.1=(s.take q.2.toNat).flatten/\q.1.Nodup) (λq=>((s.length:Int) - q.2).toNat) ⟨zIl _,by dsimp only;omega,rfl,List.nodup_nil⟩ (by dsimp only;omega) λL q ⟨q1,q2,q3,q4⟩ hL=>?_
 obtain ⟨o,k⟩:=q
 dsimp only at q1 q2 q3 q4 hL ⊢
 refine T.br (λhb=>?_) λhb=>T.some ?_
 ·have hb:=zOT hb
  obtain ⟨y,hy⟩:∃ y,s[k.toNat]?=some y:=⟨_,List.getElem?_eq_getElem (by omega)⟩
  have hk1:(k + 1).toNat=k.toNat + 1:=by omega
  have hnx:=zno hy
  have hle:=zuK s (k.toNat + 1)
  rw [hnx,zLa] at hle
  have hget:∀ {β:Type} {R:β->Prop} {K:List Tag->Option β},T R (K y)->T R (cal (getI s k) K):=λh=>T.get q1 hb λy' hy'=>by rw [hy] at hy';cases hy';exact h
  have hpre:∀ n:Nat,n <= y.length->¬ ((s.take k.toNat).flatten ++ y.take n).Nodup->¬ s.flatten.Nodup:=λn hn hno h=>hno (by
   have e:s.flatten=((s.take k.toNat).flatten ++ y.take n) ++ (y.drop n ++ (s.drop (k.toNat + 1)).flatten):=by
    conv=>lhs;rw [<- List.take_append_drop (k.toNat + 1) s]
    rw [List.flatten_append,hnx]
    conv=>lhs;rw [<- List.take_append_drop n y]
    simp only [zLA]
   rw [e] at h
   exact (List.nodup_append.1 h).1)
  refine T.lp (ι:=List Tag × Int) (λp=>0 <= p.2/\p.2 <= y.length/\p.1=(s.take k.toNat).flatten ++ y.take p.2.toNat/\p.1.Nodup) (λp=>((y.length:Int) - p.2).toNat) ⟨zIl _,by dsimp only;omega,by dsimp only;rw [q3];simp,q4⟩ (by dsimp only;omega) λL2 p ⟨p1,p2,p3,p4⟩ hL2=>?_
  obtain ⟨o2,i⟩:=p
  dsimp only at p1 p2 p3 p4 hL2 ⊢
  have hi1:(i + 1).toNat=i.toNat + 1:=by omega
  refine hget (T.br (λhb2=>?_) λhb2=>T.ck (by omega) (hL _ ⟨by dsimp only;omega,by dsimp only;omega,?_,p4⟩ (by dsimp only;omega)))
  ·have hb2:=zOT hb2
   obtain ⟨z,hz⟩:∃ z,y[i.toNat]?=some z:=⟨_,List.getElem?_eq_getElem (by omega)⟩
   have hget2:∀ {β:Type} {R:β->Prop} {K:Tag->Option β},T R (K z)->T R (cal (getI y i) K):=λh=>T.get p1 hb2 λz' hz'=>by rw [hz] at hz';cases hz';exact h
   have hz2:y.take (i.toNat + 1)=y.take i.toNat ++ [z]:=by rw [List.take_add_one,hz];rfl
   have hol:o2.length <= 100000:=by rw [p3,zLa,zLt];omega
   refine hget (hget2 (T.eq (zoh _ _ (by omega)) (T.br (λhm=>T.some ?_) λhm=>hget (hget2 (T.abl (by simp only [zLs];omega) (T.ck (by omega) (hL2 _ ⟨by dsimp only;omega,by dsimp only;omega,?_,?_⟩ (by dsimp only;omega))))))))
   ·have hm:=zOT hm
    symm
    refine zDF (hpre (i.toNat + 1) (by omega) ?_)
    rw [hz2,<- zLA,<- p3]
    intro hnd
    have:=(List.nodup_append.1 hnd).2.2 z hm z (zMo.2 rfl)
    exact this rfl
   ·dsimp only;rw [hi1,hz2,p3,zLA]
   ·have hm:=zOF hm
    dsimp only
    rw [List.nodup_append]
    refine ⟨p4,by simp,λa ha b hb e=>?_⟩
    rw [zMo.1 hb] at e
    exact hm (e ▸ ha)
  ·have hb2:=zOF hb2
   dsimp only
   rw [hk1,hnx,p3,zTl (show y.length <= i.toNat by omega)]
 ·have hb:=zOF hb
  rw [q3,zTl (by omega)] at q4
  exact (zDT q4).symm

theorem znJ {h:Nat} {l:List GTyp}:∀ {r:List Int} {a b:Nat},Kids (SubT h l) r a b->r.length <= b - a:=by
 intro r
 induction r with
 | nil=>intro a b _;exact zNz _
 | cons x r ih =>
  intro a b ⟨c,k0,k1,k2⟩
  have:=ih k2
  have:=k1.lt
  have:=Kids.le SubT.le' k2
  simp only [zLc];omega
def tld (h:Nat) (l:List GTyp) (fs:List GFld) (o:Bool):Bool:=!(fs.any λf=>wld h l f.ty && (o || decide (1 < fs.length))) && decide (fs.flatMap λf=>bgs h l f.ty).Nodup
theorem zr6 {h a b:Nat} {x:GMk} {fs:List GFld} {o:Bool} (hk:Kids (SubT h x.l) (fs.map λf=>f.ty) a b) (hh:h <= 1000) (hl:x.l.length <= 1000) (hb:b <= x.l.length):zcb x fs o=some (tld h x.l fs o,x):=by
 refine T.eqs ?_
 unfold zcb
 have hfl:=znJ hk
 rw [List.length_map] at hfl
 have hflat:=zoy (bgs h x.l) (λx y hs=>ziJ hs) hk
 rw [List.flatMap_map] at hflat
 have hfu:h <= fuel:=by unfold fuel;omega
 have hsub:∀ f ∈ fs,∃ c d:Nat,f.ty=(c:Int)/\SubT h x.l c d:=λf hf=>by
  obtain ⟨c,d,e1,e2,_⟩:=Kids.mem3 SubT.le' hk (List.mem_map.2 ⟨f,hf,rfl⟩)
  exact ⟨c,d,e1,e2⟩
 refine T.lp (ι:=List (List Tag) × Int) (λq=>0 <= q.2/\q.2 <= fs.length/\q.1=(fs.take q.2.toNat).map (λf=>bgs h x.l f.ty)/\(fs.take q.2.toNat).any (λf=>wld h x.l f.ty && (o || decide (1 < fs.length)))=false) (λq=>((fs.length:Int) - q.2).toNat) ⟨zIl _,by dsimp only;omega,rfl,rfl⟩ (by dsimp only;omega) λL q ⟨q1,q2,q3,q4⟩ hL=>?_
 obtain ⟨s,k⟩:=q
 dsimp only at q1 q2 q3 q4 hL ⊢
 refine T.br (λhb1=>?_) λhb1=>?_
 ·have hb1:=zOT hb1
  have hk1:(k + 1).toNat=k.toNat + 1:=by omega
  refine T.get q1 hb1 λf hf=>?_
  obtain ⟨c,d,e1,e2⟩:=hsub f (List.mem_of_getElem? hf)
  have htk:fs.take (k.toNat + 1)=fs.take k.toNat ++ [f]:=by rw [List.take_add_one,hf];rfl
  rw [e1]
  refine T.eq (zsR e2 hfu hl) (T.jp (λq=>q=(wld h x.l f.ty && (o || decide (1 < fs.length)))) (λJ hJ=>T.br (λh2=>T.jp (λq=>q=(o || decide (1 < fs.length))) (λJ2 hJ2=>T.br (λh3=>hJ2 _ (by rw [h3];rfl)) λh3=>hJ2 _ (by rw [h3,Bool.false_or,decide_eq_decide];omega)) λq hq=>hJ _ (by rw [e1,h2,hq];rfl)) λh2=>hJ _ (by rw [e1,h2];rfl)) λq hq=>?_)
  refine T.br (λh2=>T.some ?_) λh2=>T.get q1 hb1 λf' hf'=>?_
  ·have:(fs.any λf=>wld h x.l f.ty && (o || decide (1 < fs.length)))=true:=List.any_eq_true.2 ⟨f,List.mem_of_getElem? hf,by rw [<- hq];exact h2⟩
   unfold tld
   rw [this];rfl
  ·rw [hf] at hf';cases hf'
   rw [e1]
   refine T.eq (zqa e2 hfu hl) (T.abl (by rw [q3,List.length_map,zLt,zLs];omega) (T.ck (by omega) (hL _ ⟨by dsimp only;omega,by dsimp only;omega,?_,?_⟩ (by dsimp only;omega))))
   ·dsimp only;rw [hk1,htk,q3,List.map_append,List.map_singleton,e1]
   ·dsimp only;rw [hk1,htk,List.any_append,q4,List.any_cons,<- hq,h2];rfl
 ·have hb1:=zOF hb1
  rw [zTl (by omega)] at q3 q4
  have hfe:s.flatten=fs.flatMap λf=>bgs h x.l f.ty:=by rw [q3];rfl
  refine T.eq (zpk s (by rw [q3,List.length_map];omega) (by rw [hfe];omega)) (T.some ?_)
  unfold tld
  rw [q4,hfe];rfl

def lse (t:GTyp):List Bool:=t.fields.mapIdx λk f=>f.optional || f.has || decide (t.root <= (k:Int))
theorem zo6 (t:GTyp):(lse t).length=t.fields.length:=by unfold lse;rw [List.length_mapIdx]
theorem zrJ {t:GTyp} {k:Nat} {f:GFld} (h:t.fields[k]?=some f):(lse t)[k]?=some (f.optional || f.has || decide (t.root <= (k:Int))):=by
 unfold lse;rw [List.getElem?_mapIdx,h];rfl
theorem zp8 (t:GTyp) (hl:t.fields.length <= 1000):zgZ t=some (lse t):=by
 refine T.eqs ?_
 unfold zgZ
 have hll:=zo6 t
 refine T.lp (ι:=List Bool × Int) (λq=>0 <= q.2/\q.2 <= t.fields.length/\q.1=(lse t).take q.2.toNat) (λq=>((t.fields.length:Int) - q.2).toNat) ⟨zIl _,by dsimp only;omega,rfl⟩ (by dsimp only;omega) λL q ⟨q1,q2,q3⟩ hL=>?_
 obtain ⟨s,k⟩:=q
 dsimp only at q1 q2 q3 hL ⊢
 refine T.br (λhb=>?_) λhb=>T.some ?_
 ·have hb:=zOT hb
  refine T.get q1 hb λf hf=>?_
  refine T.jp (λq=>q=(f.optional || f.has)) (λJ h=>T.br (λh2=>h _ (by rw [h2];rfl)) λh2=>T.get q1 hb λf' hf'=>h _ (by rw [hf] at hf';cases hf';rw [h2];rfl)) λq hq=>?_
  refine T.jp (λq'=>q'=(f.optional || f.has || decide (t.root <= k))) (λJ h=>T.br (λh2=>h _ (by rw [<- hq,h2];rfl)) λh2=>h _ (by rw [<- hq,h2];rfl)) λq' hq'=>?_
  have hk1:(k + 1).toNat=k.toNat + 1:=by omega
  have hkk:((k.toNat:Nat):Int)=k:=by omega
  have:=zrJ hf
  rw [hkk] at this
  refine T.abl (by rw [q3,zLt,zLs];omega) (T.ck (by omega) (hL _ ⟨by dsimp only;omega,by dsimp only;omega,?_⟩ (by dsimp only;omega)))
  dsimp only
  rw [hk1,List.take_add_one,this,q3,hq'];rfl
 ·have hb:=zOF hb
  rw [q3,zTl (by omega)]
def lst (t:GTyp):Nat->Nat
 | 0=>0
 | k + 1=>if (lse t)[k]?=some true then lst t k else k + 1
theorem zrj (t:GTyp):∀ k,lst t k <= k
 | 0=>zNl _
 | k + 1=>by
  unfold lst
  split
  ·exact Nat.le_trans (zrj t k) (Nat.le_succ k)
  ·exact zNl _
theorem zrU (t:GTyp) (hl:t.fields.length <= 1000) (h0:0 <= t.root) (h1:t.root <= t.fields.length):zir t=some ((lst t t.root.toNat:Nat):Int):=by
 refine T.eqs ?_
 unfold zir
 have hll:=zo6 t
 refine T.eq (zp8 t hl) (T.lp (λ(k:Int)=>0 <= k/\k <= t.root/\lst t t.root.toNat=lst t k.toNat) (λ(k:Int)=>k.toNat) ⟨h0,zIl _,rfl⟩ (by omega) λL k ⟨k1,k2,k3⟩ hL=>?_)
 refine T.jp (λq=>(q=true->0 < k/\lst t k.toNat=lst t (k - 1).toNat)/\(q=false->lst t k.toNat=k.toNat)) (λJ h=>T.br (λhb=>?_) λhb=>h _ ⟨(λh=>by cases h),λ_=>?_⟩) λq hq=>?_
 ·have hb:=zOT hb
  have e:k.toNat=(k - 1).toNat + 1:=by omega
  refine T.ck (by omega) (T.get (by omega) (by omega) λy hy=>h _ ?_)
  rw [e]
  refine ⟨λhy1=>⟨hb,?_⟩,λhy1=>?_⟩
  ·rw [lst,if_pos (by rw [hy,hy1])]
  ·rw [lst,if_neg (by rw [hy,hy1];simp)]
 ·have hb:=zOF hb
  have e:k.toNat=0:=by omega
  rw [e];rfl
 ·refine T.br (λh2=>T.ck (by have:=(hq.1 h2).1;omega) (hL _ ⟨by have:=(hq.1 h2).1;omega,by omega,by rw [k3,(hq.1 h2).2]⟩ (by have:=(hq.1 h2).1;omega))) λh2=>T.some ?_
  rw [k3,hq.2 h2];omega
theorem KidsT.sub {h:Nat} {l:List GTyp}:∀ {r a b} (n m:Nat),Kids (SubT h l) r a b->∃ c d,Kids (SubT h l) ((r.take n).drop m) c d/\d <= b:=by
 intro r a b n m hk
 have h1:r=(r.take n).take m ++ ((r.take n).drop m ++ r.drop n):=by
  rw [<- zLA,List.take_append_drop,List.take_append_drop]
 rw [h1] at hk
 obtain ⟨c,_,h3⟩:=Kids.app hk
 obtain ⟨d,h4,h5⟩:=Kids.app h3
 exact ⟨c,d,h4,Kids.le SubT.le' h5⟩
theorem zsv {h a b:Nat} {x:GMk} {t:GTyp} (hk:Kids (SubT h x.l) (t.fields.map λf=>f.ty) a b) (hh:h <= 1000) (hl:x.l.length <= 1000) (hb:b <= x.l.length) (r0:0 <= t.root) (r1:t.kind=7->t.root <= t.fields.length):T (λr=>r.2=x) (zdd x t):=by
 unfold zdd
 have hfl:=znJ hk
 rw [List.length_map] at hfl
 have hfl1:t.fields.length <= 1000:=by omega
 have hll:=zo6 t
 refine T.br (λ_=>T.eq (zr6 hk hh hl hb) (T.some rfl)) λhk7=>?_
 have hk7:t.kind=7:=by simpa using hk7
 have hsub:∀ (n m:Nat) (o:Bool),zcb x ((t.fields.take n).drop m) o=some (tld h x.l ((t.fields.take n).drop m) o,x):=λn m o=>by
  obtain ⟨c,d,k1,k2⟩:=KidsT.sub n m hk
  rw [<- List.map_take,<- List.map_drop] at k1
  exact zr6 k1 hh hl (by omega)
 refine T.eq (zp8 t hfl1) (T.lp (ι:=Int × GMk) (λq=>0 <= q.1/\q.1 <= t.fields.length/\q.2=x) (λq=>((t.fields.length:Int) - q.1).toNat) ⟨zIl _,by dsimp only;omega,rfl⟩ (by dsimp only;omega) λL q ⟨q1,q2,q3⟩ hL=>?_)
 obtain ⟨k,y⟩:=q
 dsimp only at q1 q2 q3 hL ⊢
 subst q3
 refine T.br (λhb1=>?_) λhb1=>?_
 ·have hb1:=zOT hb1
  refine T.jp (ι:=GMk) (λz=>z=y) (λJ hJ=>T.get q1 (by omega) λc hc=>T.br (λ_=>hJ _ rfl) λ_=>T.ck (by omega) ?_) λz hz=>T.ck (by omega) (hL _ ⟨by dsimp only;omega,by dsimp only;omega,hz⟩ (by dsimp only;omega))
  refine T.lp (λ(e:Int)=>k + 1 <= e/\e <= t.fields.length) (λ(e:Int)=>((t.fields.length:Int) - e).toNat) ⟨zIl _,by omega⟩ (by omega) λL2 e ⟨e1,e2⟩ hL2=>?_
  refine T.jp (λq=>q=true->e < t.fields.length) (λJ2 h2=>T.br (λh3=>T.get (by omega) (by have:=zOT h3;omega) λ_ _=>h2 _ λ_=>zOT h3) λ_=>h2 _ λh=>by cases h) λq hq=>?_
  refine T.br (λh3=>T.ck (by have:=hq h3;omega) (hL2 _ (by have:=hq h3;omega) (by have:=hq h3;omega))) λ_=>T.ck (by omega) (T.asd (by omega) (T.eq (hsub _ _ _) (T.br (λ_=>T.some rfl) λ_=>hJ _ rfl)))
 ·refine T.jp (ι:=Bool × GMk) (λz=>z.2=y) (λJ hJ=>T.br (λ_=>hJ _ rfl) λ_=>T.eq (zrU t hfl1 r0 (r1 hk7)) ?_) λz hz=>T.some hz
  have:=zrj t t.root.toNat
  have:=r1 hk7
  exact T.asd ⟨by omega,by omega,zIl _⟩ (T.eq (hsub _ _ _) (hJ _ rfl))
end Go.Proofs.Q


namespace Go.Proofs.Q
open Go.Sy
set_option linter.unusedVariables false

def fl (x:GMk) (e:Int):GMk:=if x.e=0 then GMk.mk x.m x.l e else x
theorem fail10 (x:GMk) (e:Int):zaV x e=some (fl x e):=zl4 x e
theorem zwf (x:GMk) (e:Int):(fl x e).m=x.m:=by unfold fl;split <;> rfl
theorem zwg (x:GMk) (e:Int):(fl x e).l=x.l:=by unfold fl;split <;> rfl
theorem zt1 {x:GMk} {e:Int} (h:e ≠ 0):(fl x e).e ≠ 0:=by
 unfold fl
 split
 ·exact h
 ·assumption
structure Sm (x y:GMk):Prop where
 m:y.m=x.m
 l:y.l=x.l
 e:y.e=0->x.e=0
theorem Sm.refl (x:GMk):Sm x x:=⟨rfl,rfl,λh=>h⟩
theorem Sm.trans {x y z:GMk} (h:Sm x y) (k:Sm y z):Sm x z:=⟨k.m.trans h.m,k.l.trans h.l,λe=>h.e (k.e e)⟩
theorem Sm.fl {x:GMk} {e:Int} (h:e ≠ 0):Sm x (fl x e):=⟨zwf x e,zwg x e,λk=>absurd k (zt1 h)⟩
theorem znG {x:GMk} {i:Nat} {t:GTyp} (v:Val) (ht:x.l[i]?=some t) (hv:DOk v) (r0:0 <= t.root) (r1:t.kind=3->t.root <= t.items.length) (hi:t.items.length <= 8001) :
    T (λr=>Sm x r.2/\DOk r.1) (zce x (i:Int) v):=by
  unfold zce
  have hlt:=(List.getElem?_eq_some_iff.1 ht).1
  have hti:(i:Int).toNat=i:=Int.toNat_natCast i
  refine T.asd ⟨by omega,by omega⟩ ?_
  rw [hti]
  refine T.eq ht (T.jp (ι:=Bool × Val) (λq=>DOk q.2) (λJ k=>?_) λq hq=>T.jp (ι:=GMk) (λy=>Sm x y) (λJ k=>T.br (λ_=>T.eq (fail10 _ _) (k _ (Sm.fl (by decide)))) λ_=>k _ (Sm.refl x)) λy hy=>T.some ⟨hy,hq⟩)
  refine T.jp (λ_=>True) (λJ1 k1=>T.br (λ_=>k1 _ trivial) λ_=>k1 _ trivial) λb1 _=>T.br (λ_=>k _ hv) λ_=>?_
  refine T.br (λ_=>T.jp (λ_=>True) (λJ1 k1=>T.br (λ_=>T.cal (zne _ _) λ_ _ _=>k1 _ trivial) λ_=>k1 _ trivial) λb2 _=>k _ hv) λ_=>?_
  refine T.jp (λ_=>True) (λJ1 k1=>T.br (λ_=>k1 _ trivial) λ_=>k1 _ trivial) λb3 _=>T.br (λ_=>?_) λ_=>?_
  · refine T.jp (λ_=>True) (λJ1 k1=>T.br (λ_=>T.cal (zne _ _) λ_ _ _=>k1 _ trivial) λ_=>k1 _ trivial) λb4 _=>?_
    refine T.jp (λ_=>True) (λJ1 k1=>T.br (λ_=>T.jp (λ_=>True) (λJ2 k2=>T.br (λ_=>k2 _ trivial) λ_=>T.cal (zm2 _ (by have:=hv.1;omega)) λ_ _ _=>k2 _ trivial) λb5 _=>k1 _ trivial) λ_=>k1 _ trivial) λb6 _=>k _ hv
  · refine T.br (λh3=>T.br (λ_=>?_) λ_=>k _ hv) λ_=>k _ hv
    have h3:=zOT h3
    have r2:=r1 h3
    refine T.lp (ι:=Bool × Int × Val) (λq=>0 <= q.2.1/\q.2.1 <= t.root/\DOk q.2.2) (λq=>(t.root - q.2.1).toNat) ⟨zIl _,r0,hv⟩ (by dsimp only;omega) λL q ⟨q1,q2,q3⟩ hL=>?_
    obtain ⟨b,j,w⟩:=q
    dsimp only at q1 q2 q3 hL ⊢
    refine T.jp (λb'=>b'=true->j < t.root) (λJ1 k1=>T.br (λh4=>k1 _ λ_=>zOT h4) λ_=>k1 _ λh=>by cases h) λb' hb'=>T.br (λh5=>?_) λ_=>k _ q3
    have h5:=hb' h5
    refine T.jp (ι:=Bool × Val) (λp=>DOk p.2) (λJ2 k2=>T.get q1 (by omega) λy _=>T.br (λ_=>T.get q1 (by omega) λy2 _=>k2 _ ⟨zNz _,rfl,rfl,zOT rfl,zOT rfl,rfl⟩) λ_=>k2 _ q3) λp hp=>T.ck (by omega) (hL _ ⟨by dsimp only;omega,by dsimp only;omega,hp⟩ (by dsimp only;omega))
theorem znc {x:GMk} {i:Nat} (hi:i < x.l.length):T (λr=>r.2=x) (zc2 x (i:Int)):=by
 unfold zc2
 have hti:(i:Int).toNat=i:=Int.toNat_natCast i
 refine T.asd ⟨by omega,by omega⟩ ?_
 rw [hti]
 exact T.eq (List.getElem?_eq_getElem hi) (T.br (λ_=>T.some rfl) λ_=>T.some rfl)
theorem zsr (tags:List Tag) (n mode:Int) (hl:tags.length <= 1000000):T (λr=>r.2=0->r.1 ≠ []/\r.1.length <= tags.length + 1) (zjC tags n mode):=by
 unfold zjC
 refine T.jp (λ_=>True) (λJ k=>T.br (λ_=>k _ trivial) λ_=>k _ trivial) λb1 _=>?_
 refine T.jp (λb=>b=false->(mode=1->0 < tags.length)) (λJ k=>T.br (λ_=>k _ λh=>by cases h) λ_=>?_) λb2 hb2=>T.br (λ_=>T.some λh=>by cases h) λh2=>?_
 ·refine T.jp (λb=>b=false->(mode=1->0 < tags.length)) (λJ2 k2=>T.br (λ_=>k2 _ λh _=>?_) λh=>k2 _ λ_ hm=>absurd hm (zOF h)) λb hb=>k _ hb
  have:=zOF h
  omega
 ·have h2:=hb2 h2
  rw [tkl]
  refine T.br (λh3=>T.asd ⟨by omega,by have:=h2 (zOT h3);omega,zIl _⟩ (T.abl (by rw [zLd,zLs];omega) (T.some λ_=>⟨by simp,by dsimp only;rw [zLa,zLd,zLs];omega⟩))) λh3=>T.abl (by rw [zLs];omega) (T.some λ_=>⟨by simp,by dsimp only;rw [zLa,zLs];omega⟩)
def Wp1 (x y:GMk) (i:Nat):Prop:=y.m=x.m/\y.l.length=x.l.length/\(y.e=0->x.e=0/\∀ t,x.l[i]?=some t->∃ tg:List Tag,y.l=x.l.set i { t with tags:=tg }/\tg ≠ []/\tg.length <= t.tags.length + 1)
theorem znq {x:GMk} {i:Nat} {t:GTyp} (n mode:Int) (ht:x.e=0->x.l[i]?=some t/\t.tags.length <= 100000):T (λy=>Wp1 x y i) (zc9 x (i:Int) n mode):=by
 unfold zc9
 refine T.br (λhe=>T.some ⟨rfl,rfl,λh=>absurd h (by simpa using he)⟩) λhe=>?_
 have he:x.e=0:=by simpa using he
 obtain ⟨h1,h2⟩:=ht he
 have hlt:=(List.getElem?_eq_some_iff.1 h1).1
 have hti:(i:Int).toNat=i:=Int.toNat_natCast i
 refine T.asd ⟨by omega,by omega⟩ ?_
 rw [hti]
 refine T.eq h1 (T.cal (zsr _ _ _ (by omega)) λr _ hr=>T.br (λhr2=>T.eq (fail10 _ _) (T.some ⟨zwf _ _,by rw [zwg],λh=>absurd h (zt1 (by simpa using hr2))⟩)) λhr2=>?_)
 have hr2:r.2=0:=by simpa using hr2
 obtain ⟨h3,h4⟩:=hr hr2
 refine T.asd ⟨by omega,by omega⟩ (T.eq h1 (T.some ⟨rfl,by dsimp only;rw [List.length_set],λ_=>⟨he,λt' ht'=>?_⟩⟩))
 rw [h1] at ht';cases ht'
 exact ⟨r.1,rfl,h3,h4⟩
theorem TypOk.tag {t:GTyp} (h:TypOk t) {tg:List Tag} (h1:tg ≠ []) (h2:tg.length <= 100000):TypOk { t with tags:=tg } :=
 ⟨λ_=>h1,h2,h.root0,h.rootF,h.rootI,h.fields,h.items,h.ilen,h.nums,h.dflt,h.rootZ⟩
end Go.Proofs.Q


namespace Go.Proofs.Q
open Go.Sy
set_option linter.unusedVariables false

def Dn (m:GMod) (a:Int) (k j:Nat):Prop:=∀ (p:Nat) (n:GNode),k <= p->p < j->m.nodes[p]?=some n->n.kind=11->0 <= fnd m.names n.name/\Ed (gr m) a (fnd m.names n.name)
structure Env (m:GMod) (rk:Int->Nat):Prop where
 wf:WF m
 rk40:∀ i,rk i <= 40
 ed:∀ i j,Ed (gr m) i j->rk j < rk i
 root:∀ b:Int,0 <= b->b < m.names.length->∃ c d:Nat,m.types[b.toNat]?=some (c:Int)/\Sub 17 m.nodes c d/\d <= m.nodes.length/\Dn m b c d
structure Gk (x y:GMk):Prop where
 m:y.m=x.m
 le:x.l.length <= y.l.length
 lim:y.l.length <= 300
 e:y.e=0->x.e=0
 pre:y.e=0->∀ k,k < x.l.length->y.l[k]?=x.l[k]?
theorem Gk.refl {x:GMk} (h:x.l.length <= 300):Gk x x:=⟨rfl,zNl _,h,λe=>e,λ_ _ _=>rfl⟩
theorem Gk.sm {x y:GMk} (h:Sm x y) (k:x.l.length <= 300):Gk x y:=⟨h.m,by rw [h.l];exact zNl _,by rw [h.l];exact k,h.e,λ_ _ _=>by rw [h.l]⟩
theorem Gk.trans {x y z:GMk} (h:Gk x y) (k:Gk y z):Gk x z :=
 ⟨k.m.trans h.m,Nat.le_trans h.le k.le,k.lim,λe=>h.e (k.e e),λe p hp=>(k.pre e p (Nat.lt_of_lt_of_le hp h.le)).trans (h.pre (k.e e) p hp)⟩
def NodeS (m:GMod) (rk:Int->Nat) (f:GMk->Int->Int->Option (Int × GMk)) (N:Nat):Prop :=
 ∀ (x:GMk) (k j h:Nat) (a d:Int),x.m=m->x.l.length <= 300->Sub h m.nodes k j->j <= m.nodes.length->Dn m a k j->rk a * 301 + (j - k) <= N->0 <= d->d <= 17 ->
 T (λr=>Gk x r.2/\(r.2.e=0->r.1=(x.l.length:Int)/\SubT (17 - d).toNat r.2.l x.l.length r.2.l.length/\∃ t,r.2.l[x.l.length]?=some t/\t.tags.length <= N + 1)) (f x (k:Int) d)
def MadeS (m:GMod) (rk:Int->Nat) (f:GMk->GNode->Int->Option (Int × GMk)) (N:Nat):Prop :=
 ∀ (x:GMk) (n:GNode) (k j h:Nat) (a d:Int),x.m=m->x.l.length <= 300->m.nodes[k]?=some n->n.kind ≠ 11->Sub h m.nodes k j->j <= m.nodes.length->Dn m a k j->rk a * 301 + (j - k) <= N->0 <= d->d <= 17 ->
 T (λr=>Gk x r.2/\(r.2.e=0->r.1=(x.l.length:Int)/\SubT (17 - d).toNat r.2.l x.l.length r.2.l.length/\∃ t,r.2.l[x.l.length]?=some t/\t.tags.length <= 1)) (f x n d)
def FieldsT (m:GMod) (rk:Int->Nat) (f:GMk->Int->GNode->Int->Option GMk) (N:Nat):Prop :=
 ∀ (x:GMk) (n:GNode) (k j h:Nat) (a d:Int) (l0:List GTyp) (t:GTyp),x.m=m->x.l=l0 ++ [t]->x.l.length <= 300->m.nodes[k]?=some n->Kids (Sub h m.nodes) (n.fields.map λf=>f.ty) (k + 1) j->j <= m.nodes.length->Dn m a k j->rk a * 301 + (j - k) <= N->0 <= d->d <= 16 ->
  (n.kind=7 \/ n.kind=8 \/ n.kind=9)->t.kind=n.kind->t.root=n.root ->
 T (λy=>y.m=m/\x.l.length <= y.l.length/\y.l.length <= 300/\(y.e=0->x.e=0/\(∀ p,p < l0.length->y.l[p]?=x.l[p]?)/\∃ fs,y.l[l0.length]?=some { t with fields:=fs }/\fs.length=n.fields.length/\Kids (SubT (16 - d).toNat y.l) (fs.map λf=>f.ty) x.l.length y.l.length/\∀ f ∈ fs,DOk f.dflt)) (f x (l0.length:Int) n d)

theorem Kids.subs {h:Nat} {l:List GNode} {k:Int} {r:List Int} {a b:Nat} (hk:Kids (Sub h l) r a b) (hm:k ∈ r):∃ (c d:Nat),k=(c:Int)/\Sub h l c d/\a <= c/\d <= b:=Kids.mem3 (λx y h=>Nat.le_of_lt h.lt) hk hm
theorem Dn.part {m:GMod} {a:Int} {k j c d:Nat} (h:Dn m a k j) (h1:k <= c) (h2:d <= j):Dn m a c d:=λp n hp hq=>h p n (by omega) (by omega)

theorem zlT {m : GMod} {rk:Int->Nat} {Fs Nd Md} {N:Nat} (E:Env m rk) (hN:N <= 50000) (hnd:∀ N',N' + 1=N->NodeS m rk Nd N'):FieldsT m rk (zcd Fs Nd Md) N:=by
  intro x n k j h a d l0 t hm hxl hx3 hk hkid hj hdn hN2 hd0 hd hkind htk htr
  unfold zcd
  have hok:=E.wf.ok n (List.mem_of_getElem? hk)
  have hkl:=Kids.length hkid
  have hnl:=E.wf.nodes
  rw [List.length_map] at hkl
  have hxlen:x.l.length=l0.length + 1:=by rw [hxl,zLa,zLs]
  have hsub:∀ f ∈ n.fields,∃ c d:Nat,f.ty=(c:Int)/\Sub h m.nodes c d/\k + 1 <= c/\d <= j:=λf hf=>by
    obtain ⟨c,d,h1,h2,h3,h4⟩:=Kids.subs hkid (List.mem_map.2 ⟨f,hf,rfl⟩)
    exact ⟨c,d,h1,h2,h3,h4⟩
  refine T.lp (ι:=Bool × Int) (λq=>0 <= q.2/\q.2 <= n.fields.length) (λq=>((n.fields.length:Int) - q.2).toNat) ⟨zIl _,by dsimp only;omega⟩ (by dsimp only;omega) λL q ⟨q1,q2⟩ hL=>?_
  obtain ⟨mk,i⟩:=q
  dsimp only at q1 q2 hL ⊢
  refine T.br (λhb=>?_) λhb=>?_
  · have hb:=zOT hb
    refine T.get q1 hb λf hf=>?_
    obtain ⟨c,dd,h1,h2,h3,h4⟩:=hsub f (List.mem_of_getElem? hf)
    have:=h2.lt
    refine T.jp (λ_=>True) (λJ kk=>T.br (λ_=>kk _ trivial) λ_=>T.get (by omega) (by rw [hm];omega) λ_ _=>kk _ trivial) λb _=>T.ck (by omega) (hL _ ⟨by dsimp only;omega,by dsimp only;omega⟩ (by dsimp only;omega))
  refine T.jp (λ_=>True) (λJ kk=>T.br (λ_=>kk _ trivial) λ_=>kk _ trivial) λb1 _=>T.jp (λ_=>True) (λJ kk=>T.br (λ_=>kk _ trivial) λ_=>kk _ trivial) λb2 _=>?_
  refine T.jp (ι:=GMk) (λy=>Sm x y) (λJ kk=>T.br (λ_=>T.eq (fail10 _ _) (kk _ (Sm.fl (by decide)))) λ_=>kk _ (Sm.refl x)) λx1 hx1=>?_
  -- the fields, one behind the other
  have hD:(17 - (d + 1)).toNat=(16 - d).toNat:=by omega
  refine T.lp (ι:=List GFld × Int × GMk) (λq=>0 <= q.2.1/\q.2.1 <= n.fields.length/\Gk x q.2.2/\(q.1.length:Int)=q.2.1/\(q.2.2.e=0->Kids (SubT (16 - d).toNat q.2.2.l) (q.1.map λf=>f.ty) x.l.length q.2.2.l.length/\∀ f ∈ q.1,DOk f.dflt)) (λq=>((n.fields.length:Int) - q.2.1).toNat)
    ⟨zIl _,by dsimp only;omega,Gk.sm hx1 hx3,rfl,λ_=>⟨by dsimp only;rw [hx1.l];rfl,by simp⟩⟩ (by dsimp only;omega) λL2 q ⟨p1,p2,p3,p4,p5⟩ hL2=>?_
  obtain ⟨out,i2,y⟩:=q
  dsimp only at p1 p2 p3 p4 p5 hL2 ⊢
  refine T.jp (λb=>(b=true->i2 < n.fields.length)/\(b=false->y.e=0->¬ i2 < n.fields.length)) (λJ kk=>T.br (λh1=>kk _ ⟨λ_=>zOT h1,λh2 h3=>absurd h3 (zOF h2)⟩) λh1=>kk _ ⟨(λh=>by cases h),λ_ _=>zOF h1⟩) λb hb2=>T.br (λhb3=>?_) λhb3=>?_
  · have hb3 := hb2.1 hb3
    refine T.get p1 hb3 λf hf=>?_
    obtain ⟨c,dd,h1,h2,h3,h4⟩:=hsub f (List.mem_of_getElem? hf)
    have hclt:=h2.lt
    have hN1:N - 1 + 1 < 100000:=by omega
    have hA:∀ p:GFld,(out ++ [p]).length <= 100000/\((out ++ [p]).length:Int)=i2 + 1:=λp=>by rw [zLa,zLs];omega
    have hA2:0 <= i2 + 1/\i2 + 1 <= (n.fields.length:Int)/\i2 + 1 <= 100000:=by omega
    have hA4:-9223372036854775808 <= i2 + 1/\i2 + 1 <= 9223372036854775807:=by omega
    have hA3:((n.fields.length:Int) - (i2 + 1)).toNat < ((n.fields.length:Int) - i2).toNat:=by omega
    have hfd:DOk f.dflt:=hok.dflt f (List.mem_of_getElem? hf)
    refine T.lp (ι:=Int × GMk) (λp=>0 <= p.1/\p.1 <= i2/\Sm y p.2) (λp=>(i2 - p.1).toNat) ⟨zIl _,p1,Sm.refl y⟩ (by dsimp only;omega) λL3 p ⟨s1,s2,s3⟩ hL3=>?_
    obtain ⟨i3,y2⟩:=p
    dsimp only at s1 s2 s3 hL3 ⊢
    refine T.br (λhb4=>?_) λhb4=>?_
    · have hb4:=zOT hb4
      refine T.jp (ι:=GMk) (λz=>Sm y z) (λJ kk=>T.get s1 (by omega) λg _=>T.br (λ_=>T.eq (fail10 _ _) (kk _ (s3.trans (Sm.fl (by decide))))) λ_=>kk _ s3) λz hz=>T.ck (by omega) (hL3 _ ⟨by dsimp only;omega,by dsimp only;omega,hz⟩ (by dsimp only;omega))
    refine T.ck (by omega) ?_
    rw [h1]
    have hy2l:y2.l.length=y.l.length:=by rw [s3.l]
    have hlim:=p3.lim
    refine T.cal (hnd (N - 1) (by omega) y2 c dd h a (d + 1) (s3.m.trans (p3.m.trans hm)) (by omega) h2 (by omega) (hdn.part (by omega) h4) (by omega) (by omega) (by omega)) λr _ ⟨r1,r2⟩=>?_
    have g1:Gk x r.2:=p3.trans ((Gk.sm s3 hlim).trans r1)
    refine T.jp (λb=>b=true->r.2.e=0) (λJ kk=>T.br (λh5=>kk _ λ_=>zOT h5) λ_=>kk _ λh=>by cases h) λb5 hb5=>?_
    -- the default
    refine T.jp (ι:=GFld × GMk) (λp=>Sm r.2 p.2/\p.1.ty=r.1/\DOk p.1.dflt) (λJ kk=>T.br (λh6=>?_) λ_=>kk _ ⟨Sm.refl _,rfl,hfd⟩) λp ⟨u1,u2,u3⟩=>?_
    · have h6:=hb5 h6
      obtain ⟨e1,e2,t1,e3,e4⟩:=r2 h6
      rw [e1]
      have hto:TypOk t1:=by
        have:0 < (17 - (d + 1)).toNat:=by
          rcases Nat.eq_zero_or_pos (17 - (d + 1)).toNat with h | h
          · rw [h] at e2;exact e2.elim
          · exact h
        obtain ⟨D',hD'⟩:∃ D',(17 - (d + 1)).toNat=D' + 1:=⟨_,(Nat.succ_pred_eq_of_pos this).symm⟩
        rw [hD'] at e2
        obtain ⟨t2,k1,k2,_⟩:=e2
        rw [e3] at k1;cases k1;exact k2
      exact T.cal (znG f.dflt e3 hfd hto.root0 hto.rootI hto.ilen) λs _ hs=>kk _ ⟨hs.1,e1.symm,hs.2⟩
    refine T.jp (λb=>b=true->p.2.e=0) (λJ kk=>T.br (λh5=>kk _ λ_=>zOT h5) λ_=>kk _ λh=>by cases h) λb6 hb6=>?_
    -- a tag of its own
    have hfin : ∀ z:GMk,z.m=r.2.m->z.l.length=r.2.l.length->(z.e=0->r.2.e=0/\((z.l=r.2.l) \/ ∃ t1 tg,r.2.l[y2.l.length]?=some t1/\z.l=r.2.l.set y2.l.length { t1 with tags:=tg }/\tg ≠ []/\tg.length <= t1.tags.length + 1)) ->
        Gk x z/\(z.e=0->Kids (SubT (16 - d).toNat z.l) ((out ++ [p.1]).map λf=>f.ty) x.l.length z.l.length/\∀ f ∈ out ++ [p.1],DOk f.dflt):=by
      intro z z1 z2 z3
      have hpre:z.e=0->∀ q,q < y2.l.length->z.l[q]?=r.2.l[q]?:=λez q hq=>by
        rcases (z3 ez).2 with h | ⟨t1,tg,_,h,_⟩
        · rw [h]
        · rw [h,List.getElem?_set_ne (by omega)]
      refine ⟨⟨z1.trans g1.m,by rw [z2];exact g1.le,by rw [z2];exact g1.lim,λez=>g1.e (z3 ez).1,λez q hq=>?_⟩,λez=>?_⟩
      · have:=p3.le
        rw [hpre ez q (by omega)]
        exact g1.pre (z3 ez).1 q hq
      · have er := (z3 ez).1
        obtain ⟨e1,e2,t1,e3,e4⟩:=r2 er
        have ey:y.e=0:=s3.e (r1.e er)
        obtain ⟨k1,k2⟩:=p5 ey
        rw [hD] at e2
        have e2z:SubT (16 - d).toNat z.l y2.l.length z.l.length:=by
          rw [z2]
          rcases (z3 ez).2 with h | ⟨t2,tg,k3,h,k4,k5⟩
          · rw [h];exact e2
          · rw [h]
            rw [e3] at k3;cases k3
            have hto:TypOk t1:=by
              cases hDz:(16 - d).toNat with
              | zero=>rw [hDz] at e2;exact e2.elim
              | succ D' =>
                rw [hDz] at e2
                obtain ⟨t3,k6,k7,_⟩:=e2
                rw [e3] at k6;cases k6;exact k7
            exact e2.set e3 (hto.tag k4 (Nat.le_trans k5 (Nat.succ_le_of_lt (Nat.lt_of_le_of_lt e4 hN1)))) rfl
        rw [hy2l] at e2z
        refine ⟨?_,λf' hf'=>?_⟩
        · rw [List.map_append,List.map_singleton,u2,e1,hy2l]
          refine Kids.snoc (KidsT.monoL (λq hq1 hq2=>?_) k1) e2z
          rw [hpre ez q (by omega),r1.pre er q (by omega),s3.l]
        · rcases List.mem_append.1 hf' with h | h
          · exact k2 f' h
          · rw [zMo.1 h];exact u3
    refine T.jp (ι:=GMk) (λz=>Gk x z/\(z.e=0->Kids (SubT (16 - d).toNat z.l) ((out ++ [p.1]).map λf=>f.ty) x.l.length z.l.length/\∀ f ∈ out ++ [p.1],DOk f.dflt)) (λJ kk=>T.br (λh6=>?_) λ_=>kk _ (hfin p.2 u1.m (by rw [u1.l]) λez=>⟨u1.e ez,.inl u1.l⟩)) λz ⟨v1,v2⟩=>?_
    · have h6:=hb6 h6
      have er:=u1.e h6
      obtain ⟨e1,e2,t1,e3,e4⟩:=r2 er
      have hlt:=(List.getElem?_eq_some_iff.1 e3).1
      rw [u2,e1]
      refine T.cal (znc (x:=p.2) (i:=y2.l.length) (by rw [u1.l];exact hlt)) λs _ hs=>?_
      rw [hs]
      refine T.cal (znq (t:=t1) _ _ (λ_=>⟨by rw [u1.l];exact e3,by omega⟩)) λz _ ⟨w1,w2,w3⟩=>kk _ (hfin z (w1.trans u1.m) (by rw [w2,u1.l]) λez=>⟨er,?_⟩)
      obtain ⟨tg,k1,k2,k3⟩:=(w3 ez).2 t1 (by rw [u1.l];exact e3)
      exact .inr ⟨t1,tg,e3,by rw [k1,u1.l],k2,k3⟩
    · exact T.abl (by have:=(hA p.1).1;rw [zLa] at this;exact Nat.le_trans this (by decide)) (T.ck hA4 (hL2 _ ⟨hA2.1,hA2.2.1,v1,(hA _).2,v2⟩ hA3))
  · -- all are there
    refine T.br (λhe=>?_) λhe=>T.some ⟨p3.m.trans hm,p3.le,p3.lim,λh=>absurd h (zOF he)⟩
    have he:=zOT he
    have hfin:=hb2.2 hb3 he
    obtain ⟨k1,k2⟩:=p5 he
    have hti:((l0.length:Nat):Int).toNat=l0.length:=Int.toNat_natCast _
    have hle:=p3.le
    have hlim:=p3.lim
    have hget:y.l[l0.length]?=some t:=by
      rw [p3.pre he l0.length (by omega),hxl,List.getElem?_append_right (zNl _),Nat.sub_self];rfl
    have hget2:(y.l.set l0.length { t with fields:=out })[l0.length]?=some { t with fields:=out }:=List.getElem?_set_self (by omega)
    have hmono:∀ q,l0.length + 1 <= q->(y.l.set l0.length { t with fields:=out })[q]?=y.l[q]?:=λq hq=>List.getElem?_set_ne (by omega)
    have hkids:Kids (SubT (16 - d).toNat (y.l.set l0.length { t with fields:=out })) (out.map λf=>f.ty) x.l.length y.l.length:=KidsT.monoL (λq hq1 hq2=>hmono q (by omega)) k1
    refine T.asd ⟨by omega,by omega⟩ ?_
    rw [hti]
    refine T.eq hget (T.asd ⟨by omega,by rw [List.length_set];omega⟩ (T.eq hget2 ?_))
    have hpost:∀ z:GMk,Sm (GMk.mk y.m (y.l.set l0.length { t with fields:=out }) y.e) z->(z.m=m/\x.l.length <= z.l.length/\z.l.length <= 300/\(z.e=0->x.e=0/\(∀ p,p < l0.length->z.l[p]?=x.l[p]?)/\∃ fs,z.l[l0.length]?=some { t with fields:=fs }/\fs.length=n.fields.length/\Kids (SubT (16 - d).toNat z.l) (fs.map λf=>f.ty) x.l.length z.l.length/\∀ f ∈ fs,DOk f.dflt)):=by
      intro z hz
      have zl:=hz.l
      dsimp only at zl
      refine ⟨hz.m.trans (p3.m.trans hm),by rw [zl,List.length_set];exact hle,by rw [zl,List.length_set];exact hlim,λez=>⟨p3.e (hz.e ez),λq hq=>?_,out,by rw [zl];exact hget2,by omega,by rw [zl,List.length_set];exact hkids,k2⟩⟩
      rw [zl,List.getElem?_set_ne (by omega)]
      exact p3.pre he q (by omega)
    refine T.cal (zsv (h:=(16 - d).toNat) (a:=x.l.length) (b:=y.l.length) (x:=GMk.mk y.m (y.l.set l0.length { t with fields:=out }) y.e) (t:={ t with fields:=out }) hkids (by omega) (by dsimp only;rw [List.length_set];omega) (by dsimp only;rw [List.length_set];exact zNl _) (by dsimp only;rw [htr];exact hok.root0) (λh7=>by dsimp only;rw [htr];have:=hok.fields (by omega);omega)) λr _ hr=>?_
    rw [hr]
    exact T.br (λ_=>T.eq (fail10 _ _) (T.some (hpost _ (Sm.fl (by decide))))) λ_=>T.some (hpost _ (Sm.refl _))
end Go.Proofs.Q


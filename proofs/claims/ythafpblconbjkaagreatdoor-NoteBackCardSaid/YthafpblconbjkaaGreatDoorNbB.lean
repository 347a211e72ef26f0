/- In the order of a module's names each comes behind all that it zmV: zz3. No condition: general lemmas. -/
import Derived.Test.YthafpblconbjkaaGreatDoorNbA
import Derived.KernelRfl
import Derived.WideLaws
import Derived.Lib.ItoaNum
import Derived.Lib.ReplaceLaws
import Derived.Lib.ParseIntB
import Derived.Lib.ValidU
set_option linter.unusedVariables false
set_option linter.unusedSimpArgs false
set_option maxRecDepth 4000
set_option maxHeartbeats 4000000
namespace Go.Sy
open Go
abbrev Pt (Rs:List VP) (Hs:List Ent):VP->List Ent->Prop:=λR H=>R=ziR Rs/\H=Hs
abbrev Pt1 {τ0:Type} (Rs:τ0->List VP) (Hs:τ0->List Ent):VP->List Ent->Prop:=λR H=>∃ t0,R=ziR (Rs t0)/\H=Hs t0
section
variable {c:Ctx} {ops:Array Oper} {Q:Exit->Act->World->Prop} {Γ:zL} {H Hr Hc H0:List Ent} {d j i id:Nat} {want b:Bool} {op:Op} {o:Oper} {ty:TypeId} {pos:String} {af:Array Edge} {rest:List Oper} {π:Ord} {σ:St} {R:VP} {x y:Code} {u:Operand}
theorem ws (k:Rl c ops ops.toList σ (nxt c y Q)):Wp c (.seq (.region id ops false) y) σ Q:=zeL (zdQ k)
theorem ss (k:Rl c ops ops.toList σ (nxt c x (nxt c y Q))):Wp c (.seq (.seq (.region id ops false) x) y) σ Q:=zeL (ws k)
theorem rn (k:Wp c y σ Q):Rl c ops [] σ (nxt c y Q):=zkX (zc7 k)
theorem wk (k:Wp c y σ Q):Wp c .skip σ (nxt c y Q):=zm9 (zc7 k)
theorem rb (k:Fin c σ Q):Rl c ops [] σ (Exit.inBlock id Q):=zkX (zgu k)
theorem bn (k:Ret c σ Q):Ret c σ (Exit.inBlock id (nxt c y Q)):=zeM (zhi k)
theorem xn (k:Exi c id σ Q):Wp c (.exit id) σ (nxt c y Q):=zx2 (zt6 k)
theorem om (hx:zA Γ u=some R) (k:Rl c ops rest ⟨(d,R) :: Γ,H⟩ Q) (hd:Nat.blt d c.n=true:=by rfl):Rl c ops (⟨some d,.move u,ty,pos,af,none⟩ :: rest) ⟨Γ,H⟩ Q:=oV (zc0 hx) k hd
theorem oa (hx:zA Γ u=some R) (k:Rl c ops rest ⟨(d,R) :: Γ,H⟩ Q) (hd:Nat.blt d c.n=true:=by rfl):Rl c ops (⟨some d,.assign u,ty,pos,af,none⟩ :: rest) ⟨Γ,H⟩ Q:=oV (zjo hx) k hd
theorem an (hx:zA Γ u=some R) (k:Wp c y ⟨(d,R) :: Γ,H⟩ Q) (hd:Nat.blt d c.n=true:=by rfl):Rl c ops [⟨some d,.assign u,ty,pos,af,none⟩] ⟨Γ,H⟩ (nxt c y Q):=oa hx (rn k) hd
theorem ar (hx:zA Γ u=some R) (k:Ret c ⟨(d,R) :: Γ,H⟩ Q) (hd:Nat.blt d c.n=true:=by rfl):Rl c ops [⟨some d,.assign u,ty,pos,af,none⟩] ⟨Γ,H⟩ (nxt c .ret Q):=an hx (zoy k) hd
def gl (ops:Array Oper) (j:Nat) (Γ:zL):Option VP:=((ops[j]?).bind (·.dst)).bind (zce Γ)
theorem zj8 (h:gl ops j Γ=some R):∃ dj,(ops[j]?).bind (·.dst)=some dj/\zce Γ dj=some R:=Option.bind_eq_some_iff.1 h
theorem oG (hb:b=want) (h:OpV c ⟨some d,op,ty,pos,af,some (j,want)⟩ ⟨Γ,H⟩ R) (k:Rl c ops rest ⟨(d,R) :: Γ,H⟩ Q) (hl:gl ops j Γ=some (isv b):=by exact rfl) (hd:Nat.blt d c.n=true:=by rfl):Rl c ops (⟨some d,op,ty,pos,af,some (j,want)⟩ :: rest) ⟨Γ,H⟩ Q:=by
 obtain ⟨dj,h1,h2⟩:=zj8 hl;exact zqo rfl h1 h2 hb (OpV.t h k hd)
theorem oH {r:Option Nat} (hb:b=want) (h:OpT c ⟨r,op,ty,pos,af,some (j,want)⟩ σ λσ'=>Rl c ops rest σ' Q) (hl:gl ops j σ.Γ=some (isv b):=by exact rfl):Rl c ops (⟨r,op,ty,pos,af,some (j,want)⟩ :: rest) σ Q:=by
 obtain ⟨dj,h1,h2⟩:=zj8 hl;exact zqo rfl h1 h2 hb h
theorem oN (hb:b=!want) (k:Rl c ops rest ⟨(d,zef) :: Γ,H⟩ Q) (hl:gl ops j Γ=some (isv b):=by exact rfl) (hd:Nat.blt d c.n=true:=by rfl):Rl c ops (⟨some d,op,ty,pos,af,some (j,want)⟩ :: rest) ⟨Γ,H⟩ Q:=by
 obtain ⟨dj,h1,h2⟩:=zj8 hl;exact ztO h1 h2 hb k hd
theorem rm (ho:ops[i]?=some ⟨some d,.move u,ty,pos,af,none⟩) (hx:zA Γ u=some R) (k:Rd c ops π ⟨(d,R) :: Γ,H⟩ Q) (hd:Nat.blt d c.n=true:=by rfl):Rd c ops (.v i π) ⟨Γ,H⟩ Q:=zbd ho (zc0 hx) k hd
theorem rG (ho:ops[i]?=some ⟨some d,op,ty,pos,af,some (j,want)⟩) (hb:b=want) (h:OpV c ⟨some d,op,ty,pos,af,some (j,want)⟩ ⟨Γ,H⟩ R) (k:Rd c ops π ⟨(d,R) :: Γ,H⟩ Q) (hl:gl ops j Γ=some (isv b):=by exact rfl) (hd:Nat.blt d c.n=true:=by rfl):Rd c ops (.v i π) ⟨Γ,H⟩ Q:=by
 obtain ⟨dj,h1,h2⟩:=zj8 hl;exact zz4 ho h1 h2 hb h k hd
theorem rP (ho:ops[i]?=some ⟨some d,op,ty,pos,af,some (j,want)⟩) (hb:b=!want) (k:Rd c ops π ⟨(d,zef) :: Γ,H⟩ Q) (hl:gl ops j Γ=some (isv b):=by exact rfl) (hd:Nat.blt d c.n=true:=by rfl):Rd c ops (.v i π) ⟨Γ,H⟩ Q:=by
 obtain ⟨dj,h1,h2⟩:=zj8 hl;exact zrm ho h1 h2 hb k hd
theorem rT (ho:ops[i]?=some o) (h:OpT c o σ λσ'=>Rd c ops π σ' Q) (hg:o.guard=none:=by exact rfl):Rd c ops (.t i π) σ Q:=zBn ho hg h
theorem rH {r:Option Nat} (ho:ops[i]?=some ⟨r,op,ty,pos,af,some (j,want)⟩) (hb:b=want) (h:OpT c ⟨r,op,ty,pos,af,some (j,want)⟩ σ λσ'=>Rd c ops π σ' Q) (hl:gl ops j σ.Γ=some (isv b):=by exact rfl):Rd c ops (.t i π) σ Q:=by
 obtain ⟨dj,h1,h2⟩:=zj8 hl;exact zzV ho rfl h1 h2 hb h
end
section
variable {c:Ctx} {d:Option Nat} {ty:TypeId} {pos:String} {af:Array Edge} {g:Option (Nat × Bool)} {σ:St} {x i:Operand} {T f:Nat}
theorem vI {β γ:Type} [Rep β] [Rep γ] {y:β} (hx:zA σ.Γ x=some (zbl y)) (M:Fld β γ) (hf:zfe c.P T f M.off (Rep.n γ) (Rep.agg γ)=true) (z:γ) (hz:M.get y=z:=by exact rfl):OpV c ⟨d,.fieldAddr T x f,ty,pos,af,g⟩ σ (zbl z):=zBD hx M hf hz
theorem vN {α:Type} [Rep α] {l:List α} {n:Nat} {agg:Bool} (hx:zA σ.Γ x=some (isv l)) (hT:SlB c.P T n agg=true):OpV c ⟨d,.call ⟨.builtin .len,#[x],#[T]⟩,ty,pos,af,g⟩ σ (isv (l.length:Int)):=zAW hx (λ_ _ h=>h) hT
theorem vX {α:Type} [Rep α] {l:List α} {k:Int} {y:α} (hx:zA σ.Γ x=some (isv l)) (hi:zA σ.Γ i=some (isv k)) (hT:SlB c.P T (Rep.n α) (Rep.agg α)=true) (hy:zs l k=some y):OpV c ⟨d,.indexAddr T x i,ty,pos,af,g⟩ σ (zbl y):=zyM hx (λ_ _ h=>h) hi hT hy
theorem vP {α β:Type} [Rep α] [Rep β] {b:Nat} {L:Fld α β} {y:α} {T:TypeId} {o:Obj} (ht:TyB c.P T (Rep.n β) (Rep.agg β)=true) (hx:zA σ.Γ x=some (zdE o b L y)) (hp:(b,o) ∈ c.pin) (z:β) (hz:L.get y=z:=by exact rfl):OpV c ⟨d,.load T x,ty,pos,af,g⟩ σ (isv z):=ztM ht hx hp (by subst hz;exact λ_ _ h=>h)
end
/-! ### What turns the world -/
theorem p0 {e:Ent} {l:List Ent}:zcu e (e :: l) l:=.here
theorem p1 {e a:Ent} {l:List Ent}:zcu e (a :: e :: l) (a :: l):=.there .here
theorem p2 {e a b:Ent} {l:List Ent}:zcu e (a :: b :: e :: l) (a :: b :: l):=.there p1
theorem p3 {e a b c:Ent} {l:List Ent}:zcu e (a :: b :: c :: e :: l) (a :: b :: c :: l):=.there p2
theorem p4 {e a b c d:Ent} {l:List Ent}:zcu e (a :: b :: c :: d :: e :: l) (a :: b :: c :: d :: l):=.there p3
theorem a0 {e:Ent} {H Hc Hr:List Ent} (h:zbn H Hc Hr):zbn (e :: H) (e :: Hc) Hr:=.cons .here h
theorem a1 {e a:Ent} {H Hc Hr:List Ent} (h:zbn (a :: H) Hc Hr):zbn (a :: e :: H) (e :: Hc) Hr:=.cons p1 h
theorem a2 {e a b:Ent} {H Hc Hr:List Ent} (h:zbn (a :: b :: H) Hc Hr):zbn (a :: b :: e :: H) (e :: Hc) Hr:=.cons p2 h
theorem k0 {H:List Ent}:zbn H [] H:=.nil
theorem k5 {e1 e2 e3 e4 e5:Ent} {H:List Ent}:zbn (e1 :: e2 :: e3 :: e4 :: e5 :: H) [e1,e2,e3,e4,e5] H:=a0 k4
section
variable {c:Ctx} {ty:TypeId} {pos:String} {af:Array Edge} {g:Option (Nat × Bool)} {Γ:zL} {H Hr Hc:List Ent} {K:St->Prop} {x u:Operand} {T dd:Nat}
theorem tL {α β:Type} [Rep α] [Rep β] {b:Nat} {L:Fld α β} {y:α} (ht:TyB c.P T (Rep.n β) (Rep.agg β)=true) (hx:zA Γ x=some (zar b L)) (hp:zcu (zj b y) H Hr) (z:β) (k:K ⟨(dd,isv z) :: Γ,H⟩) (hz:L.get y=z:=by exact rfl) (hd:Nat.blt dd c.n=true:=by rfl) :
    OpT c ⟨some dd,.load T x,ty,pos,af,g⟩ ⟨Γ,H⟩ K:=zhh ht hx hp (by subst hz;exact λ_ _ h=>h) k hd
theorem tS {α β:Type} [Rep α] [Rep β] {b:Nat} {L:Fld α β} {y:α} {z:β} (ht:TyB c.P T (Rep.n β) (Rep.agg β)=true) (hx:zA Γ x=some (zar b L)) (hu:zA Γ u=some (isv z)) (hp:zcu (zj b y) H Hr) (y':α) (k:K ⟨Γ,zj b y' :: Hr⟩) (hy:L.set y z=y':=by exact rfl) :
    OpT c ⟨none,.store T x u,ty,pos,af,g⟩ ⟨Γ,H⟩ K:=zmg ht hx hu (λ_ _ h=>h) hp hy k
theorem tR {α β:Type} [Rep α] [Rep β] {b:Nat} {L:Fld α β} {y:α} {z:β} {R:VP} (ht:TyB c.P T (Rep.n β) (Rep.agg β)=true) (hx:zA Γ x=some (zar b L)) (hu:zA Γ u=some R) (hc:∀ S v,R.p S v->(isv z).p S v) (hp:zcu (zj b y) H Hr) (y':α) (hy:L.set y z=y') (k:K ⟨Γ,zj b y' :: Hr⟩) :
    OpT c ⟨none,.store T x u,ty,pos,af,g⟩ ⟨Γ,H⟩ K:=zmg ht hx hu hc hp hy k
theorem tB {α:Type} [Rep α] {y:α} (hx:zA Γ x=some (isv y)) (k:K ⟨(dd,zbl y) :: Γ,H⟩) (hd:Nat.blt dd c.n=true:=by rfl):OpT c ⟨some dd,.box T x,ty,pos,af,g⟩ ⟨Γ,H⟩ K:=ztK hx (λ_ _ h=>h) k hd
section
variable {f:FuncId} {xs:Array Operand} {ats:Array TypeId} {args:List VP} {τ0 τ1 τ2 τ3 τ4:Type}
theorem tC {R0:List VP} {H0:List Ent} (hs:Ctr c.P f args Hc (Pt R0 H0)) (hT:zkB c) (hx:zgi Γ xs.toList args) (ht:zbn H Hc Hr) (k:K ⟨(dd,ziR R0) :: Γ,H0 ++ Hr⟩) (hd:Nat.blt dd c.n=true:=by rfl) :
    OpT c ⟨some dd,.call ⟨.value (.func f),xs,ats⟩,ty,pos,af,g⟩ ⟨Γ,H⟩ K:=zyY hs hT hx ht k hd
theorem tC1 {R0:τ0->List VP} {H0:τ0->List Ent} (hs:Ctr c.P f args Hc (Pt1 R0 H0)) (hT:zkB c) (hx:zgi Γ xs.toList args) (ht:zbn H Hc Hr) (k:∀ t0,K ⟨(dd,ziR (R0 t0)) :: Γ,H0 t0 ++ Hr⟩) (hd:Nat.blt dd c.n=true:=by rfl) :
    OpT c ⟨some dd,.call ⟨.value (.func f),xs,ats⟩,ty,pos,af,g⟩ ⟨Γ,H⟩ K:=ztc hs hT hx ht (λR H' hR=>by obtain ⟨t0,rfl,rfl⟩:=hR;exact k t0) hd
end
end
theorem m0 {α:Type} {a:α} {l:List α}:a ∈ a :: l:=List.Mem.head _
theorem m1 {α:Type} {a b:α} {l:List α}:a ∈ b :: a :: l:=List.Mem.tail _ (List.Mem.head _)
theorem r1 {P:Program} {σ:St} {t:Nat} {R:VP} (h:zce σ.Γ t=some R):zfd P σ [.tmp t] [R]:=.tmp h .nil
/-! ### Joins, loops, what is returned -/
section
variable {c:Ctx} {ops:Array Oper} {Q:Exit->Act->World->Prop} {ι β γ:Type} {r:β} {Γ:zL} {H Hc Hr:List Ent} {l:List Oper} {π:Ord} {σ:St} {B:(ι->Option β)->Option β} {R:ι->Option β} {x y:Code}
theorem MD {mod:zL} (h:zqm Γ mod:=by
 repeat first
 | exact zhG
 | refine zel rfl (λ_ _ h=>h) ?_
 | refine zel rfl (by first | exact zb6 | exact zhL | exact zms | exact zoZ | exact λ_ _ _=>trivial | exact zh6 (by first | rfl | simp)) ?_):zqm Γ mod:=h
theorem tk0:∃ Hx,zbn H [] Hx:=⟨_,.nil⟩
theorem tkC {e:Ent} {H1:List Ent} (h:zcu e H H1) (k:∃ Hx,zbn H1 Hc Hx):∃ Hx,zbn H (e :: Hc) Hx:=k.elim λ_ k=>⟨_,.cons h k⟩
theorem TK (h:∃ Hx,zbn H Hc Hx:=by
 repeat first
 | exact tk0
 | refine tkC .here ?_
 | refine tkC p1 ?_
 | refine tkC p2 ?_
 | refine tkC p3 ?_
 | refine tkC p4 ?_
 | refine tkC (.there p4) ?_
 | refine tkC (.there (.there p4)) ?_
 | refine tkC (.there (.there (.there p4))) ?_
 | refine tkC (.there (.there (.there (.there p4)))) ?_):∃ Hx,zbn H Hc Hx:=h
theorem oI {b:Bool} {T E:Option β} (h:br b T E=some r) (ht:b=true->T=some r->Rl c ops l σ Q) (hf:b=false->E=some r->Rl c ops l σ Q):Rl c ops l σ Q:=by
 cases b with
 | true=>exact ht rfl h
 | false=>exact hf rfl h
theorem rJ {b:Bool} {T E:Option β} (h:br b T E=some r) (ht:b=true->T=some r->Rd c ops π σ Q) (hf:b=false->E=some r->Rd c ops π σ Q):Rd c ops π σ Q:=by
 cases b with
 | true=>exact ht rfl h
 | false=>exact hf rfl h
def Jo (J:ι->Option β) (r:β) (P:St->Prop) (mod:ι->zL) (ds:List Nat) (Γ:zL) (Hr:List Ent):Prop :=
 ∀ {i},J i=some r->∀ (k:Nat) {Γ':zL} {H':List Ent} (_:Γ'.drop k=Γ:=by exact rfl) (_:zr1 (Γ'.take k) ds Γ=true:=by exact rfl) (_:zqm Γ' (mod i):=by exact MD) (_:∃ Hx,zbn H' Hr Hx:=by exact TK),P ⟨Γ',H'⟩
def Jn (J:ι->Option β) (r:β) (P:St->Prop) (mod:ι->γ->zL) (Hm:ι->γ->List Ent) (Γ:zL) (Hr:List Ent):Prop :=
 ∀ {i},J i=some r->∀ (g:γ) (k:Nat) {Γ':zL} {H':List Ent} (_:Γ'.drop k=Γ:=by exact rfl) (_:zr1 (Γ'.take k) ((mod i g).map (·.1)) Γ=true:=by exact rfl) (_:zqm Γ' (mod i g):=by exact MD) (_:∃ Hx,zbn H' (Hm i g ++ Hr) Hx:=by exact TK),P ⟨Γ',H'⟩
theorem jO [Rep ι] (n d:Nat) (h:jp B R=some r) (hk:∀ i,R i=some r->Rl c ops (l.drop n) ⟨(d,isv i) :: Γ,H⟩ Q)
    (hx:∀ J:ι->Option β,B J=some r->Jo J r (λσ'=>Rl c ops (l.drop n) σ' Q) (λi=>[(d,isv i)]) [d] Γ H->Rl c ops l ⟨Γ,H⟩ Q):Rl c ops l ⟨Γ,H⟩ Q :=
  zBW (γ:=Unit) (λi _=>[(d,isv i)]) (λ_ _=>[]) .nil h n rfl (λi _=>hk i) λJ h hJ=>hx J h (by intro i hi k Γ' H' h1 h2 h3 ⟨Hx,h4⟩;exact hJ i () hi _ (zij (mod:=[(d,isv i)]) (Hm:=[]) k h1 h2 h3 h4))
theorem jD [Rep ι] (n d:Nat) (h:jp B R=some r) (hk:∀ i,R i=some r->Rd c ops (π.drop n) ⟨(d,isv i) :: Γ,H⟩ Q)
    (hx:∀ J:ι->Option β,B J=some r->Jo J r (λσ'=>Rd c ops (π.drop n) σ' Q) (λi=>[(d,isv i)]) [d] Γ H->Rd c ops π ⟨Γ,H⟩ Q):Rd c ops π ⟨Γ,H⟩ Q :=
  hx R h (by intro i hi k Γ' H' h1 h2 h3 ⟨Hx,h4⟩;exact λS a w m=>hk i hi S a w (m.weak (zij (mod:=[(d,isv i)]) (Hm:=[]) k h1 h2 h3 h4)))
theorem jW [Rep ι] (d:Nat) (h:jp B R=some r) (hk:∀ i,R i=some r->Wp c y ⟨(d,isv i) :: Γ,H⟩ Q)
    (hx:∀ J:ι->Option β,B J=some r->Jo J r (λσ'=>Fin c σ' (nxt c y Q)) (λi=>[(d,isv i)]) [d] Γ H->Wp c x ⟨Γ,H⟩ (nxt c y Q)):Wp c x ⟨Γ,H⟩ (nxt c y Q) :=
  hx R h (by intro i hi k Γ' H' h1 h2 h3 ⟨Hx,h4⟩;exact zc7 (zAa (zij (mod:=[(d,isv i)]) (Hm:=[]) k h1 h2 h3 h4) (hk i hi)))
theorem jw (h:jp B R=some r) (γ:Type) (mod:ι->γ->zL) (Hm:ι->γ->List Ent) (hT:zbn H Hc Hr) (hk:∀ i g,R i=some r->Wp c y ⟨mod i g ++ Γ,Hm i g ++ Hr⟩ Q)
    (hx:∀ J:ι->Option β,B J=some r->Jn J r (λσ'=>Fin c σ' (nxt c y Q)) mod Hm Γ Hr->Wp c x ⟨Γ,H⟩ (nxt c y Q)):Wp c x ⟨Γ,H⟩ (nxt c y Q) :=
  zBY mod Hm hT h hk λJ h hJ=>hx J h (by intro i hi g k Γ' H' h1 h2 h3 ⟨Hx,h4⟩;exact hJ i g hi _ (zij k h1 h2 h3 h4))
theorem lP {F:(ι->Option β)->ι->Option β} {i0:ι} (h:lp F i0=some r) (γ:Type) (g0:γ) (mod:ι->γ->zL) (Hm:ι->γ->List Ent) (hm:zqm Γ (mod i0 g0)) (hT:zbn H (Hm i0 g0) Hr)
    (hx:∀ (L:ι->Option β) (i:ι) (g:γ) (Q':Exit->Act->World->Prop),F L i=some r->Jn L r (λσ'=>Fin c σ' Q') mod Hm Γ Hr->(∀ id σ',Exi c id σ' Q->Exi c id σ' Q')->(∀ σ',Ret c σ' Q->Ret c σ' Q')->Wp c x ⟨mod i g ++ Γ,Hm i g ++ Hr⟩ Q'):Wp c (.loop x) ⟨Γ,H⟩ Q :=
  zAR mod Hm h g0 hm hT λL i g Q' h hL hE hR=>hx L i g Q' h (by intro i hi g k Γ' H' h1 h2 h3 ⟨Hx,h4⟩;exact hL i g hi _ (zij k h1 h2 h3 h4)) hE hR
theorem lO [Rep ι] {F:(ι->Option β)->ι->Option β} {i0:ι} (d:Nat) (h:lp F i0=some r) (hm:zce Γ d=some (isv i0))
    (hx:∀ (L:ι->Option β) (i:ι) (Q':Exit->Act->World->Prop),F L i=some r->Jo L r (λσ'=>Fin c σ' Q') (λi=>[(d,isv i)]) [d] Γ H->(∀ id σ',Exi c id σ' Q->Exi c id σ' Q')->(∀ σ',Ret c σ' Q->Ret c σ' Q')->Wp c x ⟨(d,isv i) :: Γ,H⟩ Q'):Wp c (.loop x) ⟨Γ,H⟩ Q :=
  zAR (γ:=Unit) (λi _=>[(d,isv i)]) (λ_ _=>[]) h () (zel hm (λ_ _ h=>h) zhG) .nil λL i _ Q' h hL hE hR=>hx L i Q' h (by intro i hi k Γ' H' h1 h2 h3 ⟨Hx,h4⟩;exact hL i () hi _ (zij (mod:=[(d,isv i)]) (Hm:=[]) k h1 h2 h3 h4)) hE hR
theorem iS {s:β} (h:some s=some r):s=r:=Option.some.inj h
end
end Go.Sy
namespace Go.Sy
structure Er where
 bad:Bool
instance:Rep Er where
 n:=1
 agg:=false
 rd:=λ_ cs x=>match x.bad with
  | false=>cs=[.nilIface]
  | true=>∃ t v,cs=[.iface t v]
 len:=λ{_ _ x} h=>by
  obtain ⟨b⟩:=x
  cases b with
  | false=>rw [show _=[Value.nilIface] from h];rfl
  | true=>obtain ⟨t,v,h⟩:=h;rw [h];rfl
 mono:=λ{_ _ _ x} _ h=>h
 cell:=λ{_ _ x} h u hu=>by
  obtain ⟨b⟩:=x
  cases b with
  | false=>rw [show _=[Value.nilIface] from h] at hu;simp at hu;subst hu;rfl
  | true=>obtain ⟨t,v,h⟩:=h;rw [h] at hu;simp at hu;subst hu;rfl
 one:=λ_=>rfl
section ops
variable {c:Ctx} {ty:TypeId} {pos:String} {af:Array Edge} {g:Option (Nat × Bool)} {σ:St} {d:Option Nat}
theorem zA8 {S:Frz} {v:Value} {x:Er} (h:(isv x).p S v):(x.bad=false/\v=.nilIface) \/ (x.bad=true/\∃ t u,v=.iface t u):=by
 have h2:=(zeG h rfl).2
 obtain ⟨b⟩:=x
 cases b with
 | false =>
  have h3:[v]=[Value.nilIface]:=h2
  exact .inl ⟨rfl,by simpa using h3⟩
 | true =>
  obtain ⟨t,u,h3⟩:∃ t u,[v]=[Value.iface t u]:=h2
  exact .inr ⟨rfl,t,u,by simpa using h3⟩
theorem zA1 {x:Operand} {y:Er} {T U:TypeId} (ht:c.P.underlying T=some (.interface (c.P.methodsAt T))) (hx:zA σ.Γ x=some (isv y)):OpV c ⟨d,.binOp .neq T x (.const .nilIface) U,ty,pos,af,g⟩ σ (isv y.bad):=λS a w m=>by
 rcases zA8 (zb m hx) with ⟨h1,h2⟩ | ⟨h1,t,u,h2⟩
 ·refine ⟨.bool false,zbN.2 (by rw [h1]),λw' _=>?_⟩
  have e:=run_equal_nil_nil (P:=c.P) w' T ht
  have hc:a.eval (.const .nilIface)=.nilIface:=rfl
  simp [execOp,binOp,eqGuard,h2,hc,e]
 ·refine ⟨.bool true,zbN.2 (by rw [h1]),λw' _=>?_⟩
  have e:=run_equal_held_nil (P:=c.P) w' T t u ht
  have hc:a.eval (.const .nilIface)=.nilIface:=rfl
  simp [execOp,binOp,eqGuard,h2,hc,e]
end ops
section val
variable (a n r:Int) (b:List UInt8) (l:List Val) (m:List Raw)
@[simp] theorem Val.kind_mk:(Val.mk a n b l r m).kind=a:=rfl
@[simp] theorem Val.n_mk:(Val.mk a n b l r m).n=n:=rfl
@[simp] theorem Val.b_mk:(Val.mk a n b l r m).b=b:=rfl
@[simp] theorem Val.l_mk:(Val.mk a n b l r m).l=l:=rfl
@[simp] theorem Val.rule_mk:(Val.mk a n b l r m).rule=r:=rfl
@[simp] theorem Val.more_mk:(Val.mk a n b l r m).more=m:=rfl
end val
section cut
variable {c:Ctx} {ty:TypeId} {pos:String} {af:Array Edge} {g:Option (Nat × Bool)} {σ:St} {d:Option Nat}
theorem zyC {S:Frz}:(isv (Er.mk false)).p S .nilIface:=ze0 rfl rfl
theorem zu1:OpV c ⟨d,.assign (.const .nilIface),ty,pos,af,g⟩ σ (isv (Er.mk false)):=λS a w m =>
 ⟨.nilIface,zyC,λw' _=>by simp [execOp];rfl⟩
theorem zwf {α:Type} [Rep α] {x:α} {cs:List Value} (ha:Rep.agg α=true) (hz:Zr cs x) (S:Frz) (v:Value) (h:(aggv cs.toArray).p S v):(isv x).p S v:=by
 obtain rfl:=h
 exact zif ha (by simpa using hz S)
theorem zuQ {α β:Type} [Rep α] [Rep β] {b:Nat} {L:Fld α β} {y:α} {x:Operand} {T:TypeId} {o:Obj} (ht:TyB c.P T (Rep.n zfM) (Rep.agg zfM)=true) (hx:zA σ.Γ x=some (zbl (zfM.mk b))) {i:Nat} (hi:zce σ.Γ i=some (zdE o b L y)) :
    OpV c ⟨d,.load T x,ty,pos,af,g⟩ σ (zdE o b (Fld.id α) y):=λS a w m=>by
  obtain ⟨v,h1,h2⟩:=zrS (α:=α) (d:=d) (ty:=ty) (pos:=pos) (af:=af) (g:=g) ht hx S a w m
  obtain ⟨u,_,_,h3⟩:=m.env _ _ hi
  exact ⟨v,⟨h1,h3⟩,h2⟩
theorem zu0 (a:Addr):a.add 0=a:=by unfold Addr.add;simp
theorem zAo {α:Type} [Rep α] {x o:Operand} {t:Vt} {n:Nat} {l:List α} {k:Int} {T:Nat} {Hr:List Ent} (hx:zA σ.Γ x=some (zbs t n)) (hT:SlB c.P T (Rep.n α) (Rep.agg α)=true) (hp:zcu (zM t l) σ.H Hr) (he:n=l.length)
    (ho:zA σ.Γ o=some (isv k)) (hk:0 <= k) (hq:k <= (l.length:Int)):OpV c ⟨d,.slice T x none (some o) none,ty,pos,af,g⟩ σ (zbs t (l.take k.toNat).length):=λS a w m=>by
  obtain ⟨hn,h1⟩:=zb m hx
  obtain ⟨h5,_⟩:=zai.1 (zb m ho)
  obtain ⟨e,hu,hte⟩:=SlB.spec hT
  have hlen:(l.take k.toNat).length=k.toNat:=by rw [zLt];omega
  have hs:=m.owns.sat _ ((hp.perm).mem_iff.2 (zMs ..))
  rw [hlen]
  cases t with
  | none =>
    obtain ⟨h1,h2⟩:=h1
    have hk0:k=0:=by omega
    subst hk0
    refine ⟨.slice none 0 0,⟨by simp,rfl,rfl⟩,λw' _=>?_⟩
    have e2:(Instr.sliceBound (a.eval o) 0 .sliceAcap).run c.P w'=.ok 0 w':=by rw [h5];exact zdZ (by omega) (by omega)
    simp [execOp,h1,Instr.sliceAt,Instr.slice,Instr.sliceBounds,underlying,hu,TyB.size hte,e2]
  | some t =>
    obtain ⟨b,cap⟩:=t
    obtain ⟨ob,_,_,cs,T',_,_,hc,_⟩:=hs
    have hc:l.length <= cap:=hc
    simp only at h1
    refine ⟨.slice (some ⟨b,0,none⟩) k.toNat cap,⟨by omega,rfl⟩,λw' _=>?_⟩
    have e2:(Instr.sliceBound (a.eval o) cap .sliceAcap).run c.P w'=.ok k.toNat w':=by rw [h5];exact zdZ (by omega) (by omega)
    simp [execOp,h1,Instr.sliceAt,Instr.slice,Instr.sliceBounds,underlying,hu,TyB.size hte,e2,zu0]
theorem zw3 {α:Type} [Rep α] {Γ:zL} {H Hr:List Ent} {t:Vt} {l:List α} (k:Nat) (hp:zcu (zM t l) H Hr):Upd c ⟨Γ,H⟩ ⟨Γ,zM t (l.take k) :: Hr⟩:=(zgl hp).trans λS a w m =>
 ⟨S, S.le_refl,m.ent rfl λhs=>by
  unfold Ent.sat zM at *
  cases t with
  | none=>trivial
  | some t =>
   obtain ⟨b,cap⟩:=t
   obtain ⟨o,h1,h2,cs,T,h3,h4,h5,h6⟩:=hs
   refine ⟨o,h1,h2,cs,T,h3,h4,by rw [zLt];omega,?_⟩
   have:=zip (r:=Rep.rd S) (λ_ _ h=>Rep.len h) k h6
   rw [List.take_take] at this
   rw [zLt]
   rcases Nat.le_total k l.length with hk | hk
   ·rw [Nat.min_eq_left hk]
    rwa [Nat.min_eq_left (Nat.mul_le_mul_right _ hk)] at this
   ·rw [Nat.min_eq_right hk]
    rwa [Nat.min_eq_right (Nat.mul_le_mul_right _ hk)] at this⟩
theorem zto {Γ:zL} {H:List Ent} {α:Type} [Rep α] {T:TypeId} {len:Nat} {parts:Array (Nat × Operand)} {l:List α} {dd:Nat} {K:St->Prop} (hT:elB c.P T (Rep.n α)=true) (he:znh Γ 0 parts.toList l) (hl:l.length=len) (hmax:(Nat.ble (len * Rep.n α) 16777216 && Nat.ble len 16777216)=true)
    (k:∀ t,K ⟨(dd,zbs t l.length) :: Γ,zM t l :: H⟩) (hd:Nat.blt dd c.n=true:=by rfl):OpT c ⟨some dd,.buildSlice T len parts,ty,pos,af,g⟩ ⟨Γ,H⟩ K:=by
  intro S a w next Q m hn
  obtain ⟨e,i,z,hu,hi,hsz,hby,hz,hzn⟩:=(ElB.of hT).sl
  rw [zBa] at hmax
  have hmax':=Nat.le_of_ble_eq_true hmax.1
  have hmax2:=Nat.le_of_ble_eq_true hmax.2
  subst hl
  obtain ⟨out,cs,h1,h2,h3,h4⟩:=he.fill m (cells:=(Array.range (l.length * Rep.n α)).map (z.cells[· % z.cells.size]!)) (pre:=[]) (by simp) (by simp)
  rw [List.nil_append] at h2
  have hrun:(execOp a.eval ⟨some dd,.buildSlice T l.length parts,ty,pos,af,g⟩).run c.P w=.ok (.value (.slice (some ⟨w.heap.size,0,none⟩) l.length l.length)) { w with heap:=w.heap.push (.cells out e (0,0)) }:=by
    have e1:(parts.map λx=>match x with | (i,x)=>(i,a.eval x)).toList=parts.toList.map λp=>(p.1,a.eval p.2):=by cases parts;simp
    have hnb:¬ 2 ^ 24 < l.length * Rep.n α:=by omega
    by_cases h0:l.length * Rep.n α=0
    · have hz0:(Array.range 0).map (z.cells[· % z.cells.size]!)=#[]:=by simp
      rw [h0,hz0] at h1
      simp only [execOp,Instr.buildSlice,underlying,run_program,Sem.run_bind,hu,Sem.run_pure,Result.andThen_ok,sizeOf,typeInfo,hi,hsz,h0,e1]
      rw [if_neg (by omega)]
      have hz2:(Array.map (λ_=>(default:Value)) (Array.range 0))=#[]:=by simp
      simp [hz2,h1,newRow,newObj,Sem.run]
    · simp only [execOp,Instr.buildSlice,underlying,run_program,Sem.run_bind,hu,Sem.run_pure,Result.andThen_ok,sizeOf,typeInfo,hi,hsz,Sem.run_ite,gt_iff_lt,hnb,if_false,h0,e1]
      simp [zeroValue,typeInfo,hi,hz,h1,newRow,newObj,Sem.run]
  unfold Oper.wp
  rw [hrun]
  have hst:=zhP (w:=w) m.sub (.cells out e (0,0))
  have m1:=m.step (Hc:=[]) (H':=[zM (some (w.heap.size,l.length)) l]) .nil hst
    (ze3 ⟨.cells out e (0,0),by simp,zgq m.sub,out,e,rfl,by rw [<- Array.length_toList,h2,h3],zNl _,by
      rw [h2,<- h3,List.take_length];exact h4⟩ λb hb=>by
        have hb:some w.heap.size=some b:=hb
        cases hb;exact .inr (zNl _))
  refine hn _ _ _ _ hst.grow.le (k (some (w.heap.size,l.length))) (m1.put hd ⟨?_,rfl⟩)
  have hml:zeb=281474976710656:=rfl
  omega
def zr9 (P:Program) (T U:TypeId):Bool :=
  (match P.underlying T with
   | some (.slice e)=>(match P.info? e with
     | some i=>i.size == 1 && Nat.ble i.bytes 1024 && i.bytes != 0 && i.zero.any (·.cells.size == 1)
     | none=>false)
   | _=>false) && (match P.underlying U with | some .string=>true | _=>false)
theorem AppSB.of {P:Program} {T U:TypeId} (h:zr9 P T U=true):(∃ e i z,P.underlying T=some (.slice e)/\P.info? e=some i/\i.size=Rep.n UInt8/\i.bytes <= 1024/\i.bytes ≠ 0/\i.zero=some z/\z.cells.size=Rep.n UInt8)/\P.underlying U=some .string:=by
 unfold zr9 at h
 simp only [zBa] at h
 obtain ⟨h1,h2⟩:=h
 constructor
 ·split at h1
  ·rename_i e hu
   split at h1
   ·rename_i i hi
    simp only [zBa,beq_iff_eq,bne_iff_ne] at h1
    obtain ⟨z,hz,hz'⟩:=(Option.any_eq_true _ _).1 h1.2
    exact ⟨e,i,z,hu,hi,h1.1.1.1,Nat.le_of_ble_eq_true h1.1.1.2,h1.1.2,hz,(by simpa using hz':z.cells.size=1)⟩
   ·cases h1
  ·cases h1
 ·split at h2
  ·rename_i hu;exact hu
  ·cases h2
theorem ztB {P:Program} (s:Str) (w:World):(Builtin.firstCells (Rep.n UInt8) s.b.length (.string s.ba)).run P w=.ok (s.b.map λx=>Value.int .u8 (x.toNat:Int)).toArray w:=by
 have h:(s.ba.extract 0 s.b.length)=s.ba:=by
  have:=zjR s 0 s.b.length
  rw [List.take_length,List.drop_zero] at this
  exact this
 simp [Builtin.firstCells,h,Str.ba]
theorem zm4 {P:Program} {T U e:TypeId} {i:TypeInfo} {z:Value} {p:Option Addr} {s:ByteArray} {ln mn cap n:Nat} {ty:TypeId} {cl cm:Array Value} {w:World}
    (hu:P.underlying T=some (.slice e)) (hu':P.underlying U=some .string) (hsn:s.size=mn) (hi:P.info? e=some i) (hsz:i.size=n) (hz:i.zero=some z) (hby0:i.bytes ≠ 0)
    (hneed:¬ ln + mn <= cap) (hbig:¬ 2 ^ 48 < Builtin.nextslicecap (ln + mn) cap * i.bytes)
    (h1:(Builtin.firstCells n ln (.slice p ln cap)).run P { w with drawn:=w.drawn + 1 }=.ok cl { w with drawn:=w.drawn + 1 })
    (h2:(Builtin.firstCells n mn (.string s)).run P { w with drawn:=w.drawn + 1 }=.ok cm { w with drawn:=w.drawn + 1 }) :
    (Builtin.append_ #[T,U] ty #[.slice p ln cap,.string s]).run P w =
      .ok (.slice (some ⟨w.heap.size,0,none⟩) (ln + mn) ((Question.appendCap (ln + mn) cap e).cut (w.tape w.drawn (.appendCap (ln + mn) cap e))))
        { w with drawn:=w.drawn + 1,heap:=w.heap.push (.cells (cl ++ cm ++ Builtin.zeroCells z.cells ((Question.appendCap (ln + mn) cap e).cut (w.tape w.drawn (.appendCap (ln + mn) cap e)) - (ln + mn))) e (0,0)) }:=by
  have hroom:∀ (k:Nat) (w:World),(askRoom k).run P w=.ok () w:=λk w=>by unfold askRoom;split <;> rfl
  have hch:(choose (.appendCap (ln + mn) cap e)).run P w=.ok ((Question.appendCap (ln + mn) cap e).cut (w.tape w.drawn (.appendCap (ln + mn) cap e))) { w with drawn:=w.drawn + 1 }:=by
    simp [choose,Sem.run,Question.forced]
  generalize (Question.appendCap (ln + mn) cap e).cut (w.tape w.drawn (.appendCap (ln + mn) cap e))=nc at *
  have hu1:∀ w:World,(underlying T).run P w=.ok (.slice e) w:=λw=>by simp [underlying,hu]
  have hu2:∀ w:World,(underlying U).run P w=.ok .string w:=λw=>by simp [underlying,hu']
  have hs1:∀ w:World,(sizeOf e).run P w=.ok n w:=λw=>by simp [sizeOf,typeInfo,hi,hsz]
  have ht1:∀ w:World,(typeInfo e).run P w=.ok i w:=λw=>by simp [typeInfo,hi]
  have hz1:∀ w:World,(zeroValue e).run P w=.ok z w:=λw=>by simp [zeroValue,typeInfo,hi,hz]
  have hl:∀ w:World,(Builtin.lenOf (.string s)).run P w=.ok mn w:=λw=>by subst hsn;rfl
  have hnr:∀ (cs:Array Value) (w:World),(newRow e cs).run P w=.ok ⟨w.heap.size,0,none⟩ { w with heap:=w.heap.push (.cells cs e (0,0)) }:=λcs w=>by simp [newRow,newObj,Sem.run]
  unfold Builtin.append_
  simp only [List.getElem?_toArray,List.getElem?_cons_zero,List.getElem?_cons_succ,Sem.run_bind,hu1,hu2,hs1,Result.andThen_ok,Sem.run_pure,hl,Bool.false_eq_true,if_false,Sem.run_ite,hneed,ht1,gt_iff_lt,hbig,hch,hroom,h1,h2,hz1,hnr,Bool.not_false,if_true]
  rw [if_neg (λh=>by rcases h.2 with h | h;exact h;exact hby0 h)]
theorem zxG {Γ:zL} {H:List Ent} {x y:Operand} {t:Vt} {n:Nat} {l:List UInt8} {s:Str} {T U:TypeId} {dd:Nat} {K:St->Prop} {Hr:List Ent} (hT:zr9 c.P T U=true)
    (hx:zA Γ x=some (zbs t n)) (hy:zA Γ y=some (isv s)) (hp:zcu (zM t l) H Hr) (hnl:n <= l.length)
    (hb:Nat.ble (n + s.b.length) 68719476736=true)
    (k:∀ t',K ⟨(dd,zbs t' (l.take n ++ s.b).length) :: Γ,zM t' (l.take n ++ s.b) :: Hr⟩) (hd:Nat.blt dd c.n=true:=by rfl) :
    OpT c ⟨some dd,.call ⟨.builtin .append,#[x,y],#[T,U]⟩,ty,pos,af,g⟩ ⟨Γ,H⟩ K:=by
  intro S a w next Q mm hn
  replace hb:=Nat.le_of_ble_eq_true hb
  have hll:(l.take n ++ s.b).length=n + s.b.length:=by rw [zLa,zLt];omega
  obtain ⟨⟨e,i,z,hu,hi,hsz,hby,hby0,hz,hzn⟩,hu'⟩:=AppSB.of hT
  obtain ⟨hnm,htk⟩:=zb mm hx
  have ev':a.eval y=.string s.ba:=(zdr.1 (zb mm hy)).1
  obtain ⟨cm,hcme⟩:∃ cm,cm=s.b.map λx=>Value.int .u8 (x.toNat:Int):=⟨_,rfl⟩
  have hcm1:cm.length=s.b.length * Rep.n UInt8:=by rw [hcme,List.length_map];exact (Nat.mul_one _).symm
  have hcm2:rdL (Rep.rd S) s.b cm:=by rw [hcme];exact zog _
  have hcm4:∀ w',(Builtin.firstCells (Rep.n UInt8) s.b.length (a.eval y)).run c.P w'=.ok cm.toArray w':=λw'=>by rw [ev',hcme];exact ztB s w'
  have hcmo:∀ v ∈ cm,v.oneCell'=true:=zjF (λ_ _ h=>Rep.cell h) hcm2
  have hml:zeb=281474976710656:=rfl
  have hs:(zM t l).sat S w:=mm.owns.get hp
  have hrun:∀ w',(execOp a.eval ⟨some dd,.call ⟨.builtin .append,#[x,y],#[T,U]⟩,ty,pos,af,g⟩).run c.P w' =
      ((Builtin.append_ #[T,U] ty #[a.eval x,a.eval y]).run c.P w').andThen λv w'=>.ok (.value v) w':=by
    intro w'
    simp [execOp,resolve,invoke,builtin]
  unfold Oper.wp
  rw [hrun]
  -- a new block
  have grown:∀ (p:Option Addr) (cap:Nat) (cl:List Value),a.eval x=.slice p n cap->¬ n + s.b.length <= cap->cl.length=n * Rep.n UInt8->rdL (Rep.rd S) (l.take n) cl->(∀ v ∈ cl,v.oneCell'=true) ->
      ((Builtin.firstCells (Rep.n UInt8) n (.slice p n cap)).run c.P { w with drawn:=w.drawn + 1 }=.ok cl.toArray { w with drawn:=w.drawn + 1 }) ->
      (∃ v w',(Builtin.append_ #[T,U] ty #[a.eval x,a.eval y]).run c.P w=.ok v w'/\next (a.put (some dd) v) w'):=by
    intro p cap cl ev hneed hcl1 hcl2 _ hf1
    have hgrow:=zhw (need:=n + s.b.length) (cap:=cap) (by omega)
    have hbig:¬ 281474976710656 < Builtin.nextslicecap (n + s.b.length) cap * i.bytes:=by
      have h1:Builtin.nextslicecap (n + s.b.length) cap * i.bytes <= (2 * (n + s.b.length) + 1024) * 1024:=Nat.mul_le_mul hgrow hby
      omega
    let q0:Question:=.appendCap (n + s.b.length) cap e
    let nc:=q0.cut (w.tape w.drawn q0)
    have hnc:n + s.b.length <= nc:=Nat.le_add_right _ _
    let w1:World:={ w with drawn:=w.drawn + 1 }
    have hs1:S.sub w1:=mm.sub
    have hrun2:(Builtin.append_ #[T,U] ty #[a.eval x,a.eval y]).run c.P w=.ok (.slice (some ⟨w.heap.size,0,none⟩) (n + s.b.length) nc) { w1 with heap:=w.heap.push (.cells (cl.toArray ++ cm.toArray ++ Builtin.zeroCells z.cells (nc - (n + s.b.length))) e (0,0)) }:=by
      have hf2:=hcm4 w1
      rw [ev'] at hf2
      rw [ev,ev']
      exact zm4 hu hu' (Str.ba_size s) hi hsz hz hby0 hneed (by simpa using hbig) hf1 hf2
    have hzs:(Builtin.zeroCells z.cells (nc - (n + s.b.length))).size=(nc - (n + s.b.length)) * z.cells.size:=by simp [Builtin.zeroCells]
    have hsp:=zhP (w:=w1) hs1 (.cells (cl.toArray ++ cm.toArray ++ Builtin.zeroCells z.cells (nc - (n + s.b.length))) e (0,0))
    have hstep':zky (zbL [zM t l]) S S w { w1 with heap:=w.heap.push (.cells (cl.toArray ++ cm.toArray ++ Builtin.zeroCells z.cells (nc - (n + s.b.length))) e (0,0)) } :=
      ⟨⟨rfl,rfl,rfl,hsp.keep.size,λk hk _=>hsp.keep.block k hk (by simp)⟩,Grow.refl _ _ _,hsp.sub⟩
    have hlc:(cl ++ cm).length=(n + s.b.length) * Rep.n UInt8:=by rw [zLa,hcl1,hcm1,Nat.add_mul]
    have m1:=mm.step (H':=[zM (some (w.heap.size,nc)) (l.take n ++ s.b)]) (zbn.cons hp .nil) hstep'
      (ze3 ⟨.cells (cl.toArray ++ cm.toArray ++ Builtin.zeroCells z.cells (nc - (n + s.b.length))) e (0,0),by simp,zgq mm.sub,_,e,rfl,by
        rw [Array.size_append,Array.size_append,List.size_toArray,List.size_toArray,hzs,hzn,<- zLa,hlc,<- Nat.add_mul]
        congr 1;omega,by rw [hll];exact hnc,by
        rw [hll,<- hlc]
        simp only [Array.toList_append,List.toList_toArray]
        rw [List.take_left' rfl]
        exact zgb hcl2 hcm2⟩ λb' hb'=>by simp [zM] at hb';subst hb';exact .inr (zNl _))
    exact ⟨_,_,hrun2,hn _ _ _ _ (Frz.le_refl _) (k (some (w.heap.size,nc))) (m1.put hd ⟨by rw [hll];omega,by rw [hll]⟩)⟩
  have fin : (∃ v w',(Builtin.append_ #[T,U] ty #[a.eval x,a.eval y]).run c.P w=.ok v w'/\next (a.put (some dd) v) w'):=by
    cases t with
    | none =>
      obtain ⟨ev,rfl⟩:=htk
      by_cases hneed:0 + s.b.length <= 0
      · have hm0:s.b=[]:=by cases hsb:s.b with | nil=>rfl | cons _ _=>rw [hsb] at hneed;exact absurd hneed (by simp)
        refine ⟨.slice none 0 0,w,?_,?_⟩
        · have hf:=hcm4 w
          have hcm0:cm=[]:=List.length_eq_zero_iff.1 (by rw [hcm1,hm0];simp)
          rw [hcm0,ev',hm0] at hf
          simp only [zLn] at hf
          simp [Builtin.append_,underlying,hu,hu',ev,ev',sizeOf,typeInfo,hi,hsz,Builtin.lenOf,Str.ba_size,hm0,hf]
        · have m1:=mm.step (H':=[zM none (l.take 0 ++ ([]:List UInt8))]) (zbn.cons hp .nil) (S':=S) (w':=w) ⟨zju.refl _ _,Grow.refl _ _ _,mm.sub⟩
            ⟨λx hx=>by simp at hx;subst hx;trivial,by simp [zbL,zM],λb hb=>by simp [zbL,zM] at hb⟩
          have k':=k none
          rw [hm0] at k'
          exact hn _ _ _ _ (Frz.le_refl _) k' (m1.put hd ⟨by simp,rfl,by simp⟩)
      · refine grown none 0 [] ev hneed (by simp) (by simp [rdL]) (by simp) (by simp [Builtin.firstCells])
    | some t =>
      obtain ⟨b,cap⟩:=t
      simp only at htk
      obtain ⟨o,ho,hnone,cs,T0,e1,hcsz,hlc,hr⟩:=hs
      subst e1
      have hle:n * Rep.n UInt8 <= l.length * Rep.n UInt8:=Nat.mul_le_mul_right _ hnl
      have hle2:l.length * Rep.n UInt8 <= cap * Rep.n UInt8:=Nat.mul_le_mul_right _ hlc
      have htk2:(cs.toList.take (l.length * Rep.n UInt8)).take (n * Rep.n UInt8)=cs.toList.take (n * Rep.n UInt8):=by rw [List.take_take,Nat.min_eq_left hle]
      have hrn:rdL (Rep.rd S) (l.take n) (cs.toList.take (n * Rep.n UInt8)):=by rw [<- htk2];exact zip (λ_ _ h=>Rep.len h) n hr
      have hcln:(cs.toList.take (n * Rep.n UInt8)).length=n * Rep.n UInt8:=by
        have:cs.toList.length=cs.size:=by simp
        rw [zLt];omega
      by_cases hneed:n + s.b.length <= cap
      · have hfit:n * Rep.n UInt8 + cm.length <= cs.size:=by
          have h2:(n + s.b.length) * Rep.n UInt8 <= cap * Rep.n UInt8:=Nat.mul_le_mul_right _ hneed
          rw [Nat.add_mul] at h2
          rw [hcm1];omega
        have hst:=run_storeCells_at (P:=c.P) b (n * Rep.n UInt8) T0 cm 0 cs w ho (by omega) hcmo
        have hadd:(⟨b,0,none⟩:Addr).add (n * Rep.n UInt8)=⟨b,n * Rep.n UInt8,none⟩:=by rw [zc9,Nat.zero_add]
        have hrun2:(Builtin.append_ #[T,U] ty #[a.eval x,a.eval y]).run c.P w=.ok (.slice (some ⟨b,0,none⟩) (n + s.b.length) cap) (w.setRow b (cs.toList.take (n * Rep.n UInt8 + 0) ++ cm ++ cs.toList.drop (n * Rep.n UInt8 + 0 + cm.length)).toArray):=by
          have hf:=hcm4 w
          rw [ev'] at hf
          simp [Builtin.append_,underlying,hu,hu',htk,ev',sizeOf,typeInfo,hi,hsz,Builtin.lenOf,Str.ba_size,hf,hneed,hadd,hst]
        obtain ⟨hstep,hh⟩:=ziJ (cs:=(cs.toList.take (n * Rep.n UInt8 + 0) ++ cm ++ cs.toList.drop (n * Rep.n UInt8 + 0 + cm.length)).toArray) mm.sub hnone ho
        have m1:=mm.step (Hc:=[zM (some (b,cap)) l]) (H':=[zM (some (b,cap)) (l.take n ++ s.b)]) (zbn.cons hp .nil) hstep
          (ze3 ⟨_,hh,hnone,_,_,rfl,by
            have hcl:cs.toList.length=cs.size:=by simp
            simp only [List.size_toArray,zLa,zLt,zLd,hcl]
            omega,by rw [hll];exact hneed,by
            rw [hll,Nat.add_mul,<- hcm1,Nat.add_zero]
            simp only
            have:(cs.toList.take (n * Rep.n UInt8) ++ cm ++ cs.toList.drop (n * Rep.n UInt8 + cm.length)).take (n * Rep.n UInt8 + cm.length)=cs.toList.take (n * Rep.n UInt8) ++ cm:=List.take_left' (by rw [zLa,hcln])
            rw [this]
            exact zgb hrn hcm2⟩ λb' hb=>by simp [zM] at hb;subst hb;exact .inl (by simp [zbL,zM]))
        exact ⟨_,_,hrun2,hn _ _ _ _ (Frz.le_refl _) (k (some (b,cap))) (m1.put hd ⟨by rw [hll];omega,by rw [hll]⟩)⟩
      · refine grown (some ⟨b,0,none⟩) cap (cs.toList.take (n * Rep.n UInt8)) htk hneed hcln hrn (λv hv=>zjF (λ_ _ h=>Rep.cell h) hrn v hv) ?_
        have:=run_loadCells_list (P:=c.P) { w with drawn:=w.drawn + 1 } ⟨b,0,none⟩ (cs.toList.take (n * Rep.n UInt8)) (λj u hj=>by
          rw [zc9]
          unfold World.cell?
          show (match w.heap[b]? with | _=>_)=_
          rw [ho]
          simp only
          rw [List.getElem?_take] at hj
          split at hj
          · simpa using hj
          · cases hj)
        rw [hcln] at this
        simpa [Builtin.firstCells] using this
  obtain ⟨v,w',h1,h2⟩:=fin
  rw [h1]
  exact h2
theorem zyH {Γ:zL} {H:List Ent} {x y:Operand} {t:Vt} {n:Nat} {l:List UInt8} {s:Str} {T U:TypeId} {dd:Nat} {K:St->Prop} {Hr:List Ent} (hT:zr9 c.P T U=true)
    (hx:zA Γ x=some (zbs t n)) (hy:zA Γ y=some (isv s)) (hp:zcu (zM t l) H Hr) (hnl:n=l.length)
    (hb:Nat.ble (l.length + s.b.length) 68719476736=true)
    (k:∀ t',K ⟨(dd,zbs t' (l ++ s.b).length) :: Γ,zM t' (l ++ s.b) :: Hr⟩) (hd:Nat.blt dd c.n=true:=by rfl) :
    OpT c ⟨some dd,.call ⟨.builtin .append,#[x,y],#[T,U]⟩,ty,pos,af,g⟩ ⟨Γ,H⟩ K:=by
  subst hnl
  exact zxG hT hx hy hp (zNl _) hb (λt'=>by rw [List.take_length];exact k t') hd
theorem ztF {x i:Operand} {s:Str} {k:UInt8} (y:UInt8) {T:Nat} (hT:zkp c.P T=true) (hx:zA σ.Γ x=some (isv s)) (hi:zA σ.Γ i=some (isv k))
    (hy:zs s.b (k.toNat:Int)=some y):OpV c ⟨d,.index T x i,ty,pos,af,g⟩ σ (isv y):=λS a w m=>by
  obtain ⟨h1,h2⟩:=zdr.1 (zb m hx)
  have h5:=zbQ.1 (zb m hi)
  obtain ⟨hk,hy⟩:=zn5 hy
  refine ⟨.int .u8 y.toNat,zbQ.2 rfl,λw' _=>?_⟩
  have h3:s.ba[k.toNat]?=some y:=by
    rw [Int.toNat_natCast] at hy
    have hlt:=(List.getElem?_eq_some_iff.1 hy).1
    have hlt2:k.toNat < s.ba.size:=by rw [Str.ba_size];exact hlt
    rw [getElem?_pos s.ba k.toNat hlt2]
    have:s.ba[k.toNat]=s.b[k.toNat]:=rfl
    rw [this];exact congrArg some (List.getElem?_eq_some_iff.1 hy).2
  simp [execOp,h1,h5,Instr.index,asIntOf,underlying,zkp.spec hT,h3]
end cut
end Go.Sy
namespace Go.Sy
open Go
inductive JA (ι:Type) where
 | v (mod:ι->zL) (Hm:ι->List Ent)
 | t (A:Tok->JA ι)
 | w (A:Vt->JA ι)
 | b (A:Nat->JA ι)
def JA.all {ι:Type} (Q:(ι->zL)->(ι->List Ent)->Prop):JA ι->Prop
 | .v mod Hm=>Q mod Hm
 | .t A=>∀ x,(A x).all Q
 | .w A=>∀ x,(A x).all Q
 | .b A=>∀ x,(A x).all Q
def JA.lf {ι:Type} (mod:ι->zL) (Hm:ι->List Ent):JA ι->Prop
 | .v mod' Hm'=>mod=mod'/\Hm=Hm'
 | .t A=>∃ x,(A x).lf mod Hm
 | .w A=>∃ x,(A x).lf mod Hm
 | .b A=>∃ x,(A x).lf mod Hm
theorem JA.all_lf {ι:Type} {Q:(ι->zL)->(ι->List Ent)->Prop}:∀ {A:JA ι},A.all Q ↔ ∀ mod Hm,A.lf mod Hm->Q mod Hm
 | .v mod Hm=>⟨λh _ _ ⟨e1,e2⟩=>e1 ▸ e2 ▸ h,λh=>h _ _ ⟨rfl,rfl⟩⟩
 | .t A=>⟨λh _ _ ⟨x,e⟩=>JA.all_lf.1 (h x) _ _ e,λh x=>JA.all_lf.2 λ_ _ e=>h _ _ ⟨x,e⟩⟩
 | .w A=>⟨λh _ _ ⟨x,e⟩=>JA.all_lf.1 (h x) _ _ e,λh x=>JA.all_lf.2 λ_ _ e=>h _ _ ⟨x,e⟩⟩
 | .b A=>⟨λh _ _ ⟨x,e⟩=>JA.all_lf.1 (h x) _ _ e,λh x=>JA.all_lf.2 λ_ _ e=>h _ _ ⟨x,e⟩⟩
inductive Ax:Type 1 where
 | b (k:Nat) (A:Nat->Ax)
 | t (k:Nat) (A:Tok->Ax)
 | w (k:Nat) (A:Vt->Ax)
 | m {ι:Type} (ks:List Bool) (A:JA ι)
inductive Fu:Type 1 where
 | a
 | b (x y:Fu)
 | o (n d:Nat) (x y:Fu)
 | w (ds:List Nat) (x y:Fu)
 | v (ds:List Nat) (x y:Fu)
 | l (ds:List Nat) (x:Fu)
 | j (n:Nat) (A:Ax) (x y:Fu)
 | k (A:Ax) (x:Fu)
 | q (n:Nat) (x:Fu)
 | d (n:Nat) (x:Fu)
 | p (i:Nat) (x:Fu)
 | e (π:Ord) (x:Fu)
 | u (i:Nat) (x:Fu)
 | f (b:Nat) (i:Nat) (x:Fu)
 | g (i:Nat) (x:Fu)
inductive AP where
 | mk (Rs:List VP) (Hs:List Ent)
 | t (A:Tok->AP)
 | v (A:Vt->AP)
 | b (A:Nat->AP)
def AP.p:AP->VP->List Ent->Prop
 | .mk Rs Hs,R,H=>R=ziR Rs/\H=Hs
 | .t A,R,H=>∃ x,(A x).p R H
 | .v A,R,H=>∃ x,(A x).p R H
 | .b A,R,H=>∃ x,(A x).p R H
inductive AC (β:Type) where
 | mk (as:List VP) (H:List Ent) (A:β->AP)
 | t (A:Tok->AC β)
 | v (A:Vt->AC β)
 | b (A:Nat->AC β)
def AC.p {β:Type} (P:Program) (f:FuncId) (r:β):AC β->Prop
 | .mk as H A=>Ctr P f as H (A r).p
 | .t A=>∀ x,(A x).p P f r
 | .v A=>∀ x,(A x).p P f r
 | .b A=>∀ x,(A x).p P f r
class zd {β:Type} (P:Program) (f:FuncId) (m:Option β) (A:outParam (AC β)):Prop where
 h:∀ r,m=some r->A.p P f r
inductive Kn (β:Type) where
 | nxt (y:Code) (k:Kn β)
 | blk (id:Nat) (k:Kn β)
 | fv (n:Nat) (Q:Exit->Act->World->Prop)
 | un (i:Nat) (k:Kn β)
 | po (fn:Func) (w0:World) (S0:Frz) (H0:List Ent) (A:β->AP)
def Kn.q {β:Type} (P:Program) (r:β):Kn β->Exit->Act->World->Prop
 | .nxt y k=>Exit.then (λa w=>y.wp P (k.q P r) a w) (k.q P r)
 | .blk id k=>Exit.inBlock id (k.q P r)
 | .fv _ Q=>Q
 | .un _ k=>k.q P r
 | .po fn w0 S0 H0 A=>zme P fn w0 S0 H0 (A r).p
def Kn.len {β:Type}:Kn β->Nat
 | .nxt _ k=>k.len + 1
 | .blk _ k=>k.len + 1
 | .fv n _=>n + 1
 | .un _ k=>k.len + 1
 | .po ..=>0
inductive Cx where
 | rl (ops:Array Oper) (l:List Oper)
 | rv (ops:Array Oper) (i:Nat) (π:Ord)
 | rt (ops:Array Oper) (i:Nat) (π:Ord)
inductive Rx where
 | rl (ops:Array Oper) (l:List Oper)
 | rd (ops:Array Oper) (π:Ord)
def Rx.p (c:Ctx) (Q:Exit->Act->World->Prop):Rx->St->Prop
 | .rl ops l,σ=>Rl c ops l σ Q
 | .rd ops π,σ=>Rd c ops π σ Q
def Cx.af:Cx->Rx
 | .rl ops l=>.rl ops l
 | .rv ops _ π=>.rd ops π
 | .rt ops _ π=>.rd ops π
def Cx.ops:Cx->Array Oper
 | .rl ops _=>ops
 | .rv ops _ _=>ops
 | .rt ops _ _=>ops
def Cx.isT:Cx->Bool
 | .rv ..=>false
 | _=>true
def Cx.pend (c:Ctx) (Q:Exit->Act->World->Prop) (o:Oper):Cx->St->Prop
 | .rl ops l,σ=>Rl c ops (o :: l) σ Q
 | .rv ops i π,σ=>ops[i]?=some o->Rd c ops (.v i π) σ Q
 | .rt ops i π,σ=>ops[i]?=some o->Rd c ops (.t i π) σ Q
def Cx.opP (c:Ctx) (Q:Exit->Act->World->Prop) (o:Oper):Cx->St->Prop
 | .rl ops l,σ=>OpT c o σ λσ'=>Rl c ops l σ' Q
 | .rt ops _ π,σ=>OpT c o σ λσ'=>Rd c ops π σ' Q
 | .rv ops _ π,σ=>∃ d R,o.dst=some d/\Nat.blt d c.n=true/\OpV c o σ R/\Rd c ops π ⟨(d,R) :: σ.Γ,σ.H⟩ Q
structure Dx where
 ty:TypeId
 pos:String
 af:Array Edge
 g:Option (Nat × Bool)
 X:Cx
def Dx.o (D:Dx) (p:Op) (d:Nat):Oper:=⟨some d,p,D.ty,D.pos,D.af,D.g⟩
def Dx.n (D:Dx) (p:Op):Oper:=⟨none,p,D.ty,D.pos,D.af,D.g⟩
def Dx.r (D:Dx):Rx:=D.X.af
def Rx.len:Rx->Nat
 | .rl _ l=>l.length
 | .rd _ π=>π.len
def gvl (ops:Array Oper) (o:Oper) (Γ:zL):Option VP:=match o.guard with
 | some (j,_)=>gl ops j Γ
 | none=>none
inductive Tr where
 | y
 | n
 | u
def Tr.p (b:Bool):Tr->Prop
 | .y=>b=true
 | .n=>b=false
 | .u=>True
inductive Ot (β:Type):Type 1 where
 | c (Γ:zL) (H:List Ent) (m:Option β)
 | a {α:Type} (A:α->Ot β)
def Ot.ok {β:Type} (r:β) (Q:zL->List Ent->Prop):Ot β->Prop
 | .c Γ H m=>m=some r->Q Γ H
 | .a A=>∀ y,(A y).ok r Q
inductive Jd (β:Type):Type 1 where
 | wp (x:Code)
 | fin
 | fi
 | fj (b:Bool)
 | exi (id:Nat)
 | ret
 | run (x:Rx)
 | rj (b:Bool) (x:Rx)
 | ru (x:Rx)
 | pe (o:Oper) (x:Cx)
 | gd (V:VP) (o:Oper) (x:Cx)
 | gt (t:Tr) (b:Bool) (o:Oper) (x:Cx)
 | op (p:Op) (d:Nat) (D:Dx)
 | on (p:Op) (D:Dx)
 | kt (o:Ot β) (x:Rx)
 | cf (x:Operand) (ats:Array TypeId) (fn:FuncId) (caps:List VP) (xs:Array Operand) (d:Nat) (D:Dx)
 | cl {α:Type} (A:AC α) (f:FuncId) (caps:List VP) (xs:List Operand) (y:α) (d:Nat) (x:Rx)
 | ps (A:AP) (d:Nat) (x:Rx) (Hr:List Ent)
 | jk {ι:Type} (A:JA ι) (j:Jd β) (R:ι->Option β)
 | ak {ι:Type} (A:JA ι) (i:ι) (j:Jd β) (Γ0:zL) (Hr:List Ent)
 | rp (A:AP) (e:Bool)
 | jx (A:Ax) (n:Nat) (x y:Fu) (j:Jd β)
def Jd.p {β:Type} (c:Ctx) (r:β) (K:Kn β):Jd β->zL->List Ent->Prop
 | .wp x,Γ,H=>Wp c x ⟨Γ,H⟩ (K.q c.P r)
 | .fin,Γ,H=>Fin c ⟨Γ,H⟩ (K.q c.P r)
 | .fi,Γ,H=>Fin c ⟨Γ,H⟩ (K.q c.P r)
 | .fj _,Γ,H=>Fin c ⟨Γ,H⟩ (K.q c.P r)
 | .exi id,Γ,H=>Exi c id ⟨Γ,H⟩ (K.q c.P r)
 | .ret,Γ,H=>Ret c ⟨Γ,H⟩ (K.q c.P r)
 | .run x,Γ,H=>x.p c (K.q c.P r) ⟨Γ,H⟩
 | .rj _ x,Γ,H=>x.p c (K.q c.P r) ⟨Γ,H⟩
 | .ru x,Γ,H=>x.p c (K.q c.P r) ⟨Γ,H⟩
 | .pe o x,Γ,H=>x.pend c (K.q c.P r) o ⟨Γ,H⟩
 | .gd V o x,Γ,H=>gvl x.ops o Γ=some V->x.pend c (K.q c.P r) o ⟨Γ,H⟩
 | .gt t b o x,Γ,H=>t.p b->gvl x.ops o Γ=some (isv b)->x.pend c (K.q c.P r) o ⟨Γ,H⟩
 | .op p d D,Γ,H=>Nat.blt d c.n=true->D.X.opP c (K.q c.P r) (D.o p d) ⟨Γ,H⟩
 | .on p D,Γ,H=>D.X.opP c (K.q c.P r) (D.n p) ⟨Γ,H⟩
 | .kt o x,_,_=>o.ok r λΓ' H'=>x.p c (K.q c.P r) ⟨Γ',H'⟩
 | .cf x ats fn caps xs d D,Γ,H=>zA Γ x=some (zdV fn caps)->Nat.blt d c.n=true->D.X.opP c (K.q c.P r) (D.o (.call ⟨.value x,xs,ats⟩) d) ⟨Γ,H⟩
 | .cl A f caps xs y d x,Γ,H=>A.p c.P f y->∃ as Hc Hr H1 post,Ctr c.P f (as ++ caps) Hc post/\zgi Γ xs as/\Upd c ⟨Γ,H⟩ ⟨Γ,H1⟩/\zbn H1 Hc Hr/\∀ R H',post R H'->x.p c (K.q c.P r) ⟨(d,R) :: Γ,H' ++ Hr⟩
 | .ps A d x Hr,Γ,_=>∀ R H',A.p R H'->x.p c (K.q c.P r) ⟨(d,R) :: Γ,H' ++ Hr⟩
 | .jk A j R,Γ,H=>A.all λmod Hm=>∀ i,R i=some r->j.p c r K (mod i ++ Γ) (Hm i ++ H)
 | .ak A i j Γ0 Hr,Γ,H=>(A.all λmod Hm=>∀ Γ' H',Upd c ⟨Γ',H'⟩ ⟨mod i ++ Γ0,Hm i ++ Hr⟩->j.p c r K Γ' H')->j.p c r K Γ H
 | .jx _ _ _ _ j,Γ,H=>j.p c r K Γ H
 | .rp B e,Γ,H=>match K with
  | .po fn w0 S0 H0 A=>(∀ R H',B.p R H'->(A r).p R H')->(match e with | true=>Fin c ⟨Γ,H⟩ (zme c.P fn w0 S0 H0 (A r).p) | false=>Ret c ⟨Γ,H⟩ (zme c.P fn w0 S0 H0 (A r).p))
  | _=>True
def go {ι β:Type} (_p:Bool × Nat) (J:ι->Option β):ι->Option β:=J
def AJ {ι β:Type} (J:ι->Option β) (A:JA ι) (j:Jd β) (c:Ctx) (r:β) (K:Kn β) (Γ0:zL) (Hr:List Ent):Prop :=
 ∀ i,J i=some r->A.all λmod Hm=>∀ Γ' H',Upd c ⟨Γ',H'⟩ ⟨mod i ++ Γ0,Hm i ++ Hr⟩->j.p c r K Γ' H'
def LK {β:Type} (c:Ctx) (r:β) (Q':Exit->Act->World->Prop) (K:Kn β):Prop:=(∀ id σ',Exi c id σ' (K.q c.P r)->Exi c id σ' Q')/\(∀ σ',Ret c σ' (K.q c.P r)->Ret c σ' Q')
def Fa (b:Bool):Prop:=b=true
theorem Fa.mk {b:Bool} (h:b=true):Fa b:=h
theorem fa {b:Bool} (h:b=true:=by kernel_rfl):Fa b:=h
theorem Fa.h {b:Bool} (h:Fa b):b=true:=h
def zmm (b:Bool) (t:Tr):Prop:=t.p b
theorem zmm.y {b:Bool} (h:b=true):zmm b .y:=h
theorem zmm.n {b:Bool} (h:b=false):zmm b .n:=h
theorem zmm.u {b:Bool}:zmm b .u:=trivial
theorem zmm.h {b:Bool} {t:Tr} (h:zmm b t):t.p b:=h
def EqS (n m:Nat):Prop:=n=m
theorem EqS.mk {n m:Nat} (h:n=m:=by first | rfl | simp | omega):EqS n m:=h
theorem EqS.h {n m:Nat} (h:EqS n m):n=m:=h
inductive Cvr:VP->VP->Prop
 | same {R:VP}:Cvr R R
 | ap {α:Type} [Rep α] {t:Tok} {l:List α}:Cvr (zbI t l) (isv l)
 | na {α:Type} [Rep α]:Cvr zez (zbI none ([]:List α))
 | ni {α:Type} [Rep α]:Cvr zez (isv ([]:List α))
 | vec {t:Vt} {n m:Nat}:EqS n m->Cvr (zbs t n) (zbs t m)
 | nv:Cvr zez (zbs none 0)
 | any {R:VP}:Cvr R zgg
theorem Cvr.h {R R':VP} (h:Cvr R R'):∀ S v,R.p S v->R'.p S v:=by
 cases h with
 | same=>exact λ_ _ h=>h
 | ap=>exact zb6
 | na=>exact zhL
 | ni=>exact zms
 | vec e=>exact zh6 e.h
 | nv=>exact zlC
 | any=>exact λ_ _ _=>trivial
inductive Md (Γ:zL):zL->Prop
 | nil:Md Γ []
 | cons {j:Nat} {R R':VP} {l:zL}:zce Γ j=some R->Cvr R R'->Md Γ l->Md Γ ((j,R') :: l)
theorem Md.h {Γ l:zL} (h:Md Γ l):zqm Γ l:=by
 induction h with
 | nil=>exact zhG
 | cons a b _ ih=>exact zel a b.h ih
inductive OpG (Γ:zL):List Operand->List VP->Prop
 | nil:OpG Γ [] []
 | cons {x:Operand} {R R':VP} {xs:List Operand} {Rs:List VP}:zA Γ x=some R->Cvr R R'->OpG Γ xs Rs->OpG Γ (x :: xs) (R' :: Rs)
theorem OpG.h {Γ:zL} {xs:List Operand} {Rs:List VP} (h:OpG Γ xs Rs):zgi Γ xs Rs:=by
 induction h with
 | nil=>exact .nil
 | cons a b _ ih=>exact .cons a b.h ih
inductive OpC (Γ:zL) (caps:List VP):List Operand->List VP->Prop
 | nil:OpC Γ caps [] caps
 | cons {x:Operand} {R R':VP} {xs:List Operand} {Rs:List VP}:zA Γ x=some R->Cvr R R'->OpC Γ caps xs Rs->OpC Γ caps (x :: xs) (R' :: Rs)
theorem OpC.h {Γ:zL} {caps:List VP} {xs:List Operand} {Rs:List VP} (h:OpC Γ caps xs Rs):∃ as,Rs=as ++ caps/\zgi Γ xs as:=by
 induction h with
 | nil=>exact ⟨[],rfl,.nil⟩
 | cons a b _ ih=>obtain ⟨as,e,k⟩:=ih;exact ⟨_ :: as,e ▸ rfl,.cons a b.h k⟩
class CvC {α:Type} [Rep α] (x:α) (β:outParam Type) [I:outParam (Rep β)] (y:outParam β):Prop where
 h:∀ S v,(isv x).p S v->(isv y).p S v
inductive Cu:VP->VP->Prop
 | nv:Cu zez (zbs none 0)
 | ap {α:Type} [Rep α] {t:Tok} {l:List α}:Cu (zbI t l) (isv l)
 | cv {α β:Type} [Rep α] {I:Rep β} {x:α} {y:β} [@CvC α _ x β I y]:Cu (isv x) (isv y)
theorem Cu.h {R R':VP} (h:Cu R R'):∀ S v,R.p S v->R'.p S v:=by
 cases h with
 | nv=>exact zlC
 | ap=>exact zb6
 | cv=>exact ‹@CvC _ _ _ _ _ _›.h
class CvF {α γ δ:Type} [Rep α] [Rep γ] [Rep δ] (t:Vt) (l:List δ) (x:α) (W:Fld α γ) (α' γ':outParam Type) [I:outParam (Rep α')] [I':outParam (Rep γ')] (y:outParam α') (W':outParam (Fld α' γ')):Prop where
 h:∀ S,(∀ n,n <= l.length->Cv S (Vh.mk t n) (l.take n))->Cv S x y
 o:W.off=W'.off
inductive CvP {α γ δ α' γ':Type} [Rep α] [Rep γ] [Rep δ] [Rep α'] [Rep γ'] (t:Vt) (l:List δ) (x:α) (W:Fld α γ) (y:α') (W':Fld α' γ'):Prop
 | mk [CvF t l x W α' γ' y W']:CvP t l x W y W'
inductive ReG (P:Program) (Γ:zL) (H:List Ent):List ResultVar->List VP->Prop
 | nil:ReG P Γ H [] []
 | tmp {t:Nat} {R R':VP} {rs:List ResultVar} {Rs:List VP}:zce Γ t=some R->Cvr R R'->ReG P Γ H rs Rs->ReG P Γ H (.tmp t :: rs) (R' :: Rs)
 | cell {α β:Type} {I:Rep α} [Rep β] {t b:Nat} {L:Fld α β} {y:α} {z:β} {T:TypeId} {Hr:List Ent} {rs:List ResultVar} {Rs:List VP}:zce Γ t=some (zar b L)->zcu (zj b y) H Hr->L.get y=z->Fa (TyB P T (Rep.n β) (Rep.agg β))->ReG P Γ H rs Rs->ReG P Γ H (.cell t T :: rs) (isv z :: Rs)
theorem ReG.h {P:Program} {Γ:zL} {H:List Ent} {rs:List ResultVar} {Rs:List VP} (h:ReG P Γ H rs Rs):zfd P ⟨Γ,H⟩ rs Rs:=by
 induction h with
 | nil=>exact .nil
 | tmp a b _ ih=>exact .as a b.h ih
 | cell a hp e f _ ih=>subst e;exact .cell a hp f.h ih
inductive CvR:{α:Type}->[Rep α]->α->α->Prop
 | id {α:Type} [Rep α] {x:α}:CvR x x
 | vh {t:Vt} {n m:Nat}:EqS n m->CvR (Vh.mk t n) (Vh.mk t m)
 | wr {α:Type} [Rep α] {x y:α}:CvR x y->CvR (Wr.mk x) (Wr.mk y)
 | pair {α β:Type} [Rep α] [Rep β] {x y:α} {z w:β}:CvR x y->CvR z w->CvR (x,z) (y,w)
theorem CvR.h {α:Type} [Rep α] {x y:α} (h:CvR x y):∀ S,Cv S x y:=by
 induction h with
 | id=>exact λS=>Cv.id
 | vh e=>exact λS=>Cv.vhe e.h
 | wr _ ih=>exact λS=>Cv.wr (ih S)
 | pair _ _ ih1 ih2=>exact λS=>Cv.pair (ih1 S) (ih2 S)
theorem zre {c:Ctx} {α:Type} [Rep α] {Γ:zL} {l:List α} {H:List Ent}:Upd c ⟨Γ,H⟩ ⟨Γ,zM none l :: H⟩:=zpe _ rfl
inductive Cl:List Ent->List Ent->Prop
 | nil:Cl [] []
 | v {α:Type} [Rep α] {l:List α} {H Hr:List Ent}:Cl H Hr->Cl (zM none l :: H) Hr
 | t {H Hr:List Ent}:Cl H Hr->Cl (zO none :: H) Hr
 | k {e:Ent} {H Hr:List Ent}:Cl H Hr->Cl (e :: H) (e :: Hr)
inductive TX:List Ent->List Ent->List Ent->Prop
 | nil {H:List Ent}:TX H [] H
 | tok {H Hc Hr:List Ent}:TX H Hc Hr->TX H (zO none :: Hc) Hr
 | vec {α:Type} [Rep α] {l:List α} {H Hc Hr:List Ent}:TX H Hc Hr->TX H (zM none l :: Hc) Hr
 | box {α:Type} [Rep α] {b:Nat} {x y:α} {H H1 Hc Hr:List Ent}:zcu (zj b x) H H1->CvR x y->TX H1 Hc Hr->TX H (zj b y :: Hc) Hr
 | pick {e:Ent} {H H1 Hc Hr:List Ent}:zcu e H H1->TX H1 Hc Hr->TX H (e :: Hc) Hr
theorem zn9:∀ {Hc H:List Ent},H.Perm Hc->zbn H Hc []
 | [],_,h=>by rw [List.Perm.eq_nil h];exact .nil
 | e :: Hc,H,h=>by
  obtain ⟨A,B,rfl⟩:=List.append_of_mem (h.mem_iff.2 zMs)
  have hp:∀ A:List Ent,zcu e (A ++ e :: B) (A ++ B):=λA=>by
   induction A with
   | nil=>exact .here
   | cons x A ih=>exact .there ih
  exact .cons (hp A) (zn9 ((List.perm_cons e).1 (List.perm_middle.symm.trans h)))
theorem zjM {c:Ctx} {Γ:zL} {H H':List Ent} (h:H.Perm H'):Upd c ⟨Γ,H⟩ ⟨Γ,H'⟩:=zrJ ⟨λ_ R h=>⟨R,h,λ_ _ h=>h⟩,_,zn9 h⟩
theorem zmc {e:Ent} {H H1:List Ent} (h:zcu e H H1):∀ F:List Ent,zcu e (F ++ H) (F ++ H1)
 | []=>h
 | _ :: F=>.there (zmc h F)
theorem TX.upd {c:Ctx} {Γ:zL} {H Hc Hr:List Ent} (h:TX H Hc Hr):∀ F,Upd c ⟨Γ,F ++ H⟩ ⟨Γ,(F ++ Hc) ++ Hr⟩:=by
 have fr:∀ {e:Ent} {F H:List Ent},(e :: (F ++ H)).Perm ((F ++ [e]) ++ H):=λ{e F H}=>by
  rw [zLA];exact List.perm_middle.symm
 induction h with
 | nil=>exact λF=>by rw [List.append_nil];exact zjM (List.Perm.refl _)
 | tok _ ih=>exact λF=>(zed.trans (zjM fr)).trans (by simpa using ih (F ++ [zO none]))
 | @vec _ _ l _ _ _ _ ih=>exact λF=>(zre.trans (zjM fr)).trans (by simpa using ih (F ++ [zM none l]))
 | box hp hc _ ih=>exact λF=>((zyA (zmc hp F) hc.h).trans (zjM fr)).trans (by simpa using ih (F ++ [zj _ _]))
 | @pick e _ _ _ _ hp _ ih=>exact λF=>((zgl (zmc hp F)).trans (zjM fr)).trans (by simpa using ih (F ++ [e]))
theorem TX.up {c:Ctx} {H Hc Hr:List Ent} (h:TX H Hc Hr) {Γ Γ':zL} (hs:zL.imp Γ Γ'):Upd c ⟨Γ,H⟩ ⟨Γ',Hc⟩:=by
 have:=h.upd (c:=c) (Γ:=Γ) []
 exact this.trans (zrJ ⟨hs,Hr,by
  have:∀ {A B:List Ent},zbn (A ++ B) A B:=λ{A B}=>by
   induction A with
   | nil=>exact .nil
   | cons x A ih=>exact .cons .here ih
  exact this⟩)
inductive Dr:List Bool->List Ent->List Ent->Prop
 | nil {H:List Ent}:Dr [] H H
 | t {e:Ent} {l:List Bool} {H Hr:List Ent}:Dr l H Hr->Dr (true :: l) (e :: H) Hr
 | f {e:Ent} {l:List Bool} {H Hr:List Ent}:Dr l H Hr->Dr (false :: l) (e :: H) (e :: Hr)
inductive PX:Ent->List Ent->List Ent->Prop
 | tok {H:List Ent}:PX (zO none) H H
 | vec {α:Type} [Rep α] {l:List α} {H:List Ent}:PX (zM none l) H H
 | pick {e:Ent} {H H1:List Ent}:zcu e H H1->PX e H H1
theorem PX.h {c:Ctx} {Γ:zL} {e:Ent} {H H1:List Ent} (h:PX e H H1):Upd c ⟨Γ,H⟩ ⟨Γ,e :: H1⟩:=by
 cases h with
 | tok=>exact zed
 | vec=>exact zre
 | pick h=>exact zgl h
class AggC (cs:Array Value) (α:outParam Type) [I:outParam (Rep α)] (x:outParam α):Prop where
 h:∀ S v,(aggv cs).p S v->(isv x).p S v
inductive StV:VP->{α:Type}->[Rep α]->α->Prop
 | s {α:Type} [Rep α] {x:α}:StV (isv x) x
 | la {α:Type} [Rep α] {t:Tok} {l:List α}:StV (zbI t l) l
 | ta {α:Type} [Rep α] {t:Tok} {l:List α}:StV (zbI t l) (zZ.mk t l)
 | ln {α:Type} [Rep α]:StV zez ([]:List α)
 | tn {α:Type} [Rep α]:StV zez (zZ.mk none ([]:List α))
 | vv {t:Vt} {n:Nat}:StV (zbs t n) (Vh.mk t n)
 | vn:StV zez (Vh.mk none 0)
 | p {α:Type} [Rep α] {b:Nat}:StV (zar b (Fld.id α)) (zfM.mk b)
 | z {α:Type} {I:Rep α} {x:α} {cs:Array Value} [@AggC cs α I x]:StV (aggv cs) x
theorem StV.h {R:VP} {α:Type} [Rep α] {x:α} (h:StV R x):∀ S v,R.p S v->(isv x).p S v:=by
 cases h with
 | s=>exact λ_ _ h=>h
 | ta=>exact zrp
 | tn=>exact nilvT
 | z=>exact ‹@AggC _ _ _ _›.h
 | vv=>exact zz5
 | vn=>exact zAv
 | la=>exact zb6
 | ln=>exact zms
 | p=>exact zyx
def zxz (α:Type) [Rep α] (b:Nat):VP:=zar b (Fld.id α)
theorem zqw {α:Type} [Rep α] {b:Nat}:zxz α b=zar b (Fld.id α):=rfl
class SlC (ds:List Nat) (ι:Type) (mod:outParam (ι->zL)):Prop where
 h:True
instance {d:Nat} {ι:Type} [Rep ι]:SlC [d] ι (λi=>[(d,isv i)]):=⟨trivial⟩
instance {d:Nat} {ds:List Nat} {α β:Type} [Rep α] {mod:β->zL} [SlC ds β mod]:SlC (d :: ds) (α × β) (λi=>(d,isv i.1) :: mod i.2):=⟨trivial⟩
theorem AJ.h {ι β:Type} {J:ι->Option β} {A:JA ι} {j:Jd β} {c:Ctx} {r:β} {K:Kn β} {Γ0:zL} {Hr:List Ent} (h:AJ J A j c r K Γ0 Hr):∀ i,J i=some r->A.all λmod Hm=>∀ Γ' H',Upd c ⟨Γ',H'⟩ ⟨mod i ++ Γ0,Hm i ++ Hr⟩->j.p c r K Γ' H':=h
theorem AJ.mk {ι β:Type} {J:ι->Option β} {A:JA ι} {j:Jd β} {c:Ctx} {r:β} {K:Kn β} {Γ0:zL} {Hr:List Ent} (h:∀ i,J i=some r->A.all λmod Hm=>∀ Γ' H',Upd c ⟨Γ',H'⟩ ⟨mod i ++ Γ0,Hm i ++ Hr⟩->j.p c r K Γ' H'):AJ J A j c r K Γ0 Hr:=h
theorem LK.h {β:Type} {c:Ctx} {r:β} {Q':Exit->Act->World->Prop} {K:Kn β} (h:LK c r Q' K):(∀ id σ',Exi c id σ' (K.q c.P r)->Exi c id σ' Q')/\(∀ σ',Ret c σ' (K.q c.P r)->Ret c σ' Q'):=h
theorem LK.mk {β:Type} {c:Ctx} {r:β} {Q':Exit->Act->World->Prop} {K:Kn β} (h:(∀ id σ',Exi c id σ' (K.q c.P r)->Exi c id σ' Q')/\(∀ σ',Ret c σ' (K.q c.P r)->Ret c σ' Q')):LK c r Q' K:=h
theorem zjP {ι β:Type} {p:Bool × Nat} {J:ι->Option β}:go p J=J:=rfl
attribute [irreducible] Fa zmm AJ LK go EqS zxz

def zw7 (n:Nat):Nat->List Oper->Ord
 | _,[]=>.nil
 | i,_ :: l=>bif n.testBit i then .t i (zw7 n (i + 1) l) else .v i (zw7 n (i + 1) l)
def zzZ (Γ:zL) (t:Tr) (y z:Operand):Option VP:=match t with
 | .y=>zA Γ y
 | .n=>zA Γ z
 | .u=>none
def zuh (k:Nat) (l:List Oper):List Oper:=l.drop (l.length - k)
def znn (k:Nat) (π:Ord):Ord:=π.drop (π.len - k)
class za8 (P:Program) (T f:Nat) (β:Type) [Rep β] (γ:outParam Type) [I:outParam (Rep γ)] (M:outParam (Fld β γ)):Prop where
 h:zfe P T f M.off (Rep.n γ) (Rep.agg γ)=true
class EqC (P:Program) (T:TypeId) (α:Type) [Rep α] [DecidableEq α]:Prop where
 h:zlu P T α
instance {P:Program} {T:TypeId}:EqC P T UInt8:=⟨zlu.u8⟩
instance {P:Program} {T:TypeId}:EqC P T UInt64:=⟨zlu.u64⟩
instance {P:Program} {T:TypeId}:EqC P T Str:=⟨zlu.str⟩
class zep (P:Program) (T:TypeId) (α:outParam Type) [I:outParam (Rep α)] (x:outParam α):Prop where
 h:zeU P T x
class zkl (P:Program) (T:TypeId) (α:outParam Type) [I:outParam (Rep α)] (x:outParam α):Prop where
 h:zeU P T x
class UnC (P:Program) (T:TypeId) (d:outParam TypeDesc):Prop where
 h:P.underlying T=some d
class IfC (P:Program) (T:TypeId):Prop where
 h:P.underlying T=some (.interface (P.methodsAt T))
def Nz {α:Type} (x y:α):Prop:=x=y
theorem Nz.mk {α:Type} {x:α}:Nz x x:=rfl
theorem Nz.h {α:Type} {x y:α} (h:Nz x y):x=y:=h
attribute [irreducible] Nz
def Nd (b:Nat) (pin:List (Nat × Obj)):Prop:=b ∉ pin.map (·.1)
theorem Nd.mk {b:Nat} {pin:List (Nat × Obj)} (h:b ∉ pin.map (·.1)):Nd b pin:=h
theorem Nd.h {b:Nat} {pin:List (Nat × Obj)} (h:Nd b pin):b ∉ pin.map (·.1):=h
attribute [irreducible] Nd
inductive Ld {β:Type} (P:Program) (pin:List (Nat × Obj)) (Γ:zL) (H:List Ent) (T:TypeId) (d:Nat):Option β->Bool->VP->Ot β->Prop
 | IP {α:Type} {I:Rep α} {y:α} {k:Nat} {Hr m tb}:Fa (TyB P T (Rep.n zfM) (Rep.agg zfM))->zcu (zj k y) H Hr->Ld P pin Γ H T d m tb (zbl (zfM.mk k)) (.c ((d,zar k (Fld.id α)) :: Γ) H m)
 | I {α:Type} [Rep α] {z:α} {m tb}:Fa (TyB P T (Rep.n α) (Rep.agg α))->Ld P pin Γ H T d m tb (zbl z) (.c ((d,isv z) :: Γ) H m)
 | T {α γ:Type} [Rep α] [Rep γ] {W:Fld α (zZ γ)} {y:α} {Hr m l t k}:Fa (TyB P T (Rep.n (zZ γ)) (Rep.agg (zZ γ)))->zcu (zj k y) H Hr->W.get y=zZ.mk t l->Ld P pin Γ H T d m true (zar k W) (.c ((d,zbI t l) :: Γ) H m)
 | V {α:Type} [Rep α] {W:Fld α Vh} {y:α} {Hr m t k n}:Fa (TyB P T (Rep.n Vh) (Rep.agg Vh))->zcu (zj k y) H Hr->W.get y=Vh.mk t n->Ld P pin Γ H T d m true (zar k W) (.c ((d,zbs t n) :: Γ) H m)
 | B {α γ:Type} [Rep α] [Rep γ] {W:Fld α γ} {y:α} {z:γ} {Hr m k}:Fa (TyB P T (Rep.n γ) (Rep.agg γ))->zcu (zj k y) H Hr->Nz (W.get y) z->Ld P pin Γ H T d m true (zar k W) (.c ((d,isv z) :: Γ) H m)
 | PT {α γ:Type} [Rep α] [Rep γ] {W:Fld α (zZ γ)} {y:α} {m l o t k tb}:Fa (TyB P T (Rep.n (zZ γ)) (Rep.agg (zZ γ)))->(k,o) ∈ pin->W.get y=zZ.mk t l->Ld P pin Γ H T d m tb (zdE o k W y) (.c ((d,zbI t l) :: Γ) H m)
 | PV {α:Type} [Rep α] {W:Fld α Vh} {y:α} {m o t k n tb}:Fa (TyB P T (Rep.n Vh) (Rep.agg Vh))->(k,o) ∈ pin->W.get y=Vh.mk t n->Ld P pin Γ H T d m tb (zdE o k W y) (.c ((d,zbs t n) :: Γ) H m)
 | PB {α γ:Type} [Rep α] [Rep γ] {W:Fld α γ} {y:α} {z:γ} {m o k tb}:Fa (TyB P T (Rep.n γ) (Rep.agg γ))->(k,o) ∈ pin->Nz (W.get y) z->Ld P pin Γ H T d m tb (zdE o k W y) (.c ((d,isv z) :: Γ) H m)
 | E {α γ:Type} [Rep α] [Rep γ] {W:Fld α γ} {l:List α} {κ:α->Option β} {Hr t i}:Fa (TyB P T (Rep.n γ) (Rep.agg γ))->zcu (zM t l) H Hr->Ld P pin Γ H T d (cal (l[i]?) κ) true (zcO t i W) (.a λy=>.c ((d,isv (W.get y)) :: Γ) H (κ y))
inductive Fd (P:Program) (T n:Nat):VP->VP->Prop
 | I {α γ:Type} [Rep α] {I:Rep γ} {z:α} {w:γ} {M:Fld α γ} [@za8 P T n α _ γ I M]:Nz (M.get z) w->Fd P T n (zbl z) (zbl w)
 | B {δ α γ:Type} [Rep δ] [Rep α] {I:Rep γ} {W:Fld δ α} {M:Fld α γ} [@za8 P T n α _ γ I M] {k}:Fd P T n (zar k W) (zar k (W.comp M))
 | P {δ α γ:Type} [Rep δ] [Rep α] {I:Rep γ} {W:Fld δ α} {y:δ} {M:Fld α γ} [@za8 P T n α _ γ I M] {o k}:Fd P T n (zdE o k W y) (zdE o k (W.comp M) y)
 | E {δ α γ:Type} [Rep δ] [Rep α] {I:Rep γ} {W:Fld δ α} {M:Fld α γ} [@za8 P T n α _ γ I M] {t i}:Fd P T n (zcO t i W) (zcO t i (W.comp M))
inductive Fl (P:Program) (T n:Nat):VP->VP->Prop
 | I {α γ:Type} [Rep α] {I:Rep γ} {y:α} {M:Fld α γ} [@za8 P T n α _ γ I M]:Rep.agg α=true->Fl P T n (isv y) (isv (M.get y))
inductive Nc:VP->Prop
 | B {α γ:Type} [Rep α] [Rep γ] {W:Fld α γ} {k}:Nc (zar k W)
 | I {α:Type} [Rep α] {z:α}:Nc (zbl z)
 | O {α:Type} [Rep α] {b}:Nc (zxz α b)
 | P {α γ:Type} [Rep α] [Rep γ] {W:Fld α γ} {y:α} {o k}:Nc (zdE o k W y)
 | E {α γ:Type} [Rep α] [Rep γ] {W:Fld α γ} {t i}:Nc (zcO t i W)
inductive Ln (P:Program) (T:TypeId) (H:List Ent):VP->Int->Prop
 | L {α:Type} [Rep α] {l:List α}:Fa (SlB P T (Rep.n α) (Rep.agg α))->Ln P T H (isv l) l.length
 | A {α:Type} [Rep α] {l:List α} {t}:Fa (SlB P T (Rep.n α) (Rep.agg α))->Ln P T H (zbI t l) l.length
 | S {s:Str}:Fa (zkp P T)->Ln P T H (isv s) s.b.length
 | V {α:Type} {I:Rep α} {l:List α} {Hr t k}:zcu (zM t l) H Hr->Fa (SlB P T (Rep.n α) (Rep.agg α))->Ln P T H (zbs t k) (k:Nat)
inductive Bi {β:Type} (P:Program) (T:TypeId):BinOp->VP->VP->Option β->VP->Option β->Prop
 | eqI {a e:Int} {m}:Bi P T .eql (isv a) (isv e) m (isv (decide (a=e))) m
 | neI {a e:Int} {m}:Bi P T .neq (isv a) (isv e) m (isv (!decide (a=e))) m
 | adI {a e:Int} {m}:Bi P T .add (isv a) (isv e) (ck (a + e) m) (isv (a + e)) m
 | sbI {a e:Int} {m}:Bi P T .sub (isv a) (isv e) (ck (a - e) m) (isv (a - e)) m
 | ltI {a e:Int} {m}:Bi P T .lss (isv a) (isv e) m (isv (decide (a < e))) m
 | gtI {a e:Int} {m}:Bi P T .gtr (isv a) (isv e) m (isv (decide (e < a))) m
 | leI {a e:Int} {m}:Bi P T .leq (isv a) (isv e) m (isv (decide (a <= e))) m
 | geI {a e:Int} {m}:Bi P T .geq (isv a) (isv e) m (isv (decide (e <= a))) m
 | ltB {a e:UInt8} {m}:Bi P T .lss (isv a) (isv e) m (isv (decide (a < e))) m
 | gtB {a e:UInt8} {m}:Bi P T .gtr (isv a) (isv e) m (isv (decide (e < a))) m
 | leB {a e:UInt8} {m}:Bi P T .leq (isv a) (isv e) m (isv (decide (a <= e))) m
 | geB {a e:UInt8} {m}:Bi P T .geq (isv a) (isv e) m (isv (decide (e <= a))) m
 | eqA {α:Type} [Rep α] [DecidableEq α] {a e:α} [EqC P T α] {m}:Bi P T .eql (isv a) (isv e) m (isv (decide (a=e))) m
 | neA {α:Type} [Rep α] [DecidableEq α] {a e:α} [EqC P T α] {m}:Bi P T .neq (isv a) (isv e) m (isv (!decide (a=e))) m
 | mlI {a e:Int} {m}:Bi P T .mul (isv a) (isv e) (ck (a * e) m) (isv (a * e)) m
 | quI {a e:Int} {m}:Bi P T .quo (isv a) (isv e) (asr (!decide (e=0)) (ck (a.tdiv e) m)) (isv (a.tdiv e)) m
 | rmI {a e:Int} {m}:Bi P T .rem (isv a) (isv e) (asr (!decide (e=0)) m) (isv (a.tmod e)) m
 | anI {a e:Int} {m}:Bi P T .and (isv a) (isv e) (asr (decide (0 <= a/\0 <= e)) m) (isv (andI a e)) m
 | adB {a e:UInt8} {m}:Bi P T .add (isv a) (isv e) m (isv (a + e)) m
 | sbB {a e:UInt8} {m}:Bi P T .sub (isv a) (isv e) m (isv (a - e)) m
 | orB {a e:UInt8} {m}:Bi P T .or (isv a) (isv e) m (isv (a ||| e)) m
 | anB {a e:UInt8} {m}:Bi P T .and (isv a) (isv e) m (isv (a &&& e)) m
 | annB {a e:UInt8} {m}:Bi P T .andNot (isv a) (isv e) m (isv (a &&& ~~~e)) m
 | shB {a:UInt8} {e:UInt64} {m}:Bi P T .shl (isv a) (isv e) (asr (Nat.ble e.toNat 8) m) (isv (zvf a e.toNat)) m
 | srB {a:UInt8} {e:UInt64} {m}:Bi P T .shr (isv a) (isv e) (asr (Nat.ble e.toNat 8) m) (isv (zfn a e.toNat)) m
 | ltU {a e:UInt64} {m}:Bi P T .lss (isv a) (isv e) m (isv (decide (a < e))) m
 | gtU {a e:UInt64} {m}:Bi P T .gtr (isv a) (isv e) m (isv (decide (e < a))) m
 | leU {a e:UInt64} {m}:Bi P T .leq (isv a) (isv e) m (isv (decide (a <= e))) m
 | geU {a e:UInt64} {m}:Bi P T .geq (isv a) (isv e) m (isv (decide (e <= a))) m
 | adU {a e:UInt64} {m}:Bi P T .add (isv a) (isv e) m (isv (a + e)) m
 | sbU {a e:UInt64} {m}:Bi P T .sub (isv a) (isv e) m (isv (a - e)) m
 | mlU {a e:UInt64} {m}:Bi P T .mul (isv a) (isv e) m (isv (a * e)) m
 | orU {a e:UInt64} {m}:Bi P T .or (isv a) (isv e) m (isv (a ||| e)) m
 | anU {a e:UInt64} {m}:Bi P T .and (isv a) (isv e) m (isv (a &&& e)) m
 | shU {a e:UInt64} {m}:Bi P T .shl (isv a) (isv e) (asr (Nat.ble e.toNat 64) m) (isv (zex a e.toNat)) m
 | srU {a e:UInt64} {m}:Fa (Nat.blt e.toNat 64)->Bi P T .shr (isv a) (isv e) m (isv (a >>> e)) m
 | quU {a e:UInt64} {m}:Bi P T .quo (isv a) (isv e) (asr (!decide (e=0)) m) (isv (a / e)) m
 | rmU {a e:UInt64} {m}:Bi P T .rem (isv a) (isv e) (asr (!decide (e=0)) m) (isv (a % e)) m
 | cat {a e:Str} {m}:Bi P T .add (isv a) (isv e) (asr (Nat.ble (a.b.length + e.b.length) 4611686018427387904) m) (isv (Str.mk (a.b ++ e.b))) m
inductive Cn {β:Type} (P:Program):TypeDesc->TypeDesc->VP->Option β->VP->Option β->Prop
 | ii {a:Int} {m s}:Cn P (.int s) (.int .i64) (isv a) m (isv a) m
 | iu {a:Int} {m s}:Cn P (.int s) (.int .u64) (isv a) m (isv (UInt64.ofNat (a % 18446744073709551616).toNat)) m
 | ib {a:Int} {m s}:Cn P (.int s) (.int .u8) (isv a) m (isv (UInt8.ofNat (a % 256).toNat)) m
 | bi {a:UInt8} {m s}:Cn P (.int s) (.int .i64) (isv a) m (isv (a.toNat:Int)) m
 | bu {a:UInt8} {m s}:Cn P (.int s) (.int .u64) (isv a) m (isv a.toUInt64) m
 | ui {a:UInt64} {m s}:Cn P (.int s) (.int .i64) (isv a) (ck (a.toNat:Int) m) (isv (a.toNat:Int)) m
 | uu {a:UInt64} {m s}:Cn P (.int s) (.int .u64) (isv a) m (isv a) m
 | ub {a:UInt64} {m s}:Cn P (.int s) (.int .u8) (isv a) m (isv a.toUInt8) m
 | bs {k} {l:List UInt8} [UnC P k (.int .u8)] {m R}:StV R l->Cn P (.slice k) .string R m (isv (Str.mk l)) m
inductive Ix {β:Type} (P:Program) (T:TypeId) (Γ:zL) (H:List Ent) (d:Nat):VP->VP->Option β->Ot β->Prop
 | L {α:Type} [Rep α] {l:List α} {k:Int} {κ:α->Option β}:Fa (SlB P T (Rep.n α) (Rep.agg α))->Ix P T Γ H d (isv l) (isv k) (cal (zs l k) κ) (.a λy=>.c ((d,zbl y) :: Γ) H (κ y))
 | A {α:Type} [Rep α] {l:List α} {k:Int} {κ:α->Option β} {t}:Fa (SlB P T (Rep.n α) (Rep.agg α))->Ix P T Γ H d (zbI t l) (isv k) (cal (zs l k) κ) (.a λy=>.c ((d,zbl y) :: Γ) H (κ y))
 | V {α:Type} {I:Rep α} {l:List α} {k:Int} {Hr m t n nn}:zcu (zM t l) H Hr->Fa (SlB P T (Rep.n α) (Rep.agg α))->EqS n nn->Ix P T Γ H d (zbs t n) (isv k) (asr (decide (0 <= k/\k < (nn:Int))) m) (.c ((d,zcO t k.toNat (Fld.id α)) :: Γ) H m)
inductive BuG {α:Type} [Rep α] (P:Program) (T:TypeId) (Γ:zL):α->List (Nat × Operand)->α->Prop
 | nil {x:α}:BuG P T Γ x [] x
 | cons {n} {γ:Type} {I:Rep γ} {x z:α} {y:γ} {M:Fld α γ} [@za8 P T n α _ γ I M] {l u R}:zA Γ u=some R->StV R y->BuG P T Γ (M.set x y) l z->BuG P T Γ x ((n,u) :: l) z
inductive ElG {α:Type} (I:Rep α) (Γ:zL):Nat->List (Nat × Operand)->List α->Prop
 | nil {k}:ElG I Γ k [] []
 | cons {y:α} {z:List α} {l u R k}:zA Γ u=some R->StV R y->ElG I Γ (k + 1) l z->ElG I Γ k ((k,u) :: l) (y :: z)
inductive Lo (Γ:zL):Option Operand->Int->Prop
 | n:Lo Γ none 0
 | s {k:Int} {u}:zA Γ u=some (isv k)->Lo Γ (some u) k
inductive Hi (Γ:zL) (n:Nat):Option Operand->Int->Prop
 | n:Hi Γ n none n
 | s {k:Int} {u}:zA Γ u=some (isv k)->Hi Γ n (some u) k
inductive Sc {β:Type} (P:Program) (T:TypeId) (Γ:zL) (lo hi:Option Operand):VP->Option β->VP->Option β->Prop
 | S {s:Str} {k q:Int} {m}:Fa (zkp P T)->Lo Γ lo k->Hi Γ s.b.length hi q->Sc P T Γ lo hi (isv s) (asr (decide (0 <= k/\k <= q/\q <= (s.b.length:Int))) m) (isv (Str.mk ((s.b.take q.toNat).drop k.toNat))) m
 | L {α:Type} [Rep α] {l:List α} {k q:Int} {m}:Fa (SlB P T (Rep.n α) (Rep.agg α))->Lo Γ lo k->Hi Γ l.length hi q->Sc P T Γ lo hi (isv l) (asr (decide (0 <= k/\k <= q/\q <= (l.length:Int))) m) (isv ((l.take q.toNat).drop k.toNat)) m
 | A {α:Type} [Rep α] {l:List α} {k q:Int} {m t}:Fa (SlB P T (Rep.n α) (Rep.agg α))->Lo Γ lo k->Hi Γ l.length hi q->Sc P T Γ lo hi (zbI t l) (asr (decide (0 <= k/\k <= q/\q <= (l.length:Int))) m) (isv ((l.take q.toNat).drop k.toNat)) m
inductive Ap {β:Type} (P:Program) (T U:TypeId) (Γ:zL) (H:List Ent) (d:Nat):VP->VP->Option β->Ot β->Prop
 | N {α:Type} {I:Rep α} {z:List α} {m R}:StV R z->Fa (zmb P T U (Rep.n α))->Ap P T U Γ H d zez R (asr (Nat.ble (([]:List α).length + z.length) 68719476736) m) (.a λt=>.c ((d,zbI t (([]:List α) ++ z)) :: Γ) (zO t :: H) m)
 | T {α:Type} [Rep α] {l z:List α} {v:Tok} {Hr m R}:PX (zO v) H Hr->StV R z->Fa (zmb P T U (Rep.n α))->Ap P T U Γ H d (zbI v l) R (asr (Nat.ble (l.length + z.length) 68719476736) m) (.a λt=>.c ((d,zbI t (l ++ z)) :: Γ) (zO t :: Hr) m)
 | V {α:Type} {I:Rep α} {l z:List α} {v:Vt} {Hr m R n}:PX (zM v l) H Hr->EqS n l.length->StV R z->Fa (zmb P T U (Rep.n α))->Ap P T U Γ H d (zbs v n) R (asr (Nat.ble (l.length + z.length) 68719476736) m) (.a λt=>.c ((d,zbs t (l ++ z).length) :: Γ) (zM t (l ++ z) :: Hr) m)
inductive O {β:Type} (P:Program) (pin:List (Nat × Obj)) (Γ:zL) (H:List Ent) (d:Nat):Bool->Op->Option β->Ot β->Prop
 | mv {m u R tb}:zA Γ u=some R->O P pin Γ H d tb (.move u) m (.c ((d,R) :: Γ) H m)
 | ae {m tb}:O P pin Γ H d tb (.assign (.const .nilIface)) m (.c ((d,isv (Er.mk false)) :: Γ) H m)
 | as {m u R tb}:zA Γ u=some R->O P pin Γ H d tb (.assign u) m (.c ((d,R) :: Γ) H m)
 | pk {m b u u1 u2 R t tb}:zA Γ u=some (isv b)->zmm b t->zzZ Γ t u1 u2=some R->O P pin Γ H d tb (.pick u u1 u2) m (.c ((d,R) :: Γ) H m)
 | ld {m T u R s tb}:zA Γ u=some R->Ld P pin Γ H T d m tb R s->O P pin Γ H d tb (.load T u) m s
 | fa {m T u V R n tb}:zA Γ u=some R->Fd P T n R V->O P pin Γ H d tb (.fieldAddr T u n) m (.c ((d,V) :: Γ) H m)
 | nc {m u R tb}:zA Γ u=some R->Nc R->O P pin Γ H d tb (.nilCheck u) m (.c ((d,R) :: Γ) H m)
 | neE {T} [IfC P T] {y:Er} {m T2 u1 tb}:zA Γ u1=some (isv y)->O P pin Γ H d tb (.binOp .neq T u1 (.const .nilIface) T2) m (.c ((d,isv y.bad) :: Γ) H m)
 | mn {p q:Int} {m T1 T2 u1 u2 tb}:zA Γ u1=some (isv p)->zA Γ u2=some (isv q)->O P pin Γ H d tb (.call ⟨.builtin .min,#[u1,u2],#[T1,T2]⟩) m (.c ((d,isv (min p q)) :: Γ) H m)
 | mx {p q:Int} {m T1 T2 u1 u2 tb}:zA Γ u1=some (isv p)->zA Γ u2=some (isv q)->O P pin Γ H d tb (.call ⟨.builtin .max,#[u1,u2],#[T1,T2]⟩) m (.c ((d,isv (max p q)) :: Γ) H m)
 | s3 {α:Type} [Rep α] {l:List α} {q:Int} {m T u u1 u2 tb}:zA Γ u=some (isv l)->zA Γ u1=some (isv q)->zA Γ u2=some (isv q)->Fa (SlB P T (Rep.n α) (Rep.agg α))->O P pin Γ H d tb (.slice T u none (some u1) (some u2)) (asr (decide (0 <= q/\q <= (l.length:Int))) m) (.c ((d,isv (l.take q.toNat)) :: Γ) H m)
 | bi {m T E T2 u1 u2 V R1 R2 q tb}:zA Γ u1=some R1->zA Γ u2=some R2->Bi P T q R1 R2 m V E->O P pin Γ H d tb (.binOp q T u1 u2 T2) m (.c ((d,V) :: Γ) H E)
 | ix {m T u1 u2 R1 R2 s tb}:zA Γ u1=some R1->zA Γ u2=some R2->Ix P T Γ H d R1 R2 m s->O P pin Γ H d tb (.indexAddr T u1 u2) m s
 | is {s:Str} {k:Int} {κ:UInt8->Option β} {T u1 u2 tb}:zA Γ u1=some (isv s)->zA Γ u2=some (isv k)->Fa (zkp P T)->O P pin Γ H d tb (.index T u1 u2) (cal (zs s.b k) κ) (.a λy=>.c ((d,isv y) :: Γ) H (κ y))
 | ln {m T u R q tb}:zA Γ u=some R->Ln P T H R q->O P pin Γ H d tb (.call ⟨.builtin .len,#[u],#[T]⟩) m (.c ((d,isv q) :: Γ) H m)
 | ex {m u R n Rs tb}:zA Γ u=some (zgw Rs)->Rs[n]?=some R->O P pin Γ H d tb (.extract u n) m (.c ((d,R) :: Γ) H m)
 | nt {m T b u tb}:zA Γ u=some (isv b)->O P pin Γ H d tb (.unOp .not T u) m (.c ((d,isv (!b)) :: Γ) H m)
 | ng {a:Int} {m T u tb}:zA Γ u=some (isv a)->O P pin Γ H d tb (.unOp .neg T u) (ck (-a) m) (.c ((d,isv (-a)) :: Γ) H m)
 | sb {T T2 k} [UnC P T .string] [UnC P T2 (.slice k)] [UnC P k (.int .u8)] {s:Str} {m u}:zA Γ u=some (isv s)->O P pin Γ H d true (.convert T T2 u) (asr (Nat.ble s.b.length 68719476736) m) (.c ((d,isv s.b) :: Γ) H m)
 | cn {T1 T2} {V' W':TypeDesc} [UnC P T1 V'] [UnC P T2 W'] {m E u V R tb}:zA Γ u=some R->Cn P V' W' R m V E->O P pin Γ H d tb (.convert T1 T2 u) m (.c ((d,V) :: Γ) H E)
 | fl {m T u V R n tb}:zA Γ u=some R->Fl P T n R V->O P pin Γ H d tb (.field T u n) m (.c ((d,V) :: Γ) H m)
 | bu {T} {α:Type} {I:Rep α} {x z:α} [@zep P T α I x] {m xs tb}:Rep.agg α=true->BuG P T Γ x xs.toList z->Fa (zmO P T)->O P pin Γ H d tb (.build T xs) m (.c ((d,isv z) :: Γ) H m)
 | bl {α:Type} {I:Rep α} {z:List α} {m T n xs}:ElG I Γ 0 xs.toList z->z.length=n->Fa (elB P T (Rep.n α) && (Nat.ble (n * Rep.n α) 16777216 && Nat.ble n 16777216))->O P pin Γ H d true (.buildSlice T n xs) m (.c ((d,zbI none z) :: Γ) H m)
 | vc {α:Type} [Rep α] {l:List α} {k:Int} {Hr m T u u2 t n tb}:zA Γ u=some (zbs t n)->zA Γ u2=some (isv k)->zcu (zM t l) H Hr->EqS n l.length->Fa (SlB P T (Rep.n α) (Rep.agg α))->O P pin Γ H d tb (.slice T u none (some u2) none) (asr (decide (0 <= k/\k <= (l.length:Int))) m) (.c ((d,zbs t (l.take k.toNat).length) :: Γ) (zM t (l.take k.toNat) :: Hr) m)
 | sl {m T E u V R lo hi tb}:zA Γ u=some R->Sc P T Γ lo hi R m V E->O P pin Γ H d tb (.slice T u lo hi none) m (.c ((d,V) :: Γ) H E)
 | ap {m T T2 u1 u2 R1 R2 s}:zA Γ u1=some R1->zA Γ u2=some R2->Ap P T T2 Γ H d R1 R2 m s->O P pin Γ H d true (.call ⟨.builtin .append,#[u1,u2],#[T,T2]⟩) m s
 | mk {T} {α:Type} {I:Rep α} {z:α} {k:Nat} {q:Int} [UnC P T (.slice k)] [@zep P k α I z] {m u1 u2}:Fa (elB P T (Rep.n α))->zA Γ u1=some (isv q)->zA Γ u2=some (isv q)->O P pin Γ H d true (.makeSlice T u1 u2) (asr (decide (0 <= q/\q <= 68719476736)) m) (.a λt=>.c ((d,zbs t (List.replicate q.toNat z).length) :: Γ) (zM t (List.replicate q.toNat z) :: H) m)
 | mf {m fn xs Rs tb}:OpG Γ xs.toList Rs->O P pin Γ H d tb (.makeFunc (.func fn) #[] xs) m (.c ((d,zdV fn Rs) :: Γ) H m)
 | bx {α:Type} {I:Rep α} {z:α} {m T u R}:zA Γ u=some R->StV R z->O P pin Γ H d true (.box T u) m (.c ((d,zbl z) :: Γ) H m)
 | al {T} {α:Type} {I:Rep α} {x:α} [@zep P T α I x] {m}:O P pin Γ H d true (.alloc T) m (.a λb=>.c ((d,zxz α b) :: Γ) (zj b x :: H) m)
inductive Sto {β:Type} (P:Program) (Γ:zL) (H:List Ent) (T:TypeId) (i:Nat):VP->VP->Option β->Ot β->Prop
 | O {α:Type} [Rep α] {y z:α} {Hr m R k}:Fa (TyB P T (Rep.n α) (Rep.agg α))->zcu (zj k y) H Hr->StV R z->Sto P Γ H T i (zxz α k) R m (.c ((i,zbl z) :: Γ) Hr m)
 | B {α γ:Type} [Rep α] [Rep γ] {W:Fld α γ} {y z:α} {w:γ} {Hr m R k}:Fa (TyB P T (Rep.n γ) (Rep.agg γ))->zcu (zj k y) H Hr->StV R w->Nz (W.set y w) z->Sto P Γ H T i (zar k W) R m (.c Γ (zj k z :: Hr) m)
 | E {α γ:Type} [Rep α] [Rep γ] {W:Fld α γ} {l:List α} {w:γ} {κ:α->Option β} {Hr t n}:Fa (TyB P T (Rep.n γ) (Rep.agg γ))->zcu (zM t l) H Hr->Sto P Γ H T i (zcO t n W) (isv w) (cal (l[n]?) κ) (.a λy=>.c Γ (zM t (l.set n (W.set y w)) :: Hr) (κ y))
inductive G {β:Type} (r:β):Fu->Jd β->Ctx->zL->List Ent->Kn β->Option β->Prop
  | none {f j c Γ H K}:G r f j c Γ H K none
  | run_go {ι:Type} {J:ι->Option β} {f c Γ H K Y b n i}:Nat.beq Y.len n=b->G r f (.rj b Y) c Γ H K (go (true,n) J i)->G r f (.run Y) c Γ H K (go (true,n) J i)
  | fF_r {α:Type} {I:Rep α} {l:List α} {i:Nat} {f c Γ H Hr K m Y t n}:zcu (zM t l) H Hr->EqS n l.length->G r f (.run Y) c ((i,isv l) :: (i,zbs t n) :: Γ) Hr K m->G r (.f 0 i f) (.run Y) c ((i,zbs t n) :: Γ) H K m
  | fB_r {α γ δ α' γ':Type} {I1:Rep α} {I2:Rep γ} {I3:Rep δ} {I4:Rep α'} {I5:Rep γ'} {x0:α} {W0:Fld α γ} {l:List δ} {y:α'} {W:Fld α' γ'} {i k:Nat} {f c Γ H Hr K m Y t H1}:zcu (zM t l) H H1->zcu (zj k x0) H1 Hr->CvP t l x0 W0 y W->G r f (.run Y) c ((i,zar k W) :: (i,zar k W0) :: Γ) (zj k y :: Hr) K m->G r (.f 1 i f) (.run Y) c ((i,zar k W0) :: Γ) H K m
  | up {R':VP} {i:Nat} {f c Γ H K m Y R}:Cu R R'->G r f (.run Y) c ((i,R') :: (i,R) :: Γ) H K m->G r (.u i f) (.run Y) c ((i,R) :: Γ) H K m
  | run_n {f c Γ H K m ops l d p ty pos af}:Fa (Nat.blt d c.n)->G r f (.op p d ⟨ty,pos,af,none,.rl ops l⟩) c Γ H K m->G r f (.run (.rl ops (⟨some d,p,ty,pos,af,none⟩ :: l))) c Γ H K m
  | kt_c {Γ':zL} {H':List Ent} {m':Option β} {f c Γ H K m Y}:G r f (.run Y) c Γ' H' K m'->G r f (.kt (.c Γ' H' m') Y) c Γ H K m
  | kt_a {α:Type} {A:α->Ot β} {f c Γ H K m Y}:(∀ y,G r f (.kt (A y) Y) c Γ H K m)->G r f (.kt (.a A) Y) c Γ H K m
  | call {P fn} {α:Type} {mc:Option α} {A:AC α} {κ:α->Option β} [zd P fn mc A] {f Γ H K d n w0 S0 M pin xs ats D}:D.X.isT=true->(∀ y,G r f (.cl A fn [] xs.toList y d D.r) ⟨P,n,w0,S0,M,pin⟩ Γ H K (κ y))->G r f (.op (.call ⟨.value (.func fn),xs,ats⟩) d D) ⟨P,n,w0,S0,M,pin⟩ Γ H K (cal mc κ)
  | callc {f c Γ H K m d fn i xs ats Rs D}:zA Γ (.tmp i)=some (zdV fn Rs)->G r f (.cf (.tmp i) ats fn Rs xs d D) c Γ H K m->G r f (.op (.call ⟨.value (.tmp i),xs,ats⟩) d D) c Γ H K m
  | cf {P fn} {α:Type} {mc:Option α} {A:AC α} {κ:α->Option β} [zd P fn mc A] {f Γ H K d u n w0 S0 M pin xs ats Rs D}:D.X.isT=true->(∀ y,G r f (.cl A fn Rs xs.toList y d D.r) ⟨P,n,w0,S0,M,pin⟩ Γ H K (κ y))->G r f (.cf u ats fn Rs xs d D) ⟨P,n,w0,S0,M,pin⟩ Γ H K (cal mc κ)
  | store {f Γ H K m T1 u2 R1 R2 P n w0 S0 M pin i s D}:zA Γ (.tmp i)=some R1->zA Γ u2=some R2->Sto P Γ H T1 i R1 R2 m s->D.X.isT=true->G r f (.kt s D.r) ⟨P,n,w0,S0,M,pin⟩ Γ H K m->G r f (.on (.store T1 (.tmp i) u2) D) ⟨P,n,w0,S0,M,pin⟩ Γ H K m
  | asq {a z:Nat} {f c Γ H K m d p D}:(a=z->G r f (.op p d D) c Γ H K m)->G r f (.op p d D) c Γ H K (asr (decide (a=z)) m)
  | lpn {α γ:Type} {I:Rep α} {I':Rep γ} {W:Fld α γ} {y:α} {k i:Nat} {e:Obj} {f Γ H K m d T1 u P n w0 S0 M pin D}:zA Γ u=some (zbl (zfM.mk k))->zce Γ i=some (zdE e k W y)->Fa (TyB P T1 (Rep.n zfM) (Rep.agg zfM))->G r f (.run D.r) ⟨P,n,w0,S0,M,pin⟩ ((d,zdE e k (Fld.id α) y) :: Γ) H K m->G r (.g i f) (.op (.load T1 u) d D) ⟨P,n,w0,S0,M,pin⟩ Γ H K m
  | bv {α:Type} {I:Rep α} {z:List α} {f Γ H K m d T1 P n w0 S0 M pin xs nn D}:ElG I Γ 0 xs.toList z->z.length=nn->Fa (elB P T1 (Rep.n α) && (Nat.ble (nn * Rep.n α) 16777216 && Nat.ble nn 16777216))->D.X.isT=true->(∀ t,G r f (.run D.r) ⟨P,n,w0,S0,M,pin⟩ ((d,zbs t z.length) :: Γ) (zM t z :: H) K m)->G r (.q 3 f) (.op (.buildSlice T1 nn xs) d D) ⟨P,n,w0,S0,M,pin⟩ Γ H K m
  | al1 {T1 P} {α:Type} {I:Rep α} {x:α} [@zep P T1 α I x] {f Γ H K m d n w0 S0 M pin D}:D.X.isT=true->(∀ b,G r f (.run D.r) ⟨P,n,w0,S0,M,pin⟩ ((d,zar b (Fld.id α)) :: Γ) (zj b x :: H) K m)->G r (.q 1 f) (.op (.alloc T1) d D) ⟨P,n,w0,S0,M,pin⟩ Γ H K m
  | al2 {T1 P} {α:Type} {I:Rep α} {x:α} [@zkl P T1 α I x] {f Γ H K m d n w0 S0 M pin D}:D.X.isT=true->(∀ b,G r f (.run D.r) ⟨P,n,w0,S0,M,pin⟩ ((d,zar b (Fld.id α)) :: Γ) (zj b x :: H) K m)->G r (.q 2 f) (.op (.alloc T1) d D) ⟨P,n,w0,S0,M,pin⟩ Γ H K m
  | al0 {f Γ H K m d T1 P n w0 S0 M pin s D}:O P pin Γ H d D.X.isT (.alloc T1) m s->G r f (.kt s D.r) ⟨P,n,w0,S0,M,pin⟩ Γ H K m->G r (.q 0 f) (.op (.alloc T1) d D) ⟨P,n,w0,S0,M,pin⟩ Γ H K m
  | bx0 {f Γ H K m d T1 u P n w0 S0 M pin s D}:O P pin Γ H d D.X.isT (.box T1 u) m s->G r f (.kt s D.r) ⟨P,n,w0,S0,M,pin⟩ Γ H K m->G r (.q 0 f) (.op (.box T1 u) d D) ⟨P,n,w0,S0,M,pin⟩ Γ H K m
  | bx1 {α:Type} {I:Rep α} {z:α} {f c Γ H K m d T1 u R D}:D.X.isT=true->zA Γ u=some R->StV R z->(∀ b,G r f (.run D.r) c ((d,zar b (Fld.id α)) :: Γ) (zj b z :: H) K m)->G r (.q 1 f) (.op (.box T1 u) d D) c Γ H K m
  | bu0 {f Γ H K m d T1 P n w0 S0 M pin xs s D}:O P pin Γ H d D.X.isT (.build T1 xs) m s->G r f (.kt s D.r) ⟨P,n,w0,S0,M,pin⟩ Γ H K m->G r (.q 0 f) (.op (.build T1 xs) d D) ⟨P,n,w0,S0,M,pin⟩ Γ H K m
  | bu2 {T1 P} {α:Type} {I:Rep α} {x z:α} [@zkl P T1 α I x] {f Γ H K m d n w0 S0 M pin xs D}:Rep.agg α=true->BuG P T1 Γ x xs.toList z->Fa (zmO P T1)->G r f (.run D.r) ⟨P,n,w0,S0,M,pin⟩ ((d,isv z) :: Γ) H K m->G r (.q 2 f) (.op (.build T1 xs) d D) ⟨P,n,w0,S0,M,pin⟩ Γ H K m
  | op {f Γ H K m d p P n w0 S0 M pin s D}:O P pin Γ H d D.X.isT p m s->G r f (.kt s D.r) ⟨P,n,w0,S0,M,pin⟩ Γ H K m->G r f (.op p d D) ⟨P,n,w0,S0,M,pin⟩ Γ H K m
  | run_0 {f c Γ H K m ops l p ty pos af}:G r f (.on p ⟨ty,pos,af,none,.rl ops l⟩) c Γ H K m->G r f (.run (.rl ops (⟨none,p,ty,pos,af,none⟩ :: l))) c Γ H K m
  | run_g {k:Nat × Bool} {f c Γ H K m ops l p ty pos af V s}:gl ops k.1 Γ=some V->G r f (.gd V ⟨s,p,ty,pos,af,some k⟩ (.rl ops l)) c Γ H K m->G r f (.run (.rl ops (⟨s,p,ty,pos,af,some k⟩ :: l))) c Γ H K m
  | run_e {f c Γ H K m ops}:G r f .fin c Γ H K m->G r f (.run (.rl ops [])) c Γ H K m
  | rj_f {f c Γ H K m Y}:G r f (.ru Y) c Γ H K m->G r f (.rj false Y) c Γ H K m
  | ru_l {f c Γ H K m ops l o}:G r f (.pe o (.rl ops l)) c Γ H K m->G r f (.ru (.rl ops (o :: l))) c Γ H K m
  | pe_n {f c Γ H K m X d p ty pos af}:Fa (Nat.blt d c.n)->G r f (.op p d ⟨ty,pos,af,none,X⟩) c Γ H K m->G r f (.pe ⟨some d,p,ty,pos,af,none⟩ X) c Γ H K m
  | pe_g {k:Nat × Bool} {f c Γ H K m X p ty pos af V s}:gl X.ops k.1 Γ=some V->G r f (.gd V ⟨s,p,ty,pos,af,some k⟩ X) c Γ H K m->G r f (.pe ⟨s,p,ty,pos,af,some k⟩ X) c Γ H K m
  | pe_0 {f c Γ H K m X p ty pos af}:G r f (.on p ⟨ty,pos,af,none,X⟩) c Γ H K m->G r f (.pe ⟨none,p,ty,pos,af,none⟩ X) c Γ H K m
  | gd_u {k:Nat × Bool} {f c Γ H K m X d p ty pos af}:Fa (Nat.blt d c.n)->G r f (.run X.af) c ((d,zef) :: Γ) H K m->G r f (.gd zef ⟨some d,p,ty,pos,af,some k⟩ X) c Γ H K m
  | gd_b {f c Γ H K m o X b t}:zmm b t->G r f (.gt t b o X) c Γ H K m->G r f (.gd (isv b) o X) c Γ H K m
  | gt_t {f c Γ H K m X d jj b p ty pos af}:Fa (Nat.blt d c.n)->G r f (.op p d ⟨ty,pos,af,some (jj,true),X⟩) c Γ H K m->G r f (.gt .y b ⟨some d,p,ty,pos,af,some (jj,true)⟩ X) c Γ H K m
  | gt_f {f c Γ H K m X d jj b p ty pos af}:Fa (Nat.blt d c.n)->G r f (.op p d ⟨ty,pos,af,some (jj,false),X⟩) c Γ H K m->G r f (.gt .n b ⟨some d,p,ty,pos,af,some (jj,false)⟩ X) c Γ H K m
  | gt_pt {f c Γ H K m X d jj b p ty pos af}:Fa (Nat.blt d c.n)->G r f (.run X.af) c ((d,zef) :: Γ) H K m->G r f (.gt .y b ⟨some d,p,ty,pos,af,some (jj,false)⟩ X) c Γ H K m
  | gt_pf {f c Γ H K m X d jj b p ty pos af}:Fa (Nat.blt d c.n)->G r f (.run X.af) c ((d,zef) :: Γ) H K m->G r f (.gt .n b ⟨some d,p,ty,pos,af,some (jj,true)⟩ X) c Γ H K m
  | gt_ua {c Γ H K T E o X b}:(b=true->G r .a (.pe o X) c Γ H K T)->(b=false->G r .a (.pe o X) c Γ H K E)->G r .a (.gt .u b o X) c Γ H K (br b T E)
  | gt_ub {fx fy c Γ H K T E o X b}:(b=true->G r fx (.pe o X) c Γ H K T)->(b=false->G r fy (.pe o X) c Γ H K E)->G r (.b fx fy) (.gt .u b o X) c Γ H K (br b T E)
  | gt_jl {ι:Type} [Rep ι] {B:(ι->Option β)->Option β} {R:ι->Option β} {fx fy c Γ H K ops l o d b n}:(∀ i,G r fx (.run (.rl ops (zuh n l))) c ((d,isv i) :: Γ) H K (R i)) ->
      (∀ J:ι->Option β,AJ (go (true,n) J) (.v (λi=>[(d,isv i)]) λ_=>[]) (.run (.rl ops (zuh n l))) c r K Γ H->G r fy (.pe o (.rl ops l)) c Γ H K (B (go (true,n) J)))->G r (.o n d fx fy) (.gt .u b o (.rl ops l)) c Γ H K (jp B R)
  | gt_jd {ι:Type} [Rep ι] {B:(ι->Option β)->Option β} {R:ι->Option β} {i:Nat} {fx fy c Γ H K ops π o d b n}:(∀ i,G r fx (.run (.rd ops (znn n π))) c ((d,isv i) :: Γ) H K (R i)) ->
      (∀ J:ι->Option β,AJ (go (true,n) J) (.v (λi=>[(d,isv i)]) λ_=>[]) (.run (.rd ops (znn n π))) c r K Γ H->G r fy (.pe o (.rv ops i π)) c Γ H K (B (go (true,n) J)))->ops[i]?=some o->G r (.o n d fx fy) (.gt .u b o (.rv ops i π)) c Γ H K (jp B R)
  | gt_jt {ι:Type} [Rep ι] {B:(ι->Option β)->Option β} {R:ι->Option β} {i:Nat} {fx fy c Γ H K ops π o d b n}:(∀ i,G r fx (.run (.rd ops (znn n π))) c ((d,isv i) :: Γ) H K (R i)) ->
      (∀ J:ι->Option β,AJ (go (true,n) J) (.v (λi=>[(d,isv i)]) λ_=>[]) (.run (.rd ops (znn n π))) c r K Γ H->G r fy (.pe o (.rt ops i π)) c Γ H K (B (go (true,n) J)))->ops[i]?=some o->G r (.o n d fx fy) (.gt .u b o (.rt ops i π)) c Γ H K (jp B R)
  | gt_jx {A:Ax} {fx fy c Γ H K o X b R n B}:G r .a (.jx A n fx fy (.pe o X)) c Γ H K (jp B R)->G r (.j n A fx fy) (.gt .u b o X) c Γ H K (jp B R)
  | cnd_x {A:Ax} {fx fy c Γ H K x y u R n B}:G r .a (.jx A n fx fy (.wp (.cond u x y))) c Γ H K (jp B R)->G r (.j n A fx fy) (.wp (.cond u x y)) c Γ H K (jp B R)
  | loo_x {A:Ax} {f c Γ H K x i F}:G r .a (.jx A 0 f .a (.wp (.loop x))) c Γ H K (lp F i)->G r (.k A f) (.wp (.loop x)) c Γ H K (lp F i)
  | jx_b {A:Nat->Ax} {α:Type} {I:Rep α} {y:α} {k:Nat} {f fx fy j c Γ H K m n q}:H[k]?=some (zj q y)->G r f (.jx (A q) n fx fy j) c Γ H K m->G r f (.jx (.b k A) n fx fy j) c Γ H K m
  | jx_t {A:Tok->Ax} {k:Nat} {f fx fy j c Γ H K m n q}:H[k]?=some (zO q)->G r f (.jx (A q) n fx fy j) c Γ H K m->G r f (.jx (.t k A) n fx fy j) c Γ H K m
  | jx_w {A:Vt->Ax} {α:Type} {I:Rep α} {z:List α} {k:Nat} {f fx fy j c Γ H K m n q}:H[k]?=some (zM q z)->G r f (.jx (A q) n fx fy j) c Γ H K m->G r f (.jx (.w k A) n fx fy j) c Γ H K m
  | jm_l {ks:List Bool} {ι:Type} {A:JA ι} {B:(ι->Option β)->Option β} {R:ι->Option β} {f fx fy c Γ H Hr K ops l o n}:Dr ks H Hr->G r fx (.jk A (.run (.rl ops (zuh n l))) R) c Γ Hr K (jp B R) ->
      (∀ J:ι->Option β,AJ (go (true,n) J) A (.run (.rl ops (zuh n l))) c r K Γ Hr->G r fy (.pe o (.rl ops l)) c Γ H K (B (go (true,n) J)))->G r f (.jx (.m ks A) n fx fy (.pe o (.rl ops l))) c Γ H K (jp B R)
  | jm_v {ks:List Bool} {ι:Type} {A:JA ι} {B:(ι->Option β)->Option β} {R:ι->Option β} {i:Nat} {f fx fy c Γ H Hr K ops π o n}:Dr ks H Hr->G r fx (.jk A (.run (.rd ops (znn n π))) R) c Γ Hr K (jp B R) ->
      (∀ J:ι->Option β,AJ (go (true,n) J) A (.run (.rd ops (znn n π))) c r K Γ Hr->G r fy (.pe o (.rv ops i π)) c Γ H K (B (go (true,n) J)))->G r f (.jx (.m ks A) n fx fy (.pe o (.rv ops i π))) c Γ H K (jp B R)
  | jm_t {ks:List Bool} {ι:Type} {A:JA ι} {B:(ι->Option β)->Option β} {R:ι->Option β} {i:Nat} {f fx fy c Γ H Hr K ops π o n}:Dr ks H Hr->G r fx (.jk A (.run (.rd ops (znn n π))) R) c Γ Hr K (jp B R) ->
      (∀ J:ι->Option β,AJ (go (true,n) J) A (.run (.rd ops (znn n π))) c r K Γ Hr->G r fy (.pe o (.rt ops i π)) c Γ H K (B (go (true,n) J)))->G r f (.jx (.m ks A) n fx fy (.pe o (.rt ops i π))) c Γ H K (jp B R)
  | jm_k {ks:List Bool} {ι:Type} {A:JA ι} {F:(ι->Option β)->ι->Option β} {i:ι} {f fx fy c Γ H Hr K x n}:Dr ks H Hr->G r f (.ak A i (.wp (.loop x)) Γ Hr) c Γ H K (lp F i) ->
      (∀ (L:ι->Option β) (Q':Exit->Act->World->Prop),AJ (go (false,K.len + 1) L) A .fin c r (.fv K.len Q') Γ Hr->LK c r Q' K->G r fx (.jk A (.wp x) (F (go (false,K.len + 1) L))) c Γ Hr (.fv K.len Q') (lp F i))->G r f (.jx (.m ks A) n fx fy (.wp (.loop x))) c Γ H K (lp F i)
  | jm_w {ks:List Bool} {ι:Type} {A:JA ι} {B:(ι->Option β)->Option β} {R:ι->Option β} {f fx fy c Γ H Hr K x n z}:Dr ks H Hr->G r fx (.jk A (.wp z) R) c Γ Hr K (jp B R) ->
      (∀ J:ι->Option β,AJ (go (false,K.len + 1) J) A .fin c r (.nxt z K) Γ Hr->G r fy (.wp x) c Γ H (.nxt z K) (B (go (false,K.len + 1) J)))->G r f (.jx (.m ks A) n fx fy (.wp x)) c Γ H (.nxt z K) (jp B R)
  | rj_t {ι:Type} {J:ι->Option β} {A:JA ι} {nn:Bool × Nat} {f c Γ H Hr K Y Γ0 i}:AJ (go nn J) A (.run Y) c r K Γ0 Hr->G r f (.ak A i (.run Y) Γ0 Hr) c Γ H K (go nn J i)->G r f (.rj true Y) c Γ H K (go nn J i)
  | cl_m {α:Type} {A:α->AP} {f c Γ H Hr K m Y d fn a xs as Hc Rs}:OpC Γ Rs xs as->TX H Hc Hr->G r f (.ps (A a) d Y Hr) c Γ H K m->G r f (.cl (.mk as Hc A) fn Rs xs a d Y) c Γ H K m
  | ps_m {H':List Ent} {f c Γ H Hr K m Y d Rs Hs}:Cl (Hs ++ Hr) H->G r f (.run Y) c ((d,ziR Rs) :: Γ) H K m->G r f (.ps (.mk Rs Hs) d Y Hr) c Γ H' K m
  | seq {f c Γ H K m x y}:G r f (.wp x) c Γ H (.nxt y K) m->G r f (.wp (.seq x y)) c Γ H K m
  | blk_x {A:Ax} {fx fy c Γ H K x id R n z B}:G r .a (.jx A n fx fy (.wp (.block id x))) c Γ H (.nxt z K) (jp B R)->G r (.w [] (.j n A fx fy) .a) (.wp (.block id x)) c Γ H (.nxt z K) (jp B R)
  | reg_x {A:Ax} {fx fy c Γ H K id ops R n B}:G r .a (.jx A n fx fy (.wp (.region id ops true))) c Γ H K (jp B R)->G r (.v [] (.j n A fx fy) .a) (.wp (.region id ops true)) c Γ H K (jp B R)
  | fB_w {α γ δ α' γ':Type} {I1:Rep α} {I2:Rep γ} {I3:Rep δ} {I4:Rep α'} {I5:Rep γ'} {x0:α} {W0:Fld α γ} {l:List δ} {y:α'} {W:Fld α' γ'} {i k:Nat} {f c Γ H Hr K m id ops b t H1}:zce Γ i=some (zar k W0)->zcu (zM t l) H H1->zcu (zj k x0) H1 Hr->CvP t l x0 W0 y W->G r f (.wp (.region id ops b)) c ((i,zar k W) :: Γ) (zj k y :: Hr) K m->G r (.f 2 i f) (.wp (.region id ops b)) c Γ H K m
  | reg {f c Γ H K m id ops}:G r f (.run (.rl ops ops.toList)) c Γ H K m->G r f (.wp (.region id ops false)) c Γ H K m
  | cnd_a {c Γ H K T E x y b u}:zA Γ u=some (isv b)->G r .a (.wp x) c Γ H K T->G r .a (.wp y) c Γ H K E->G r .a (.wp (.cond u x y)) c Γ H K (br b T E)
  | cnd_b {fx fy c Γ H K T E x y b u}:zA Γ u=some (isv b)->G r fx (.wp x) c Γ H K T->G r fy (.wp y) c Γ H K E->G r (.b fx fy) (.wp (.cond u x y)) c Γ H K (br b T E)
  | fin_go {ι:Type} {J:ι->Option β} {f c Γ H K b n i}:Nat.beq K.len n=b->G r f (.fj b) c Γ H K (go (false,n) J i)->G r f .fin c Γ H K (go (false,n) J i)
  | fin_n {f c Γ H K m y}:G r f (.wp y) c Γ H K m->G r f .fin c Γ H (.nxt y K) m
  | fin_any {f c Γ H K m}:G r f .fi c Γ H K m->G r f .fin c Γ H K m
  | fi_n {f c Γ H K m y}:G r f (.wp y) c Γ H K m->G r f .fi c Γ H (.nxt y K) m
  | skp {f c Γ H K m}:G r f .fin c Γ H K m->G r f (.wp .skip) c Γ H K m
  | rtn {f c Γ H K m}:G r f .ret c Γ H K m->G r f (.wp .ret) c Γ H K m
  | re_n {f c Γ H K m y}:G r f .ret c Γ H K m->G r f .ret c Γ H (.nxt y K) m
  | re_b {f c Γ H K m id}:G r f .ret c Γ H K m->G r f .ret c Γ H (.blk id K) m
  | re_l {f c Γ H K m n Q'}:LK c r Q' K->G r f .ret c Γ H K m->G r f .ret c Γ H (.fv n Q') m
  | re_p {e:β} {f Γ H P n w0 S0 fn A H0}:G r f (.rp (A e) false) ⟨P,n,w0,S0,zbL H0,[]⟩ Γ H (.po fn w0 S0 H0 A) (some e)->G r f .ret ⟨P,n,w0,S0,zbL H0,[]⟩ Γ H (.po fn w0 S0 H0 A) (some e)
  | rp_m {f Γ H Hr m b P n w0 S0 fn A Rs Hs H0}:ReG P Γ H fn.results.toList Rs->TX H Hs Hr->G r f (.rp (.mk Rs Hs) b) ⟨P,n,w0,S0,zbL H0,[]⟩ Γ H (.po fn w0 S0 H0 A) m
  | fj_f {f c Γ H K m}:G r f .fi c Γ H K m->G r f (.fj false) c Γ H K m
  | fj_t {ι:Type} {J:ι->Option β} {A:JA ι} {nn:Bool × Nat} {f c Γ H Hr K Γ0 i}:AJ (go nn J) A .fin c r K Γ0 Hr->G r f (.ak A i .fin Γ0 Hr) c Γ H K (go nn J i)->G r f (.fj true) c Γ H K (go nn J i)
  | jk_v {ι:Type} {mod:ι->zL} {R:ι->Option β} {Hm:ι->List Ent} {f j c Γ H K m}:(∀ i,G r f j c (mod i ++ Γ) (Hm i ++ H) K (R i))->G r f (.jk (.v mod Hm) j R) c Γ H K m
  | jk_t {ι:Type} {A:Tok->JA ι} {R:ι->Option β} {f j c Γ H K m}:(∀ i,G r f (.jk (A i) j R) c Γ H K m)->G r f (.jk (.t A) j R) c Γ H K m
  | jk_w {ι:Type} {A:Vt->JA ι} {R:ι->Option β} {f j c Γ H K m}:(∀ i,G r f (.jk (A i) j R) c Γ H K m)->G r f (.jk (.w A) j R) c Γ H K m
  | jk_b {ι:Type} {A:Nat->JA ι} {R:ι->Option β} {f j c Γ H K m}:(∀ i,G r f (.jk (A i) j R) c Γ H K m)->G r f (.jk (.b A) j R) c Γ H K m
  | ak_v {ι:Type} {mod:ι->zL} {Hm:ι->List Ent} {i:ι} {f j c Γ H Hr K m Γ0 H0}:Γ.drop (Γ.length - Γ0.length)=Γ0->Fa (zr1 (Γ.take (Γ.length - Γ0.length)) ((mod i).map (·.1)) Γ0)->Md Γ (mod i)->TX H (Hm i ++ Hr) H0->G r f (.ak (.v mod Hm) i j Γ0 Hr) c Γ H K m
  | ak_t {ι:Type} {A:Tok->JA ι} {i:ι} {f j c Γ H Hr K m k Γ0}:G r f (.ak (A k) i j Γ0 Hr) c Γ H K m->G r f (.ak (.t A) i j Γ0 Hr) c Γ H K m
  | ak_w {ι:Type} {A:Vt->JA ι} {i:ι} {f j c Γ H Hr K m k Γ0}:G r f (.ak (A k) i j Γ0 Hr) c Γ H K m->G r f (.ak (.w A) i j Γ0 Hr) c Γ H K m
  | ak_b {ι:Type} {A:Nat->JA ι} {i:ι} {f j c Γ H Hr K m k Γ0}:G r f (.ak (A k) i j Γ0 Hr) c Γ H K m->G r f (.ak (.b A) i j Γ0 Hr) c Γ H K m
  | cl_t {α:Type} {A:Tok->AC α} {f c Γ H K m Y d k fn a xs Rs}:G r f (.cl (A k) fn Rs xs a d Y) c Γ H K m->G r f (.cl (.t A) fn Rs xs a d Y) c Γ H K m
  | cl_v {α:Type} {A:Vt->AC α} {f c Γ H K m Y d k fn a xs Rs}:G r f (.cl (A k) fn Rs xs a d Y) c Γ H K m->G r f (.cl (.v A) fn Rs xs a d Y) c Γ H K m
  | cl_b {α:Type} {A:Nat->AC α} {f c Γ H K m Y d k fn a xs Rs}:G r f (.cl (A k) fn Rs xs a d Y) c Γ H K m->G r f (.cl (.b A) fn Rs xs a d Y) c Γ H K m
  | ps_t {A:Tok->AP} {f c Γ H Hr K m Y d}:(∀ k,G r f (.ps (A k) d Y Hr) c Γ H K m)->G r f (.ps (.t A) d Y Hr) c Γ H K m
  | ps_v {A:Vt->AP} {f c Γ H Hr K m Y d}:(∀ k,G r f (.ps (A k) d Y Hr) c Γ H K m)->G r f (.ps (.v A) d Y Hr) c Γ H K m
  | ps_b {A:Nat->AP} {f c Γ H Hr K m Y d}:(∀ k,G r f (.ps (A k) d Y Hr) c Γ H K m)->G r f (.ps (.b A) d Y Hr) c Γ H K m
  | fF_t {α:Type} {I:Rep α} {l:List α} {i:Nat} {f c Γ H Hr K m t n}:zce Γ i=some (zbs t n)->zcu (zM t l) H Hr->EqS n l.length->G r f .ret c ((i,isv l) :: Γ) Hr K m->G r (.f 0 i f) .ret c Γ H K m
  | run_2 {i:Nat} {fx fy c Γ H K m ops π ρ}:G r fx (.run (.rd ops (.t i π))) c Γ H K m->G r fy (.run (.rd ops ρ)) c Γ H K m->G r (.b fx fy) (.run (.rd ops (.alt i π ρ))) c Γ H K m
  | ru_2 {i:Nat} {fx fy c Γ H K m ops π ρ}:G r fx (.ru (.rd ops (.t i π))) c Γ H K m->G r fy (.ru (.rd ops ρ)) c Γ H K m->G r (.b fx fy) (.ru (.rd ops (.alt i π ρ))) c Γ H K m
  | run_v {i:Nat} {f c Γ H K m ops π o}:ops[i]?=some o->G r f (.pe o (.rv ops i π)) c Γ H K m->G r f (.run (.rd ops (.v i π))) c Γ H K m
  | run_t {i:Nat} {f c Γ H K m ops π o}:ops[i]?=some o->G r f (.pe o (.rt ops i π)) c Γ H K m->G r f (.run (.rd ops (.t i π))) c Γ H K m
  | ru_v {i:Nat} {f c Γ H K m ops π o}:ops[i]?=some o->G r f (.pe o (.rv ops i π)) c Γ H K m->G r f (.ru (.rd ops (.v i π))) c Γ H K m
  | ru_t {i:Nat} {f c Γ H K m ops π o}:ops[i]?=some o->G r f (.pe o (.rt ops i π)) c Γ H K m->G r f (.ru (.rd ops (.t i π))) c Γ H K m
  | run_d {f c Γ H K m ops}:G r f .fin c Γ H K m->G r f (.run (.rd ops .nil)) c Γ H K m
  | pin {α γ:Type} {I:Rep α} {I':Rep γ} {i k:Nat} {y:α} {W:Fld α γ} {f Γ H Hr K m id ops b P n w0 S0 M pin}:zce Γ i=some (zar k W)->zcu (zj k y) H Hr->(∀ o,Nd k pin->G r f (.wp (.region id ops b)) ⟨P,n,w0,S0,M,(k,o) :: pin⟩ ((i,zdE o k W y) :: Γ) Hr (.un i K) m)->G r (.p i f) (.wp (.region id ops b)) ⟨P,n,w0,S0,M,pin⟩ Γ H K m
  | regE {f c Γ H K m id ops π}:Fa (c.P.follows .mixedOrders)->Fa (Region.noSelect ops && (π.len == ops.size) && zf9 ops true π (Array.replicate ops.size false))->G r f (.run (.rd ops π)) c Γ H K m->G r (.e π f) (.wp (.region id ops true)) c Γ H K m
  | regD {f c Γ H K m id ops n}:Fa (c.P.follows .mixedOrders)->Fa (Region.noSelect ops && ((zw7 n 0 ops.toList).len == ops.size) && zf9 ops true (zw7 n 0 ops.toList) (Array.replicate ops.size false))->G r f (.run (.rd ops (zw7 n 0 ops.toList))) c Γ H K m->G r (.d n f) (.wp (.region id ops true)) c Γ H K m
  | fi_u {α γ:Type} {I:Rep α} {I':Rep γ} {i k:Nat} {y:α} {W:Fld α γ} {o:Obj} {f Γ H K m P n w0 S0 M pin}:zce Γ i=some (zdE o k W y)->Nd k pin->G r f .fin ⟨P,n,w0,S0,M,pin⟩ ((i,zar k W) :: Γ) (zj k y :: H) K m->G r f .fi ⟨P,n,w0,S0,M,(k,o) :: pin⟩ Γ H (.un i K) m
  | ext {f c Γ H K m id}:G r f (.exi id) c Γ H K m->G r f (.wp (.exit id)) c Γ H K m
  | blk_j {ds} {ι:Type} {mod:ι->zL} [SlC ds ι mod] {B:(ι->Option β)->Option β} {R:ι->Option β} {fx fy c Γ H K x id z}:G r fx (.jk (.v mod λ_=>[]) (.wp z) R) c Γ H K (jp B R) ->
      (∀ J:ι->Option β,AJ (go (false,K.len + 1) J) (.v mod λ_=>[]) .fin c r (.nxt z K) Γ H->G r fy (.wp (.block id x)) c Γ H (.nxt z K) (B (go (false,K.len + 1) J)))->G r (.v ds fx fy) (.wp (.block id x)) c Γ H (.nxt z K) (jp B R)
  | cnd_j {ds} {ι:Type} {mod:ι->zL} [SlC ds ι mod] {B:(ι->Option β)->Option β} {R:ι->Option β} {fx fy c Γ H K x y u z}:G r fx (.jk (.v mod λ_=>[]) (.wp z) R) c Γ H K (jp B R) ->
      (∀ J:ι->Option β,AJ (go (false,K.len + 1) J) (.v mod λ_=>[]) .fin c r (.nxt z K) Γ H->G r fy (.wp (.cond u x y)) c Γ H (.nxt z K) (B (go (false,K.len + 1) J)))->G r (.w ds fx fy) (.wp (.cond u x y)) c Γ H (.nxt z K) (jp B R)
  | blk {f c Γ H K m x id}:G r f (.wp x) c Γ H (.blk id K) m->G r f (.wp (.block id x)) c Γ H K m
  | loo {ds} {ι:Type} {mod:ι->zL} [SlC ds ι mod] {F:(ι->Option β)->ι->Option β} {i0:ι} {f c Γ H K x}:Md Γ (mod i0)->(∀ (L:ι->Option β) (i:ι) (Q':Exit->Act->World->Prop),AJ (go (false,K.len + 1) L) (.v mod λ_=>[]) .fin c r (.fv K.len Q') Γ H->LK c r Q' K ->
      G r f (.wp x) c (mod i ++ Γ) H (.fv K.len Q') (F (go (false,K.len + 1) L) i))->G r (.l ds f) (.wp (.loop x)) c Γ H K (lp F i0)
  | fi_b {f c Γ H K m id}:G r f .fin c Γ H K m->G r f .fi c Γ H (.blk id K) m
  | fi_p {e:β} {f Γ H P n w0 S0 fn A H0}:G r f (.rp (A e) true) ⟨P,n,w0,S0,zbL H0,[]⟩ Γ H (.po fn w0 S0 H0 A) (some e)->G r f .fi ⟨P,n,w0,S0,zbL H0,[]⟩ Γ H (.po fn w0 S0 H0 A) (some e)
  | ex_n {f c Γ H K m y id}:G r f (.exi id) c Γ H K m->G r f (.exi id) c Γ H (.nxt y K) m
  | ex_b {f c Γ H K m id}:G r f .fin c Γ H K m->G r f (.exi id) c Γ H (.blk id K) m
  | ex_p {f c Γ H K m id id'}:Nat.beq id id'=false->G r f (.exi id) c Γ H K m->G r f (.exi id) c Γ H (.blk id' K) m
  | ex_l {f c Γ H K m id n Q'}:LK c r Q' K->G r f (.exi id) c Γ H K m->G r f (.exi id) c Γ H (.fv n Q') m
  | rp_t {A:Tok->AP} {f c Γ H K m b k}:G r f (.rp (A k) b) c Γ H K m->G r f (.rp (.t A) b) c Γ H K m
  | rp_v {A:Vt->AP} {f c Γ H K m b k}:G r f (.rp (A k) b) c Γ H K m->G r f (.rp (.v A) b) c Γ H K m
  | rp_b {A:Nat->AP} {f c Γ H K m b k}:G r f (.rp (A k) b) c Γ H K m->G r f (.rp (.b A) b) c Γ H K m

section
variable {β:Type} {r:β} {f f' fx fy:Fu} {j:Jd β} {c:Ctx} {Γ:zL} {H Hr:List Ent} {K:Kn β} {m T E:Option β} {x y:Code} {id id':Nat} {ops:Array Oper} {l:List Oper} {π ρ:Ord} {o:Oper} {X:Cx} {Y:Rx} {D:Dx}
 {d dj jj:Nat} {b want:Bool} {p:Op} {ty T1 T2:TypeId} {pos:String} {af:Array Edge} {g:Option (Nat × Bool)} {u u1 u2 u3:Operand} {V R R1 R2:VP} {t:Tr}
theorem Dx.opV {c:Ctx} {Q:Exit->Act->World->Prop} (h:OpV c (D.o p d) ⟨Γ,H⟩ R) (hd:Nat.blt d c.n=true) (k:D.r.p c Q ⟨(d,R) :: Γ,H⟩):D.X.opP c Q (D.o p d) ⟨Γ,H⟩:=by
 obtain ⟨ty,pos,af,g,X⟩:=D
 cases X with
 | rl ops l=>exact OpV.t h k hd
 | rt ops i π=>exact OpV.t h k hd
 | rv ops i π=>exact ⟨d,R,rfl,hd,h,k⟩
theorem Dx.opT {c:Ctx} {Q:Exit->Act->World->Prop} (hX:D.X.isT=true) (h:∀ K:St->Prop,(∀ σ',D.r.p c Q σ'->K σ')->OpT c o ⟨Γ,H⟩ K):D.X.opP c Q o ⟨Γ,H⟩:=by
 obtain ⟨ty,pos,af,g,X⟩:=D
 cases X with
 | rl ops l=>exact h _ λ_ h=>h
 | rt ops i π=>exact h _ λ_ h=>h
 | rv ops i π=>cases hX
theorem zx6 {c:Ctx} {Q:Exit->Act->World->Prop} (hg:o.guard=none) (h:X.opP c Q o ⟨Γ,H⟩):X.pend c Q o ⟨Γ,H⟩:=by
 cases X with
 | rl ops l=>exact zl8 hg h
 | rt ops i π=>exact λho=>zBn ho hg h
 | rv ops i π =>
  intro ho
  obtain ⟨d,R,h1,h2,h3,h4⟩:=h
  obtain ⟨o1,op,ty,pos,af,g⟩:=o
  cases h1;cases hg
  exact zbd ho h3 h4 h2
theorem zAO {c:Ctx} {Q:Exit->Act->World->Prop} (hb:b=want) (hg:o.guard=some (jj,want)) (hv:gvl X.ops o Γ=some (isv b)) (h:X.opP c Q o ⟨Γ,H⟩):X.pend c Q o ⟨Γ,H⟩:=by
 have hv':gl X.ops jj Γ=some (isv b):=by unfold gvl at hv;rw [hg] at hv;exact hv
 obtain ⟨dj,h1,h2⟩:=zj8 hv'
 cases X with
 | rl ops l=>exact zqo hg h1 h2 hb h
 | rt ops i π=>exact λho=>zzV ho hg h1 h2 hb h
 | rv ops i π =>
  intro ho
  obtain ⟨d,R,e1,e2,e3,e4⟩:=h
  obtain ⟨o1,op,ty,pos,af,g⟩:=o
  cases e1;cases hg
  exact zz4 ho h1 h2 hb e3 e4 e2
theorem zAL {c:Ctx} {Q:Exit->Act->World->Prop} (hb:b=!want) (hd:Nat.blt d c.n=true) (hv:gvl X.ops ⟨some d,p,ty,pos,af,some (jj,want)⟩ Γ=some (isv b)) (h:X.af.p c Q ⟨(d,zef) :: Γ,H⟩):X.pend c Q ⟨some d,p,ty,pos,af,some (jj,want)⟩ ⟨Γ,H⟩:=by
 obtain ⟨dj,h1,h2⟩:=zj8 hv
 cases X with
 | rl ops l=>exact ztO h1 h2 hb h hd
 | rt ops i π=>exact λho=>zhW ho h1 h2 hb h hd
 | rv ops i π=>exact λho=>zrm ho h1 h2 hb h hd
theorem zAS {k:Nat × Bool} {c:Ctx} {Q:Exit->Act->World->Prop} (hd:Nat.blt d c.n=true) (hv:gvl X.ops ⟨some d,p,ty,pos,af,some k⟩ Γ=some zef) (h:X.af.p c Q ⟨(d,zef) :: Γ,H⟩):X.pend c Q ⟨some d,p,ty,pos,af,some k⟩ ⟨Γ,H⟩:=by
 obtain ⟨dj,h1,h2⟩:=zj8 (j:=k.1) hv
 cases X with
 | rl ops l=>exact zxs (j:=k.1) (want:=k.2) h1 h2 h hd
 | rt ops i π=>exact λho=>zvK (j:=k.1) (want:=k.2) ho h1 h2 h hd
 | rv ops i π=>exact λho=>zu8 (j:=k.1) (want:=k.2) ho h1 h2 h hd
theorem zsp {Γ:zL}:zL.imp Γ Γ:=λ_ R h=>⟨R,h,λ_ _ h=>h⟩
theorem zne:∀ {A B:List Ent},zbn (A ++ B) A B
 | [],_=>.nil
 | _ :: _,_=>.cons .here zne
theorem zj5:∀ {H:List Ent},zbn H H []
 | []=>.nil
 | _ :: _=>.cons .here zj5
theorem brh {P:Prop} (h:br b T E=some r) (h1:b=true->T=some r->P) (h2:b=false->E=some r->P):P:=by
 cases b with
 | true=>exact h1 rfl h
 | false=>exact h2 rfl h
theorem Cl.upds {c:Ctx} {Γ:zL} {H Hr:List Ent} (h:Cl H Hr):∀ F,Upd c ⟨Γ,F ++ H⟩ ⟨Γ,F ++ Hr⟩:=by
 induction h with
 | nil=>exact λF=>zjM (List.Perm.refl _)
 | v _ ih | t _ ih=>exact λF=>(zxR (zmc .here F)).trans (ih F)
 | @k e _ _ _ ih=>exact λF=>by simpa using ih (F ++ [e])
theorem Cl.upd {c:Ctx} {Γ:zL} {H Hr:List Ent} (h:Cl H Hr):Upd c ⟨Γ,H⟩ ⟨Γ,Hr⟩:=h.upds []
theorem zlX {Γ:zL} {i:Nat} {R:VP}:zce ((i,R) :: Γ) i=some R:=by simp [zce]
theorem zr7 {α β α' β':Type} [Rep α] [Rep β] [Rep α'] [Rep β'] {b:Nat} {W:Fld α β} {W':Fld α' β'} (e:W.off=W'.off) (S:Frz) (v:Value) (h:(zar b W).p S v):(zar b W').p S v:=by
 have h:v=.pointer (some ⟨b,W.off,none⟩):=h
 exact (e ▸ h:v=.pointer (some ⟨b,W'.off,none⟩))
theorem ziT {c:Ctx} {Q:Exit->Act->World->Prop} {Γ':zL} {H':List Ent} (hu:Upd c ⟨Γ',H'⟩ ⟨Γ,H⟩) (h:Y.p c Q ⟨Γ,H⟩):Y.p c Q ⟨Γ',H'⟩:=by
 cases Y with
 | rl ops l=>exact zbi hu h
 | rd ops π=>exact zoD hu h
theorem zBk {ι:Type} {Q:Exit->Act->World->Prop} {F:(ι->Option β)->ι->Option β} {i0:ι} {mod:ι->zL} (hm:zqm Γ (mod i0)) (h:lp F i0=some r)
    (hx:∀ (L:ι->Option β) (i:ι) (Q':Exit->Act->World->Prop),F L i=some r->(∀ j,L j=some r->Fin c ⟨mod j ++ Γ,[] ++ H⟩ Q')->(∀ id σ',Exi c id σ' Q->Exi c id σ' Q')->(∀ σ',Ret c σ' Q->Ret c σ' Q')->Wp c x ⟨mod i ++ Γ,H⟩ Q'):Wp c (.loop x) ⟨Γ,H⟩ Q :=
  zAR (γ:=Unit) (λi _=>mod i) (λ_ _=>[]) h () hm .nil λL i _ Q' h hL hE hR=>hx L i Q' h (λj hj=>hL j () hj _ ⟨λi R h=>⟨R,h,λ_ _ h=>h⟩,_,zj5⟩) hE hR
theorem rpW {B B':AP} {e:Bool} (h:True->(Jd.rp B e).p c r K Γ H) (hB:∀ R H',B.p R H'->B'.p R H'):(Jd.rp B' e).p c r K Γ H:=by
 cases K with
 | po fn w0 S0 H0 A=>exact λk=>h trivial λR H' e=>k R H' (hB R H' e)
 | _=>trivial
theorem rpM {P:Program} {n:Nat} {w0:World} {S0:Frz} {H0:List Ent} {fn:Func} {A:AP} {Rs:List VP} {Hs:List Ent} (h1:ReG P Γ H fn.results.toList Rs) (h2:TX H Hs Hr) (hk:∀ R H',(AP.mk Rs Hs).p R H'->A.p R H') :
    (match b with | true=>Fin ⟨P,n,w0,S0,zbL H0,[]⟩ ⟨Γ,H⟩ (zme P fn w0 S0 H0 A.p) | false=>Ret ⟨P,n,w0,S0,zbL H0,[]⟩ ⟨Γ,H⟩ (zme P fn w0 S0 H0 A.p)):=by
  have:∀ S a w,za7 ⟨P,n,w0,S0,zbL H0,[]⟩ ⟨Γ,H⟩ S a w->bodyPost P fn (λe w'=>∃ v S' R H',A.p R H'/\e=.returned v/\R.p S' v/\zky (zbL H0) S0 S' w0 w'/\zm1 (zbL H0) w0.heap.size H' S' w') .ret a w:=λS a w m=>by
    obtain ⟨v,hv,hr⟩:=zkD m h1.h
    obtain ⟨S',hS,m'⟩:=(by simpa using h2.upd []:Upd _ ⟨Γ,H⟩ ⟨Γ,Hs ++ Hr⟩) S a w m
    exact ⟨m.dfr,v,hr,v,S',_,_,hk _ _ ⟨rfl,rfl⟩,rfl,(ziR Rs).mono hS hv,⟨m'.keep,m'.grow,m'.sub⟩,zf4 m'.owns zne⟩
  cases b with
  | true=>exact λS a w m=>this S a w m
  | false=>exact this
theorem zgr {c:Ctx} {Q:Exit->Act->World->Prop} (h:OpV c (D.o p d) ⟨Γ,H⟩ R) (hd:Nat.blt d c.n=true) (hm:m=some r) (k:(Ot.c ((d,R) :: Γ) H m).ok r λΓ' H'=>D.r.p c Q ⟨Γ',H'⟩):D.X.opP c Q (D.o p d) ⟨Γ,H⟩:=Dx.opV h hd (k hm)
theorem znz {c:Ctx} {Q:Exit->Act->World->Prop} {H':List Ent} (hX:D.X.isT=true) (hu:Upd c ⟨Γ,H⟩ ⟨Γ,H'⟩) (h:D.X.opP c Q o ⟨Γ,H'⟩):D.X.opP c Q o ⟨Γ,H⟩:=by
 have up:∀ {K:St->Prop},OpT c o ⟨Γ,H'⟩ K->OpT c o ⟨Γ,H⟩ K:=λh S a w next Q m hn=>by
  obtain ⟨S',hS,m'⟩:=hu S a w m
  exact h S' a w next Q m' λσ' S2 a' w' h1 h2 m2=>hn σ' S2 a' w' (Frz.le_trans hS h1) h2 m2
 obtain ⟨ty,pos,af,g,X⟩:=D
 cases X with
 | rl ops l=>exact up h
 | rt ops i π=>exact up h
 | rv ops i π=>cases hX
theorem zyw {P Q:Prop} [Decidable P] [Decidable Q] {g:Prop} (h:asr (decide (P/\Q)) m=some r) (K:P->Q->m=some r->g):g:=zcd h λq h=>K q.1 q.2 h
theorem Bi.sound {P:Program} {c:Ctx} {q:BinOp} {o1:Option Nat} {σ:St} {m':Option β} (h:Bi P T1 q R1 R2 m V m') (hP:c.P=P) (h1:zA σ.Γ u1=some R1) (h2:zA σ.Γ u2=some R2) (hm:m=some r):OpV c ⟨o1,.binOp q T1 u1 u2 T2,ty,pos,af,g⟩ σ V/\m'=some r:=by
 subst hP
 cases h with
 | eqI=>exact ⟨zoO h1 h2,hm⟩
 | neI=>exact ⟨zk2 h1 h2,hm⟩
 | adI=>exact zfw hm λq h=>⟨zpL h1 h2 q,h⟩
 | sbI=>exact zfw hm λq h=>⟨zpw h1 h2 q,h⟩
 | mlI=>exact zfw hm λq h=>⟨zBL h1 h2 q,h⟩
 | ltI=>exact ⟨zl3 h1 h2,hm⟩
 | gtI=>exact ⟨zmE h1 h2,hm⟩
 | leI=>exact ⟨zBG h1 h2,hm⟩
 | geI=>exact ⟨zzU h1 h2,hm⟩
 | ltB=>exact ⟨zgR h1 h2,hm⟩
 | gtB=>exact ⟨zAt h1 h2,hm⟩
 | leB=>exact ⟨zAm h1 h2,hm⟩
 | geB=>exact ⟨zAX h1 h2,hm⟩
 | eqA=>exact ⟨zBt ‹EqC _ _ _›.h h1 h2,hm⟩
 | neA=>exact ⟨zBE ‹EqC _ _ _›.h h1 h2,hm⟩
 | quI=>exact zbF hm λq h=>zfw h λq2 h=>⟨zA9 h1 h2 q q2,h⟩
 | rmI=>exact zbF hm λq h=>⟨zAH h1 h2 q,h⟩
 | anI=>exact zcd hm λq h=>⟨zBb h1 h2 q.1 q.2,h⟩
 | adB=>exact ⟨zAk h1 h2,hm⟩
 | sbB=>exact ⟨zAs h1 h2,hm⟩
 | orB=>exact ⟨zBB h1 h2,hm⟩
 | anB=>exact ⟨zs8 h1 h2,hm⟩
 | annB=>exact ⟨zuC h1 h2,hm⟩
 | shB=>exact zbF hm λq h=>⟨zA2 h1 h2 q,h⟩
 | srB=>exact zbF hm λq h=>⟨zsV h1 h2 q,h⟩
 | ltU=>exact ⟨zza h1 h2,hm⟩
 | gtU=>exact ⟨zys h1 h2,hm⟩
 | leU=>exact ⟨zyz h1 h2,hm⟩
 | geU=>exact ⟨zyn h1 h2,hm⟩
 | adU=>exact ⟨zyv h1 h2,hm⟩
 | sbU=>exact ⟨zyd h1 h2,hm⟩
 | mlU=>exact ⟨zy8 h1 h2,hm⟩
 | orU=>exact ⟨zht h1 h2,hm⟩
 | anU=>exact ⟨znI h1 h2,hm⟩
 | shU=>exact zbF hm λq h=>⟨ziN h1 h2 q,h⟩
 | srU e=>exact ⟨zyt h1 h2 (by simpa using e.h),hm⟩
 | quU=>exact zbF hm λq h=>⟨zyD h1 h2 q,h⟩
 | rmU=>exact zbF hm λq h=>⟨zzJ h1 h2 q,h⟩
 | cat=>exact zbF hm λq h=>⟨zBl h1 h2 q,h⟩
theorem Cn.sound {P:Program} {c:Ctx} {o1:Option Nat} {σ:St} {m':Option β} {s s':TypeDesc} (h:Cn P s s' R m V m') (hP:c.P=P) (a:UnC P T1 s) (b:UnC P T2 s') (h1:zA σ.Γ u=some R) (hm:m=some r):OpV c ⟨o1,.convert T1 T2 u,ty,pos,af,g⟩ σ V/\m'=some r:=by
 subst hP
 cases h with
 | ii=>exact ⟨zBV a.h b.h h1,hm⟩
 | iu=>exact ⟨zBK a.h b.h h1,hm⟩
 | ib=>exact ⟨zyF a.h b.h h1,hm⟩
 | bi=>exact ⟨zz1 a.h b.h h1,hm⟩
 | bu=>exact ⟨zhy a.h b.h h1,hm⟩
 | ui=>exact zfw hm λq h=>⟨zAj a.h b.h h1 q,h⟩
 | uu=>exact ⟨zBX a.h b.h h1,hm⟩
 | ub=>exact ⟨zye a.h b.h h1,hm⟩
 | bs s=>exact ⟨zBN a.h (UnC.h (self:=inferInstance)) b.h h1 s.h,hm⟩
theorem Fd.sound {P:Program} {c:Ctx} {n:Nat} {o1:Option Nat} {σ:St} (h:Fd P T1 n R V) (hP:c.P=P) (h1:zA σ.Γ u=some R):OpV c ⟨o1,.fieldAddr T1 u n,ty,pos,af,g⟩ σ V:=by
 subst hP
 cases h with
 | I e=>exact zBD h1 _ ‹@za8 _ _ _ _ _ _ _ _›.h e.h
 | B=>exact zpp h1 _ ‹@za8 _ _ _ _ _ _ _ _›.h
 | P=>exact zBr h1 _ ‹@za8 _ _ _ _ _ _ _ _›.h
 | E=>exact zBR h1 _ ‹@za8 _ _ _ _ _ _ _ _›.h
theorem Nc.sound {c:Ctx} {o1:Option Nat} {σ:St} (h:Nc R) (h1:zA σ.Γ u=some R):OpV c ⟨o1,.nilCheck u,ty,pos,af,g⟩ σ R:=by
 cases h with
 | B=>exact zhd h1
 | I=>exact zrl h1
 | O=>rw [zqw] at h1 ⊢;exact zhd h1
 | P=>exact zng h1
 | E=>exact zAK h1
theorem Ln.sound {P:Program} {c:Ctx} {q:Int} {o1:Option Nat} {σ:St} (h:Ln P T1 H R q) (hP:c.P=P) (h1:zA σ.Γ u=some R):OpV c ⟨o1,.call ⟨.builtin .len,#[u],#[T1]⟩,ty,pos,af,g⟩ σ (isv q):=by
 subst hP
 cases h with
 | L e=>exact zBF e.h h1
 | A e=>exact zAW h1 zb6 e.h
 | S e=>exact zAc e.h h1
 | V _ e=>exact zo4 e.h h1
theorem zBw {c:Ctx} {d:Option Nat} {σ:St} (hx:zA σ.Γ u=some (isv b)) (hb:t.p b) (hy:zzZ σ.Γ t u1 u2=some R):OpV c ⟨d,.pick u u1 u2,ty,pos,af,g⟩ σ R:=by
 cases t with
 | y=>exact zb7 hx hb hy
 | n=>exact zb5 hx hb hy
 | u=>cases hy
theorem Ld.sound {c:Ctx} {Q:Exit->Act->World->Prop} {s:Ot β} (h:Ld c.P c.pin Γ H T1 d m D.X.isT R s) (h1:zA Γ u=some R) (hd:Nat.blt d c.n=true) (hm:m=some r) (k:s.ok r λΓ' H'=>D.r.p c Q ⟨Γ',H'⟩):D.X.opP c Q (D.o (.load T1 u) d) ⟨Γ,H⟩:=by
 generalize hb:D.X.isT=tb at h
 cases h with
 | IP e=>exact zgr (zrS e.h h1) hd hm k
 | I e=>exact zgr (zan e.h h1) hd hm k
 | T e hp e2=>exact Dx.opT hb λK hK=>zhh e.h h1 hp (by rw [e2];exact zoZ) (hK _ (k hm)) hd
 | V e hp e2=>exact Dx.opT hb λK hK=>zhh e.h h1 hp (by rw [e2];exact ztH) (hK _ (k hm)) hd
 | B e hp e2=>exact Dx.opT hb λK hK=>zhh e.h h1 hp (by rw [e2.h];exact λ_ _ h=>h) (hK _ (k hm)) hd
 | PT e hp e2=>exact zgr (ztM e.h h1 hp (by rw [e2];exact zoZ)) hd hm k
 | PV e hp e2=>exact zgr (ztM e.h h1 hp (by rw [e2];exact ztH)) hd hm k
 | PB e hp e2=>exact zgr (ztM e.h h1 hp (by rw [e2.h];exact λ_ _ h=>h)) hd hm k
 | E e hp=>exact zav hm λy hy h=>Dx.opT hb λK hK=>znK e.h h1 hp hy (hK _ (k y h)) hd
theorem Ix.sound {c:Ctx} {Q:Exit->Act->World->Prop} {s:Ot β} (h:Ix c.P T1 Γ H d R1 R2 m s) (h1:zA Γ u1=some R1) (h2:zA Γ u2=some R2) (hd:Nat.blt d c.n=true) (hm:m=some r) (k:s.ok r λΓ' H'=>D.r.p c Q ⟨Γ',H'⟩):D.X.opP c Q (D.o (.indexAddr T1 u1 u2) d) ⟨Γ,H⟩:=by
 cases h with
 | L e=>exact zav hm λy q h=>Dx.opV (zyM h1 (λ_ _ h=>h) h2 e.h q) hd (k y h)
 | A e=>exact zav hm λy q h=>Dx.opV (zyM h1 zb6 h2 e.h q) hd (k y h)
 | V _ e en=>exact zyw hm λq1 q2 h=>Dx.opV (zna e.h h1 h2 q1 (by rw [en.h];exact q2)) hd (k h)
theorem BuG.h {α:Type} [Rep α] {P:Program} {x z:α} {l:List (Nat × Operand)} (h:BuG P T1 Γ x l z):zpa P T1 Γ x l z:=by
 induction h with
 | nil=>exact .nil
 | cons e s _ ih=>exact .cons _ ‹@za8 _ _ _ _ _ _ _ _›.h e s.h ih
theorem ElG.h {α:Type} {I:Rep α} {n:Nat} {z:List α} {l:List (Nat × Operand)} (h:ElG I Γ n l z):znh Γ n l z:=by
 induction h with
 | nil=>exact .nil
 | cons e s _ ih=>exact .cons e s.h ih
theorem Lo.h {lo:Option Operand} {k:Int} (h:Lo Γ lo k):(lo=none/\k=0) \/ ∃ o,lo=some o/\zA Γ o=some (isv k):=by
 cases h with
 | n=>exact .inl ⟨rfl,rfl⟩
 | s e=>exact .inr ⟨_,rfl,e⟩
theorem Hi.h {n:Nat} {hi:Option Operand} {k:Int} (h:Hi Γ n hi k):(hi=none/\k=n) \/ ∃ o,hi=some o/\zA Γ o=some (isv k):=by
 cases h with
 | n=>exact .inl ⟨rfl,rfl⟩
 | s e=>exact .inr ⟨_,rfl,e⟩
theorem Sc.sound {P:Program} {c:Ctx} {o1:Option Nat} {lo hi:Option Operand} {m':Option β} (h:Sc P T1 Γ lo hi R m V m') (hP:c.P=P) (h1:zA Γ u=some R) (hm:m=some r):OpV c ⟨o1,.slice T1 u lo hi none,ty,pos,af,g⟩ ⟨Γ,H⟩ V/\m'=some r:=by
 subst hP
 cases h with
 | S e a b=>exact zcd hm λq h=>⟨zBs e.h h1 a.h b.h q.1 q.2.1 q.2.2,h⟩
 | L e a b=>exact zcd hm λq h=>⟨zmB h1 (λ_ _ h=>h) e.h a.h b.h q.1 q.2.1 q.2.2,h⟩
 | A e a b=>exact zcd hm λq h=>⟨zmB h1 zb6 e.h a.h b.h q.1 q.2.1 q.2.2,h⟩
theorem Ap.sound {c:Ctx} {Q:Exit->Act->World->Prop} {s:Ot β} (h:Ap c.P T1 T2 Γ H d R1 R2 m s) (h1:zA Γ u1=some R1) (h2:zA Γ u2=some R2) (hX:D.X.isT=true) (hd:Nat.blt d c.n=true) (hm:m=some r) (k:s.ok r λΓ' H'=>D.r.p c Q ⟨Γ',H'⟩):D.X.opP c Q (D.o (.call ⟨.builtin .append,#[u1,u2],#[T1,T2]⟩) d) ⟨Γ,H⟩:=by
 cases h with
 | N s e=>exact zbF hm λq h=>Dx.opT hX λK hK=>zqj e.h h1 h2 s.h q (λt=>hK _ (k t h)) hd
 | T hp s e=>exact zbF hm λq h=>znz hX hp.h (Dx.opT hX λK hK=>ziX e.h h1 (λ_ _ h=>h) h2 s.h .here q (λt=>hK _ (k t h)) hd)
 | V hp n s e=>exact zbF hm λq h=>znz hX hp.h (Dx.opT hX λK hK=>zq5 e.h h1 h2 s.h .here n.h q (λt=>hK _ (k t h)) hd)
theorem O.sound {c:Ctx} {Q:Exit->Act->World->Prop} {s:Ot β} (h:O c.P c.pin Γ H d D.X.isT p m s) (hT:zkB c) (hd:Nat.blt d c.n=true) (hm:m=some r) (k:s.ok r λΓ' H'=>D.r.p c Q ⟨Γ',H'⟩):D.X.opP c Q (D.o p d) ⟨Γ,H⟩:=by
 generalize hb:D.X.isT=tb at h
 cases h with
 | mv e=>exact zgr (zc0 e) hd hm k
 | ae=>exact zgr zu1 hd hm k
 | as e=>exact zgr (zjo e) hd hm k
 | vc e1 e2 hp hn e=>exact zcd hm λq h=>Dx.opV (zAo e1 e.h hp hn.h e2 q.1 q.2) hd (ziT (zw3 _ ((hp))) (k h))
 | mk e e1 e2=>exact zcd hm λq h=>Dx.opT hb λK hK=>zuN e.h ‹@zep _ _ _ _ _›.h (UnC.h (self:=inferInstance)) e1 e2 q.1 rfl q.2 (λt=>hK _ (k t h)) hd
 | pk e1 e2 e3=>exact zgr (zBw e1 e2.h e3) hd hm k
 | ld e h=>subst hb;exact h.sound e hd hm k
 | fa e h=>exact zgr (h.sound rfl e) hd hm k
 | nc e h=>exact zgr (h.sound e) hd hm k
 | neE e=>exact zgr (zA1 ‹IfC _ _›.h e) hd hm k
 | mn e1 e2=>exact zgr (zBu e1 e2) hd hm k
 | mx e1 e2=>exact zgr (zzY e1 e2) hd hm k
 | s3 e e1 e2 h=>exact zcd hm λq hh=>Dx.opV (zzP e (λ_ _ h=>h) h.h e1 e2 q.1 q.2) hd (k hh)
 | bi e1 e2 h => exact Dx.opV (h.sound rfl e1 e2 hm).1 hd (k (h.sound (o1 := none) (σ := ⟨Γ, H⟩) (ty := 0) (pos := "") (af := #[]) (g := none) (T2 := 0) rfl e1 e2 hm).2)
 | ix e1 e2 h=>exact h.sound e1 e2 hd hm k
 | is e1 e2 e=>exact zav hm λy q h=>Dx.opV (zBc y e.h e1 e2 q) hd (k y h)
 | ln e h=>exact zgr (h.sound rfl e) hd hm k
 | ex e1 e2=>exact zgr (zlk e1 e2) hd hm k
 | nt e=>exact zgr (zxD e) hd hm k
 | ng e=>exact zfw hm λq h=>Dx.opV (zBp e q) hd (k h)
 | @cn _ _ _ _ i1 i2 _ _ _ _ _ _ e h => exact Dx.opV (h.sound rfl i1 i2 e hm).1 hd (k (h.sound (o1 := none) (σ := ⟨Γ, H⟩) (ty := 0) (pos := "") (af := #[]) (g := none) rfl i1 i2 e hm).2)
 | fl e h =>
  cases h with
  | I ha=>exact zgr (zzM _ ha ‹@za8 _ _ _ _ _ _ _ _›.h e) hd hm k
 | bu ha h e=>exact zgr (zjX ha e.h ‹@zep _ _ _ _ _›.h h.h) hd hm k
 | bl h e e2 =>
  have e2:=e2.h
  rw [zBa] at e2
  exact Dx.opT hb λK hK=>zcc e2.1 h.h e e2.2 (hK _ (k hm)) hd
 | sl e h => exact Dx.opV (h.sound rfl e hm).1 hd (k (h.sound (o1 := none) (H := H) (ty := 0) (pos := "") (af := #[]) (g := none) rfl e hm).2)
 | ap e1 e2 h=>exact h.sound e1 e2 hb hd hm k
 | sb e=>exact zbF hm λq h=>Dx.opT hb λK hK=>zBT (UnC.h (self:=inferInstance)) (UnC.h (self:=inferInstance)) (UnC.h (self:=inferInstance)) e q (hK _ (k h)) hd
 | mf e=>exact zgr (ztm e.h) hd hm k
 | bx e s=>exact Dx.opT hb λK hK=>ztK e s.h (hK _ (k hm)) hd
 | al=>exact Dx.opT hb λK hK=>zhF _ ‹@zep _ _ _ _ _›.h (λb=>hK _ (by rw [<- zqw];exact k b hm)) hd
theorem Sto.sound {c:Ctx} {Q:Exit->Act->World->Prop} {s:Ot β} {i:Nat} (h:Sto c.P Γ H T1 i R1 R2 m s) (h1:zA Γ (.tmp i)=some R1) (h2:zA Γ u2=some R2) (hX:D.X.isT=true) (hm:m=some r) (k:s.ok r λΓ' H'=>D.r.p c Q ⟨Γ',H'⟩):D.X.opP c Q (D.n (.store T1 (.tmp i) u2)) ⟨Γ,H⟩:=by
 cases h with
 | O e hp s =>
  rw [zqw] at h1
  refine Dx.opT hX λK hK=>OpT.upd (zmg e.h h1 h2 s.h hp rfl (K:=λσ=>σ=⟨Γ,zj _ _ :: _⟩) rfl) λσ' hs=>?_
  subst hs
  exact ⟨_,hK _ (k hm),znO i .here h1⟩
 | B e hp s z=>exact Dx.opT hX λK hK=>zmg e.h h1 h2 s.h hp z.h (hK _ (k hm))
 | E e hp=>exact zav hm λy hy h=>Dx.opT hX λK hK=>zo8 e.h h1 h2 hp hy (hK _ (k y h))
theorem zBI {Γ':zL} {H':List Ent} {x:Code} (hu:Upd c ⟨Γ',H'⟩ ⟨Γ,H⟩) (h:(Jd.wp x).p c r K Γ H):(Jd.wp x).p c r K Γ' H':=zt5 hu h
theorem zAB {ι:Type} {A:JA ι} {R:ι->Option β} (h:(Jd.jk A j R).p c r K Γ H):∀ i,R i=some r->A.all λmod Hm=>j.p c r K (mod i ++ Γ) (Hm i ++ H) :=
 λi hi=>JA.all_lf.2 λmod Hm e=>JA.all_lf.1 h mod Hm e i hi
theorem zzT {ι:Type} {A:JA ι} {R:ι->Option β} {n:Bool × Nat} {j':Jd β} {K':Kn β} (h:(Jd.jk A j R).p c r K Γ H) (hu:∀ {Γ Γ' H H'},Upd c ⟨Γ',H'⟩ ⟨Γ,H⟩->j.p c r K Γ H->j'.p c r K' Γ' H'):AJ (go n R) A j' c r K' Γ H :=
 AJ.mk λi hi=>JA.all_lf.2 λmod Hm e Γ' H' hk=>hu hk (JA.all_lf.1 (zAB h i (by rw [zjP] at hi;exact hi)) mod Hm e)
theorem zBH {ι:Type} {A:JA ι} {Q:Exit->Act->World->Prop} {F:(ι->Option β)->ι->Option β} {i0:ι} (h:lp F i0=some r)
    (hx:∀ (L:ι->Option β) (Q':Exit->Act->World->Prop),(∀ i,L i=some r->A.all λmod Hm=>∀ Γ' H',Upd c ⟨Γ',H'⟩ ⟨mod i ++ Γ,Hm i ++ Hr⟩->Fin c ⟨Γ',H'⟩ Q')->(∀ id σ',Exi c id σ' Q->Exi c id σ' Q')->(∀ σ',Ret c σ' Q->Ret c σ' Q')->A.all λmod Hm=>∀ i,F L i=some r->Wp c x ⟨mod i ++ Γ,Hm i ++ Hr⟩ Q') :
    A.all λmod Hm=>Wp c (.loop x) ⟨mod i0 ++ Γ,Hm i0 ++ Hr⟩ Q:=by
  refine JA.all_lf.2 λmod Hm e=>?_
  refine zvS (ι:=Nat × ι × (ι->zL) × (ι->List Ent)) (λp=>lpN F p.1 p.2.1=some r/\A.lf p.2.2.1 p.2.2.2) (λp=>⟨p.2.2.1 p.2.1 ++ Γ,p.2.2.2 p.2.1 ++ Hr⟩) (λp=>p.1) (fuel,i0,mod,Hm) ⟨h,e⟩ ⟨zsp,_,zj5⟩ ?_
  rintro ⟨n,i,mod,Hm⟩ ⟨hI,e⟩
  cases n with
  | zero=>cases hI
  | succ n =>
    exact JA.all_lf.1 (hx (lpN F n) _ (λj hj=>JA.all_lf.2 λmod' Hm' e' Γ' H' hu=>znC hu (zrZ (n,j,mod',Hm') ⟨hj,e'⟩ (Nat.lt_succ_self n) ⟨zsp,_,zj5⟩)) (λid σ' he=>zrO he) (λσ' hr=>zr5 hr)) mod Hm e i hI
theorem G.sound (h:G r f j c Γ H K m):zkB c->m=some r->j.p c r K Γ H:=by
 induction h with
 | run_go _ _ ih | rj_f _ ih | ru_l _ ih | fin_go _ _ ih | fin_any _ ih | fj_f _ ih | cnd_x _ ih | blk_x _ ih | reg_x _ ih | loo_x _ ih | jx_b _ _ ih | jx_t _ _ ih | jx_w _ _ ih=>exact ih
 | gt_jx _ ih=>exact λhT h _ _=>ih hT h
 | run_n e _ ih=>exact λhT h=>zl8 rfl (ih hT h e.h)
 | run_0 _ ih=>exact λhT h=>zl8 rfl (ih hT h)
 | run_g e _ ih=>exact λhT h=>ih hT h e
 | run_e _ ih=>exact λhT h=>zkX (ih hT h)
 | kt_c _ ih=>exact λhT _ h=>ih hT h
 | kt_a _ ih=>exact λhT h y=>ih y hT h
 | call e _ ih =>
  intro hT h hd
  refine zav h λy hy h=>?_
  obtain ⟨as,Hc,Hr,H1,post,h1,h2,hu,h3,h4⟩:=ih y hT h (‹zd _ _ _ _›.h y hy)
  exact znz e hu (Dx.opT e λK hK=>ztc (List.append_nil as ▸ h1) hT h2 h3 (λR H' hp=>hK _ (h4 R H' hp)) hd)
 | callc e _ ih=>exact λhT h=>ih hT h e
 | cf e _ ih =>
  intro hT h hf hd
  refine zav h λy hy h=>?_
  obtain ⟨as,Hc,Hr,H1,post,h1,h2,hu,h3,h4⟩:=ih y hT h (‹zd _ _ _ _›.h y hy)
  exact znz e hu (Dx.opT e λK hK=>zzu hf h2 h1 hT h3 (λR H' hp=>hK _ (h4 R H' hp)) hd)
 | op h _ ih | al0 h _ ih | bx0 h _ ih | bu0 h _ ih=>exact λhT hm hd=>h.sound hT hd hm (ih hT hm)
 | store e1 e2 h hX _ ih=>exact λhT hm=>h.sound e1 e2 hX hm (ih hT hm)
 | none=>exact λ_ h=>by cases h
 | asq _ ih=>exact λhT h hd=>zcd h λq h=>ih q hT h hd
 | lpn e1 e2 e _ ih=>exact λhT h hd=>Dx.opV (zuQ e.h e1 e2) hd (ih hT h)
 | bv h e e2 hX _ ih =>
  have e2:=e2.h
  rw [zBa] at e2
  exact λhT hm hd=>Dx.opT hX λK hK=>zto e2.1 h.h e e2.2 (λt=>hK _ (ih t hT hm)) hd
 | al1 hX _ ih=>exact λhT h hd=>Dx.opT hX λK hK=>zhF _ ‹@zep _ _ _ _ _›.h (λb=>hK _ (ih b hT h)) hd
 | al2 hX _ ih=>exact λhT h hd=>Dx.opT hX λK hK=>zhF _ ‹@zkl _ _ _ _ _›.h (λb=>hK _ (ih b hT h)) hd
 | bx1 hX e s _ ih=>exact λhT h hd=>Dx.opT hX λK hK=>zwH e s.h (λb=>hK _ (ih b hT h)) hd
 | bu2 ha e1 e2 _ ih=>exact λhT h hd=>Dx.opV (zjX ha e2.h ‹@zkl _ _ _ _ _›.h e1.h) hd (ih hT h)
 | pe_n e _ ih=>exact λhT h=>zx6 rfl (ih hT h e.h)
 | pe_g e _ ih=>exact λhT h=>ih hT h e
 | pe_0 _ ih=>exact λhT h=>zx6 rfl (ih hT h)
 | seq _ ih=>exact λhT h=>zeL (ih hT h)
 | reg _ ih=>exact λhT h=>zdQ (ih hT h)
 | cnd_a e _ _ ih1 ih2=>exact λhT h=>zcp h e (λ_ h=>ih1 hT h) (λ_ h=>ih2 hT h)
 | cnd_b e _ _ ih1 ih2=>exact λhT h=>zcp h e (λ_ h=>ih1 hT h) (λ_ h=>ih2 hT h)
 | fin_n _ ih | fi_n _ ih=>exact λhT h=>zc7 (ih hT h)
 | skp _ ih=>exact λhT h=>zm9 (ih hT h)
 | blk _ ih=>exact λhT h=>zec (ih hT h)
 | rtn _ ih=>exact λhT h=>zoy (ih hT h)
 | re_n _ ih=>exact λhT h=>zhi (ih hT h)
 | re_b _ ih=>exact λhT h=>zeM (ih hT h)
 | gd_b e _ ih=>exact λhT h hv=>ih hT h e.h hv
 | gd_u e _ ih=>exact λhT h hv=>zAS e.h hv (ih hT h)
 | gt_t e _ ih | gt_f e _ ih=>exact λhT h hb hv=>zAO hb rfl hv (ih hT h e.h)
 | gt_pt e _ ih | gt_pf e _ ih=>exact λhT h hb hv=>zAL hb e.h hv (ih hT h)
 | gt_ua _ _ ih1 ih2 | gt_ub _ _ ih1 ih2=>exact λhT h _ hv=>brh h (λe h=>ih1 e hT h) (λe h=>ih2 e hT h)
 | gt_jl _ _ ih1 ih2=>exact λhT h _ hv=>ih2 _ (AJ.mk λi hi Γ' H' hu=>ziT hu (ih1 i hT (by rw [zjP] at hi;exact hi))) hT (by rw [zjP];exact h)
 | gt_jd _ _ e ih1 ih2 | gt_jt _ _ e ih1 ih2=>exact λhT h _ hv _=>ih2 _ (AJ.mk λi hi Γ' H' hu=>ziT hu (ih1 i hT (by rw [zjP] at hi;exact hi))) hT (by rw [zjP];exact h) e
 | jm_l _ _ _ ih1 ih2 | jm_v _ _ _ ih1 ih2 | jm_t _ _ _ ih1 ih2=>exact λhT h=>ih2 _ (zzT (ih1 hT h) λhu h=>ziT hu h) hT (by rw [zjP];exact h)
 | jm_w _ _ _ ih1 ih2=>exact λhT h=>ih2 _ (zzT (ih1 hT h) λhu h=>znC hu (zc7 h)) hT (by rw [zjP];exact h)
 | jm_k _ _ _ ih1 ih2=>exact λhT h=>ih1 hT h (JA.all_lf.2 λmod Hm e Γ' H' hu=>zt5 hu (JA.all_lf.1 (zBH h λL Q' hL hE hR=>by have:=ih2 L Q' (AJ.mk λi hi=>hL i (by rw [zjP] at hi;exact hi)) (LK.mk ⟨hE,hR⟩) hT h;rw [zjP] at this;exact this) mod Hm e))
 | rj_t a _ ih | fj_t a _ ih=>exact λhT h=>ih hT h (a.h _ h)
 | jk_v _ ih=>exact λhT h i hi=>ih i hT hi
 | jk_t _ ih | jk_w _ ih | jk_b _ ih=>exact λhT h k=>ih k hT h
 | ak_v e1 e2 e3 e4=>exact λhT h a=>a _ _ (e4.up (znS _ e1 e2.h e3.h))
 | ak_t _ ih | ak_w _ ih | ak_b _ ih=>exact λhT h a=>ih hT h (a _)
 | cl_m e1 e2 _ ih =>
  intro hT h hA
  obtain ⟨as,rfl,e⟩:=e1.h
  exact ⟨_,_,_,_,_,hA,e,by simpa using e2.upd [],zne,ih hT h⟩
 | cl_t _ ih | cl_v _ ih | cl_b _ ih=>exact λhT h hA=>ih hT h (hA _)
 | ps_m hc _ ih=>exact λhT h R H' ⟨e1,e2⟩=>e1 ▸ e2 ▸ ziT hc.upd (ih hT h)
 | ps_t _ ih | ps_v _ ih | ps_b _ ih=>exact λhT h R H' ⟨k,e⟩=>ih k hT h R H' e
 | fF_r hp e _ ih=>exact λhT h=>ziT (zhn _ hp zlX e.h) (ih hT h)
 | fF_t e1 hp e _ ih=>exact λhT h=>zgW (zhn _ hp e1 e.h) (ih hT h)
 | fB_r hp hq k _ ih=>cases k with | mk=>exact λhT h=>ziT ((zrb hp hq ‹CvF _ _ _ _ _ _ _ _›.h).trans (zbm _ zlX (zr7 ‹CvF _ _ _ _ _ _ _ _›.o))) (ih hT h)
 | fB_w e1 hp hq k _ ih=>cases k with | mk=>exact λhT h=>zBI ((zrb hp hq ‹CvF _ _ _ _ _ _ _ _›.h).trans (zbm _ e1 (zr7 ‹CvF _ _ _ _ _ _ _ _›.o))) (ih hT h)
 | up e2 _ ih=>exact λhT h=>ziT (zbm _ zlX e2.h) (ih hT h)
 | run_2 _ _ ih1 ih2 | ru_2 _ _ ih1 ih2=>exact λhT h=>zqJ (ih1 hT h) (ih2 hT h)
 | run_v e _ ih | run_t e _ ih | ru_v e _ ih | ru_t e _ ih=>exact λhT h=>ih hT h e
 | run_d _ ih=>exact λhT h=>zgV (ih hT h)
 | regD e1 e2 _ ih | regE e1 e2 _ ih=>exact λhT h=>zeO _ e1.h e2.h (ih hT h)
 | pin e hp _ ih=>exact λhT h=>zxm _ hp e λo hn=>ih o (Nd.mk hn) hT h
 | fi_u e hn _ ih=>exact λhT h=>zoA _ hn.h e (ih hT h)
 | ext _ ih=>exact λhT h=>zx2 (ih hT h)
 | cnd_j _ _ ih1 ih2 | blk_j _ _ ih1 ih2=>exact λhT h=>ih2 _ (AJ.mk λi hi Γ' H' hu=>znC hu (zc7 (ih1 hT h i (by rw [zjP] at hi;exact hi)))) hT (by rw [zjP];exact h)
 | loo e _ ih=>exact λhT h=>zBk e.h h λL i Q' h hL hE hR=>ih (L:=L) i Q' (AJ.mk λi hi Γ' H' hu=>znC hu (hL i (by rw [zjP] at hi;exact hi))) (LK.mk ⟨hE,hR⟩) hT (by rw [zjP];exact h)
 | fi_b _ ih=>exact λhT h=>zgu (ih hT h)
 | fi_p _ ih | re_p _ ih=>exact λhT h=>ih hT h (by cases h;exact λ_ _ h=>h)
 | ex_n _ ih=>exact λhT h=>zt6 (ih hT h)
 | ex_b _ ih=>exact λhT h=>zeJ (ih hT h)
 | ex_p e _ ih=>exact λhT h=>zwt e (ih hT h)
 | ex_l a _ ih=>exact λhT h=>a.h.1 _ _ (ih hT h)
 | re_l a _ ih=>exact λhT h=>a.h.2 _ (ih hT h)
 | rp_t _ ih | rp_v _ ih | rp_b _ ih=>exact λhT h=>rpW (λhk=>ih hT h) λ_ _ e=>⟨_,e⟩
 | rp_m e1 e2=>exact λhT h hk=>rpM e1 e2 hk
end
def AC.ok {β:Type} (Q:List VP->List Ent->(β->AP)->Prop):AC β->Prop
 | .mk as H A=>Q as H A
 | .t A=>∀ x,(A x).ok Q
 | .v A=>∀ x,(A x).ok Q
 | .b A=>∀ x,(A x).ok Q
theorem AC.ok_p {β:Type} {P:Program} {f:FuncId} {r:β} {Q:List VP->List Ent->(β->AP)->Prop} (hQ:∀ as H A,Q as H A->Ctr P f as H (A r).p):∀ {A:AC β},A.ok Q->A.p P f r
 | .mk as H A,h=>hQ as H A h
 | .t A,h=>λx=>AC.ok_p hQ (h x)
 | .v A,h=>λx=>AC.ok_p hQ (h x)
 | .b A,h=>λx=>AC.ok_p hQ (h x)
theorem zd.of {β:Type} {P:Program} {i:FuncId} {fn:Func} {code:Code} {A:AC β} {m:Option β} (f:Fu) (hf:P.funcs[i]?=some fn) (hb:fn.body=some code)
    (h : A.ok fun as H B => Nat.ble as.length fn.ntmps = true ∧ ∀ r w0 S0, G r f (.wp code) ⟨P, fn.ntmps, w0, S0, zbL H, []⟩ (zj7 0 as) H (.po fn w0 S0 H B) m) (hn : (fn.name == "runtime.NumGoroutine") = false := by decide +kernel) : zd P i m A :=
  ⟨λr hr=>AC.ok_p (λ_ _ _ k=>zen hf hb (λw0 S0 hT=>(k.2 r w0 S0).sound hT hr) hn k.1) h⟩
theorem cw {β:Type} {P:Program} {f:FuncId} {m:Option β} {A:AC β} [zd P f m A] {r:β} (h:m=some r):A.p P f r:=zd.h _ h
theorem au {p:Prop} (h:p:=by
 first
 | assumption
 | exact zmm.y (by assumption)
 | exact zmm.n (by assumption)
 | exact zmm.u
 | exact Nz.mk
 | exact EqS.mk):p:=h
theorem W {β:Type} {P:Program} {i:FuncId} {fn:Func} {code:Code} {A:AC β} {m:Option β} (f:Fu) (hf:P.funcs[i]?=some fn) (hb:fn.body=some code)
    (h:A.ok λas H B=>Nat.ble as.length fn.ntmps=true/\∀ r w0 S0,G r f (.wp code) ⟨P,fn.ntmps,w0,S0,zbL H,[]⟩ (zj7 0 as) H (.po fn w0 S0 H B) m:=by
      repeat' first | constructor | exact fa | exact au | intro) (hn : (fn.name == "runtime.NumGoroutine") = false := by decide +kernel) : zd P i m A := zd.of f hf hb h hn
end Go.Sy
namespace Go.Proofs.Q
open Go.Sy
def zdI (n b:Int):Option Str:=bif decide (b=10) && Nat.ble (Lib.itoa n).length 100 then some ⟨Lib.itoa n⟩ else none
def strings_ReplaceAll (s o n:Str):Option Str:=bif Nat.ble s.b.length 1000000 && Nat.ble 1 o.b.length && Nat.ble (s.b.length + Lib.count s.b o.b * n.b.length) 140737488355328 && Nat.ble (Lib.replaceAll s.b o.b n.b).length 4294967296 then some ⟨Lib.replaceAll s.b o.b n.b⟩ else none
def zbb (s:Str) (b z:Int):Option (Int × Er):=bif decide (b=10) && decide (z=64) && Nat.ble s.b.length 281474976710656 then (match Lib.parseIntB 64 s.b with
 | .ok v=>some (v,⟨false⟩)
 | .range=>some (Lib.intSat 64 s.b,⟨true⟩)
 | _=>some (0,⟨true⟩)) else none
theorem zzW (l:List UInt8):zc1 (Lib.intSat 64 l):=by
 unfold Lib.intSat
 split <;> exact zkV (by decide) (by decide)
theorem zrI {l:List UInt8} {v:Int} (h:Lib.parseIntB 64 l=.ok v):zc1 v:=by
 unfold Lib.parseIntB at h
 split at h
 ·cases h
 ·dsimp only at h
  split at h
  ·cases h
  ·cases h
  ·rename_i u _
   split at h
   ·cases h
   ·split at h
    ·cases h
    ·rename_i h1 h2
     injection h with h
     subst h
     split
     ·rename_i h3
      have:¬ 2 ^ 63 < u:=λh4=>h2 ⟨h3,h4⟩
      exact zkV (by omega) (by omega)
     ·rename_i h3
      have:¬ 2 ^ 63 <= u:=λh4=>h1 ⟨h3,h4⟩
      exact zkV (by omega) (by omega)
def utf8_ValidString (s:Str):Option Bool:=some (Lib.validD s.b)
def zgy (a_s:Str) (a_i:Int):Option (UInt8) :=
 jp (ι:=Bool) (λJ2=>br (decide (a_i < (0:Int))) (J2 (true)) (J2 ((decide ((a_s.b.length:Int) <= a_i))))) (λq1=>br q1 (some ((0:UInt8))) (cal (zs a_s.b a_i) λy4=>some (y4)))

def zhb (a_s:Str) (a_i:Int):Option (Int) :=
 lp (ι:=Int) (λL2 q1=>br (decide (q1 < (a_s.b.length:Int))) (cal (zs a_s.b q1) λy51=>jp (ι:=Bool) (λJ53=>br (decide (y51=(32:UInt8))) (J53 (true)) (cal (zs a_s.b q1) λy55=>J53 ((decide (y55=(9:UInt8)))))) (λq52=>jp (ι:=Bool) (λJ57=>br q52 (J57 (true)) (cal (zs a_s.b q1) λy59=>J57 ((decide (y59=(10:UInt8)))))) (λq56=>jp (ι:=Bool) (λJ61=>br q56 (J61 (true)) (cal (zs a_s.b q1) λy63=>J61 ((decide (y63=(13:UInt8)))))) (λq60=>br q60 (ck ((q1 + (1:Int))) <| L2 ((q1 + (1:Int)))) (cal (zs a_s.b q1) λy65=>jp (ι:=Bool) (λJ67=>br (decide (y65=(45:UInt8))) (ck ((q1 + (1:Int))) <| cal (zgy a_s (q1 + (1:Int))) λy70=>J67 ((decide (y70=(45:UInt8))))) (J67 (false))) (λq66=>br q66 (ck ((q1 + (2:Int))) <| lp (ι:=Int) (λL73 q72=>jp (ι:=Bool) (λJ87=>br (decide (q72 < (a_s.b.length:Int))) (cal (zs a_s.b q72) λy89=>J87 ((!decide (y89=(10:UInt8))))) (J87 (false))) (λq86=>br q86 (cal (zs a_s.b q72) λy90=>jp (ι:=Bool) (λJ92=>br (decide (y90=(45:UInt8))) (ck ((q72 + (1:Int))) <| cal (zgy a_s (q72 + (1:Int))) λy95=>J92 ((decide (y95=(45:UInt8))))) (J92 (false))) (λq91=>br q91 (ck ((q72 + (2:Int))) <| L2 ((q72 + (2:Int)))) (ck ((q72 + (1:Int))) <| L73 ((q72 + (1:Int)))))) (L2 (q72)))) (((q1 + (2:Int))))) (some (q1)))))))) (some (q1))) ((a_i))

def zf8 (a_c:UInt8):Option (Bool) :=
 jp (ι:=Bool) (λJ2=>br (decide ((97:UInt8) <= a_c)) (J2 ((decide (a_c <= (122:UInt8))))) (J2 (false))) (λq1=>jp (ι:=Bool) (λJ5=>br q1 (J5 (true)) (jp (ι:=Bool) (λJ8=>br (decide ((65:UInt8) <= a_c)) (J8 ((decide (a_c <= (90:UInt8))))) (J8 (false))) (λq7=>J5 (q7)))) (λq4=>some (q4)))

def zfC (a_c:UInt8):Option (Bool) :=
 jp (ι:=Bool) (λJ2=>br (decide ((48:UInt8) <= a_c)) (J2 ((decide (a_c <= (57:UInt8))))) (J2 (false))) (λq1=>some (q1))

def ziy (a_s:Str) (a_i:Int):Option (Int) :=
 lp (ι:=Int) (λL2 q1=>jp (ι:=Bool) (λJ30=>br (decide (q1 < (a_s.b.length:Int))) (cal (zs a_s.b q1) λy32=>cal (zf8 y32) λy33=>jp (ι:=Bool) (λJ35=>br y33 (J35 (true)) (cal (zs a_s.b q1) λy37=>cal (zfC y37) λy38=>J35 (y38))) (λq34=>jp (ι:=Bool) (λJ40=>br q34 (J40 (true)) (cal (zs a_s.b q1) λy42=>jp (ι:=Bool) (λJ44=>br (decide (y42=(45:UInt8))) (ck ((q1 + (1:Int))) <| cal (zgy a_s (q1 + (1:Int))) λy47=>J44 ((!decide (y47=(45:UInt8))))) (J44 (false))) (λq43=>J40 (q43)))) (λq39=>J30 (q39)))) (J30 (false))) (λq29=>br q29 (ck ((q1 + (1:Int))) <| L2 ((q1 + (1:Int)))) (ck ((q1 - (1:Int))) <| cal (zs a_s.b (q1 - (1:Int))) λy50=>jp (ι:=Bool) (λJ52=>br (decide (y50=(45:UInt8))) (J52 (true)) (ck ((q1 - a_i)) <| J52 ((decide ((60:Int) < (q1 - a_i)))))) (λq51=>br q51 (some ((-1:Int))) (some (q1)))))) ((a_i))

def zjI :Option ((List Str)) :=
 some (([(Str.mk [68,69,70,73,78,73,84,73,79,78,83]),(Str.mk [69,88,80,76,73,67,73,84]),(Str.mk [73,77,80,76,73,67,73,84]),(Str.mk [65,85,84,79,77,65,84,73,67]),(Str.mk [84,65,71,83]),(Str.mk [66,69,71,73,78]),(Str.mk [69,78,68]),(Str.mk [66,79,79,76,69,65,78]),(Str.mk [73,78,84,69,71,69,82]),(Str.mk [69,78,85,77,69,82,65,84,69,68]),(Str.mk [78,85,76,76]),(Str.mk [79,67,84,69,84]),(Str.mk [83,84,82,73,78,71]),(Str.mk [85,84,70,56,83,116,114,105,110,103]),(Str.mk [83,69,81,85,69,78,67,69]),(Str.mk [83,69,84]),(Str.mk [67,72,79,73,67,69]),(Str.mk [79,70]),(Str.mk [79,80,84,73,79,78,65,76]),(Str.mk [68,69,70,65,85,76,84]),(Str.mk [83,73,90,69]),(Str.mk [77,73,78]),(Str.mk [77,65,88]),(Str.mk [84,82,85,69]),(Str.mk [70,65,76,83,69])]:(List Str)))

def zgo (a_l:(List Str)) (a_x:Str):Option (Bool) :=
 lp (ι:=Int) (λL2 q1=>br (decide (q1 < (a_l.length:Int))) (cal (zs a_l q1) λy5=>br (decide (y5=a_x)) (some (true)) (ck ((q1 + (1:Int))) <| L2 ((q1 + (1:Int))))) (some (false))) (((0:Int)))

def zia (a_s:Str):Option (Bool) :=
 cal (zjI ) λy1=>cal (zgo y1 a_s) λy2=>some (y2)

def zgh (a_s:Str) (a_i:Int):Option (Int) :=
 cal (zs a_s.b a_i) λy1=>jp (ι:=Int) (λJ3=>br (decide (y1=(45:UInt8))) (ck ((a_i + (1:Int))) <| J3 ((a_i + (1:Int)))) (J3 (a_i))) (λq2=>lp (ι:=Int × UInt64) (λL6 q5=>jp (ι:=Bool) (λJ50=>br (decide (q5.1 < (a_s.b.length:Int))) (cal (zs a_s.b q5.1) λy52=>cal (zfC y52) λy53=>J50 (y53)) (J50 (false))) (λq49=>br q49 (ck ((q5.1 - q2)) <| jp (ι:=UInt64) (λJ56=>br (decide ((q5.1 - q2) < (19:Int))) (cal (zs a_s.b q5.1) λy57=>J56 ((((10:UInt64) * q5.2) + (y57 - (48:UInt8)).toUInt64))) (J56 (q5.2))) (λq55=>ck ((q5.1 + (1:Int))) <| L6 ((q5.1 + (1:Int)),q55))) (ck ((q5.1 - q2)) <| jp (ι:=Bool) (λJ61=>br (decide ((q5.1 - q2) < (1:Int))) (J61 (true)) (J61 ((decide ((19:Int) < (q5.1 - q2)))))) (λq60=>jp (ι:=Bool) (λJ64=>br q60 (J64 (true)) (jp (ι:=Bool) (λJ67=>br (decide ((1:Int) < (q5.1 - q2))) (cal (zs a_s.b q2) λy69=>J67 ((decide (y69=(48:UInt8))))) (J67 (false))) (λq66=>J64 (q66)))) (λq63=>jp (ι:=Bool) (λJ71=>br q63 (J71 (true)) (jp (ι:=Bool) (λJ74=>br (decide (y1=(45:UInt8))) (cal (zs a_s.b q2) λy76=>J74 ((decide (y76=(48:UInt8))))) (J74 (false))) (λq73=>J71 (q73)))) (λq70=>jp (ι:=Bool) (λJ78=>br q70 (J78 (true)) (cal (zgy a_s q5.1) λy80=>cal (zf8 y80) λy81=>J78 (y81))) (λq77=>jp (ι:=Bool) (λJ83=>br q77 (J83 (true)) (J83 ((decide ((9223372036854775808:UInt64) < q5.2))))) (λq82=>jp (ι:=Bool) (λJ86=>br q82 (J86 (true)) (jp (ι:=Bool) (λJ89=>br (!(decide (y1=(45:UInt8)))) (J89 ((decide (q5.2=(9223372036854775808:UInt64))))) (J89 (false))) (λq88=>J86 (q88)))) (λq85=>br q85 (some ((-1:Int))) (some (q5.1))))))))))) ((q2,(0:UInt64))))

def zke (a_s:Str) (a_i:Int):Option (Int × Str) :=
 ck ((a_i + (1:Int))) <| lp (ι:=Int) (λL3 q2=>jp (ι:=Bool) (λJ32=>br (decide (q2 < (a_s.b.length:Int))) (cal (zs a_s.b q2) λy34=>cal (zfC y34) λy35=>jp (ι:=Bool) (λJ37=>br y35 (J37 (true)) (cal (zs a_s.b q2) λy39=>jp (ι:=Bool) (λJ41=>br (decide ((65:UInt8) <= y39)) (cal (zs a_s.b q2) λy43=>J41 ((decide (y43 <= (70:UInt8))))) (J41 (false))) (λq40=>J37 (q40)))) (λq36=>J32 (q36))) (J32 (false))) (λq31=>br q31 (ck ((q2 + (1:Int))) <| L3 ((q2 + (1:Int)))) (ck ((q2 - (a_i + (1:Int)))) <| asr (!decide ((2:Int)=0)) <| jp (ι:=Bool) (λJ48=>br (!decide (((q2 - (a_i + (1:Int))).tmod (2:Int))=(0:Int))) (J48 (true)) (cal (zgy a_s q2) λy50=>J48 ((!decide (y50=(39:UInt8)))))) (λq47=>jp (ι:=Bool) (λJ52=>br q47 (J52 (true)) (ck ((q2 + (1:Int))) <| cal (zgy a_s (q2 + (1:Int))) λy55=>J52 ((!decide (y55=(72:UInt8)))))) (λq51=>br q51 (some ((-1:Int),(Str.mk []))) (ck ((q2 + (2:Int))) <| asr (decide (0 <= (a_i + (1:Int))/\(a_i + (1:Int)) <= q2/\q2 <= (a_s.b.length:Int))) <| some ((q2 + (2:Int)),(Str.mk ((a_s.b.take (q2).toNat).drop ((a_i + (1:Int))).toNat))))))))) (((a_i + (1:Int))))

def zf7 (a_s:Str) (a_i:Int):Option (Int × Str) :=
 ck ((a_i + (1:Int))) <| lp (ι:=Int × Str) (λL3 q2=>br (decide (q2.1 < (a_s.b.length:Int))) (jp (ι:=Int × Str) (λJ18=>cal (zs a_s.b q2.1) λy19=>br (!decide (y19=(34:UInt8))) (ck ((q2.1 + (1:Int))) <| asr (decide (0 <= q2.1/\q2.1 <= (q2.1 + (1:Int))/\(q2.1 + (1:Int)) <= (a_s.b.length:Int))) <| asr (Nat.ble (q2.2.b.length + (Str.mk ((a_s.b.take ((q2.1 + (1:Int))).toNat).drop (q2.1).toNat)).b.length) 4611686018427387904) <| J18 (q2.1,(Str.mk (q2.2.b ++ (Str.mk ((a_s.b.take ((q2.1 + (1:Int))).toNat).drop (q2.1).toNat)).b)))) (ck ((q2.1 + (1:Int))) <| cal (zgy a_s (q2.1 + (1:Int))) λy24=>br (!decide (y24=(34:UInt8))) (cal (utf8_ValidString q2.2) λy25=>br (!y25) (some ((-1:Int),(Str.mk []))) (ck ((q2.1 + (1:Int))) <| some ((q2.1 + (1:Int)),q2.2))) (asr (Nat.ble (q2.2.b.length + (Str.mk [34]).b.length) 4611686018427387904) <| ck ((q2.1 + (1:Int))) <| J18 ((q2.1 + (1:Int)),(Str.mk (q2.2.b ++ (Str.mk [34]).b)))))) (λq17=>ck ((q17.1 + (1:Int))) <| L3 ((q17.1 + (1:Int)),q17.2))) (some ((-1:Int),(Str.mk [])))) (((a_i + (1:Int)),(Str.mk [])))

def ziu (a_s:Str) (a_i:Int):Option (Int) :=
 asr (decide (0 <= a_i/\a_i <= (a_s.b.length:Int)/\(a_s.b.length:Int) <= (a_s.b.length:Int))) <| lp (ι:=Int) (λL4 q3=>br (decide (q3 < (([(Str.mk [58,58,61]),(Str.mk [46,46,46]),(Str.mk [46,46]),(Str.mk [91,91]),(Str.mk [93,93]),(Str.mk [123]),(Str.mk [125]),(Str.mk [91]),(Str.mk [93]),(Str.mk [40]),(Str.mk [41]),(Str.mk [44]),(Str.mk [58])]:(List Str)).length:Int))) (cal (zs ([(Str.mk [58,58,61]),(Str.mk [46,46,46]),(Str.mk [46,46]),(Str.mk [91,91]),(Str.mk [93,93]),(Str.mk [123]),(Str.mk [125]),(Str.mk [91]),(Str.mk [93]),(Str.mk [40]),(Str.mk [41]),(Str.mk [44]),(Str.mk [58])]:(List Str)) q3) λy12=>jp (ι:=Bool) (λJ14=>br (decide ((y12.b.length:Int) <= ((Str.mk ((a_s.b.take ((a_s.b.length:Int)).toNat).drop (a_i).toNat)).b.length:Int))) (asr (decide (0 <= (0:Int)/\(0:Int) <= (y12.b.length:Int)/\(y12.b.length:Int) <= ((Str.mk ((a_s.b.take ((a_s.b.length:Int)).toNat).drop (a_i).toNat)).b.length:Int))) <| cal (zs ([(Str.mk [58,58,61]),(Str.mk [46,46,46]),(Str.mk [46,46]),(Str.mk [91,91]),(Str.mk [93,93]),(Str.mk [123]),(Str.mk [125]),(Str.mk [91]),(Str.mk [93]),(Str.mk [40]),(Str.mk [41]),(Str.mk [44]),(Str.mk [58])]:(List Str)) q3) λy17=>J14 ((decide ((Str.mk (((Str.mk ((a_s.b.take ((a_s.b.length:Int)).toNat).drop (a_i).toNat)).b.take ((y12.b.length:Int)).toNat).drop (0:Int).toNat))=y17)))) (J14 (false))) (λq13=>br q13 (some ((y12.b.length:Int))) (ck ((q3 + (1:Int))) <| L4 ((q3 + (1:Int)))))) (some ((0:Int)))) (((0:Int)))

def zjS (a_s:Str) (a_i:Int):Option (zU × Int) :=
 cal (zs a_s.b a_i) λy3=>jp (ι:=Int × zU) (λJ5=>cal (zf8 y3) λy6=>br y6 (cal (ziy a_s a_i) λy7=>br (decide (y7 < (0:Int))) (some ((zU.mk (0:Int) (Str.mk []) a_i),(-1:Int))) (asr (decide (0 <= a_i/\a_i <= y7/\y7 <= (a_s.b.length:Int))) <| jp (ι:=zU) (λJ10=>br (decide (y3 <= (90:UInt8))) (J10 ((zU.mk (1:Int) (Str.mk ((a_s.b.take (y7).toNat).drop (a_i).toNat)) a_i))) (J10 ((zU.mk (2:Int) (Str.mk ((a_s.b.take (y7).toNat).drop (a_i).toNat)) a_i)))) (λq9=>cal (zia q9.text) λy11=>br y11 (J5 (y7,{ q9 with kind:=(5:Int) })) (J5 (y7,q9))))) (cal (zfC y3) λy12=>jp (ι:=Bool) (λJ14=>br y12 (J14 (true)) (jp (ι:=Bool) (λJ17=>br (decide (y3=(45:UInt8))) (ck ((a_i + (1:Int))) <| cal (zgy a_s (a_i + (1:Int))) λy20=>cal (zfC y20) λy21=>J17 (y21)) (J17 (false))) (λq16=>J14 (q16)))) (λq13=>br q13 (cal (zgh a_s a_i) λy22=>br (decide (y22 < (0:Int))) (some ((zU.mk (0:Int) (Str.mk []) a_i),(-1:Int))) (asr (decide (0 <= a_i/\a_i <= y22/\y22 <= (a_s.b.length:Int))) <| J5 (y22,(zU.mk (3:Int) (Str.mk ((a_s.b.take (y22).toNat).drop (a_i).toNat)) a_i)))) (br (decide (y3=(39:UInt8))) (cal (zke a_s a_i) λy24=>J5 (y24.1,(zU.mk (4:Int) y24.2 a_i))) (br (decide (y3=(34:UInt8))) (cal (zf7 a_s a_i) λy25=>J5 (y25.1,(zU.mk (7:Int) y25.2 a_i))) (cal (ziu a_s a_i) λy26=>br (decide ((0:Int) < y26)) (ck ((a_i + y26)) <| asr (decide (0 <= a_i/\a_i <= (a_i + y26)/\(a_i + y26) <= (a_s.b.length:Int))) <| ck ((a_i + y26)) <| J5 ((a_i + y26),(zU.mk (6:Int) (Str.mk ((a_s.b.take ((a_i + y26)).toNat).drop (a_i).toNat)) a_i))) (J5 ((-1:Int),(zU.mk (0:Int) (Str.mk []) a_i))))))))) (λq4=>some (q4.2,q4.1))

def zfp (za3:Str):Option ((List zU) × Int × Int) :=
 br (decide ((8000:Int) < (za3.b.length:Int))) (some (([]:(List zU)),(0:Int),(5:Int))) (lp (ι:=(List zU) × Int) (λL2 q1=>cal (zhb za3 q1.2) λy12=>br (decide ((za3.b.length:Int) <= y12)) (asr (Nat.ble (q1.1.length + ([(zU.mk (0:Int) (Str.mk []) (za3.b.length:Int))]:(List zU)).length) 68719476736) <| some ((q1.1 ++ ([(zU.mk (0:Int) (Str.mk []) (za3.b.length:Int))]:(List zU))),(0:Int),(0:Int))) (cal (zjS za3 y12) λy16=>br (decide (y16.2 < (0:Int))) (some (([]:(List zU)),y12,(6:Int))) (asr (Nat.ble (q1.1.length + ([y16.1]:(List zU)).length) 68719476736) <| L2 ((q1.1 ++ ([y16.1]:(List zU))),y16.2)))) ((([]:(List zU)),(0:Int))))

def zaG (a_x:zz):Option (zU × zz) :=
 cal (zs a_x.l a_x.at_) λy7=>some (y7,a_x)

def za4 (a_x:zz) (a_e:Int) (a_t:zU):Option (zz) :=
 br (decide (a_x.e=(0:Int))) (some ((zz.mk a_x.l a_x.at_ a_x.m a_e a_t.at_))) (some (a_x))

def zbx (a_x:zz):Option (zU × zz) :=
 cal (zs a_x.l a_x.at_) λy7=>ck ((a_x.at_ + (1:Int))) <| jp (ι:=zz) (λJ13=>br (decide ((a_x.at_ + (1:Int)) < (a_x.l.length:Int))) (ck ((a_x.at_ + (1:Int))) <| J13 ((zz.mk a_x.l (a_x.at_ + (1:Int)) a_x.m a_x.e a_x.p))) (J13 (a_x))) (λq12=>some (y7,q12))

def zbw (a_x:zz) (a_k:Int):Option (Str × zz) :=
 cal (zaG a_x) λy4=>jp (ι:=Bool) (λJ9=>br (!decide (y4.2.e=(0:Int))) (J9 (true)) (J9 ((!decide (y4.1.kind=a_k))))) (λq8=>br q8 (cal (za4 y4.2 (7:Int) y4.1) λy11=>some ((Str.mk []),y11)) (cal (zbx y4.2) λy14=>some (y14.1.text,y14.2)))

def zE (a_x:zz) (a_s:Str):Option (Bool × zz) :=
 cal (zaG a_x) λy4=>jp (ι:=Bool) (λJ9=>br (decide (y4.2.e=(0:Int))) (jp (ι:=Bool) (λJ12=>br (decide (y4.1.kind=(5:Int))) (J12 (true)) (J12 ((decide (y4.1.kind=(6:Int)))))) (λq11=>J9 (q11))) (J9 (false))) (λq8=>jp (ι:=Bool) (λJ15=>br q8 (J15 ((decide (y4.1.text=a_s)))) (J15 (false))) (λq14=>br q14 (cal (zbx y4.2) λy17=>some (true,y17.2)) (some (false,y4.2))))

def zP (a_x:zz) (a_s:Str):Option (zz) :=
 jp (ι:=Bool × zz) (λJ5=>br (decide (a_x.e=(0:Int))) (cal (zE a_x a_s) λy7=>J5 ((!y7.1),y7.2)) (J5 (false,a_x))) (λq4=>br q4.1 (cal (zaG q4.2) λy10=>cal (za4 y10.2 (7:Int) y10.1) λy13=>some (y13)) (some (q4.2)))

def zhZ (a_t:zU):Option (Bool) :=
 lp (ι:=Int) (λL3 q2=>br (decide (q2 < (([(Str.mk [91]),(Str.mk [66,79,79,76,69,65,78]),(Str.mk [78,85,76,76]),(Str.mk [85,84,70,56,83,116,114,105,110,103]),(Str.mk [73,78,84,69,71,69,82]),(Str.mk [79,67,84,69,84]),(Str.mk [69,78,85,77,69,82,65,84,69,68]),(Str.mk [83,69,84]),(Str.mk [67,72,79,73,67,69]),(Str.mk [83,69,81,85,69,78,67,69])]:(List Str)).length:Int))) (cal (zs ([(Str.mk [91]),(Str.mk [66,79,79,76,69,65,78]),(Str.mk [78,85,76,76]),(Str.mk [85,84,70,56,83,116,114,105,110,103]),(Str.mk [73,78,84,69,71,69,82]),(Str.mk [79,67,84,69,84]),(Str.mk [69,78,85,77,69,82,65,84,69,68]),(Str.mk [83,69,84]),(Str.mk [67,72,79,73,67,69]),(Str.mk [83,69,81,85,69,78,67,69])]:(List Str)) q2) λy12=>jp (ι:=Bool) (λJ14=>br (decide (y12=a_t.text)) (jp (ι:=Bool) (λJ17=>br (decide (a_t.kind=(5:Int))) (J17 (true)) (J17 ((decide (a_t.kind=(6:Int)))))) (λq16=>J14 (q16))) (J14 (false))) (λq13=>br q13 (some (true)) (ck ((q2 + (1:Int))) <| L3 ((q2 + (1:Int)))))) (some ((decide (a_t.kind=(1:Int)))))) (((0:Int)))

def zhN (a_s:Str):Option (Int) :=
 cal (zs a_s.b (0:Int)) λy1=>jp (ι:=Str) (λJ3=>br (decide (y1=(45:UInt8))) (asr (decide (0 <= (1:Int)/\(1:Int) <= (a_s.b.length:Int)/\(a_s.b.length:Int) <= (a_s.b.length:Int))) <| J3 ((Str.mk ((a_s.b.take ((a_s.b.length:Int)).toNat).drop ((1:Int)).toNat)))) (J3 (a_s))) (λq2=>lp (ι:=UInt64 × Int) (λL6 q5=>br (decide (q5.2 < (q2.b.length:Int))) (cal (zs q2.b q5.2) λy13=>ck ((q5.2 + (1:Int))) <| L6 ((((10:UInt64) * q5.1) + (y13 - (48:UInt8)).toUInt64),(q5.2 + (1:Int)))) (br (decide (y1=(45:UInt8))) (ck (((q5.1 - (1:UInt64)).toNat:Int)) <| ck ((-((q5.1 - (1:UInt64)).toNat:Int))) <| ck (((-((q5.1 - (1:UInt64)).toNat:Int)) - (1:Int))) <| some (((-((q5.1 - (1:UInt64)).toNat:Int)) - (1:Int)))) (ck ((q5.1.toNat:Int)) <| some ((q5.1.toNat:Int))))) (((0:UInt64),(0:Int))))

def zb1 (a_x:zz):Option (Int × zz) :=
 cal (zbw a_x (3:Int)) λy4=>br (decide (y4.1=(Str.mk []))) (some ((0:Int),y4.2)) (cal (zhN y4.1) λy7=>some (y7,y4.2))

def zcD (a_x:zz):Option (zbt × zz) :=
 cal (zE a_x (Str.mk [77,73,78])) λy6=>jp (ι:=zz × zbt) (λJ10=>br (!y6.1) (cal (zb1 y6.2) λy11=>J10 (y11.2,(zbt.mk true true false false y11.1 (0:Int)))) (J10 (y6.2,(zbt.mk true false false false (0:Int) (0:Int))))) (λq9=>jp (ι:=zz × zbt) (λJ15=>cal (zE q9.1 (Str.mk [46,46])) λy16=>br y16.1 (cal (zE y16.2 (Str.mk [77,65,88])) λy19=>br (!y19.1) (cal (zb1 y19.2) λy22=>J15 (y22.2,{ { q9.2 with hasHigh:=true } with high:=y22.1 })) (J15 (y19.2,q9.2))) (br q9.2.hasLow (J15 (y16.2,{ { q9.2 with hasHigh:=true } with high:=q9.2.low })) (J15 (y16.2,q9.2)))) (λq14=>cal (zE q14.1 (Str.mk [44])) λy25=>jp (ι:=zz × zbt) (λJ29=>br y25.1 (cal (zP y25.2 (Str.mk [46,46,46])) λy30=>J29 (y30,{ q14.2 with more:=true })) (J29 (y25.2,q14.2))) (λq28=>some (q28.2,q28.1))))

def zcM (a_x:zz):Option (zbt × zz) :=
 cal (zE a_x (Str.mk [40])) λy5=>br (!y5.1) (some ((zbt.mk false false false false (0:Int) (0:Int)),y5.2)) (cal (zP y5.2 (Str.mk [83,73,90,69])) λy8=>cal (zP y8 (Str.mk [40])) λy11=>cal (zcD y11) λy14=>cal (zP y14.2 (Str.mk [41])) λy18=>cal (zP y18 (Str.mk [41])) λy21=>some (y14.1,y21))

def zdn (a_x:zz) (a_n_:zh):Option (zz × zh) :=
 jp (ι:=zz × zh) (λJ7=>lp (ι:=zz × zh) (λL9 q8=>br (decide (q8.1.e=(0:Int))) (jp (ι:=Bool) (λJ47=>br (decide ((0:Int) < (q8.2.items.length:Int))) (J47 ((!q8.2.more))) (J47 (false))) (λq46=>jp (ι:=Bool × zz) (λJ50=>br q46 (cal (zE q8.1 (Str.mk [46,46,46])) λy52=>J50 (y52.1,y52.2)) (J50 (false,q8.1))) (λq49=>jp (ι:=zz × zh) (λJ56=>br q49.1 (J56 (q49.2,(zh.mk q8.2.kind q8.2.name q8.2.mark q8.2.con q8.2.items q8.2.fields (q8.2.items.length:Int) true q8.2.of))) (cal (zbw q49.2 (2:Int)) λy57=>cal (zE y57.2 (Str.mk [40])) λy61=>jp (ι:=zz × zag) (λJ65=>br y61.1 (cal (zb1 y61.2) λy66=>cal (zP y66.2 (Str.mk [41])) λy69=>J65 (y69,(zag.mk y57.1 y66.1 true))) (J65 (y61.2,(zag.mk y57.1 (0:Int) false)))) (λq64=>asr (Nat.ble (q8.2.items.length + ([q64.2]:(List zag)).length) 68719476736) <| J56 (q64.1,(zh.mk q8.2.kind q8.2.name q8.2.mark q8.2.con (q8.2.items ++ ([q64.2]:(List zag))) q8.2.fields q8.2.root q8.2.more q8.2.of))))) (λq55=>cal (zE q55.1 (Str.mk [44])) λy79=>br (!y79.1) (J7 (y79.2,q55.2)) (L9 (y79.2,q55.2)))))) (J7 (q8.1,q8.2))) ((a_x,a_n_))) (λq6=>br (!q6.2.more) (some (q6.1,(zh.mk q6.2.kind q6.2.name q6.2.mark q6.2.con q6.2.items q6.2.fields (q6.2.items.length:Int) q6.2.more q6.2.of))) (some (q6.1,q6.2)))

def zmd (a_s:Str):Option ((List UInt8)) :=
 lp (ι:=(List UInt8) × Int) (λL2 q1=>ck ((q1.2 + (1:Int))) <| br (decide ((q1.2 + (1:Int)) < (a_s.b.length:Int))) (lp (ι:=UInt8 × Int) (λL33 q32=>ck ((q1.2 + (2:Int))) <| br (decide (q32.2 < (q1.2 + (2:Int)))) (cal (zs a_s.b q32.2) λy47=>cal (zs a_s.b q32.2) λy48=>jp (ι:=UInt8) (λJ50=>br (decide ((65:UInt8) <= y48)) (cal (zs a_s.b q32.2) λy51=>J50 (((y51 - (65:UInt8)) + (10:UInt8)))) (J50 ((y47 - (48:UInt8))))) (λq49=>asr (Nat.ble (4:UInt64).toNat 8) <| ck ((q32.2 + (1:Int))) <| L33 (((zvf q32.1 (4:UInt64).toNat) ||| q49),(q32.2 + (1:Int))))) (asr (Nat.ble (q1.1.length + ([q32.1]:(List UInt8)).length) 68719476736) <| ck ((q1.2 + (2:Int))) <| L2 ((q1.1 ++ ([q32.1]:(List UInt8))),(q1.2 + (2:Int))))) (((0:UInt8),q1.2))) (some (q1.1))) ((([]:(List UInt8)),(0:Int)))

def zdj (a_x:zz):Option (Val × zz) :=
 cal (zaG a_x) λy5=>jp (ι:=zz) (λJ10=>br (!decide (y5.2.e=(0:Int))) (J10 (y5.2)) (cal (zE y5.2 (Str.mk [84,82,85,69])) λy11=>br y11.1 (some ((Val.mk (1:Int) (1:Int) ([]:(List UInt8)) ([]:(List Val)) (0:Int) ([]:(List Raw))),y11.2)) (cal (zE y11.2 (Str.mk [70,65,76,83,69])) λy14=>br y14.1 (some ((Val.mk (1:Int) (0:Int) ([]:(List UInt8)) ([]:(List Val)) (0:Int) ([]:(List Raw))),y14.2)) (cal (zE y14.2 (Str.mk [78,85,76,76])) λy17=>br y17.1 (some ((Val.mk (4:Int) (0:Int) ([]:(List UInt8)) ([]:(List Val)) (0:Int) ([]:(List Raw))),y17.2)) (br (decide (y5.1.kind=(3:Int))) (cal (zbx y17.2) λy20=>cal (zhN y20.1.text) λy23=>some ((Val.mk (2:Int) y23 ([]:(List UInt8)) ([]:(List Val)) (0:Int) ([]:(List Raw))),y20.2)) (br (decide (y5.1.kind=(2:Int))) (cal (zbx y17.2) λy24=>asr (Nat.ble y24.1.text.b.length 68719476736) <| some ((Val.mk (3:Int) (0:Int) y24.1.text.b ([]:(List Val)) (0:Int) ([]:(List Raw))),y24.2)) (br (decide (y5.1.kind=(4:Int))) (cal (zbx y17.2) λy28=>cal (zmd y28.1.text) λy31=>some ((Val.mk (5:Int) (0:Int) y31 ([]:(List Val)) (0:Int) ([]:(List Raw))),y28.2)) (br (decide (y5.1.kind=(7:Int))) (cal (zbx y17.2) λy32=>asr (Nat.ble y32.1.text.b.length 68719476736) <| some ((Val.mk (6:Int) (0:Int) y32.1.text.b ([]:(List Val)) (0:Int) ([]:(List Raw))),y32.2)) (cal (za4 y17.2 (7:Int) y5.1) λy36=>J10 (y36)))))))))) (λq9=>some ((Val.mk (0:Int) (0:Int) ([]:(List UInt8)) ([]:(List Val)) (0:Int) ([]:(List Raw))),q9))

def zcP (zap:zz->zh->Int->Int->Option (zz × zh)) (zaD:zz->Int->Option (Int × zz)) (zaz:zz->zh->Int->Option (zz × zh)) (zae:zz->zh->Int->Option (zz × zh)) (a_x:zz) (a_n_:zh) (za:Int) (zcC:Int):Option (zz × zh) :=
 cal (zbw a_x (2:Int)) λy6=>ck ((za + (1:Int))) <| cal (zaD y6.2 (za + (1:Int))) λy11=>jp (ι:=zaC × zz) (λJ16=>br (decide (a_n_.kind=(9:Int))) (J16 ((zaC.mk y6.1 y11.1 false false (Val.mk (0:Int) (0:Int) ([]:(List UInt8)) ([]:(List Val)) (0:Int) ([]:(List Raw))) zcC),y11.2)) (cal (zE y11.2 (Str.mk [79,80,84,73,79,78,65,76])) λy17=>br y17.1 (J16 ((zaC.mk y6.1 y11.1 true false (Val.mk (0:Int) (0:Int) ([]:(List UInt8)) ([]:(List Val)) (0:Int) ([]:(List Raw))) zcC),y17.2)) (cal (zE y17.2 (Str.mk [68,69,70,65,85,76,84])) λy20=>br y20.1 (cal (zdj y20.2) λy23=>J16 ((zaC.mk y6.1 y11.1 false true y23.1 zcC),y23.2)) (J16 ((zaC.mk y6.1 y11.1 false false (Val.mk (0:Int) (0:Int) ([]:(List UInt8)) ([]:(List Val)) (0:Int) ([]:(List Raw))) zcC),y20.2))))) (λq15=>asr (Nat.ble (a_n_.fields.length + ([q15.1]:(List zaC)).length) 68719476736) <| some (q15.2,(zh.mk a_n_.kind a_n_.name a_n_.mark a_n_.con a_n_.items (a_n_.fields ++ ([q15.1]:(List zaC))) a_n_.root a_n_.more a_n_.of)))
def zdh (zap:zz->zh->Int->Int->Option (zz × zh)) (zaD:zz->Int->Option (Int × zz)) (zaz:zz->zh->Int->Option (zz × zh)) (zae:zz->zh->Int->Option (zz × zh)) (a_x:zz) (za:Int):Option (Int × zz) :=
 br (!decide (a_x.e=(0:Int))) (some ((0:Int),a_x)) (cal (zaG a_x) λy4=>cal (zhZ y4.1) λy7=>br (!y7) (cal (zaG y4.2) λy8=>cal (za4 y8.2 (7:Int) y8.1) λy11=>some ((0:Int),y11)) (jp (ι:=Bool) (λJ15=>br (decide ((16:Int) < za)) (J15 (true)) (J15 ((decide ((300:Int) <= ((y4.2.m.nodes.length:Nat):Int)))))) (λq14=>br q14 (cal (zaG y4.2) λy17=>cal (za4 y17.2 (5:Int) y17.1) λy20=>some ((0:Int),y20)) (asr (Nat.ble (y4.2.m.nodes.length + ([(zh.mk (0:Int) (Str.mk []) (zcN.mk false (0:Int) (0:Int)) (zbt.mk false false false false (0:Int) (0:Int)) ([]:(List zag)) ([]:(List zaC)) (0:Int) false (0:Int))]:(List zh)).length) 68719476736) <| cal (zE (zz.mk y4.2.l y4.2.at_ (zaB.mk y4.2.m.name y4.2.m.tagging y4.2.m.names y4.2.m.types (y4.2.m.nodes ++ ([(zh.mk (0:Int) (Str.mk []) (zcN.mk false (0:Int) (0:Int)) (zbt.mk false false false false (0:Int) (0:Int)) ([]:(List zag)) ([]:(List zaC)) (0:Int) false (0:Int))]:(List zh)))) y4.2.e y4.2.p) (Str.mk [91])) λy31=>jp (ι:=zz × zh) (λJ35=>br y31.1 (cal (zaG y31.2) λy36=>cal (zb1 y36.2) λy40=>jp (ι:=Bool) (λJ44=>br (decide (y40.2.e=(0:Int))) (jp (ι:=Bool) (λJ47=>br (decide (y40.1 < (0:Int))) (J47 (true)) (J47 ((decide ((268435456:Int) < y40.1))))) (λq46=>J44 (q46))) (J44 (false))) (λq43=>jp (ι:=zz) (λJ50=>br q43 (cal (za4 y40.2 (12:Int) y36.1) λy51=>J50 (y51)) (J50 (y40.2))) (λq49=>cal (zP q49 (Str.mk [93])) λy54=>cal (zE y54 (Str.mk [69,88,80,76,73,67,73,84])) λy57=>br y57.1 (J35 (y57.2,(zh.mk (0:Int) (Str.mk []) (zcN.mk true y40.1 (1:Int)) (zbt.mk false false false false (0:Int) (0:Int)) ([]:(List zag)) ([]:(List zaC)) (0:Int) false (0:Int)))) (cal (zE y57.2 (Str.mk [73,77,80,76,73,67,73,84])) λy60=>br y60.1 (J35 (y60.2,(zh.mk (0:Int) (Str.mk []) (zcN.mk true y40.1 (2:Int)) (zbt.mk false false false false (0:Int) (0:Int)) ([]:(List zag)) ([]:(List zaC)) (0:Int) false (0:Int)))) (J35 (y60.2,(zh.mk (0:Int) (Str.mk []) (zcN.mk true y40.1 (0:Int)) (zbt.mk false false false false (0:Int) (0:Int)) ([]:(List zag)) ([]:(List zaC)) (0:Int) false (0:Int)))))))) (J35 (y31.2,(zh.mk (0:Int) (Str.mk []) (zcN.mk false (0:Int) (0:Int)) (zbt.mk false false false false (0:Int) (0:Int)) ([]:(List zag)) ([]:(List zaC)) (0:Int) false (0:Int))))) (λq34=>cal (zaz q34.1 q34.2 za) λy63=>br (!decide (y63.1.e=(0:Int))) (some ((0:Int),y63.1)) (asr (decide (0 <= ((y4.2.m.nodes.length:Nat):Int)/\((y4.2.m.nodes.length:Nat):Int) < ((y63.1.m.nodes.length:Nat):Int))) <| cal (y63.1.m.nodes[((y4.2.m.nodes.length:Nat):Int).toNat]?) λy74=>some (((y4.2.m.nodes.length:Nat):Int),(zz.mk y63.1.l y63.1.at_ (zaB.mk y63.1.m.name y63.1.m.tagging y63.1.m.names y63.1.m.types (y63.1.m.nodes.set (((y4.2.m.nodes.length:Nat):Int).toNat) y63.2)) y63.1.e y63.1.p))))))))
def zc2 (zap:zz->zh->Int->Int->Option (zz × zh)) (zaD:zz->Int->Option (Int × zz)) (zaz:zz->zh->Int->Option (zz × zh)) (zae:zz->zh->Int->Option (zz × zh)) (a_x:zz) (a_n_:zh) (za:Int):Option (zz × zh) :=
 cal (zaG a_x) λy6=>br (!decide (y6.2.e=(0:Int))) (some (y6.2,a_n_)) (cal (zE y6.2 (Str.mk [66,79,79,76,69,65,78])) λy10=>br y10.1 (some (y10.2,(zh.mk (1:Int) a_n_.name a_n_.mark a_n_.con a_n_.items a_n_.fields a_n_.root a_n_.more a_n_.of))) (cal (zE y10.2 (Str.mk [78,85,76,76])) λy13=>br y13.1 (some (y13.2,(zh.mk (4:Int) a_n_.name a_n_.mark a_n_.con a_n_.items a_n_.fields a_n_.root a_n_.more a_n_.of))) (cal (zE y13.2 (Str.mk [85,84,70,56,83,116,114,105,110,103])) λy16=>br y16.1 (cal (zcM y16.2) λy19=>some (y19.2,(zh.mk (6:Int) a_n_.name a_n_.mark y19.1 a_n_.items a_n_.fields a_n_.root a_n_.more a_n_.of))) (cal (zE y16.2 (Str.mk [73,78,84,69,71,69,82])) λy22=>br y22.1 (cal (zE y22.2 (Str.mk [40])) λy25=>br y25.1 (cal (zcD y25.2) λy28=>cal (zP y28.2 (Str.mk [41])) λy31=>some (y31,(zh.mk (2:Int) a_n_.name a_n_.mark y28.1 a_n_.items a_n_.fields a_n_.root a_n_.more a_n_.of))) (some (y25.2,(zh.mk (2:Int) a_n_.name a_n_.mark a_n_.con a_n_.items a_n_.fields a_n_.root a_n_.more a_n_.of)))) (cal (zE y22.2 (Str.mk [79,67,84,69,84])) λy34=>br y34.1 (cal (zP y34.2 (Str.mk [83,84,82,73,78,71])) λy37=>cal (zcM y37) λy40=>some (y40.2,(zh.mk (5:Int) a_n_.name a_n_.mark y40.1 a_n_.items a_n_.fields a_n_.root a_n_.more a_n_.of))) (cal (zE y34.2 (Str.mk [69,78,85,77,69,82,65,84,69,68])) λy43=>br y43.1 (cal (zP y43.2 (Str.mk [123])) λy46=>cal (zdn y46 (zh.mk (3:Int) a_n_.name a_n_.mark a_n_.con a_n_.items a_n_.fields a_n_.root a_n_.more a_n_.of)) λy49=>cal (zP y49.1 (Str.mk [125])) λy54=>some (y54,y49.2)) (cal (zE y43.2 (Str.mk [83,69,84])) λy57=>br y57.1 (cal (zP y57.2 (Str.mk [123])) λy60=>cal (zae y60 (zh.mk (8:Int) a_n_.name a_n_.mark a_n_.con a_n_.items a_n_.fields a_n_.root a_n_.more a_n_.of) za) λy63=>some (y63.1,y63.2)) (cal (zE y57.2 (Str.mk [67,72,79,73,67,69])) λy69=>br y69.1 (cal (zP y69.2 (Str.mk [123])) λy72=>cal (zae y72 (zh.mk (9:Int) a_n_.name a_n_.mark a_n_.con a_n_.items a_n_.fields a_n_.root a_n_.more a_n_.of) za) λy75=>some (y75.1,y75.2)) (cal (zE y69.2 (Str.mk [83,69,81,85,69,78,67,69])) λy81=>br y81.1 (cal (zE y81.2 (Str.mk [123])) λy84=>br y84.1 (cal (zae y84.2 (zh.mk (7:Int) a_n_.name a_n_.mark a_n_.con a_n_.items a_n_.fields a_n_.root a_n_.more a_n_.of) za) λy87=>some (y87.1,y87.2)) (cal (zcM y84.2) λy93=>cal (zP y93.2 (Str.mk [79,70])) λy96=>ck ((za + (1:Int))) <| cal (zaD y96 (za + (1:Int))) λy100=>some (y100.2,(zh.mk (10:Int) a_n_.name a_n_.mark y93.1 a_n_.items a_n_.fields a_n_.root a_n_.more y100.1)))) (br (decide (y6.1.kind=(1:Int))) (cal (zbx y81.2) λy104=>some (y104.2,(zh.mk (11:Int) y6.1.text a_n_.mark a_n_.con a_n_.items a_n_.fields a_n_.root a_n_.more a_n_.of))) (cal (za4 y81.2 (7:Int) y6.1) λy107=>some (y107,a_n_))))))))))))
def zcx (zap:zz->zh->Int->Int->Option (zz × zh)) (zaD:zz->Int->Option (Int × zz)) (zaz:zz->zh->Int->Option (zz × zh)) (zae:zz->zh->Int->Option (zz × zh)) (a_x:zz) (a_n_:zh) (za:Int):Option (zz × zh) :=
 cal (zE a_x (Str.mk [125])) λy6=>br y6.1 (some (y6.2,a_n_)) (jp (ι:=zz × zh) (λJ10=>lp (ι:=Int × zz × zh) (λL12 q11=>br (decide (q11.2.1.e=(0:Int))) (jp (ι:=Int × zz × zh) (λJ64=>jp (ι:=Bool × zz) (λJ66=>br (!q11.2.2.more) (cal (zE q11.2.1 (Str.mk [46,46,46])) λy68=>J66 (y68.1,y68.2)) (J66 (false,q11.2.1))) (λq65=>br q65.1 (J64 (q11.1,q65.2,(zh.mk q11.2.2.kind q11.2.2.name q11.2.2.mark q11.2.2.con q11.2.2.items q11.2.2.fields (q11.2.2.fields.length:Int) true q11.2.2.of))) (jp (ι:=Bool × zz) (λJ72=>br q11.2.2.more (cal (zE q65.2 (Str.mk [91,91])) λy74=>J72 (y74.1,y74.2)) (J72 (false,q65.2))) (λq71=>br q71.1 (ck ((q11.1 + (1:Int))) <| jp (ι:=zz × zh) (λJ79=>lp (ι:=zz × zh) (λL81 q80=>br (decide (q80.1.e=(0:Int))) (cal (zap q80.1 q80.2 za (q11.1 + (1:Int))) λy91=>cal (zE y91.1 (Str.mk [44])) λy97=>br (!y97.1) (J79 (y97.2,y91.2)) (L81 (y97.2,y91.2))) (J79 (q80.1,q80.2))) ((q71.2,q11.2.2))) (λq78=>cal (zP q78.1 (Str.mk [93,93])) λy101=>J64 ((q11.1 + (1:Int)),y101,q78.2))) (cal (zap q71.2 q11.2.2 za (0:Int)) λy104=>J64 (q11.1,y104.1,y104.2)))))) (λq63=>cal (zE q63.2.1 (Str.mk [44])) λy110=>br (!y110.1) (J10 (y110.2,q63.2.2)) (L12 (q63.1,y110.2,q63.2.2)))) (J10 (q11.2.1,q11.2.2))) (((0:Int),y6.2,a_n_))) (λq9=>cal (zP q9.1 (Str.mk [125])) λy114=>br (!q9.2.more) (some (y114,(zh.mk q9.2.kind q9.2.name q9.2.mark q9.2.con q9.2.items q9.2.fields (q9.2.fields.length:Int) q9.2.more q9.2.of))) (some (y114,q9.2))))
def zdu:Nat->(zz->zh->Int->Int->Option (zz × zh)) × (zz->Int->Option (Int × zz)) × (zz->zh->Int->Option (zz × zh)) × (zz->zh->Int->Option (zz × zh))
 | 0=>(λ_ _ _ _=>none,λ_ _=>none,λ_ _ _=>none,λ_ _ _=>none)
 | n + 1=>let p:=zdu n;(zcP p.1 p.2.1 p.2.2.1 p.2.2.2,zdh p.1 p.2.1 p.2.2.1 p.2.2.2,zc2 p.1 p.2.1 p.2.2.1 p.2.2.2,zcx p.1 p.2.1 p.2.2.1 p.2.2.2)
def zba (n:Nat):zz->zh->Int->Int->Option (zz × zh):=(zdu n).1
def za0 (n:Nat):zz->Int->Option (Int × zz):=(zdu n).2.1
def zbg (n:Nat):zz->zh->Int->Option (zz × zh):=(zdu n).2.2.1
def za1 (n:Nat):zz->zh->Int->Option (zz × zh):=(zdu n).2.2.2

def zfA (za3:Str):Option (zaB × Int × Int) :=
 cal (zfp za3) λy2=>br (!decide (y2.2.2=(0:Int))) (some ((zaB.mk (Str.mk []) (0:Int) ([]:(List Str)) ([]:(List Int)) ([]:(List zh))),y2.2.1,y2.2.2)) (cal (zbw (zz.mk y2.1 (0:Int) (zaB.mk (Str.mk []) (0:Int) ([]:(List Str)) ([]:(List Int)) ([]:(List zh))) (0:Int) (0:Int)) (1:Int)) λy7=>cal (zP (zz.mk y7.2.l y7.2.at_ (zaB.mk y7.1 y7.2.m.tagging y7.2.m.names y7.2.m.types y7.2.m.nodes) y7.2.e y7.2.p) (Str.mk [68,69,70,73,78,73,84,73,79,78,83])) λy10=>jp (ι:=zz) (λJ14=>cal (zE y10 (Str.mk [69,88,80,76,73,67,73,84])) λy15=>br y15.1 (cal (zP y15.2 (Str.mk [84,65,71,83])) λy18=>J14 (y18)) (cal (zE y15.2 (Str.mk [73,77,80,76,73,67,73,84])) λy21=>br y21.1 (cal (zP (zz.mk y21.2.l y21.2.at_ (zaB.mk y21.2.m.name (1:Int) y21.2.m.names y21.2.m.types y21.2.m.nodes) y21.2.e y21.2.p) (Str.mk [84,65,71,83])) λy24=>J14 (y24)) (cal (zE y21.2 (Str.mk [65,85,84,79,77,65,84,73,67])) λy27=>br y27.1 (cal (zP (zz.mk y27.2.l y27.2.at_ (zaB.mk y27.2.m.name (2:Int) y27.2.m.names y27.2.m.types y27.2.m.nodes) y27.2.e y27.2.p) (Str.mk [84,65,71,83])) λy30=>J14 (y30)) (J14 (y27.2))))) (λq13=>cal (zP q13 (Str.mk [58,58,61])) λy33=>cal (zP y33 (Str.mk [66,69,71,73,78])) λy36=>lp (ι:=zz) (λL40 q39=>jp (ι:=Bool × zz) (λJ92=>br (decide (q39.e=(0:Int))) (cal (zE q39 (Str.mk [69,78,68])) λy94=>J92 ((!y94.1),y94.2)) (J92 (false,q39))) (λq91=>br q91.1 (cal (zaG q91.2) λy97=>cal (zbw y97.2 (1:Int)) λy101=>jp (ι:=Bool) (λJ105=>br (decide (y101.2.e=(0:Int))) (J105 ((decide ((40:Int) <= (y101.2.m.names.length:Int))))) (J105 (false))) (λq104=>jp (ι:=zz) (λJ108=>br q104 (cal (za4 y101.2 (5:Int) y97.1) λy109=>J108 (y109)) (J108 (y101.2))) (λq107=>cal (zP q107 (Str.mk [58,58,61])) λy112=>cal (za0 fuel y112 (0:Int)) λy115=>asr (Nat.ble (y115.2.m.names.length + ([y101.1]:(List Str)).length) 68719476736) <| asr (Nat.ble (y115.2.m.types.length + ([y115.1]:(List Int)).length) 68719476736) <| L40 ((zz.mk y115.2.l y115.2.at_ (zaB.mk y115.2.m.name y115.2.m.tagging (y115.2.m.names ++ ([y101.1]:(List Str))) (y115.2.m.types ++ ([y115.1]:(List Int))) y115.2.m.nodes) y115.2.e y115.2.p))))) (jp (ι:=Bool × zz) (λJ126=>br (decide (q91.2.e=(0:Int))) (cal (zaG q91.2) λy128=>J126 ((!decide (y128.1.kind=(0:Int))),y128.2)) (J126 (false,q91.2))) (λq125=>jp (ι:=zz) (λJ132=>br q125.1 (cal (zaG q125.2) λy133=>cal (za4 y133.2 (7:Int) y133.1) λy136=>J132 (y136)) (J132 (q125.2))) (λq131=>br (!decide (q131.e=(0:Int))) (some ((zaB.mk (Str.mk []) (0:Int) ([]:(List Str)) ([]:(List Int)) ([]:(List zh))),q131.p,q131.e)) (some (q131.m,(0:Int),(0:Int)))))))) ((y36))))
end Go.Proofs.Q
namespace Go.Sy
section tot
variable {α β ι:Type}
def T (R:β->Prop) (o:Option β):Prop:=∃ r,o=some r/\R r
theorem T.some {R:β->Prop} {r:β} (h:R r):T R (some r):=⟨r,rfl,h⟩
theorem T.mono {R R':β->Prop} {o:Option β} (h:T R o) (k:∀ r,R r->R' r):T R' o:=by
 obtain ⟨r,h1,h2⟩:=h;exact ⟨r,h1,k r h2⟩
theorem T.cal {Q:α->Prop} {R:β->Prop} {m:Option α} {k:α->Option β} (h:T Q m) (hk:∀ y,m=Option.some y->Q y->T R (k y)):T R (cal m k):=by
 obtain ⟨y,h1,h2⟩:=h
 subst h1
 exact hk y rfl h2
theorem T.eq {R:β->Prop} {m:Option α} {k:α->Option β} {y:α} (h:m=Option.some y) (hk:T R (k y)):T R (Sy.cal m k):=by subst h;exact hk
theorem zzC {x:Int} (h:zc1 x):zuV x=true:=by
 unfold zc1 at h
 cases x with
 | ofNat n =>
  simp only [Int.ofNat_eq_natCast] at h
  exact Nat.ble_eq_true_of_le (by omega)
 | negSucc n=>exact Nat.ble_eq_true_of_le (by omega)
theorem T.ck {R:β->Prop} {x:Int} {k:Option β} (hx:-9223372036854775808 <= x/\x <= 9223372036854775807) (h:T R k):T R (ck x k):=by
 unfold Sy.ck;rw [zzC hx];exact h
theorem T.asr {R:β->Prop} {b:Bool} {k:Option β} (hb:b=true) (h:T R k):T R (asr b k):=by subst hb;exact h
theorem T.asd {R:β->Prop} {p:Prop} [Decidable p] {k:Option β} (hb:p) (h:T R k):T R (Sy.asr (decide p) k):=T.asr (zDT hb) h
theorem T.abl {R:β->Prop} {a b:Nat} {k:Option β} (hb:a <= b) (h:T R k):T R (Sy.asr (Nat.ble a b) k):=T.asr (Nat.ble_eq_true_of_le hb) h
theorem T.br {R:β->Prop} {b:Bool} {t e:Option β} (ht:b=true->T R t) (he:b=false->T R e):T R (br b t e):=by
 cases b with
 | true=>exact ht rfl
 | false=>exact he rfl
theorem T.brT {R:β->Prop} {b:Bool} {t e:Option β} (hb:b=true) (h:T R t):T R (Sy.br b t e):=by subst hb;exact h
theorem T.brF {R:β->Prop} {b:Bool} {t e:Option β} (hb:b=false) (h:T R e):T R (Sy.br b t e):=by subst hb;exact h
theorem T.jp (Q:ι->Prop) {R:β->Prop} {B:(ι->Option β)->Option β} {K:ι->Option β} (hB:∀ J,(∀ i,Q i->T R (J i))->T R (B J)) (hK:∀ i,Q i->T R (K i)):T R (jp B K):=hB K hK
theorem T.jp0 {R:β->Prop} {B:(ι->Option β)->Option β} {K:ι->Option β} (h:T R (B K)):T R (Sy.jp B K):=h
theorem T.lp (I:ι->Prop) (μ:ι->Nat) {R:β->Prop} {F:(ι->Option β)->ι->Option β} {i0:ι} (h0:I i0) (hμ:μ i0 < 1000000000000000000) (h:∀ (L:ι->Option β) i,I i->(∀ j,I j->μ j < μ i->T R (L j))->T R (F L i)):T R (lp F i0):=by
 have key:∀ n i,I i->μ i < n->T R (lpN F n i):=by
  intro n
  induction n with
  | zero=>intro i _ hn;omega
  | succ n ih=>intro i hi hn;exact h (lpN F n) i hi λj hj hl=>ih j hj (by omega)
 unfold Sy.lp fuel
 exact key _ _ h0 hμ
theorem zcH {l:List α} {i:Int} (h0:0 <= i) (h1:i < l.length):zs l i=some (l[i.toNat]'(by omega)):=by
 unfold zs
 cases i with
 | ofNat n=>simp only [Int.ofNat_eq_natCast] at h1;simp
 | negSucc n=>omega
theorem T.get {R:β->Prop} {l:List α} {i:Int} {k:α->Option β} (h0:0 <= i) (h1:i < l.length) (hk:∀ y,l[i.toNat]?=Option.some y->T R (k y)):T R (Sy.cal (zs l i) k) :=
 T.eq (zcH h0 h1) (hk _ (List.getElem?_eq_getElem (by omega)))
theorem T.fin {o:Option β} {x:β} (h:T (λr=>r=x) o):o=Option.some x:=by
 obtain ⟨r,h1,h2⟩:=h;rw [h1,h2]
theorem T.of {o:Option β} {R:β->Prop} {x:β} (h:o=Option.some x) (hx:R x):T R o:=⟨x,h,hx⟩
end tot
end Go.Sy
namespace Go.Proofs.Q
open Go.Sy
theorem zj2 (s:Str) (i:Int):T (λr=>r=(if 0 <= i then (s.b[i.toNat]?).getD 0 else 0)) (zgy s i):=by
 unfold zgy
 refine T.jp (λq=>q=decide (¬ (0 <= i/\i < s.b.length))) (λJ h=>?_) (λq hq=>?_)
 ·refine T.br (λh1=>h _ ?_) (λh1=>h _ ?_)
  ·have:=zOT h1;simp;omega
  ·have:=zOF h1
   by_cases h2:(s.b.length:Int) <= i <;> simp [h2] <;> omega
 ·subst hq
  refine T.br (λh1=>T.some ?_) (λh1=>?_)
  ·have h2:=zOT h1
   split
   ·rename_i h3
    rw [List.getElem?_eq_none (by omega)];rfl
   ·rfl
  ·have h2:=zOF h1
   refine T.get (by omega) (by omega) λy hy=>T.some ?_
   rw [if_pos (by omega),hy];rfl

def zaF (c:UInt8):Bool:=(decide (97 <= c) && decide (c <= 122)) || (decide (65 <= c) && decide (c <= 90))
def zaq (c:UInt8):Bool:=decide (48 <= c) && decide (c <= 57)
theorem zhM (c:UInt8):zf8 c=some (zaF c):=by
 unfold zf8 zaF jp br
 cases decide (97 <= c) <;> cases decide (c <= 122) <;> cases decide (65 <= c) <;> cases decide (c <= 90) <;> rfl
theorem zfQ (c:UInt8):zfC c=some (zaq c):=by
 unfold zfC zaq jp br
 cases decide (48 <= c) <;> cases decide (c <= 57) <;> rfl

theorem zvc (s:Str) (i:Int) (h0:0 <= i) (h1:i <= s.b.length) (hl:s.b.length <= 1000000):T (λr=>i <= r/\r <= s.b.length) (zhb s i):=by
 unfold zhb
 refine T.lp (λk=>i <= k/\k <= s.b.length) (λk=>(s.b.length - k).toNat) ⟨zIl _,h1⟩ (by omega) λL k hk hL=>?_
 refine T.br (λhb=>?_) (λ_=>T.some hk)
 have hb:=zOT hb
 refine T.get (by omega) hb λy hy=>?_
 refine T.jp (λ_=>True) (λJ h=>T.br (λ_=>h _ trivial) λ_=>T.get (by omega) hb λ_ _=>h _ trivial) λq _=>?_
 refine T.jp (λ_=>True) (λJ h=>T.br (λ_=>h _ trivial) λ_=>T.get (by omega) hb λ_ _=>h _ trivial) λq _=>?_
 refine T.jp (λ_=>True) (λJ h=>T.br (λ_=>h _ trivial) λ_=>T.get (by omega) hb λ_ _=>h _ trivial) λq _=>?_
 refine T.br (λ_=>T.ck (by omega) (hL _ (by omega) (by omega))) λ_=>?_
 refine T.get (by omega) hb λy hy=>?_
 refine T.jp (λq=>q=true->k + 2 <= s.b.length) (λJ h=>T.br (λ_=>T.ck (by omega) (T.cal (zj2 s (k + 1)) λy _ hy=>h _ λhq=>?_)) λ_=>h _ (λh=>by cases h)) λq hq=>?_
 ·have:=zOT hq
  subst this
  rw [if_pos (by omega)] at hy
  rcases Nat.lt_or_ge (k + 1).toNat s.b.length with h3 | h3
  ·omega
  ·rw [List.getElem?_eq_none h3] at hy;cases hy
 refine T.br (λhb2=>T.ck (by omega) ?_) (λ_=>T.some hk)
 have hq':=hq hb2
 refine T.lp (λj=>k + 2 <= j/\j <= s.b.length) (λj=>(s.b.length - j).toNat) ⟨zIl _,hq'⟩ (by omega) λL2 j hj hL2=>?_
 refine T.jp (λq=>q=true->j < s.b.length) (λJ h=>T.br (λh2=>?_) λ_=>h _ (λh=>by cases h)) λq hq2=>?_
 ·have h2:=zOT h2
  exact T.get (by omega) h2 λ_ _=>h _ λ_=>h2
 refine T.br (λh2=>?_) (λ_=>hL _ (by omega) (by omega))
 have h2:=hq2 h2
 refine T.get (by omega) h2 λy hy=>?_
 refine T.jp (λq=>q=true->j + 2 <= s.b.length) (λJ h=>T.br (λ_=>T.ck (by omega) (T.cal (zj2 s (j + 1)) λy _ hy=>h _ λhq=>?_)) λ_=>h _ (λh=>by cases h)) λq hq3=>?_
 ·have:=zOT hq
  subst this
  rw [if_pos (by omega)] at hy
  rcases Nat.lt_or_ge (j + 1).toNat s.b.length with h3 | h3
  ·omega
  ·rw [List.getElem?_eq_none h3] at hy;cases hy
 refine T.br (λh3=>T.ck (by omega) ?_) (λ_=>T.ck (by omega) (hL2 _ (by omega) (by omega)))
 have h3:=hq3 h3
 exact hL _ (by omega) (by omega)

theorem zvU (s:Str) (i:Int) (h0:0 <= i) (h1:i < s.b.length) (hl:s.b.length <= 1000000) (hc:∀ y,s.b[i.toNat]?=some y->zaF y=true):T (λr=>r=-1 \/ (i < r/\r <= s.b.length)) (ziy s i):=by
 unfold ziy
 refine T.lp (λk=>i <= k/\k <= s.b.length) (λk=>(s.b.length - k).toNat) ⟨zIl _,by omega⟩ (by omega) λL k hk hL=>?_
 refine T.jp (λq=>(q=true->k < s.b.length)/\(q=false->i < k)) (λJ h=>?_) λq hq=>?_
 ·refine T.br (λhb=>?_) (λhb=>h _ ⟨(λh=>by cases h),λ_=>by have:=zOF hb;omega⟩)
  have hb:=zOT hb
  refine T.get (by omega) hb λy hy=>?_
  refine T.eq (zhM y) ?_
  refine T.jp (λq=>zaF y=true->q=true) (λJ2 h2=>?_) λq hq=>?_
  ·exact T.br (λ_=>h2 _ λ_=>rfl) λhn=>T.get (by omega) hb λy2 _=>T.eq (zfQ y2) (h2 _ λhy=>by rw [hn] at hy;cases hy)
  refine T.jp (λq=>zaF y=true->q=true) (λJ2 h2=>?_) λq hq=>?_
  ·refine T.br (λ_=>h2 _ λ_=>rfl) λhn=>T.get (by omega) hb λy2 _=>?_
   have hno:¬ zaF y=true:=λhy=>by rw [hq hy] at hn;cases hn
   refine T.jp (λ_=>True) (λJ3 h3=>T.br (λ_=>T.ck (by omega) (T.cal (zj2 s _) λ_ _ _=>h3 _ trivial)) λ_=>h3 _ trivial) λq _=>h2 _ λhy=>absurd hy hno
  ·refine h _ ⟨λ_=>hb,λhn=>?_⟩
   rcases Int.lt_or_eq_of_le hk.1 with h2 | h2
   ·exact h2
   ·subst h2
    have:=hq (hc y hy)
    rw [this] at hn;cases hn
 refine T.br (λhb=>T.ck (by have:=hq.1 hb;omega) (hL _ (by have:=hq.1 hb;omega) (by have:=hq.1 hb;omega))) λhb=>?_
 have hlt:=hq.2 hb
 refine T.ck (by omega) (T.get (by omega) (by omega) λy _=>?_)
 refine T.jp (λ_=>True) (λJ h=>T.br (λ_=>h _ trivial) λ_=>T.ck (by omega) (h _ trivial)) λq _=>?_
 exact T.br (λ_=>T.some (.inl rfl)) λ_=>T.some (.inr ⟨hlt,hk.2⟩)
theorem zqX {α:Type} {P:List α->Prop} (h0:P []) (h1:∀ l a,P l->P (l ++ [a])) (l:List α):P l:=by
 have:∀ m:List α,P m.reverse:=by
  intro m
  induction m with
  | nil=>exact h0
  | cons a m ih=>rw [List.reverse_cons];exact h1 _ _ ih
 have h:=this l.reverse
 rwa [List.reverse_reverse] at h

def zee (l:List UInt8):Nat:=l.foldl (λv d=>10 * v + (d.toNat - 48)) 0
def ziW (l:List UInt8):UInt64:=l.foldl (λv d=>10 * v + (d - 48).toUInt64) 0
theorem zeo {d:UInt8} (h:zaq d=true):48 <= d.toNat/\d.toNat <= 57:=by
 unfold zaq at h
 simp only [zBa,decide_eq_true_eq] at h
 have h1:=UInt8.le_iff_toNat_le.1 h.1
 have h2:=UInt8.le_iff_toNat_le.1 h.2
 simp at h1 h2
 omega
theorem zyi {d:UInt8} (h:zaq d=true):(d - 48).toUInt64.toNat=d.toNat - 48:=by
 have h1:=zeo h
 have h2:=d.toNat_lt
 have h3:(48:UInt8).toNat=48:=rfl
 rw [UInt8.toNat_toUInt64,UInt8.toNat_sub,h3]
 omega
theorem zhO (l:List UInt8) (d:UInt8):zee (l ++ [d])=10 * zee l + (d.toNat - 48):=by simp [zee]
theorem zla (l:List UInt8) (d:UInt8):ziW (l ++ [d])=10 * ziW l + (d - 48).toUInt64:=by simp [ziW]
def zlq (l:List UInt8):Prop:=∀ d ∈ l,zaq d=true
theorem zm6 {l:List UInt8} {d:UInt8} (h:zlq (l ++ [d])):zlq l/\zaq d=true :=
 ⟨λx hx=>h x (List.mem_append_left _ hx),h d (List.mem_append_right _ (zMo.2 rfl))⟩
theorem zzc (l:List UInt8):zlq l->zee l < 10 ^ l.length:=by
 refine zqX (P:=λl=>zlq l->zee l < 10 ^ l.length) (λ_=>by simp [zee]) (λl d ih h=>?_) l
 obtain ⟨h1,h2⟩:=zm6 h
 have h3:=ih h1
 have h4:=zeo h2
 rw [zhO,zLa,zLs,Nat.pow_succ]
 omega
theorem pow19 {n:Nat} (h:n <= 19):10 ^ n <= 10000000000000000000:=by
 have:=Nat.pow_le_pow_right (show 0 < 10 by omega) h
 simpa using this
theorem zlb (l:List UInt8):zlq l->l.length <= 19->(ziW l).toNat=zee l:=by
 refine zqX (P:=λl=>zlq l->l.length <= 19->(ziW l).toNat=zee l) (λ_ _=>by simp [zee,ziW]) (λl d ih h hl=>?_) l
 obtain ⟨h1,h2⟩:=zm6 h
 rw [zLa,zLs] at hl
 have h3:=ih h1 (by omega)
 have h4:=zeo h2
 have h5:=zzc (l ++ [d]) h
 rw [zLa,zLs] at h5
 have h6:=pow19 hl
 rw [zhO] at h5
 rw [zla,zhO,UInt64.toNat_add,UInt64.toNat_mul,h3,zyi h2]
 have h7:(10:UInt64).toNat=10:=rfl
 rw [h7]
 omega
theorem zvV {d:UInt8} {l:List UInt8} (h:zlq (d :: l)) (hd:d ≠ 48):1 <= zee (d :: l):=by
 refine zqX (P:=λl=>zlq (d :: l)->1 <= zee (d :: l)) (λh=>?_) (λl e ih h=>?_) l h
 ·have h1:=zeo (h d (zMo.2 rfl))
  have h2:d.toNat ≠ 48:=λe=>hd (UInt8.toNat_inj.1 e)
  have e:zee [d]=d.toNat - 48:=by simp [zee]
  omega
 ·have h2:=ih (zm6 (l:=d :: l) h).1
  have e1:=zhO (d :: l) e
  have e2:d :: (l ++ [e])=d :: l ++ [e]:=rfl
  rw [e2,e1];omega

def zuu (b:List UInt8):Prop:=∃ ds,zlq ds/\ds ≠ []/\ds.length <= 19/\((b=ds/\zee ds < 9223372036854775808) \/ (b=45 :: ds/\1 <= zee ds/\zee ds <= 9223372036854775808))

theorem zwp {l:List UInt8} {f k:Nat} {y:UInt8} (hf:f <= k) (hy:l[k]?=some y):(l.take (k + 1)).drop f=(l.take k).drop f ++ [y]:=by
 have hlt:=(List.getElem?_eq_some_iff.1 hy).1
 have h1:l.take (k + 1)=l.take k ++ [y]:=by
  rw [List.take_add_one,hy];rfl
 rw [h1,List.drop_append_of_le_length (by rw [zLt];omega)]
theorem zof {l:List UInt8} {f k:Nat} {y:UInt8} (hf:f < k) (hk:k <= l.length) (hy:l[f]?=some y):(l.take k).drop f=y :: (l.take k).drop (f + 1):=by
 have h1:(l.take k)[f]?=some y:=by rw [List.getElem?_take,if_pos hf,hy]
 obtain ⟨h2,h3⟩:=List.getElem?_eq_some_iff.1 h1
 rw [List.drop_eq_getElem_cons h2,h3]
theorem zya {l:List UInt8} {f k:Nat} (hk:k <= l.length):((l.take k).drop f).length=k - f:=by
 rw [zLd,zLt];omega

set_option maxHeartbeats 1000000 in
theorem zsN (s:Str) (i:Int) (h0:0 <= i) (h1:i < s.b.length) (hl:s.b.length <= 1000000) :
    T (λr=>r=-1 \/ (i < r/\r <= s.b.length/\zuu ((s.b.take r.toNat).drop i.toNat))) (zgh s i):=by
  unfold zgh
  refine T.get h0 h1 λy1 hy1=>?_
  refine T.jp (λf=>(y1=45/\f=i + 1) \/ (y1 ≠ 45/\f=i)) (λJ h=>T.br (λhb=>T.ck (by omega) (h _ (.inl ⟨zOT hb,rfl⟩))) λhb=>h _ (.inr ⟨zOF hb,rfl⟩)) λf hf=>?_
  have hf0:i <= f/\f <= i + 1:=by omega
  have hfl:f <= s.b.length:=by omega
  refine T.lp (ι:=Int × UInt64) (λq=>f <= q.1/\q.1 <= s.b.length/\zlq ((s.b.take q.1.toNat).drop f.toNat)/\(q.1 - f <= 19->q.2=ziW ((s.b.take q.1.toNat).drop f.toNat))) (λq=>(s.b.length - q.1).toNat)
    (by
      have e:(s.b.take f.toNat).drop f.toNat=[]:=zDn (by rw [zLt];omega)
      refine ⟨zIl _,hfl,?_,?_⟩
      · rw [e];intro d hd;cases hd
      · intro _;rw [e];rfl) (by simp only;omega) λL q hq hL=>?_
  obtain ⟨k,v⟩:=q
  obtain ⟨hq1,hq2,hq3,hq4⟩:=hq
  simp only at hq1 hq2 hq3 hq4 ⊢
  refine T.jp (λb=>b=true->k < s.b.length/\∀ y,s.b[k.toNat]?=some y->zaq y=true) (λJ h=>?_) λb hb=>?_
  · refine T.br (λh2=>?_) λ_=>h _ (λh=>by cases h)
    have h2:=zOT h2
    exact T.get (by omega) h2 λy hy=>T.eq (zfQ y) (h _ λhd=>⟨h2,λy' hy'=>by rw [hy] at hy';cases hy';exact hd⟩)
  refine T.br (λh2=>?_) λ_=>?_
  · obtain ⟨hk,hd⟩:=hb h2
    obtain ⟨y,hy⟩:∃ y,s.b[k.toNat]?=some y:=⟨_,List.getElem?_eq_getElem (by omega)⟩
    have hsn:=zwp (l:=s.b) (f:=f.toNat) (k:=k.toNat) (y:=y) (by omega) hy
    have hk1:(k + 1).toNat=k.toNat + 1:=by omega
    refine T.ck (by omega) (T.jp (λu=>k - f < 19->u=10 * v + (y - 48).toUInt64) (λJ h=>T.br (λ_=>?_) λh3=>h _ λh4=>by have:=zOF h3;omega) λu hu=>T.ck (by omega) (hL _ ?_ (by simp only;omega)))
    · exact T.get (by omega) hk λy' hy'=>h _ λ_=>by rw [hy] at hy';cases hy';rfl
    · refine ⟨by simp only;omega,by simp only;omega,?_,λh19=>?_⟩
      · simp only
        rw [hk1,hsn]
        intro d hd'
        rcases List.mem_append.1 hd' with h | h
        · exact hq3 d h
        · rw [zMo.1 h];exact hd y hy
      · simp only at h19 ⊢
        rw [hk1,hsn,zla,hu (by omega),hq4 (by omega)]
  refine T.ck (by omega) ?_
  have hlen:=zya (l:=s.b) (f:=f.toNat) (k:=k.toNat) (by omega)
  refine T.jp (λb=>b=false->1 <= k - f/\k - f <= 19) (λJ h=>T.br (λ_=>h _ (λh=>by cases h)) λh2=>h _ λh3=>by have:=zOF h2;have:=zOF h3;omega) λb1 hb1=>?_
  refine T.jp (λb=>b=false->b1=false) (λJ h=>T.br (λ_=>h _ (λh=>by cases h)) λh2=>?_) λb2 hb2=>?_
  · refine T.jp (λ_=>True) (λJ3 h3=>T.br (λh4=>T.get (by omega) (by have:=zOT h4;omega) λ_ _=>h3 _ trivial) λ_=>h3 _ trivial) λb _=>h _ λ_=>h2
  refine T.jp (λb=>b=false->b2=false/\(y1=45->∀ y,s.b[f.toNat]?=some y->y ≠ 48)) (λJ h=>T.br (λ_=>h _ (λh=>by cases h)) λh2=>?_) λb3 hb3=>?_
  · have h5:=hb1 (hb2 h2)
    refine T.jp (λb=>b=false->(y1=45->∀ y,s.b[f.toNat]?=some y->y ≠ 48)) (λJ3 h3=>T.br (λh4=>T.get (by omega) (by omega) λy hy=>h3 _ λh6 _ y' hy'=>?_) λh4=>h3 _ λ_ h7=>absurd h7 (zOF h4)) λb hb=>h _ λh6=>⟨h2,hb h6⟩
    rw [hy] at hy';cases hy'
    exact zOF h6
  refine T.jp (λb=>b=false->b3=false) (λJ h=>T.br (λ_=>h _ (λh=>by cases h)) λh2=>T.cal (zj2 s k) λy _ _=>T.eq (zhM y) (h _ λ_=>h2)) λb4 hb4=>?_
  refine T.jp (λb=>b=false->b4=false/\¬ (9223372036854775808:UInt64) < v) (λJ h=>T.br (λ_=>h _ (λh=>by cases h)) λh2=>h _ λh3=>⟨h2,zOF h3⟩) λb5 hb5=>?_
  refine T.jp (λb=>b=false->b5=false/\(y1 ≠ 45->v ≠ 9223372036854775808)) (λJ h=>T.br (λ_=>h _ (λh=>by cases h)) λh2=>?_) λb6 hb6=>?_
  · refine T.jp (λb=>b=false->(y1 ≠ 45->v ≠ 9223372036854775808)) (λJ3 h3=>T.br (λh4=>h3 _ λh5 _=>zOF h5) λh4=>h3 _ λ_ h5=>absurd h4 (by simp [h5])) λb hb=>h _ λh6=>⟨h2,hb h6⟩
  refine T.br (λ_=>T.some (.inl rfl)) λh2=>T.some (.inr ?_)
  obtain ⟨e5,hv2⟩:=hb6 h2
  obtain ⟨e4,hv1⟩:=hb5 e5
  obtain ⟨e2,hz⟩:=hb3 (hb4 e4)
  obtain ⟨n1,n2⟩:=hb1 (hb2 e2)
  have hv:=hq4 n2
  have hvn:=zlb _ hq3 (by rw [hlen];omega)
  rw [<- hv] at hvn
  have hle:v.toNat <= 9223372036854775808:=by
    have:¬ (9223372036854775808:UInt64).toNat < v.toNat:=λh=>hv1 (UInt64.lt_iff_toNat_lt.2 h)
    have e:(9223372036854775808:UInt64).toNat=9223372036854775808:=rfl
    omega
  refine ⟨by omega,hq2,(s.b.take k.toNat).drop f.toNat,hq3,λh=>by rw [h] at hlen;simp at hlen;omega,by rw [hlen];omega,?_⟩
  rcases hf with ⟨h45,hfi⟩ | ⟨h45,hfi⟩
  · right
    have hs:=zof (l:=s.b) (f:=i.toNat) (k:=k.toNat) (y:=y1) (by omega) (by omega) hy1
    have e:i.toNat + 1=f.toNat:=by omega
    rw [e] at hs
    refine ⟨by rw [hs,h45],?_,by omega⟩
    obtain ⟨y,hy⟩:∃ y,s.b[f.toNat]?=some y:=⟨_,List.getElem?_eq_getElem (by omega)⟩
    have hs2:=zof (l:=s.b) (f:=f.toNat) (k:=k.toNat) (y:=y) (by omega) (by omega) hy
    rw [hs2] at hq3 ⊢
    exact zvV hq3 (hz h45 y hy)
  · left
    subst hfi
    refine ⟨rfl,?_⟩
    have h3:=hv2 h45
    have:v.toNat ≠ 9223372036854775808:=λe=>h3 (UInt64.toNat_inj.1 e)
    omega
theorem zy1 (s:Str) (i:Int) (h0:0 <= i) (h1:i < s.b.length) (hl:s.b.length <= 1000000) :
    T (λ(r:Int × Str)=>r.1=-1 \/ (i < r.1/\r.1 <= (s.b.length:Int)/\r.2.b.length <= s.b.length)) (zke s i):=by
  unfold zke
  refine T.ck (by omega) (T.lp (λ(k:Int)=>i + 1 <= k/\k <= (s.b.length:Int)) (λ(k:Int)=>((s.b.length:Int) - k).toNat) ⟨zIl _,by omega⟩ (by omega) λL k hk hL=>?_)
  refine T.jp (λb=>b=true->k < s.b.length) (λJ h=>T.br (λh2=>?_) λ_=>h _ (λh=>by cases h)) λb hb=>?_
  · have h2:=zOT h2
    refine T.get (by omega) h2 λy _=>T.eq (zfQ y) ?_
    refine T.jp (λ_=>True) (λJ2 h3=>T.br (λ_=>h3 _ trivial) λ_=>T.get (by omega) h2 λy _=>?_) λq _=>h _ λ_=>h2
    refine T.jp (λ_=>True) (λJ4 h4=>T.br (λ_=>T.get (by omega) h2 λ_ _=>h4 _ trivial) λ_=>h4 _ trivial) λq _=>h3 _ trivial
  refine T.br (λh2=>T.ck (by have:=hb h2;omega) (hL _ (by have:=hb h2;omega) (by have:=hb h2;omega))) λ_=>?_
  refine T.ck (by omega) (T.asr rfl ?_)
  have hat:∀ (j:Int) y,y=(if 0 <= j then (s.b[j.toNat]?).getD 0 else 0)->y ≠ 0->0 <= j/\j < s.b.length:=by
    intro j y hy h0
    split at hy
    · rename_i h3
      refine ⟨h3,?_⟩
      rcases Nat.lt_or_ge j.toNat s.b.length with h4 | h4
      · omega
      · rw [List.getElem?_eq_none h4] at hy;exact absurd hy h0
    · exact absurd hy h0
  refine T.jp (λ_=>True) (λJ h=>T.br (λ_=>h _ trivial) λ_=>T.cal (zj2 s k) λy _ hy=>h _ trivial) λb1 hb1=>?_
  refine T.jp (λb=>b=false->k + 1 < s.b.length) (λJ h=>T.br (λ_=>h _ (λh=>by cases h)) λ_=>T.ck (by omega) (T.cal (zj2 s (k + 1)) λy _ hy=>h _ λh4=>?_)) λb2 hb2=>?_
  · have h5:y=72:=by simpa using h4
    exact (hat _ _ hy (by rw [h5];decide)).2
  refine T.br (λ_=>T.some (.inl rfl)) λh3=>T.ck (by omega) (T.asd ?_ (T.some (.inr ?_)))
  · have:=hb2 h3;omega
  · have:=hb2 h3
    refine ⟨by dsimp only;omega,by dsimp only;omega,?_⟩
    simp only [zLd,zLt];omega

theorem ztv (s:Str) (i:Int) (h0:0 <= i) (h1:i < s.b.length) (hl:s.b.length <= 1000000) :
    T (λ(r:Int × Str)=>r.1=-1 \/ (i < r.1/\r.1 <= (s.b.length:Int)/\r.2.b.length <= s.b.length)) (zf7 s i):=by
  unfold zf7
  refine T.ck (by omega) (T.lp (ι:=Int × Str) (λq=>i + 1 <= q.1/\q.1 <= s.b.length + 1/\(q.2.b.length:Int) < q.1) (λq=>(s.b.length + 1 - q.1).toNat) ⟨zIl _,by dsimp only;omega,by dsimp only;simp only [zLn];omega⟩ (by dsimp only;omega) λL q hq hL=>?_)
  obtain ⟨k,o⟩:=q
  obtain ⟨hq1,hq2,hq3⟩:=hq
  simp only at hq1 hq2 hq3 ⊢
  refine T.br (λh2=>?_) λ_=>T.some (.inl rfl)
  have h2:=zOT h2
  refine T.jp (λ(q:Int × Str)=>k <= q.1/\q.1 < (s.b.length:Int)/\(q.2.b.length:Int) < q.1 + 1) (λJ h=>?_) λq hq=>?_
  · refine T.get (by omega) h2 λy _=>T.br (λ_=>?_) λ_=>?_
    · refine T.ck (by omega) (T.asd (by omega) (T.abl ?_ (h _ ?_)))
      · simp only [zLd,zLt];omega
      · refine ⟨zIl _,by dsimp only;omega,?_⟩
        simp only [zLa,zLd,zLt];omega
    · refine T.ck (by omega) (T.cal (zj2 s (k + 1)) λy2 _ hy2=>T.br (λ_=>?_) λh34=>?_)
      · exact T.eq rfl (T.br (λ_=>T.some (.inl rfl)) λ_=>T.ck (by omega) (T.some (.inr ⟨by dsimp only;omega,by dsimp only;omega,by dsimp only;omega⟩)))
      · have hlt:k + 1 < s.b.length:=by
          have h5:y2=34:=by simpa using h34
          rw [if_pos (by omega)] at hy2
          rcases Nat.lt_or_ge (k + 1).toNat s.b.length with h4 | h4
          · omega
          · rw [List.getElem?_eq_none h4,h5] at hy2;cases hy2
        refine T.abl ?_ (T.ck (by omega) (h _ ?_))
        · simp only [zLc,zLn];omega
        · refine ⟨by dsimp only;omega,by dsimp only;omega,?_⟩
          simp only [zLa,zLc,zLn];omega
  · exact T.ck (by omega) (hL _ ⟨by dsimp only;omega,by dsimp only;omega,hq.2.2⟩ (by dsimp only;omega))

theorem zi2 (l:List Str) (x:Str) (hl:l.length <= 1000000):T (λr=>r=decide (x ∈ l)) (zgo l x):=by
 unfold zgo
 refine T.lp (λ(k:Int)=>0 <= k/\k <= (l.length:Int)/\x ∉ l.take k.toNat) (λ(k:Int)=>((l.length:Int) - k).toNat) ⟨zIl _,by omega,by simp⟩ (by omega) λL k hk hL=>?_
 refine T.br (λh2=>?_) λh2=>T.some ?_
 ·have h2:=zOT h2
  refine T.get hk.1 h2 λy hy=>T.br (λh3=>T.some ?_) λh3=>T.ck (by omega) (hL _ ⟨by omega,by omega,?_⟩ (by omega))
  ·have h3:=zOT h3
   subst h3
   exact (zDT (List.mem_of_getElem? hy)).symm
  ·have h3:=zOF h3
   have e:(k + 1).toNat=k.toNat + 1:=by omega
   rw [e,List.take_add_one,hy]
   simp only [Option.toList_some,List.mem_append,zMo,not_or]
   exact ⟨hk.2.2,λh=>h3 h.symm⟩
 ·have h2:=zOF h2
  have h4:=hk.2.2
  rw [zTl (by omega)] at h4
  exact (zDF h4).symm

theorem zxC (s:Str) (i:Int) (h0:0 <= i) (h1:i < s.b.length) (hl:s.b.length <= 1000000):T (λ(r:Int)=>0 <= r/\i + r <= (s.b.length:Int)) (ziu s i):=by
 unfold ziu
 refine T.asd (by omega) (T.lp (λ(k:Int)=>0 <= k) (λ(k:Int)=>(13 - k).toNat) (zIl _) (by omega) λL k hk hL=>?_)
 refine T.br (λh2=>?_) λ_=>T.some ⟨zIl _,by omega⟩
 have h2:=zOT h2
 have hrest:((Str.mk ((s.b.take ((s.b.length:Int)).toNat).drop i.toNat)).b.length:Int)=s.b.length - i:=by
  simp only [zLd,zLt];omega
 refine T.get hk h2 λy hy=>?_
 refine T.jp (λb=>b=true->i + (y.b.length:Int) <= s.b.length) (λJ h=>T.br (λh3=>?_) λ_=>h _ (λh=>by cases h)) λb hb=>?_
 ·have h3:=zOT h3
  rw [hrest] at h3
  refine T.asd ⟨zIl _,by omega,by rw [hrest];exact h3⟩ (T.get hk h2 λy2 hy2=>h _ λ_=>by omega)
 ·refine T.br (λh3=>T.some ⟨by omega,hb h3⟩) λ_=>T.ck (by have h2:k < 13:=h2;omega) (hL _ (by omega) ?_)
  have h2:k < 13:=h2
  omega

structure zri (n:Nat) (t:zU):Prop where
 num:t.kind=3->zuu t.text.b
 len:t.text.b.length <= n
 at0:0 <= t.at_/\t.at_ <= n
theorem zve:∀ r,zjI=some r->r.length <= 1000000:=by
 intro r h
 unfold zjI at h
 have:=Option.some.inj h
 subst this
 decide
theorem zxH (s:Str):T (λ_=>True) (zia s):=by
 unfold zia
 refine T.cal (Q:=λ_=>True) ⟨_,rfl,trivial⟩ λy hy _=>T.cal (zi2 y s (zve y hy)) λ_ _ _=>T.some trivial

theorem zyL (s:Str) (i:Int) (h0:0 <= i) (h1:i < s.b.length) (hl:s.b.length <= 1000000) :
    T (λ(r:zU × Int)=>r.2 < 0 \/ (i < r.2/\r.2 <= (s.b.length:Int)/\zri s.b.length r.1/\1 <= r.1.kind/\r.1.kind <= 7)) (zjS s i):=by
  unfold zjS
  refine T.get h0 h1 λy hy=>?_
  refine T.jp (ι:=Int × zU) (λ(q:Int × zU)=>q.1 < 0 \/ (i < q.1/\q.1 <= (s.b.length:Int)/\zri s.b.length q.2/\1 <= q.2.kind/\q.2.kind <= 7)) (λJ h=>?_) λq hq=>T.some hq
  have hsub:∀ (a b:Nat),((s.b.take a).drop b).length <= s.b.length:=λa b=>by rw [zLd,zLt];omega
  refine T.eq (zhM y) (T.br (λhle=>?_) λ_=>T.eq (zfQ y) ?_)
  · refine T.cal (zvU s i h0 h1 hl λy' hy'=>by rw [hy] at hy';cases hy';exact hle) λe _ he=>T.br (λ_=>T.some (.inl (by dsimp only;omega))) λhn=>?_
    have hn:=zOF hn
    have he':i < e/\e <= s.b.length:=by omega
    refine T.asd (by omega) (T.jp (ι:=zU) (λt=>(t.kind=1 \/ t.kind=2)/\t.text.b.length <= s.b.length/\t.at_=i) (λJ2 h2=>T.br (λ_=>h2 _ ⟨.inl rfl,hsub _ _,rfl⟩) λ_=>h2 _ ⟨.inr rfl,hsub _ _,rfl⟩) λt ht=>?_)
    obtain ⟨ht1,ht2,ht3⟩:=ht
    refine T.cal (zxH t.text) λw _ _=>T.br (λ_=>h _ (.inr ⟨he'.1,he'.2,⟨λh=>by simp at h,ht2,by dsimp only;omega⟩,by simp,by simp⟩)) λ_=>h _ (.inr ⟨he'.1,he'.2,⟨λh=>by rw [h] at ht1;omega,ht2,by dsimp only;omega⟩,by dsimp only;omega,by dsimp only;omega⟩)
  · refine T.jp (λ_=>True) (λJ2 h2=>T.br (λ_=>h2 _ trivial) λ_=>?_) λb _=>?_
    · refine T.jp (λ_=>True) (λJ3 h3=>T.br (λ_=>T.ck (by omega) (T.cal (zj2 s _) λy _ _=>T.eq (zfQ y) (h3 _ trivial))) λ_=>h3 _ trivial) λ_ _=>h2 _ trivial
    refine T.br (λ_=>T.cal (zsN s i h0 h1 hl) λe _ he=>T.br (λ_=>T.some (.inl (by dsimp only;omega))) λhn=>?_) λ_=>?_
    · have hn:=zOF hn
      have he':i < e/\e <= s.b.length/\zuu ((s.b.take e.toNat).drop i.toNat):=by
        rcases he with h | h
        · omega
        · exact h
      exact T.asd (by omega) (h _ (.inr ⟨he'.1,he'.2.1,⟨λ_=>he'.2.2,hsub _ _,by dsimp only;omega⟩,by simp,by simp⟩))
    · refine T.br (λ_=>T.cal (zy1 s i h0 h1 hl) λe _ he=>h _ ?_) λ_=>T.br (λ_=>T.cal (ztv s i h0 h1 hl) λe _ he=>h _ ?_) λ_=>?_
      · rcases he with h | h
        · left;rw [h];decide
        · exact .inr ⟨h.1,h.2.1,⟨λh=>by simp at h,h.2.2,by dsimp only;omega⟩,by simp,by simp⟩
      · rcases he with h | h
        · left;rw [h];decide
        · exact .inr ⟨h.1,h.2.1,⟨λh=>by simp at h,h.2.2,by dsimp only;omega⟩,by simp,by simp⟩
      · refine T.cal (zxC s i h0 h1 hl) λe _ he=>T.br (λhp=>?_) λ_=>h _ (.inl (by dsimp only;omega))
        have hp:=zOT hp
        exact T.ck (by omega) (T.asd (by omega) (T.ck (by omega) (h _ (.inr ⟨by dsimp only;omega,by dsimp only;omega,⟨λh=>by simp at h,hsub _ _,by dsimp only;omega⟩,by simp,by simp⟩))))

structure zxe (l:List zU):Prop where
 len:l.length <= 8001
 ok:∀ t ∈ l,zri 8000 t
 last:∃ m e,l=m ++ [e]/\e.kind=0/\∀ t ∈ m,1 <= t.kind/\t.kind <= 7

theorem zsQ (s:Str):T (λr=>r.2.2=0->zxe r.1) (zfp s):=by
 unfold zfp
 refine T.br (λ_=>T.some (λh=>by cases h)) λhl=>?_
 have hl:=zOF hl
 refine T.lp (ι:=List zU × Int) (λ(q:List zU × Int)=>0 <= q.2/\q.2 <= (s.b.length:Int)/\(q.1.length:Int) <= q.2/\(∀ t ∈ q.1,zri 8000 t/\1 <= t.kind/\t.kind <= 7)) (λ(q:List zU × Int)=>((s.b.length:Int) - q.2).toNat) ⟨zIl _,by dsimp only;omega,by simp,by simp⟩ (by dsimp only;omega) λL q hq hL=>?_
 obtain ⟨l,k⟩:=q
 obtain ⟨h1,h2,h3,h4⟩:=hq
 simp only at h1 h2 h3 h4 ⊢
 refine T.cal (zvc s k h1 h2 (by omega)) λe _ he=>T.br (λ_=>?_) λhb=>?_
 ·refine T.abl (by simp only [zLc,zLn];omega) (T.some λ_=>⟨?_,?_,⟨l,_,rfl,rfl,λt ht=>(h4 t ht).2⟩⟩)
  ·simp only [zLa,zLc,zLn];omega
  ·intro t ht
   rcases List.mem_append.1 ht with h | h
   ·exact (h4 t h).1
   ·rw [zMo.1 h];exact ⟨λh=>by simp at h,by simp,by dsimp only;omega⟩
 ·have hb:=zOF hb
  refine T.cal (zyL s e (by omega) (by omega) (by omega)) λr _ hr=>T.br (λ_=>T.some (λh=>by cases h)) λhn=>?_
  have hn:=zOF hn
  rcases hr with h | ⟨r1,r2,r3,r4,r5⟩
  ·exact absurd h hn
  refine T.abl (by simp only [zLc,zLn];omega) (hL _ ⟨by dsimp only;omega,by dsimp only;omega,?_,λt ht=>?_⟩ (by dsimp only;omega))
  ·simp only [zLa,zLc,zLn];omega
  ·rcases List.mem_append.1 ht with h | h
   ·exact h4 t h
   ·rw [zMo.1 h];exact ⟨⟨r3.num,by have:=r3.len;omega,by have:=r3.at0;omega⟩,r4,r5⟩
structure Ok (l:List zU) (m:zaB) (a:Int) (P:Prop) (y:zz):Prop where
 toks:zxe l
 yl:y.l=l
 ym:y.m=m
 a0:0 <= y.at_
 a1:y.at_ < l.length
 ok:y.e=0->P/\a <= y.at_
theorem Ok.to {l m a P y} {a':Int} {P':Prop} (h:Ok l m a P y) (k:y.e=0->P->a <= y.at_->P'/\a' <= y.at_):Ok l m a' P' y:=⟨h.toks,h.yl,h.ym,h.a0,h.a1,λe=>k e (h.ok e).1 (h.ok e).2⟩
theorem Ok.err {l m a P y} {a':Int} {P':Prop} (h:Ok l m a P y) (k:¬ y.e=0):Ok l m a' P' y:=h.to λe=>absurd e k

def Tk (x:zz) (t:zU):Prop:=x.l[x.at_.toNat]?=some t
theorem Tk.ok {l m a P x t} (h:Ok l m a P x) (ht:Tk x t):zri 8000 t:=by
 unfold Tk at ht
 rw [h.yl] at ht
 exact h.toks.ok t (List.mem_of_getElem? ht)
theorem Tk.last {l m a P x t} (h:Ok l m a P x) (ht:Tk x t) (hk:t.kind ≠ 0):x.at_ + 1 < l.length:=by
 unfold Tk at ht
 rw [h.yl] at ht
 obtain ⟨m',e,h1,h2,h3⟩:=h.toks.last
 rcases Nat.lt_or_ge (x.at_.toNat + 1) l.length with h4 | h4
 ·have:=h.a0;omega
 ·exfalso
  have h5:=h.a1
  have h6:=h.a0
  have h7:x.at_.toNat=m'.length:=by rw [h1] at h4 h5;simp only [zLa,zLs] at h4 h5;omega
  rw [h1,h7,List.getElem?_append_right (zNl _)] at ht
  simp at ht
  subst ht
  exact hk h2

theorem zf2 {l m a P x} (h:Ok l m a P x):T (λr=>Tk x r.1/\r.2=x) (zaG x):=by
 unfold zaG
 refine T.get h.a0 (by rw [h.yl];exact h.a1) λy hy=>T.some ⟨hy,rfl⟩
theorem zgP {l m a P x} (e:Int) (t:zU) (h:Ok l m a P x) (he:e ≠ 0):T (λr=>Ok l m a P r/\r.e ≠ 0) (za4 x e t):=by
 unfold za4
 refine T.br (λh1=>T.some ⟨⟨h.toks,h.yl,h.ym,h.a0,h.a1,λh2=>absurd h2 he⟩,he⟩) λh1=>T.some ⟨h,zOF h1⟩
theorem zmh {l m a P x} (h:Ok l m a P x):T (λr=>Tk x r.1/\Ok l m a P r.2/\(r.1.kind ≠ 0->r.2.at_=x.at_ + 1)/\r.2.e=x.e) (zbx x):=by
 unfold zbx
 have hl:=h.toks.len
 have h1:=h.a0
 have h2:=h.a1
 refine T.get h.a0 (by rw [h.yl];exact h.a1) λy hy=>T.ck (by omega) (T.jp (λr=>Ok l m a P r/\(y.kind ≠ 0->r.at_=x.at_ + 1)/\r.e=x.e) (λJ k=>T.br (λh3=>?_) λh3=>k _ ?_) λq hq=>T.some ⟨hy,hq⟩)
 ·have h3:=zOT h3
  rw [h.yl] at h3
  refine T.ck (by omega) (k _ ⟨⟨h.toks,h.yl,h.ym,by dsimp only;omega,h3,λe=>?_⟩,λ_=>rfl,rfl⟩)
  have:=h.ok e
  exact ⟨this.1,by dsimp only;omega⟩
 ·have h3:=zOF h3
  rw [h.yl] at h3
  exact ⟨h,λhk=>absurd (Tk.last h hy hk) h3,rfl⟩
theorem zk0 {l m a P x} (k:Int) (hk:1 <= k) (h:Ok l m a P x):T (λr=>Ok l m a P r.2/\(r.2.e=0->x.e=0/\r.2.at_=x.at_ + 1/\∃ t,Tk x t/\t.kind=k/\r.1=t.text)/\(r.2.e ≠ 0->r.1=⟨[]⟩)) (zbw x k):=by
 unfold zbw
 refine T.cal (zf2 h) λ⟨t,x'⟩ _ ⟨ht,hx⟩=>?_
 subst hx
 dsimp only at ht ⊢
 refine T.jp (λb=>b=false->x'.e=0/\t.kind=k) (λJ h1=>T.br (λ_=>h1 _ λh=>by cases h) λh2=>h1 _ λh3=>⟨by simpa using h2,by simpa using h3⟩) λb hb=>T.br (λ_=>?_) λh2=>?_
 ·exact T.cal (zgP _ _ h (by decide)) λy _ hy=>T.some ⟨hy.1,λe=>absurd e hy.2,λ_=>rfl⟩
 ·obtain ⟨h3,h4⟩:=hb h2
  refine T.cal (zmh h) λy _ hy=>T.some ⟨hy.2.1,λe=>⟨h3,?_,t,ht,h4,?_⟩,λe=>absurd (hy.2.2.2.trans h3) e⟩
  ·have:y.1=t:=by have:=hy.1;unfold Tk at this ht;rw [ht] at this;cases this;rfl
   exact hy.2.2.1 (by rw [this];omega)
  ·have:y.1=t:=by have:=hy.1;unfold Tk at this ht;rw [ht] at this;cases this;rfl
   rw [this]
theorem zck {l m a P x} (s:Str) (h:Ok l m a P x):T (λr=>Ok l m a P r.2/\r.2.e=x.e/\(r.1=true->x.e=0/\r.2.at_=x.at_ + 1)/\(r.1=false->r.2=x)) (zE x s):=by
 unfold zE
 refine T.cal (zf2 h) λ⟨t,x'⟩ _ ⟨ht,hx⟩=>?_
 subst hx
 dsimp only at ht ⊢
 refine T.jp (λb=>b=true->x'.e=0/\t.kind ≠ 0) (λJ h1=>T.br (λh2=>?_) λ_=>h1 _ λh=>by cases h) λb hb=>?_
 ·have h2:=zOT h2
  refine T.jp (λb=>b=true->t.kind ≠ 0) (λJ h3=>T.br (λh4=>h3 _ λ_=>by have:=zOT h4;omega) λ_=>h3 _ λh=>by have:=zOT h;omega) λb hb=>h1 _ λh=>⟨h2,hb h⟩
 ·refine T.jp (λb=>b=true->x'.e=0/\t.kind ≠ 0) (λJ h1=>T.br (λh2=>h1 _ λ_=>hb h2) λ_=>h1 _ λh=>by cases h) λb2 hb2=>T.br (λh2=>?_) λ_=>T.some ⟨h,rfl,(λh=>by cases h),λ_=>rfl⟩
  obtain ⟨h3,h4⟩:=hb2 h2
  refine T.cal (zmh h) λy _ hy=>T.some ⟨hy.2.1,hy.2.2.2,λ_=>⟨h3,?_⟩,λh=>by cases h⟩
  have:y.1=t:=by have:=hy.1;unfold Tk at this ht;rw [ht] at this;cases this;rfl
  exact hy.2.2.1 (by rw [this];exact h4)
theorem zcq {l m a P x} (s:Str) (h:Ok l m a P x):T (λr=>Ok l m a P r/\(r.e=0->x.e=0/\r.at_=x.at_ + 1)) (zP x s):=by
 unfold zP
 refine T.jp (λq=>Ok l m a P q.2/\(q.2.e=0->x.e=0)/\(q.1=false->q.2.e=0->q.2.at_=x.at_ + 1)) (λJ h1=>T.br (λh2=>T.cal (zck s h) λy _ hy=>h1 _ ⟨hy.1,λ_=>zOT h2,λh3 _=>(hy.2.2.1 (by simpa using h3)).2⟩) λh2=>h1 _ ⟨h,λh=>h,λ_ h3=>absurd h3 (zOF h2)⟩) λq hq=>T.br (λh2=>?_) λh2=>T.some ⟨hq.1,λh3=>⟨hq.2.1 h3,hq.2.2 h2 h3⟩⟩
 refine T.cal (zf2 hq.1) λ⟨t,x'⟩ _ ⟨ht,hx⟩=>?_
 subst hx
 exact T.cal (zgP _ _ hq.1 (by decide)) λy _ hy=>T.some ⟨hy.1,λe=>absurd e hy.2⟩
theorem zs3 (t:zU):T (λ_=>True) (zhZ t):=by
 unfold zhZ
 refine T.lp (λ(k:Int)=>0 <= k) (λ(k:Int)=>(10 - k).toNat) (zIl _) (by omega) λL k hk hL=>?_
 refine T.br (λh2=>?_) λ_=>T.some trivial
 have h2:k < 10:=zOT h2
 refine T.get hk h2 λy _=>T.jp (λ_=>True) (λJ h3=>T.br (λ_=>T.jp (λ_=>True) (λJ4 h4=>T.br (λ_=>h4 _ trivial) λ_=>h4 _ trivial) λ_ _=>h3 _ trivial) λ_=>h3 _ trivial) λq _=>T.br (λ_=>T.some trivial) λ_=>T.ck (by omega) (hL _ (by omega) (by omega))
theorem zp0 (s:Str) (h:zuu s.b):T (λr=>-9223372036854775808 <= r/\r <= 9223372036854775807) (zhN s):=by
 obtain ⟨ds,hd,hne,hlen,hv⟩:=h
 unfold zhN
 have hlb:s.b.length <= 20/\0 < s.b.length:=by
  have:0 < ds.length:=List.length_pos_iff.2 hne
  rcases hv with ⟨h1,_⟩ | ⟨h1,_⟩
  ·rw [h1];omega
  ·rw [h1];simp only [zLc];omega
 refine T.get (zIl _) (by omega) λy1 hy1=>?_
 refine T.jp (λq=>q.b=ds/\(y1=45->1 <= zee ds/\zee ds <= 9223372036854775808)/\(y1 ≠ 45->zee ds < 9223372036854775808)) (λJ k=>T.br (λh1=>?_) λh1=>k _ ?_) λq hq=>?_
 ·have h1:=zOT h1
  refine T.asd (by omega) (k _ ?_)
  rcases hv with ⟨h2,h3⟩ | ⟨h2,h3⟩
  ·exfalso
   rw [h2] at hy1
   have:=zeo (hd y1 (List.mem_of_getElem? hy1))
   rw [h1] at this
   have e:(45:UInt8).toNat=45:=rfl
   omega
  ·refine ⟨?_,λ_=>h3,λh=>absurd h1 h⟩
   dsimp only
   rw [h2]
   simp
 ·have h1:=zOF h1
  rcases hv with ⟨h2,h3⟩ | ⟨h2,h3⟩
  ·exact ⟨h2,λh=>absurd h h1,λ_=>h3⟩
  ·rw [h2] at hy1
   simp at hy1
   exact absurd hy1.symm h1
 ·obtain ⟨q1,q2,q3⟩:=hq
  refine T.lp (λ(p:UInt64 × Int)=>0 <= p.2/\p.2 <= (ds.length:Int)/\p.1=ziW (ds.take p.2.toNat)) (λ(p:UInt64 × Int)=>((ds.length:Int) - p.2).toNat) ⟨zIl _,by dsimp only;omega,rfl⟩ (by dsimp only;omega) λL p hp hL=>?_
  obtain ⟨v,k⟩:=p
  obtain ⟨p1,p2,p3⟩:=hp
  dsimp only at p1 p2 p3 ⊢
  rw [q1]
  refine T.br (λh1=>?_) λh1=>?_
  ·have h1:=zOT h1
   refine T.get p1 h1 λy hy=>T.ck (by omega) (hL _ ⟨by dsimp only;omega,by dsimp only;omega,?_⟩ (by dsimp only;omega))
   have e:(k + 1).toNat=k.toNat + 1:=by omega
   dsimp only
   rw [e,List.take_add_one,hy,Option.toList_some,zla,p3]
  ·have h1:=zOF h1
   rw [zTl (by omega)] at p3
   have hn:=zlb ds hd hlen
   rw [<- p3] at hn
   refine T.br (λh2=>?_) λh2=>?_
   ·have h3:=q2 (zOT h2)
    have e:(v - 1).toNat=zee ds - 1:=by
     have e1:(1:UInt64).toNat=1:=rfl
     rw [UInt64.toNat_sub_of_le v 1 (by rw [UInt64.le_iff_toNat_le,e1];omega),e1,hn]
    rw [e]
    exact T.ck (by omega) (T.ck (by omega) (T.ck (by omega) (T.some (by omega))))
   ·have h3:=q3 (zOF h2)
    exact T.ck (by omega) (T.some (by omega))
theorem zlc {l m a P x} (h:Ok l m a P x):T (λr=>Ok l m a P r.2/\(r.2.e=0->x.e=0/\r.2.at_=x.at_ + 1)/\-9223372036854775808 <= r.1/\r.1 <= 9223372036854775807) (zb1 x):=by
 unfold zb1
 refine T.cal (zk0 3 (by decide) h) λr _ hr=>T.br (λh2=>T.some ⟨hr.1,λe=>⟨(hr.2.1 e).1,(hr.2.1 e).2.1⟩,by dsimp only;omega,by dsimp only;omega⟩) λh2=>?_
 have h2:=zOF h2
 by_cases he:r.2.e=0
 ·obtain ⟨h3,h4,t,h5,h6,h7⟩:=hr.2.1 he
  refine T.cal (zp0 r.1 (by rw [h7];exact (Tk.ok h h5).num h6)) λv _ hv=>T.some ⟨hr.1,λe=>⟨h3,h4⟩,hv⟩
 ·exact absurd (hr.2.2 he) h2
theorem zoj {l m a P x} (h:Ok l m a P x):T (λr=>Ok l m a P r.2/\(r.2.e=0->x.e=0)) (zcD x):=by
 unfold zcD
 refine T.cal (zck _ h) λr _ hr=>T.jp (λq=>Ok l m a P q.1/\(q.1.e=0->x.e=0)) (λJ k=>T.br (λ_=>T.cal (zlc hr.1) λs _ hs=>k _ ⟨hs.1,λe=>hr.2.1 ▸ (hs.2.1 e).1⟩) λ_=>k _ ⟨hr.1,λe=>hr.2.1 ▸ e⟩) λq hq=>?_
 refine T.jp (λq=>Ok l m a P q.1/\(q.1.e=0->x.e=0)) (λJ k=>T.cal (zck _ hq.1) λs _ hs=>T.br (λ_=>T.cal (zck _ hs.1) λu _ hu=>T.br (λ_=>T.cal (zlc hu.1) λv _ hv=>k _ ⟨hv.1,λe=>hq.2 (hs.2.1 ▸ hu.2.1 ▸ (hv.2.1 e).1)⟩) λ_=>k _ ⟨hu.1,λe=>hq.2 (hs.2.1 ▸ hu.2.1 ▸ e)⟩) λ_=>T.br (λ_=>k _ ⟨hs.1,λe=>hq.2 (hs.2.1 ▸ e)⟩) λ_=>k _ ⟨hs.1,λe=>hq.2 (hs.2.1 ▸ e)⟩) λq2 hq2=>?_
 refine T.cal (zck _ hq2.1) λs _ hs=>T.jp (λq=>Ok l m a P q.1/\(q.1.e=0->x.e=0)) (λJ k=>T.br (λ_=>T.cal (zcq _ hs.1) λu _ hu=>k _ ⟨hu.1,λe=>hq2.2 (hs.2.1 ▸ (hu.2 e).1)⟩) λ_=>k _ ⟨hs.1,λe=>hq2.2 (hs.2.1 ▸ e)⟩) λq3 hq3=>T.some hq3
theorem znU {l m a P x} (h:Ok l m a P x):T (λr=>Ok l m a P r.2/\(r.2.e=0->x.e=0)) (zcM x):=by
 unfold zcM
 refine T.cal (zck _ h) λr _ hr=>T.br (λ_=>T.some ⟨hr.1,λe=>hr.2.1 ▸ e⟩) λ_=>?_
 refine T.cal (zcq _ hr.1) λy1 _ h1=>T.cal (zcq _ h1.1) λy2 _ h2=>T.cal (zoj h2.1) λy3 _ h3=>T.cal (zcq _ h3.1) λy4 _ h4=>T.cal (zcq _ h4.1) λy5 _ h5=>T.some ⟨h5.1,λe=>?_⟩
 exact hr.2.1 ▸ (h1.2 (h2.2 (h3.2 (h4.2 (h5.2 e).1).1)).1).1

def I64 (x:Int):Prop:=-9223372036854775808 <= x/\x <= 9223372036854775807
def IOk (n:zh):Prop:=(∀ it ∈ n.items,I64 it.number)/\(n.more=true->0 <= n.root/\n.root <= n.items.length)
structure zuo (n n':zh):Prop where
 kind:n'.kind=n.kind
 fields:n'.fields=n.fields
 of:n'.of=n.of
theorem zuP {l m a P x} (n:zh) (h:Ok l m a P x) (hn:n.items=[]) (hm:n.more=false):T (λr=>Ok l m a P r.1/\(r.1.e=0->x.e=0)/\zuo n r.2/\(∀ it ∈ r.2.items,I64 it.number)/\0 <= r.2.root/\r.2.root <= r.2.items.length/\r.2.items.length <= 8001) (zdn x n):=by
 unfold zdn
 have hl:=h.toks.len
 refine T.jp (λq=>Ok l m a P q.1/\(q.1.e=0->x.e=0)/\zuo n q.2/\IOk q.2/\q.2.items.length <= 8001) (λJ k=>?_) λq hq=>T.br (λ_=>T.some ⟨hq.1,hq.2.1,⟨hq.2.2.1.kind,hq.2.2.1.fields,hq.2.2.1.of⟩,hq.2.2.2.1.1,by dsimp only;omega,zIl _,hq.2.2.2.2⟩) λhm2=>T.some ⟨hq.1,hq.2.1,hq.2.2.1,hq.2.2.2.1.1,(hq.2.2.2.1.2 (by simpa using hm2)).1,(hq.2.2.2.1.2 (by simpa using hm2)).2,hq.2.2.2.2⟩
 have ha0:=h.a0
 have ha1:=h.a1
 refine T.lp (λ(q:zz × zh)=>Ok l m a P q.1/\(q.1.e=0->x.e=0)/\zuo n q.2/\(q.2.items.length:Int) <= q.1.at_/\IOk q.2) (λ(q:zz × zh)=>((l.length:Int) - q.1.at_).toNat) ⟨h,λe=>e,⟨rfl,rfl,rfl⟩,by dsimp only;rw [hn];simpa using ha0,by dsimp only;rw [hn];simp,λh=>by dsimp only at h;rw [hm] at h;cases h⟩ (by dsimp only;omega) λL q hq hL=>?_
 obtain ⟨y,n1⟩:=q
 obtain ⟨h1,h2,h3,h4,h5⟩:=hq
 dsimp only at h1 h2 h3 h4 h5 ⊢
 refine T.br (λhe=>?_) λ_=>k _ ⟨h1,h2,h3,h5,by have:=h1.a1;dsimp only;omega⟩
 have he:=zOT he
 refine T.jp (λ_=>True) (λJ2 k2=>T.br (λ_=>k2 _ trivial) λ_=>k2 _ trivial) λb _=>?_
 refine T.jp (λ(q:Bool × zz)=>Ok l m a P q.2/\q.2.e=y.e/\(q.1=true->q.2.at_=y.at_ + 1)/\(q.1=false->q.2.at_=y.at_)) (λJ3 k3=>T.br (λ_=>T.cal (zck _ h1) λr _ hr=>k3 _ ⟨hr.1,hr.2.1,λe=>(hr.2.2.1 e).2,λe=>by rw [hr.2.2.2 e]⟩) λ_=>k3 _ ⟨h1,rfl,(λh=>by cases h),λ_=>rfl⟩) λq3 hq3=>?_
 refine T.jp (λ(q:zz × zh)=>Ok l m a P q.1/\(q.1.e=0->q.1.at_ ≥ y.at_ + 1)/\zuo n q.2/\(q.2.items.length:Int) <= y.at_ + 1/\IOk q.2) (λJ4 k4=>T.br (λhb=>k4 _ ⟨hq3.1,λ_=>by dsimp only;rw [hq3.2.2.1 hb];omega,⟨h3.kind,h3.fields,h3.of⟩,by dsimp only;omega,h5.1,λ_=>⟨by dsimp only;omega,zIl _⟩⟩) λhb=>?_) λq4 hq4=>?_
 ·have hq5:=hq3.2.2.2 hb
  refine T.cal (zk0 2 (by decide) hq3.1) λr _ hr=>T.cal (zck _ hr.1) λs _ hs=>T.jp (λ(q:zz × zag)=>Ok l m a P q.1/\(q.1.e=0->r.2.e=0/\q.1.at_ ≥ r.2.at_)/\I64 q.2.number) (λJ5 k5=>T.br (λhb2=>T.cal (zlc hs.1) λu _ hu=>T.cal (zcq _ hu.1) λw _ hw=>k5 _ ⟨hw.1,λe=>?_,hu.2.2⟩) λhb2=>k5 _ ⟨hs.1,λe=>⟨hs.2.1 ▸ e,by dsimp only;rw [hs.2.2.2 hb2];omega⟩,by unfold I64;dsimp only;omega⟩) λq5 hq5'=>T.abl ?_ (k4 _ ⟨hq5'.1,λe=>?_,⟨h3.kind,h3.fields,h3.of⟩,?_,?_,?_⟩)
  ·have e1:=hw.2 e
   have e2:=hu.2.1 e1.1
   have e3:=hs.2.2.1 hb2
   exact ⟨e3.1,by dsimp only at e ⊢;omega⟩
  ·have h9:=h1.a1
   simp only [zLs];omega
  ·have e1:=hq5'.2.1 e
   have e2:=hr.2.1 e1.1
   dsimp only at e ⊢
   omega
  ·simp only [zLa,zLs];omega
  ·intro it hit
   rcases List.mem_append.1 hit with h | h
   ·exact h5.1 it h
   ·rw [zMo.1 h];exact hq5'.2.2
  ·intro hmo
   have:=h5.2 hmo
   simp only [zLa,zLs]
   omega
 ·refine T.cal (zck _ hq4.1) λr _ hr=>T.br (λhb=>k _ ⟨hr.1,λ_=>h2 he,hq4.2.2.1,hq4.2.2.2.2,by have:=h1.a1;have:=hq4.2.2.2.1;dsimp only;omega⟩) λhb=>?_
  have hb:r.1=true:=by simpa using hb
  have e1:=hr.2.2.1 hb
  have e2:=hq4.2.1 e1.1
  have e3:=hr.1.a1
  exact hL _ ⟨hr.1,λ_=>h2 he,hq4.2.2.1,by dsimp only;omega,hq4.2.2.2.2⟩ (by dsimp only;omega)
theorem zxM (s:Str) (hl:s.b.length <= 1000000):T (λr=>r.length <= s.b.length) (zmd s):=by
 unfold zmd
 refine T.lp (λ(q:List UInt8 × Int)=>0 <= q.2/\q.2 <= (s.b.length:Int)/\(q.1.length:Int) <= q.2) (λ(q:List UInt8 × Int)=>((s.b.length:Int) - q.2).toNat) ⟨zIl _,by dsimp only;omega,by simp⟩ (by dsimp only;omega) λL q hq hL=>?_
 obtain ⟨o,i⟩:=q
 obtain ⟨h1,h2,h3⟩:=hq
 dsimp only at h1 h2 h3 ⊢
 refine T.ck (by omega) (T.br (λhb=>?_) λ_=>T.some (by omega))
 have hb:=zOT hb
 refine T.lp (λ(p:UInt8 × Int)=>i <= p.2/\p.2 <= i + 2) (λ(p:UInt8 × Int)=>(i + 2 - p.2).toNat) ⟨zIl _,by dsimp only;omega⟩ (by dsimp only;omega) λL2 p hp hL2=>?_
 obtain ⟨v,k⟩:=p
 obtain ⟨h4,h5⟩:=hp
 dsimp only at h4 h5 ⊢
 refine T.ck (by omega) (T.br (λhb2=>?_) λhb2=>?_)
 ·have hb2:=zOT hb2
  refine T.get (by omega) (by omega) λy _=>T.get (by omega) (by omega) λy2 _=>T.jp (λ_=>True) (λJ h6=>T.br (λ_=>T.get (by omega) (by omega) λ_ _=>h6 _ trivial) λ_=>h6 _ trivial) λu _=>T.asr (by decide) (T.ck (by omega) (hL2 _ ⟨by dsimp only;omega,by dsimp only;omega⟩ (by dsimp only;omega)))
 ·refine T.abl ?_ (T.ck (by omega) (hL _ ⟨by dsimp only;omega,by dsimp only;omega,?_⟩ (by dsimp only;omega)))
  ·simp only [zLs];omega
  ·simp only [zLa,zLs];omega

def DOk (v:Val):Prop:=v.b.length <= 8000/\v.l=[]/\v.more=[]/\0 <= v.kind/\v.kind <= 6/\v.rule=0
theorem Tk.eq {x:zz} {t t':zU} (h:Tk x t) (h':Tk x t'):t'=t:=by unfold Tk at h h';rw [h] at h';cases h';rfl
theorem zuD {l m a P x} (h:Ok l m a P x):T (λr=>Ok l m a P r.2/\DOk r.1) (zdj x):=by
 unfold zdj
 refine T.cal (zf2 h) λ⟨t,x'⟩ _ ⟨ht,hx⟩=>?_
 subst hx
 dsimp only at ht ⊢
 refine T.jp (λy=>Ok l m a P y) (λJ k=>T.br (λ_=>k _ h) λ_=>?_) λy hy=>T.some ⟨hy,zNz _,rfl,rfl,zOT rfl,zOT rfl,rfl⟩
 refine T.cal (zck _ h) λy1 _ h1=>T.br (λ_=>T.some ⟨h1.1,⟨zNz _,rfl,rfl,zOT rfl,zOT rfl,rfl⟩⟩) λb1=>?_
 refine T.cal (zck _ h1.1) λy2 _ h2=>T.br (λ_=>T.some ⟨h2.1,⟨zNz _,rfl,rfl,zOT rfl,zOT rfl,rfl⟩⟩) λb2=>?_
 refine T.cal (zck _ h2.1) λy3 _ h3=>T.br (λ_=>T.some ⟨h3.1,⟨zNz _,rfl,rfl,zOT rfl,zOT rfl,rfl⟩⟩) λb3=>?_
 have e:y3.2=x':=by rw [h3.2.2.2 b3,h2.2.2.2 b2,h1.2.2.2 b1]
 have htl:=(Tk.ok h ht).len
 have hnx:=zmh h3.1
 rw [e] at hnx
 refine T.br (λhk=>?_) λ_=>T.br (λhk=>?_) λ_=>T.br (λhk=>?_) λ_=>T.br (λhk=>?_) λ_=>?_
 ·rw [e]
  refine T.cal hnx λr _ hr=>T.cal (zp0 r.1.text ?_) λv _ _=>T.some ⟨hr.2.1,zNz _,rfl,rfl,zOT rfl,zOT rfl,rfl⟩
  rw [Tk.eq ht hr.1];exact (Tk.ok h ht).num (zOT hk)
 ·rw [e]
  refine T.cal hnx λr _ hr=>T.abl ?_ (T.some ⟨hr.2.1,?_,rfl,rfl,zOT rfl,zOT rfl,rfl⟩)
  ·rw [Tk.eq ht hr.1];omega
  ·have h9:r.1.text.b.length <= 8000:=by rw [Tk.eq ht hr.1];omega
   exact h9
 ·rw [e]
  refine T.cal hnx λr _ hr=>T.cal (zxM r.1.text ?_) λv _ hv=>T.some ⟨hr.2.1,?_,rfl,rfl,zOT rfl,zOT rfl,rfl⟩
  ·rw [Tk.eq ht hr.1];omega
  ·have h9:v.length <= 8000:=by rw [Tk.eq ht hr.1] at hv;omega
   exact h9
 ·rw [e]
  refine T.cal hnx λr _ hr=>T.abl ?_ (T.some ⟨hr.2.1,?_,rfl,rfl,zOT rfl,zOT rfl,rfl⟩)
  ·rw [Tk.eq ht hr.1];omega
  ·have h9:r.1.text.b.length <= 8000:=by rw [Tk.eq ht hr.1];omega
   exact h9
 ·exact T.cal (zgP _ _ h3.1 (by decide)) λy _ hy=>k _ hy.1

def zet (n:zh):List Int:=if n.kind=11 then [] else n.fields.map (λf=>f.ty) ++ (if n.kind=10 then [n.of] else [])
def zaN (S:Nat->Nat->Prop):List Int->Nat->Nat->Prop
 | [],a,b=>a=b
 | k :: r,a,b=>∃ c,k=(a:Int)/\S a c/\zaN S r c b
def Sub:Nat->List zh->Nat->Nat->Prop
 | 0,_,_,_=>False
 | h + 1,l,i,j=>∃ n,l[i]?=some n/\zaN (Sub h l) (zet n) (i + 1) j
theorem zaN.le {S:Nat->Nat->Prop} (hS:∀ x y,S x y->x <= y):∀ {r a b},zaN S r a b->a <= b:=by
 intro r
 induction r with
 | nil=>intro a b h;exact Nat.le_of_eq h
 | cons k r ih=>intro a b ⟨c,_,h1,h2⟩;exact Nat.le_trans (hS _ _ h1) (ih h2)
theorem Sub.lt:∀ {h l i j},Sub h l i j->i < j:=by
 intro h
 induction h with
 | zero=>intro l i j h;exact h.elim
 | succ h ih=>intro l i j ⟨n,_,h2⟩;exact zaN.le (λx y h=>Nat.le_of_lt (ih h)) h2
theorem zaN.mono {S S':Nat->Nat->Prop} (hS:∀ x y,S x y->x <= y):∀ {r a b},(∀ x y,a <= x->y <= b->S x y->S' x y)->zaN S r a b->zaN S' r a b:=by
 intro r
 induction r with
 | nil=>intro a b _ h;exact h
 | cons k r ih =>
  intro a b hm ⟨c,h0,h1,h2⟩
  have:=zaN.le hS h2
  exact ⟨c,h0,hm _ _ (zNl _) this h1,ih (λx y hx hy=>hm x y (Nat.le_trans (hS _ _ h1) hx) hy) h2⟩
theorem zaN.snoc {S:Nat->Nat->Prop} {c:Nat}:∀ {r a b},zaN S r a b->S b c->zaN S (r ++ [(b:Int)]) a c:=by
 intro r
 induction r with
 | nil=>intro a b h h2;cases h;exact ⟨c,rfl,h2,rfl⟩
 | cons k r ih=>intro a b ⟨d,h0,h1,h3⟩ h2;exact ⟨d,h0,h1,ih h3 h2⟩
theorem Sub.mono:∀ {h l l' i j},(∀ k,i <= k->k < j->l'[k]?=l[k]?)->Sub h l i j->Sub h l' i j:=by
 intro h
 induction h with
 | zero=>intro l l' i j _ h;exact h
 | succ h ih =>
  intro l l' i j hl hs
  have hlt:=hs.lt
  obtain ⟨n,h1,h2⟩:=hs
  refine ⟨n,by rw [hl i (zNl _) hlt];exact h1,zaN.mono (λx y h=>Nat.le_of_lt h.lt) (λx y hx hy hs=>ih (λk h3 h4=>hl k (by omega) (by omega)) hs) h2⟩
theorem zaN.monoL {h l l' r a b} (hl:∀ k,a <= k->k < b->l'[k]?=l[k]?) (hk:zaN (Sub h l) r a b):zaN (Sub h l') r a b :=
 zaN.mono (λx y h=>Nat.le_of_lt h.lt) (λx y hx hy hs=>hs.mono λk h3 h4=>hl k (by omega) (by omega)) hk
def FOk (n:zh):Prop:=∀ f ∈ n.fields,DOk f.dflt
structure zir (n:zh):Prop where
 root0:0 <= n.root
 items:n.kind=3->n.root <= n.items.length
 nums:∀ it ∈ n.items,I64 it.number
 ilen:n.items.length <= 8001
 fields:n.kind=7 \/ n.kind=8 \/ n.kind=9->n.root <= n.fields.length
 dflt:FOk n
 rootZ:n.kind ≠ 3->¬ (n.kind=7 \/ n.kind=8 \/ n.kind=9)->n.root=0
structure Grow (m m':zaB):Prop where
 name:m'.name=m.name
 tagging:m'.tagging=m.tagging
 names:m'.names=m.names
 types:m'.types=m.types
 le:m.nodes.length <= m'.nodes.length
 lim:m'.nodes.length <= 300
 pre:∀ i,i < m.nodes.length->m'.nodes[i]?=m.nodes[i]?
 ok:(∀ n ∈ m.nodes,zir n)->∀ n ∈ m'.nodes,zir n
theorem Grow.refl {m:zaB} (h:m.nodes.length <= 300):Grow m m:=⟨rfl,rfl,rfl,rfl,zNl _,h,λ_ _=>rfl,λh=>h⟩
theorem Grow.trans {m m' m'':zaB} (h:Grow m m') (h':Grow m' m''):Grow m m'' :=
 ⟨h'.name.trans h.name,h'.tagging.trans h.tagging,h'.names.trans h.names,h'.types.trans h.types,Nat.le_trans h.le h'.le,h'.lim,λi hi=>(h'.pre i (Nat.lt_of_lt_of_le hi h.le)).trans (h.pre i hi),λk=>h'.ok (h.ok k)⟩
def NI (n q:zh):Prop:=q.kind=n.kind/\FOk q/\(q.more=true->0 <= q.root/\q.root <= q.fields.length)
def FX (n r:zh):Prop:=r.kind=n.kind/\r.more=n.more/\r.root=n.root/\(FOk n->FOk r)
theorem NI.next {n q r:zh} (h:NI n q) (k:FX q r) (hl:r.fields.length=q.fields.length + 1):NI n r :=
 ⟨k.1.trans h.1,k.2.2.2 h.2.1,λe=>by have:=h.2.2 (k.2.1 ▸ e);rw [k.2.2.1,hl];omega⟩
def zv6 (l:List zU) (f:zz->Int->Option (Int × zz)) (D:Nat):Prop:=∀ x m a P (d:Int),Ok l m a P x->m.nodes.length <= 300->0 <= d->d + D=17 ->
 T (λr=>∃ m',Grow m m'/\Ok l m' a (P/\r.1=(m.nodes.length:Int)/\Sub D m'.nodes m.nodes.length m'.nodes.length) r.2) (f x d)
def zwa (l:List zU) (f:zz->zh->Int->Option (zz × zh)) (D:Nat):Prop:=∀ x n m a P (d:Int),Ok l m a P x->m.nodes.length <= 300->0 <= d->d + D=16->n.fields=[]->n.items=[]->n.kind=0->n.more=false->n.root=0 ->
 T (λr=>(∃ m',Grow m m'/\Ok l m' a (P/\zaN (Sub D m'.nodes) (zet r.2) m.nodes.length m'.nodes.length) r.1)/\zir r.2) (f x n d)
def zqG (l:List zU) (f:zz->zh->Int->Option (zz × zh)) (D:Nat):Prop:=∀ x n m a P (d:Int),Ok l m a P x->m.nodes.length <= 300->0 <= d->d + D=16->n.fields=[]->n.more=false->n.root=0 ->
 T (λr=>(∃ m',Grow m m'/\Ok l m' a (P/\zaN (Sub D m'.nodes) (r.2.fields.map (λf=>f.ty)) m.nodes.length m'.nodes.length) r.1)/\r.2.kind=n.kind/\r.2.items=n.items/\FOk r.2/\0 <= r.2.root/\r.2.root <= r.2.fields.length) (f x n d)
def ztg (l:List zU) (f:zz->zh->Int->Int->Option (zz × zh)) (D:Nat):Prop:=∀ x n m a P (d g:Int) b0,Ok l m a (P/\zaN (Sub D m.nodes) (n.fields.map (λf=>f.ty)) b0 m.nodes.length) x->m.nodes.length <= 300->0 <= d->d + D=16->(n.fields.length:Int) <= x.at_->b0 <= m.nodes.length ->
 T (λr=>(∃ m',Grow m m'/\Ok l m' a (P/\zaN (Sub D m'.nodes) (r.2.fields.map (λf=>f.ty)) b0 m'.nodes.length/\x.at_ + 1 <= r.1.at_) r.1)/\(FX n r.2/\r.2.items=n.items)/\r.2.fields.length=n.fields.length + 1) (f x n d g)

theorem zs7 {l F Ty B Fs D} (hT:zv6 l Ty D):ztg l (zcP F Ty B Fs) D:=by
 intro x n m a P d g b0 h hm hd0 hd hn hb
 unfold zcP
 have hl:=h.toks.len
 have ha:=h.a1
 refine T.cal (zk0 2 (by decide) h) λr _ hr=>T.ck (by omega) ?_
 have h1:Ok l m (x.at_ + 1) ((P/\zaN (Sub D m.nodes) (n.fields.map (λf=>f.ty)) b0 m.nodes.length)/\a <= x.at_) r.2:=hr.1.to λe h2 h3=>⟨⟨h2,(h.ok (hr.2.1 e).1).2⟩,by have:=hr.2.1 e;omega⟩
 refine T.cal (hT _ _ _ _ (d + 1) h1 hm (by omega) (by omega)) λs _ ⟨m',hg,hs⟩=>?_
 refine T.jp (λq=>Ok l m' (x.at_ + 1) (((P/\zaN (Sub D m.nodes) (n.fields.map (λf=>f.ty)) b0 m.nodes.length)/\a <= x.at_)/\s.1=(m.nodes.length:Int)/\Sub D m'.nodes m.nodes.length m'.nodes.length) q.2/\q.1.ty=s.1/\DOk q.1.dflt) (λJ k=>?_) λq hq=>?_
 ·refine T.br (λ_=>k _ ⟨hs,rfl,zNz _,rfl,rfl,zOT rfl,zOT rfl,rfl⟩) λ_=>T.cal (zck _ hs) λy1 _ e1=>T.br (λ_=>k _ ⟨e1.1,rfl,zNz _,rfl,rfl,zOT rfl,zOT rfl,rfl⟩) λ_=>T.cal (zck _ e1.1) λy2 _ e2=>T.br (λ_=>T.cal (zuD e2.1) λy3 _ e3=>k _ ⟨e3.1,rfl,e3.2⟩) λ_=>k _ ⟨e2.1,rfl,zNz _,rfl,rfl,zOT rfl,zOT rfl,rfl⟩
 ·refine T.abl (by simp only [zLs];omega) (T.some ⟨⟨m',hg,hq.1.to λe ⟨⟨⟨p1,p2⟩,p3⟩,p4,p5⟩ p6=>⟨⟨p1,?_,p6⟩,?_⟩⟩,⟨⟨rfl,rfl,rfl,λhf f hf2=>?_⟩,rfl⟩,by simp⟩)
  rotate_left 2
  ·rcases List.mem_append.1 hf2 with h | h
   ·exact hf f h
   ·rw [zMo.1 h];exact hq.2.2
  ·dsimp only
   rw [List.map_append,List.map_singleton,hq.2.1,p4]
   exact (p2.monoL λk hk1 hk2=>hg.pre k hk2).snoc p5
  ·omega

theorem zrP {l F Ty B Fs D} (hF:ztg l F D):zqG l (zcx F Ty B Fs) D:=by
 intro x n m a P d h hm hd0 hd hn hnm hnr
 have hni:NI n n:=⟨rfl,by unfold FOk;rw [hn];simp,λh=>by rw [hnm] at h;cases h⟩
 unfold zcx
 have hl:=h.toks.len
 have ha0:=h.a0
 have ha1:=h.a1
 have hk0:zaN (Sub D m.nodes) (n.fields.map (λf=>f.ty)) m.nodes.length m.nodes.length:=by rw [hn];rfl
 refine T.cal (zck _ h) λr _ hr=>T.br (λ_=>T.some ⟨⟨m,Grow.refl hm,hr.1.to λe p1 p2=>⟨⟨p1,hk0⟩,p2⟩⟩,rfl,rfl,hni.2.1,by dsimp only;omega,by dsimp only;omega⟩) λhb=>?_
 have hrx:=hr.2.2.2 hb
 -- what holds between
 refine T.jp (λ(q:zz × zh)=>(∃ m',Grow m m'/\Ok l m' a (P/\zaN (Sub D m'.nodes) (q.2.fields.map (λf=>f.ty)) m.nodes.length m'.nodes.length) q.1)/\(NI n q.2/\q.2.items=n.items)) (λJ k=>?_) λq ⟨⟨m',hg,hq⟩,hqk⟩=>?_
 ·refine T.lp (λ(q:Int × zz × zh)=>((∃ m',Grow m m'/\Ok l m' a (P/\zaN (Sub D m'.nodes) (q.2.2.fields.map (λf=>f.ty)) m.nodes.length m'.nodes.length) q.2.1)/\(NI n q.2.2/\q.2.2.items=n.items))/\0 <= q.1/\q.1 <= q.2.1.at_/\(q.2.2.fields.length:Int) <= q.2.1.at_) (λ(q:Int × zz × zh)=>((l.length:Int) - q.2.1.at_).toNat) ⟨⟨⟨m,Grow.refl hm,hr.1.to λe p1 p2=>⟨⟨p1,hk0⟩,p2⟩⟩,⟨hni,rfl⟩⟩,zIl _,by dsimp only;rw [hrx];exact ha0,by dsimp only;rw [hrx,hn];exact ha0⟩ (by dsimp only;rw [hrx];omega) λL q hq hL=>?_
  obtain ⟨g,y,n1⟩:=q
  obtain ⟨⟨⟨m1,hg1,h1⟩,hk1⟩,h2,h3,h4⟩:=hq
  dsimp only at h1 h2 h3 h4 hk1 ⊢
  have hy1:=h1.a1
  refine T.br (λhe=>?_) λ_=>k _ ⟨⟨m1,hg1,h1⟩,hk1⟩
  have he:=zOT he
  refine T.jp (λ(q:Int × zz × zh)=>((∃ m',Grow m m'/\Ok l m' a (P/\zaN (Sub D m'.nodes) (q.2.2.fields.map (λf=>f.ty)) m.nodes.length m'.nodes.length) q.2.1)/\(NI n q.2.2/\q.2.2.items=n.items))/\0 <= q.1/\(q.2.1.e=0->q.1 <= q.2.1.at_ + 1/\(q.2.2.fields.length:Int) <= q.2.1.at_ + 1/\y.at_ <= q.2.1.at_)) (λJ2 k2=>?_) λq hq=>?_
  ·refine T.jp (λ(q:Bool × zz)=>Ok l m1 a (P/\zaN (Sub D m1.nodes) (n1.fields.map (λf=>f.ty)) m.nodes.length m1.nodes.length) q.2/\q.2.at_ ≥ y.at_/\(q.1=false->q.2=y)) (λJ3 k3=>T.br (λ_=>T.cal (zck _ h1) λu _ hu=>k3 _ ⟨hu.1,?_,hu.2.2.2⟩) λ_=>k3 _ ⟨h1,zIl _,λ_=>rfl⟩) λq3 hq3=>?_
   ·cases hu1:u.1 with
    | true=>have:=hu.2.2.1 hu1;dsimp only;omega
    | false=>have:=hu.2.2.2 hu1;dsimp only;rw [this];omega
   refine T.br (λ_=>k2 _ ⟨⟨⟨m1,hg1,hq3.1⟩,⟨⟨hk1.1.1,hk1.1.2.1,λ_=>⟨by dsimp only;omega,zIl _⟩⟩,hk1.2⟩⟩,h2,λ_=>⟨by dsimp only;omega,by dsimp only;omega,by dsimp only;omega⟩⟩) λb3=>?_
   have e3:=hq3.2.2 b3
   refine T.jp (λ(q:Bool × zz)=>Ok l m1 a (P/\zaN (Sub D m1.nodes) (n1.fields.map (λf=>f.ty)) m.nodes.length m1.nodes.length) q.2/\q.2.at_ ≥ y.at_/\(q.1=true->q.2.at_ ≥ y.at_ + 1)/\(q.1=false->q.2=y)) (λJ3 k3=>T.br (λ_=>T.cal (zck _ hq3.1) λu _ hu=>k3 _ ⟨hu.1,?_,λhu1=>?_,λhu1=>?_⟩) λ_=>k3 _ ⟨hq3.1,by dsimp only;omega,(λh=>by cases h),λ_=>e3⟩) λq4 hq4=>?_
   ·cases hu1:u.1 with
    | true=>have:=hu.2.2.1 hu1;dsimp only;omega
    | false=>have:=hu.2.2.2 hu1;dsimp only;rw [this];omega
   ·have:=hu.2.2.1 hu1;dsimp only;omega
   ·have:=hu.2.2.2 hu1;dsimp only;rw [this,e3]
   refine T.br (λb4=>T.ck (by omega) ?_) λb4=>?_
   ·have a4:=hq4.2.2.1 b4
    have a5:=hq4.1.a1
    refine T.jp (λ(q:zz × zh)=>(∃ m',Grow m m'/\Ok l m' a (P/\zaN (Sub D m'.nodes) (q.2.fields.map (λf=>f.ty)) m.nodes.length m'.nodes.length) q.1)/\(NI n q.2/\q.2.items=n.items)/\(q.1.e=0->(q.2.fields.length:Int) <= q.1.at_ + 1/\q4.2.at_ <= q.1.at_)) (λJ5 k5=>?_) λq ⟨⟨m2,hg2,hq⟩,hqk,hql⟩=>?_
    ·refine T.lp (λ(q:zz × zh)=>(∃ m',Grow m m'/\Ok l m' a (P/\zaN (Sub D m'.nodes) (q.2.fields.map (λf=>f.ty)) m.nodes.length m'.nodes.length) q.1)/\(NI n q.2/\q.2.items=n.items)/\(q.2.fields.length:Int) <= q.1.at_/\q4.2.at_ <= q.1.at_) (λ(q:zz × zh)=>((l.length:Int) - q.1.at_).toNat) ⟨⟨m1,hg1,hq4.1⟩,hk1,by dsimp only;omega,zIl _⟩ (by have:=hq4.1.a0;dsimp only;omega) λL6 q ⟨⟨m2,hg2,hq⟩,hqk,hql,hqa⟩ hL6=>?_
     refine T.br (λb6=>?_) λ_=>k5 _ ⟨⟨m2,hg2,hq⟩,hqk,λ_=>⟨by dsimp only;omega,hqa⟩⟩
     refine T.cal (hF _ _ _ _ _ _ _ _ hq hg2.lim hd0 hd hql hg2.le) λs _ ⟨⟨m3,hg3,hs⟩,hsk,hsl⟩=>T.cal (zck _ hs) λu _ hu=>T.br (λb7=>k5 _ ⟨⟨m3,hg2.trans hg3,hu.1.to λe ⟨p1,p2,p3⟩ p4=>⟨⟨p1,p2⟩,p4⟩⟩,⟨hqk.1.next hsk.1 hsl,hsk.2.trans hqk.2⟩,λe=>?_⟩) λb7=>?_
     ·have b7:u.1=false:=by simpa using b7
      have e7:=hu.2.2.2 b7
      have e8:=(hs.ok (by rw [<- e7];exact e)).1.2.2
      dsimp only
      rw [e7]
      exact ⟨by omega,by omega⟩
     ·have b7:u.1=true:=by simpa using b7
      have e7:=hu.2.2.1 b7
      have e8:=(hs.ok e7.1).1.2.2
      have e9:=hu.1.a1
      exact hL6 _ ⟨⟨m3,hg2.trans hg3,hu.1.to λe ⟨p1,p2,p3⟩ p4=>⟨⟨p1,p2⟩,p4⟩⟩,⟨hqk.1.next hsk.1 hsl,hsk.2.trans hqk.2⟩,by dsimp only;omega,by dsimp only;omega⟩ (by dsimp only;omega)
    ·refine T.cal (zcq _ hq) λw _ hw=>k2 _ ⟨⟨⟨m2,hg2,hw.1⟩,hqk⟩,by dsimp only;omega,λe=>?_⟩
     have e1:=hw.2 e
     have e2:=hql e1.1
     dsimp only
     omega
   ·have e4:=hq4.2.2.2 b4
    refine T.cal (hF _ _ _ _ _ _ (0:Int) _ hq4.1 hg1.lim hd0 hd (by rw [e4];exact h4) hg1.le) λs _ ⟨⟨m3,hg3,hs⟩,hsk,hsl⟩=>k2 _ ⟨⟨⟨m3,hg1.trans hg3,hs.to λe ⟨p1,p2,p3⟩ p4=>⟨⟨p1,p2⟩,p4⟩⟩,⟨hk1.1.next hsk.1 hsl,hsk.2.trans hk1.2⟩⟩,h2,λe=>?_⟩
    have e8:=(hs.ok e).1.2.2
    rw [e4] at e8
    dsimp only
    omega
  ·obtain ⟨⟨⟨m2,hg2,hq1⟩,hqk⟩,hq0,hql⟩:=hq
   refine T.cal (zck _ hq1) λu _ hu=>T.br (λb7=>k _ ⟨⟨m2,hg2,hu.1⟩,hqk⟩) λb7=>?_
   have b7:u.1=true:=by simpa using b7
   have e7:=hu.2.2.1 b7
   have e8:=hql e7.1
   have e9:=hu.1.a1
   exact hL _ ⟨⟨⟨m2,hg2,hu.1⟩,hqk⟩,hq0,by dsimp only;omega,by dsimp only;omega⟩ (by dsimp only;omega)
 ·refine T.cal (zcq _ hq) λw _ hw=>T.br (λ_=>T.some ⟨⟨m',hg,hw.1⟩,hqk.1.1,hqk.2,hqk.1.2.1,by dsimp only;omega,zIl _⟩) λhmo=>T.some ⟨⟨m',hg,hw.1⟩,hqk.1.1,hqk.2,hqk.1.2.1,hqk.1.2.2 (by simpa using hmo)⟩
theorem zsR {n:zh} (h:n.fields=[]) (hk:n.kind ≠ 10):zet n=[]:=by
 unfold zet;rw [h,if_neg hk];split <;> rfl
theorem zpl {n:zh} (h:n.kind ≠ 11) (hk:n.kind ≠ 10):zet n=n.fields.map (λf=>f.ty):=by
 unfold zet;rw [if_neg h,if_neg hk,List.append_nil]

theorem zvH {l F Ty B Fs D} (hT:zv6 l Ty D) (hF:zqG l Fs D):zwa l (zc2 F Ty B Fs) D:=by
 intro x n m a P d h hm hd0 hd hn hi hk hmo hro
 unfold zc2
 have nok:∀ n':zh,n'.fields=[]->n'.items=[]->n'.root=0->zir n':=λn' h1 h2 h3=>⟨by omega,λ_=>by omega,by rw [h2];simp,by rw [h2];simp,λ_=>by omega,by unfold FOk;rw [h1];simp,λ_ _=>h3⟩
 have leaf0:∀ y n',Ok l m a P y->n'.fields=[]->n'.kind ≠ 10->∃ m',Grow m m'/\Ok l m' a (P/\zaN (Sub D m'.nodes) (zet n') m.nodes.length m'.nodes.length) y:=λy n' hy h1 h2=>⟨m,Grow.refl hm,hy.to λe p1 p2=>⟨⟨p1,by rw [zsR h1 h2];rfl⟩,p2⟩⟩
 have leaf:∀ y n',Ok l m a P y->n'.fields=[]->n'.items=[]->n'.root=0->n'.kind ≠ 10->(∃ m',Grow m m'/\Ok l m' a (P/\zaN (Sub D m'.nodes) (zet n') m.nodes.length m'.nodes.length) y)/\zir n':=λy n' hy h1 h3 h4 h2=>⟨leaf0 y n' hy h1 h2,nok n' h1 h3 h4⟩
 have leaf2:∀ (r:zz × zh) (n0:zh),((∃ m',Grow m m'/\Ok l m' a (P/\zaN (Sub D m'.nodes) (r.2.fields.map (λf=>f.ty)) m.nodes.length m'.nodes.length) r.1)/\r.2.kind=n0.kind/\r.2.items=n0.items/\FOk r.2/\0 <= r.2.root/\r.2.root <= r.2.fields.length)->n0.items=[]->n0.kind ≠ 11->n0.kind ≠ 10->n0.kind ≠ 3->(n0.kind=7 \/ n0.kind=8 \/ n0.kind=9)->(∃ m',Grow m m'/\Ok l m' a (P/\zaN (Sub D m'.nodes) (zet r.2) m.nodes.length m'.nodes.length) r.1)/\zir r.2:=λr n0 h0 hi0 h1 h2 h3 h4=>by
  obtain ⟨k0,k1,k2,k3,k4,k5⟩:=h0
  rw [<- k1] at h1 h2 h3 h4
  refine ⟨by rw [zpl h1 h2];exact k0,k4,λe=>absurd e h3,by rw [k2,hi0];simp,by rw [k2,hi0];simp,λ_=>k5,k3,λ_ e=>absurd h4 e⟩
 refine T.cal (zf2 h) λ⟨t,x'⟩ _ ⟨ht,hx⟩=>?_
 subst hx
 dsimp only at ht ⊢
 refine T.br (λhe=>T.some ⟨⟨m,Grow.refl hm,h.err (by simpa using he)⟩,nok _ hn hi hro⟩) λ_=>?_
 refine T.cal (zck _ h) λy1 _ h1=>T.br (λ_=>T.some (leaf _ _ h1.1 hn hi hro (by dsimp only;decide))) λb1=>?_
 refine T.cal (zck _ h1.1) λy2 _ h2=>T.br (λ_=>T.some (leaf _ _ h2.1 hn hi hro (by dsimp only;decide))) λb2=>?_
 refine T.cal (zck _ h2.1) λy3 _ h3=>T.br (λ_=>T.cal (znU h3.1) λs _ hs=>T.some (leaf _ _ hs.1 hn hi hro (by dsimp only;decide))) λb3=>?_
 refine T.cal (zck _ h3.1) λy4 _ h4=>T.br (λ_=>T.cal (zck _ h4.1) λs _ hs=>T.br (λ_=>T.cal (zoj hs.1) λu _ hu=>T.cal (zcq _ hu.1) λw _ hw=>T.some (leaf _ _ hw.1 hn hi hro (by dsimp only;decide))) λ_=>T.some (leaf _ _ hs.1 hn hi hro (by dsimp only;decide))) λb4=>?_
 refine T.cal (zck _ h4.1) λy5 _ h5=>T.br (λ_=>T.cal (zcq _ h5.1) λs _ hs=>T.cal (znU hs.1) λu _ hu=>T.some (leaf _ _ hu.1 hn hi hro (by dsimp only;decide))) λb5=>?_
 refine T.cal (zck _ h5.1) λy6 _ h6=>T.br (λ_=>T.cal (zcq _ h6.1) λs _ hs=>T.cal (zuP _ hs.1 hi hmo) λu _ hu=>T.cal (zcq _ hu.1) λw _ hw=>T.some ⟨leaf0 _ _ hw.1 (hu.2.2.1.fields.trans hn) (by rw [hu.2.2.1.kind];dsimp only;decide),hu.2.2.2.2.1,λ_=>hu.2.2.2.2.2.1,hu.2.2.2.1,hu.2.2.2.2.2.2,λe=>by rw [hu.2.2.1.kind] at e;dsimp only at e;omega,by unfold FOk;rw [hu.2.2.1.fields,hn];simp,λe _=>absurd hu.2.2.1.kind e⟩) λb6=>?_
 refine T.cal (zck _ h6.1) λy7 _ h7=>T.br (λ_=>T.cal (zcq _ h7.1) λs _ hs=>T.cal (hF _ _ _ _ _ _ hs.1 hm hd0 hd hn hmo hro) λu _ hu=>T.some (leaf2 _ _ hu hi (by dsimp only;decide) (by dsimp only;decide) (by dsimp only;decide) (by dsimp only;decide))) λb7=>?_
 refine T.cal (zck _ h7.1) λy8 _ h8=>T.br (λ_=>T.cal (zcq _ h8.1) λs _ hs=>T.cal (hF _ _ _ _ _ _ hs.1 hm hd0 hd hn hmo hro) λu _ hu=>T.some (leaf2 _ _ hu hi (by dsimp only;decide) (by dsimp only;decide) (by dsimp only;decide) (by dsimp only;decide))) λb8=>?_
 refine T.cal (zck _ h8.1) λy9 _ h9=>T.br (λ_=>T.cal (zck _ h9.1) λs _ hs=>T.br (λ_=>T.cal (hF _ _ _ _ _ _ hs.1 hm hd0 hd hn hmo hro) λu _ hu=>T.some (leaf2 _ _ hu hi (by dsimp only;decide) (by dsimp only;decide) (by dsimp only;decide) (by dsimp only;decide))) λ_=>?_) λb9=>?_
 ·refine T.cal (znU hs.1) λu _ hu=>T.cal (zcq _ hu.1) λw _ hw=>T.ck (by omega) (T.cal (hT _ _ _ _ (d + 1) hw.1 hm (by omega) (by omega)) λv _ ⟨m',hg,hv⟩=>T.some ⟨⟨m',hg,hv.to λe ⟨p1,p2,p3⟩ p4=>⟨⟨p1,?_⟩,p4⟩⟩,nok _ hn hi hro⟩)
  have e:zet (zh.mk 10 n.name n.mark u.1 n.items n.fields n.root n.more v.1)=[(m.nodes.length:Int)]:=by
   unfold zet;dsimp only;rw [hn,p2];rfl
  dsimp only
  rw [e]
  exact ⟨_,rfl,p3,rfl⟩
 ·refine T.br (λ_=>T.cal (zmh h9.1) λs _ hs=>T.some (leaf _ _ hs.2.1 hn hi hro (by dsimp only;decide))) λ_=>T.cal (zgP _ _ h9.1 (by decide)) λs _ hs=>T.some ⟨⟨m,Grow.refl hm,hs.1.err hs.2⟩,nok _ hn hi hro⟩

theorem zv3 {l F Ty B Fs D} (hB:∀ D',D=D' + 1->zwa l B D'):zv6 l (zdh F Ty B Fs) D:=by
 intro x m a P d h hm hd0 hd
 unfold zdh
 refine T.br (λhe=>T.some ⟨m,Grow.refl hm,h.err (by simpa using he)⟩) λhe=>?_
 refine T.cal (zf2 h) λ⟨t,x'⟩ _ ⟨ht,hx⟩=>?_
 subst hx
 dsimp only at ht h ⊢
 obtain rfl:=h.ym
 refine T.cal (zs3 t) λb _ _=>T.br (λ_=>?_) λ_=>?_
 ·refine T.cal (zf2 h) λ⟨t2,x2⟩ _ ⟨_,hx2⟩=>?_
  subst hx2
  exact T.cal (zgP _ _ h (by decide)) λy _ hy=>T.some ⟨_,Grow.refl hm,hy.1.err hy.2⟩
 refine T.jp (λb=>b=false->d <= 16/\x'.m.nodes.length < 300) (λJ k=>T.br (λ_=>k _ λh=>by cases h) λh1=>k _ λh2=>by have:=zOF h1;have:=zOF h2;omega) λb2 hb2=>T.br (λ_=>?_) λhb3=>?_
 ·refine T.cal (zf2 h) λ⟨t2,x2⟩ _ ⟨_,hx2⟩=>?_
  subst hx2
  exact T.cal (zgP _ _ h (by decide)) λy _ hy=>T.some ⟨_,Grow.refl hm,hy.1.err hy.2⟩
 obtain ⟨hd16,hlt⟩:=hb2 hb3
 obtain ⟨D',rfl⟩:∃ D',D=D' + 1:=⟨D - 1,by omega⟩
 refine T.abl (by simp only [zLs];omega) ?_
 have hx1:∀ z,Ok l (zaB.mk x'.m.name x'.m.tagging x'.m.names x'.m.types (x'.m.nodes ++ [z])) a P (zz.mk x'.l x'.at_ (zaB.mk x'.m.name x'.m.tagging x'.m.names x'.m.types (x'.m.nodes ++ [z])) x'.e x'.p):=λz=>⟨h.toks,h.yl,rfl,h.a0,h.a1,h.ok⟩
 have zok:∀ z:zh,z.fields=[]/\z.items=[]/\z.root=0->zir z:=λn' ⟨h1,h2,h3⟩=>⟨by omega,λ_=>by omega,by rw [h2];simp,by rw [h2];simp,λ_=>by omega,by unfold FOk;rw [h1];simp,λ_ _=>h3⟩
 have hg1:∀ z,(z.fields=[]/\z.items=[]/\z.root=0)->Grow x'.m (zaB.mk x'.m.name x'.m.tagging x'.m.names x'.m.types (x'.m.nodes ++ [z])):=λz hz0=>⟨rfl,rfl,rfl,rfl,by simp,by simp only [zLa,zLs];omega,λi hi=>List.getElem?_append_left hi,λhk n hn=>by
  rcases List.mem_append.1 hn with h | h
  ·exact hk n h
  ·rw [zMo.1 h];exact zok z hz0⟩
 have hzf:∃ z,zh.mk (0:Int) (Str.mk []) (zcN.mk false (0:Int) (0:Int)) (zbt.mk false false false false (0:Int) (0:Int)) ([]:(List zag)) ([]:(List zaC)) (0:Int) false (0:Int)=z/\z.fields=[]/\z.items=[]/\z.kind=0/\z.more=false/\z.root=0:=⟨_,rfl,rfl,rfl,rfl,rfl,rfl⟩
 obtain ⟨z,hz,z1,z2,z3,z4,z5⟩:=hzf
 rw [hz]
 refine T.cal (zck _ (hx1 _)) λy1 _ h1=>T.jp (λ(q:zz × zh)=>Ok l (zaB.mk x'.m.name x'.m.tagging x'.m.names x'.m.types (x'.m.nodes ++ [z])) a P q.1/\q.2.fields=[]/\q.2.items=[]/\q.2.kind=0/\q.2.more=false/\q.2.root=0) (λJ k=>T.br (λ_=>?_) λ_=>k _ ⟨h1.1,z1,z2,z3,z4,z5⟩) λq ⟨hq,q1,q2,q3,q4,q5⟩=>?_
 ·refine T.cal (zf2 h1.1) λ⟨t2,x2⟩ _ ⟨_,hx2⟩=>?_
  subst hx2
  refine T.cal (zlc h1.1) λu _ hu=>?_
  refine T.jp (λ_=>True) (λJ2 k2=>T.br (λ_=>T.jp (λ_=>True) (λJ3 k3=>T.br (λ_=>k3 _ trivial) λ_=>k3 _ trivial) λ_ _=>k2 _ trivial) λ_=>k2 _ trivial) λb5 _=>?_
  refine T.jp (λy=>Ok l (zaB.mk x'.m.name x'.m.tagging x'.m.names x'.m.types (x'.m.nodes ++ [z])) a P y) (λJ2 k2=>T.br (λ_=>T.cal (zgP _ _ hu.1 (by decide)) λw _ hw=>k2 _ hw.1) λ_=>k2 _ hu.1) λy5 h5=>?_
  refine T.cal (zcq _ h5) λy6 _ h6=>T.cal (zck _ h6.1) λy7 _ h7=>T.br (λ_=>k _ ⟨h7.1,rfl,rfl,rfl,rfl,rfl⟩) λ_=>T.cal (zck _ h7.1) λy8 _ h8=>T.br (λ_=>k _ ⟨h8.1,rfl,rfl,rfl,rfl,rfl⟩) λ_=>k _ ⟨h8.1,rfl,rfl,rfl,rfl,rfl⟩
 ·refine T.cal (hB D' rfl _ _ _ _ _ _ hq (hg1 z ⟨z1,z2,z5⟩).lim hd0 (by omega) q1 q2 q3 q4 q5) λv _ ⟨⟨m2,hg2,hv⟩,hvo⟩=>T.br (λhe2=>T.some ⟨m2,(hg1 z ⟨z1,z2,z5⟩).trans hg2,hv.err (by simpa using he2)⟩) λhe2=>?_
  have hvm:=hv.ym
  have hle:=hg2.le
  dsimp only at hle
  rw [zLa,zLs] at hle
  rw [hvm]
  refine T.asd (by omega) (T.cal (Q:=λ_=>True) ⟨_,List.getElem?_eq_getElem (by omega),trivial⟩ λw _ _=>T.some ⟨zaB.mk m2.name m2.tagging m2.names m2.types (m2.nodes.set x'.m.nodes.length v.2),?_,⟨hv.toks,hv.yl,rfl,hv.a0,hv.a1,λe=>?_⟩⟩)
  ·have hg3:=(hg1 z ⟨z1,z2,z5⟩).trans hg2
   refine ⟨hg3.name,hg3.tagging,hg3.names,hg3.types,by dsimp only;rw [List.length_set];exact hg3.le,by dsimp only;rw [List.length_set];exact hg3.lim,λi hi=>?_,λhk n hn=>?_⟩
   ·dsimp only
    rw [List.getElem?_set_ne (by omega)]
    exact hg3.pre i hi
   ·rcases List.mem_or_eq_of_mem_set hn with h | h
    ·exact hg3.ok hk n h
    ·rw [h];exact hvo
  ·obtain ⟨⟨p1,p2⟩,p3⟩:=hv.ok e
   dsimp only at p2 ⊢
   rw [zLa,zLs] at p2
   refine ⟨⟨p1,rfl,?_⟩,p3⟩
   rw [List.length_set]
   refine ⟨v.2,by rw [List.getElem?_set_self (by omega)],p2.monoL λk hk1 hk2=>?_⟩
   rw [List.getElem?_set_ne (by omega)]
theorem group (l:List zU):∀ n,
    (∀ D,4 * D < n->zv6 l (za0 n) D)/\(∀ D,4 * (D + 1) < n + 1->zwa l (zbg n) D)/\(∀ D,4 * (D + 1) < n + 2->zqG l (za1 n) D)/\(∀ D,4 * (D + 1) < n + 3->ztg l (zba n) D):=by
  intro n
  induction n with
  | zero=>exact ⟨λD h=>by omega,λD h=>by omega,λD h=>by omega,λD h=>by omega⟩
  | succ n ih =>
    obtain ⟨i1,i2,i3,i4⟩:=ih
    refine ⟨λD h=>zv3 (F:=zba n) (Ty:=za0 n) (B:=zbg n) (Fs:=za1 n) λD' e=>i2 D' (by omega),λD h=>zvH (F:=zba n) (Ty:=za0 n) (B:=zbg n) (Fs:=za1 n) (i1 D (by omega)) (i3 D (by omega)),λD h=>zrP (F:=zba n) (Ty:=za0 n) (B:=zbg n) (Fs:=za1 n) (i4 D (by omega)),λD h=>zs7 (F:=zba n) (Ty:=za0 n) (B:=zbg n) (Fs:=za1 n) (i1 D (by omega))⟩
theorem zzj (l:List zU):zv6 l (za0 fuel) 17:=(group l fuel).1 17 (by unfold fuel;omega)
structure WF (m:zaB):Prop where
 names:m.names.length <= 40
 types:m.types.length=m.names.length
 nodes:m.nodes.length <= 300
 forest:zaN (Sub 17 m.nodes) m.types 0 m.nodes.length
 ok:∀ n ∈ m.nodes,zir n
theorem WF.empty:WF (zaB.mk (Str.mk []) (0:Int) ([]:(List Str)) ([]:(List Int)) ([]:(List zh))):=⟨by decide,rfl,by decide,rfl,by simp⟩
structure zqT (l:List zU) (y:zz):Prop where
 ok:Ok l y.m 0 (y.m.names.length <= 40/\zaN (Sub 17 y.m.nodes) y.m.types 0 y.m.nodes.length/\(y.m.names.length:Int) <= y.at_) y
 nodes:y.m.nodes.length <= 300
 names:y.m.names.length <= 10000
 types:y.m.types.length=y.m.names.length
 nok:∀ n ∈ y.m.nodes,zir n
theorem zqT.re {l y y'} (h:zqT l y) (hm:y'.m=y.m) (hl:y'.l=y.l) (h0:y.at_ <= y'.at_) (h1:y'.at_ < (l.length:Int)) (he:y'.e=0->y.e=0):zqT l y':=by
 have:=h.ok.a0
 refine ⟨⟨h.ok.toks,hl.trans h.ok.yl,rfl,by omega,h1,λe=>?_⟩,by rw [hm];exact h.nodes,by rw [hm];exact h.names,by rw [hm];exact h.types,by rw [hm];exact h.nok⟩
 have:=h.ok.ok (he e)
 rw [hm]
 exact ⟨⟨this.1.1,this.1.2.1,by omega⟩,by omega⟩

theorem zu7 (s:Str):T (λr=>WF r.1) (zfA s):=by
 unfold zfA
 refine T.cal (zsQ s) λr _ hr=>T.br (λ_=>T.some WF.empty) λhe=>?_
 have he:r.2.2=0:=by simpa using he
 have htk:=hr he
 obtain ⟨ml,le,hle,_,_⟩:=htk.last
 have hll:0 < r.1.length:=by rw [hle];simp
 have hl8:=htk.len
 -- the head: no names yet
 have head:∀ y:zz,Ok r.1 y.m 0 True y->y.m.names=[]->y.m.types=[]->y.m.nodes=[]->zqT r.1 y:=λy hy h1 h2 h3=>⟨hy.to λe _ p=>⟨⟨by rw [h1];decide,by rw [h2,h3];rfl,by rw [h1];simpa using p⟩,p⟩,by rw [h3];decide,by rw [h1];decide,by rw [h1,h2];rfl,by rw [h3];simp⟩
 have h0:Ok r.1 (zaB.mk (Str.mk []) (0:Int) ([]:(List Str)) ([]:(List Int)) ([]:(List zh))) 0 True (zz.mk r.1 (0:Int) (zaB.mk (Str.mk []) (0:Int) ([]:(List Str)) ([]:(List Int)) ([]:(List zh))) (0:Int) (0:Int)):=⟨htk,rfl,rfl,zIl _,by dsimp only;omega,λ_=>⟨trivial,zIl _⟩⟩
 let Em:zaB->Prop:=λm=>m.names=[]/\m.types=[]/\m.nodes=[]
 have hE:∀ (y:zz) m (m':zaB),Ok r.1 m 0 True y->Ok r.1 m' 0 True (zz.mk y.l y.at_ m' y.e y.p):=λy m m' h=>⟨h.toks,h.yl,rfl,h.a0,h.a1,h.ok⟩
 refine T.cal (zk0 1 (by decide) h0) λy1 _ h1=>T.cal (zcq _ (hE _ _ _ h1.1)) λy2 _ h2=>?_
 have hm2:=h2.1.ym
 have e1:=h1.1.ym
 rw [e1] at hm2
 dsimp only at hm2
 refine T.jp (λy=>∃ m,Em m/\Ok r.1 m 0 True y) (λJ k=>?_) λy ⟨m,hem,hy⟩=>?_
 ·have hb:∃ m,Em m/\Ok r.1 m 0 True y2:=⟨y2.m,by rw [hm2];exact ⟨rfl,rfl,rfl⟩,⟨htk,h2.1.yl,rfl,h2.1.a0,h2.1.a1,h2.1.ok⟩⟩
  obtain ⟨m,hem,hb⟩:=hb
  refine T.cal (zck _ hb) λy3 _ h3=>T.br (λ_=>T.cal (zcq _ h3.1) λy4 _ h4=>k _ ⟨m,hem,h4.1⟩) λ_=>?_
  refine T.cal (zck _ h3.1) λy5 _ h5=>T.br (λ_=>T.cal (zcq _ (hE _ _ _ h5.1)) λy4 _ h4=>k _ ⟨_,by rw [h5.1.ym];exact hem,h4.1⟩) λ_=>?_
  refine T.cal (zck _ h5.1) λy6 _ h6=>T.br (λ_=>T.cal (zcq _ (hE _ _ _ h6.1)) λy4 _ h4=>k _ ⟨_,by rw [h6.1.ym];exact hem,h4.1⟩) λ_=>k _ ⟨m,hem,h6.1⟩
 refine T.cal (zcq _ hy) λy3 _ h3=>T.cal (zcq _ h3.1) λy4 _ h4=>?_
 have hstart:zqT r.1 y4:=by
  have e:=h4.1.ym
  exact head y4 ⟨htk,h4.1.yl,rfl,h4.1.a0,h4.1.a1,h4.1.ok⟩ (by rw [e];exact hem.1) (by rw [e];exact hem.2.1) (by rw [e];exact hem.2.2)
 refine T.lp (λy=>zqT r.1 y) (λy=>if y.e=0 then ((r.1.length:Int) - y.at_).toNat + 1 else 0) hstart (by have:=hstart.ok.a0;split <;> omega) λL y hy hL=>?_
 refine T.jp (λ(q:Bool × zz)=>zqT r.1 q.2/\(q.1=true->y.e=0/\q.2.e=0/\q.2.at_ ≥ y.at_)) (λJ k=>T.br (λhe=>T.cal (zck _ hy.ok) λu _ hu=>?_) λ_=>k _ ⟨hy,λh=>by cases h⟩) λq ⟨hq,hqb⟩=>?_
 ·have hge:y.at_ <= u.2.at_:=by
   cases hu1:u.1 with
   | true=>have:=hu.2.2.1 hu1;omega
   | false=>rw [hu.2.2.2 hu1];omega
  refine k _ ⟨hy.re hu.1.ym (hu.1.yl.trans hy.ok.yl.symm) hge hu.1.a1 (λe=>hu.2.1 ▸ e),λhb=>?_⟩
  have hb:u.1=false:=by simpa using hb
  have:=hu.2.2.2 hb
  dsimp only
  rw [this]
  exact ⟨zOT he,zOT he,zIl _⟩
 refine T.br (λhb=>?_) λhb=>?_
 ·obtain ⟨b1,b2,b3⟩:=hqb hb
  refine T.cal (zf2 hq.ok) λ⟨t,x'⟩ _ ⟨ht,hx⟩=>?_
  dsimp only at ht hx ⊢
  subst hx
  have hq1:Ok r.1 q.2.m (q.2.at_ + 0) (q.2.m.names.length <= 40/\zaN (Sub 17 q.2.m.nodes) q.2.m.types 0 q.2.m.nodes.length/\(q.2.m.names.length:Int) <= q.2.at_) q.2:=hq.ok.to λ_ p1 _=>⟨p1,by omega⟩
  refine T.cal (zk0 1 (by decide) hq.ok) λu _ hu=>?_
  have hu1:Ok r.1 q.2.m (q.2.at_ + 1) (q.2.m.names.length <= 40/\zaN (Sub 17 q.2.m.nodes) q.2.m.types 0 q.2.m.nodes.length/\(q.2.m.names.length:Int) <= q.2.at_) u.2:=hu.1.to λe p1 _=>⟨p1,by have:=hu.2.1 e;omega⟩
  refine T.jp (λb=>b=false->u.2.e=0->q.2.m.names.length < 40) (λJ k=>T.br (λhe=>k _ λhb _=>?_) λhe=>k _ λ_ e=>absurd e (zOF he)) λb hb2=>?_
  ·have:=zOF hb
   rw [hu.1.ym] at this
   omega
  refine T.jp (λy5=>Ok r.1 q.2.m (q.2.at_ + 1) (q.2.m.names.length < 40/\zaN (Sub 17 q.2.m.nodes) q.2.m.types 0 q.2.m.nodes.length/\(q.2.m.names.length:Int) <= q.2.at_) y5) (λJ k=>T.br (λ_=>T.cal (zgP _ _ hu1 (by decide)) λw _ hw=>k _ (hw.1.err hw.2)) λhb3=>k _ (hu1.to λe p1 p2=>⟨⟨hb2 hb3 e,p1.2⟩,p2⟩)) λy5 h5=>?_
  refine T.cal (zcq _ h5) λy6 _ h6=>T.cal (zzj r.1 _ _ _ _ 0 h6.1 hq.nodes (zIl _) rfl) λv _ ⟨m',hg,hv⟩=>?_
  have hvm:=hv.ym
  have hn:=hq.names
  have hn1:m'.names.length <= 9000:=by
   rw [hg.names]
   have h9:=(hq.ok.ok b2).1.2.2
   have:=hq.ok.a1
   omega
  have ht1:m'.types.length=m'.names.length:=by rw [hg.types,hg.names];exact hq.types
  rw [hvm]
  refine T.abl (by simp only [zLs];omega) (T.abl (by simp only [zLs];omega) (hL _ ⟨⟨hv.toks,hv.yl,rfl,hv.a0,hv.a1,λe=>?_⟩,hg.lim,?_,?_,hg.ok hq.nok⟩ ?_))
  ·obtain ⟨⟨⟨p1,p2,p3⟩,p4,p5⟩,p6⟩:=hv.ok e
   dsimp only
   refine ⟨⟨?_,?_,?_⟩,hv.a0⟩
   ·rw [hg.names,zLa,zLs];omega
   ·rw [hg.types,p4]
    exact (p2.monoL λk _ hk=>hg.pre k hk).snoc p5
   ·rw [hg.names,zLa,zLs];omega
  ·dsimp only;rw [zLa,zLs];omega
  ·dsimp only;rw [zLa,zLa,zLs,zLs];omega
  ·dsimp only
   rw [if_pos b1]
   split
   ·rename_i e
    have p6:=(hv.ok e).2
    have:=hv.a1
    omega
   ·omega
 ·refine T.jp (λ(q2:Bool × zz)=>zqT r.1 q2.2) (λJ k=>T.br (λ_=>T.cal (zf2 hq.ok) λ⟨t,x'⟩ _ ⟨ht,hx⟩=>k _ (by dsimp only at hx ⊢;subst hx;exact hq)) λ_=>k _ hq) λq2 hq2=>?_
  refine T.jp (λ(y5:zz)=>y5.e=0->zqT r.1 y5) (λJ k=>T.br (λ_=>T.cal (zf2 hq2.ok) λ⟨t,x'⟩ _ ⟨ht,hx⟩=>?_) λ_=>k _ λ_=>hq2) λy5 h5=>?_
  ·dsimp only at hx ⊢
   subst hx
   exact T.cal (zgP _ _ hq2.ok (by decide)) λw _ hw=>k _ λe=>absurd e hw.2
  ·refine T.br (λ_=>T.some WF.empty) λhe=>T.some ?_
   have he:y5.e=0:=by simpa using he
   have h6:=h5 he
   have h7:=(h6.ok.ok he).1
   exact ⟨h7.1,h6.types,h6.nodes,h7.2.1,h6.nok⟩
def zjB (a_m:zaB) (zqa:Str):Option (Int) :=
 lp (ι:=Int) (λL2 q1=>br (decide (q1 < (a_m.names.length:Int))) (cal (zs a_m.names q1) λy5=>br (decide (y5=zqa)) (some (q1)) (ck ((q1 + (1:Int))) <| L2 ((q1 + (1:Int))))) (some ((-1:Int)))) (((0:Int)))

def zhl (a_l:(List Int)) (a_x:Int):Option (Bool) :=
 lp (ι:=Int) (λL2 q1=>br (decide (q1 < (a_l.length:Int))) (cal (zs a_l q1) λy5=>br (decide (y5=a_x)) (some (true)) (ck ((q1 + (1:Int))) <| L2 ((q1 + (1:Int))))) (some (false))) (((0:Int)))

def zga (zhQ:zaB->Int->Int->(List Int)->Option ((List Int) × Bool)) (a_m:zaB) (zeK:Int) (za:Int) (a_l:(List Int)):Option ((List Int) × Bool) :=
 jp (ι:=Bool) (λJ2=>br (decide (zeK < (0:Int))) (J2 (true)) (J2 ((decide ((a_m.nodes.length:Int) <= zeK))))) (λq1=>jp (ι:=Bool) (λJ5=>br q1 (J5 (true)) (J5 ((decide ((16:Int) < za))))) (λq4=>br q4 (some (a_l,false)) (cal (zs a_m.nodes zeK) λy7=>br (decide (y7.kind=(11:Int))) (cal (zjB a_m y7.name) λy9=>br (decide (y9 < (0:Int))) (some (a_l,true)) (cal (zhl a_l y9) λy10=>jp (ι:=(List Int)) (λJ12=>br (!y10) (asr (Nat.ble (a_l.length + ([y9]:(List Int)).length) 68719476736) <| J12 ((a_l ++ ([y9]:(List Int))))) (J12 (a_l))) (λq11=>some (q11,false)))) (lp (ι:=(List Int) × Bool × Int) (λL17 q16=>br (decide (q16.2.2 < (y7.fields.length:Int))) (cal (zs y7.fields q16.2.2) λy28=>ck ((za + (1:Int))) <| cal (zhQ a_m y28.ty (za + (1:Int)) q16.1) λy30=>jp (ι:=Bool) (λJ33=>br q16.2.1 (J33 (true)) (J33 (y30.2))) (λq32=>ck ((q16.2.2 + (1:Int))) <| L17 (y30.1,q32,(q16.2.2 + (1:Int))))) (jp (ι:=(List Int) × Bool) (λJ37=>br (decide (y7.kind=(10:Int))) (ck ((za + (1:Int))) <| cal (zhQ a_m y7.of (za + (1:Int)) q16.1) λy39=>jp (ι:=Bool) (λJ42=>br q16.2.1 (J42 (true)) (J42 (y39.2))) (λq41=>J37 (y39.1,q41))) (J37 (q16.1,q16.2.1))) (λq36=>some (q36.1,q36.2)))) ((a_l,false,(0:Int)))))))
def zl9:Nat->(zaB->Int->Int->(List Int)->Option ((List Int) × Bool))
 | 0=>(λ_ _ _ _=>none)
 | n + 1=>let p:=zl9 n;(zga p)
def zho (n:Nat):zaB->Int->Int->(List Int)->Option ((List Int) × Bool):=(zl9 n)

def zhT (ziE:(List (List Int))) (zek:Int) (a_to:Int):Option (Bool) :=
 cal (zs ziE zek) λy2=>asr (Nat.ble (([]:(List Int)).length + y2.length) 68719476736) <| lp (ι:=(List Int) × (List Int)) (λL6 q5=>br (decide ((0:Int) < (q5.2.length:Int))) (cal (zs q5.2 (0:Int)) λy17=>asr (decide (0 <= (1:Int)/\(1:Int) <= (q5.2.length:Int))) <| br (decide (y17=a_to)) (some (true)) (cal (zhl q5.1 y17) λy20=>br (!y20) (asr (Nat.ble (q5.1.length + ([y17]:(List Int)).length) 68719476736) <| cal (zs ziE y17) λy24=>asr (Nat.ble ((q5.2.drop ((1:Int)).toNat).length + y24.length) 68719476736) <| L6 ((q5.1 ++ ([y17]:(List Int))),((q5.2.drop ((1:Int)).toNat) ++ y24))) (L6 (q5.1,(q5.2.drop ((1:Int)).toNat))))) (some (false))) ((([]:(List Int)),(([]:(List Int)) ++ y2)))

def zjK (a_m:zaB):Option ((List Int) × Int × Int) :=
 lp (ι:=Int) (λL2 q1=>br (decide (q1 < (a_m.names.length:Int))) (asr (decide (0 <= (0:Int)/\(0:Int) <= q1/\q1 <= (a_m.names.length:Int))) <| cal (zs a_m.names q1) λy804=>cal (zgo ((a_m.names.take (q1).toNat).drop (0:Int).toNat) y804) λy805=>br y805 (some (([]:(List Int)),q1,(8:Int))) (ck ((q1 + (1:Int))) <| L2 ((q1 + (1:Int))))) (lp (ι:=(List (List Int)) × Int × Int) (λL808 q807=>br (decide (q807.2.2 < (a_m.names.length:Int))) (jp (ι:=(List (List Int)) × Int) (λJ1338=>cal (zs a_m.types q807.2.2) λy1339=>cal (zho fuel a_m y1339 (0:Int) ([]:(List Int))) λy1341=>asr (Nat.ble (q807.1.length + ([y1341.1]:(List (List Int))).length) 68719476736) <| jp (ι:=Bool) (λJ1347=>br y1341.2 (J1347 ((decide (q807.2.1 < (0:Int))))) (J1347 (false))) (λq1346=>br q1346 (J1338 ((q807.1 ++ ([y1341.1]:(List (List Int)))),q807.2.2)) (J1338 ((q807.1 ++ ([y1341.1]:(List (List Int)))),q807.2.1)))) (λq1337=>ck ((q807.2.2 + (1:Int))) <| L808 (q1337.1,q1337.2,(q807.2.2 + (1:Int))))) (br (decide ((0:Int) <= q807.2.1)) (some (([]:(List Int)),q807.2.1,(9:Int))) (lp (ι:=Int) (λL1351 q1350=>br (decide (q1350 < (a_m.names.length:Int))) (cal (zhT q807.1 q1350 q1350) λy1476=>br y1476 (some (([]:(List Int)),q1350,(10:Int))) (ck ((q1350 + (1:Int))) <| L1351 ((q1350 + (1:Int))))) (lp (ι:=(List Int)) (λL1479 q1478=>br (decide ((q1478.length:Int) < (a_m.names.length:Int))) (lp (ι:=Int) (λL1540 q1539=>br (decide (q1539 < (a_m.names.length:Int))) (cal (zhl q1478 q1539) λy1569=>lp (ι:=Bool × Int) (λL1571 q1570=>cal (zs q807.1 q1539) λy1584=>br (decide (q1570.2 < (y1584.length:Int))) (jp (ι:=Bool) (λJ1586=>br q1570.1 (cal (zs q807.1 q1539) λy1588=>cal (zs y1588 q1570.2) λy1589=>cal (zhl q1478 y1589) λy1590=>J1586 (y1590)) (J1586 (false))) (λq1585=>ck ((q1570.2 + (1:Int))) <| L1571 (q1585,(q1570.2 + (1:Int))))) (br q1570.1 (asr (Nat.ble (q1478.length + ([q1539]:(List Int)).length) 68719476736) <| L1479 ((q1478 ++ ([q1539]:(List Int))))) (ck ((q1539 + (1:Int))) <| L1540 ((q1539 + (1:Int)))))) (((!y1569),(0:Int)))) (L1479 (q1478))) (((0:Int)))) (some (q1478,(0:Int),(0:Int)))) ((([]:(List Int)))))) (((0:Int)))))) ((([]:(List (List Int))),(-1:Int),(0:Int))))) (((0:Int)))
theorem T.eqs {β:Type} {o:Option β} {x:β} (h:T (λr=>r=x) o):o=some x:=by
 obtain ⟨r,h1,h2⟩:=h;rw [h1,h2]
section lists
variable {α β:Type} [DecidableEq α] [DecidableEq β]
def add (l:List α) (x:α):List α:=if x ∈ l then l else l ++ [x]
def zmp (l xs:List α):List α:=xs.foldl add l
theorem zrV (l:List α):zmp l []=l:=rfl
theorem zpN (l:List α) (x:α) (xs:List α):zmp l (x :: xs)=zmp (add l x) xs:=rfl
theorem znk (l xs ys:List α):zmp l (xs ++ ys)=zmp (zmp l xs) ys:=by unfold zmp;rw [List.foldl_append]
theorem zyW {l:List α} {x y:α}:y ∈ add l x ↔ y ∈ l \/ y=x:=by
 unfold add
 split
 ·rename_i h
  exact ⟨.inl,λh2=>h2.elim (λh=>h) λe=>by rw [e];exact h⟩
 ·rw [List.mem_append,zMo]
theorem zsu {xs:List α}:∀ {l:List α} {y:α},y ∈ zmp l xs ↔ y ∈ l \/ y ∈ xs:=by
 induction xs with
 | nil=>intro l y;rw [zrV];simp
 | cons x xs ih=>intro l y;rw [zpN,ih,zyW,List.mem_cons,or_assoc]
theorem zuz {l:List α} {x:α} (h:l.Nodup):(add l x).Nodup:=by
 unfold add
 split
 ·exact h
 ·rename_i hx
  rw [List.nodup_append]
  exact ⟨h,by simp,λa ha b hb=>by rw [zMo.1 hb];exact λe=>hx (e ▸ ha)⟩
theorem zty {xs:List α}:∀ {l:List α},l.Nodup->(zmp l xs).Nodup:=by
 induction xs with
 | nil=>intro l h;exact h
 | cons x xs ih=>intro l h;rw [zpN];exact ih (zuz h)
theorem zsP (l:List α) (x:α):(add l x).length <= l.length + 1:=by
 unfold add;split
 ·omega
 ·rw [zLa,zLs];omega
theorem zdg:∀ {a b:List α},a.Nodup->(∀ x ∈ a,x ∈ b)->a.length <= b.length:=by
 intro a
 induction a with
 | nil=>intro b _ _;exact zNz _
 | cons x a ih =>
  intro b hn hs
  rw [List.nodup_cons] at hn
  have hx:=hs x zMs
  have h1:=ih (b:=b.erase x) hn.2 λy hy=>(List.mem_erase_of_ne (λe:y=x=>hn.1 (e ▸ hy))).2 (hs y (zMm _ hy))
  have h2:=List.length_erase_of_mem hx
  have h3:=List.length_pos_of_mem hx
  rw [zLc]
  omega
def nums (n:Nat):List Int:=(List.range n).map (λ(k:Nat)=>(k:Int))
theorem zh0 {n:Nat} {x:Int}:x ∈ nums n ↔ 0 <= x/\x < n:=by
 unfold nums
 rw [List.mem_map]
 refine ⟨λ⟨k,hk,e⟩=>?_,λ⟨h1,h2⟩=>⟨x.toNat,List.mem_range.2 (by omega),by omega⟩⟩
 have:=List.mem_range.1 hk
 omega
theorem zgs (n:Nat):(nums n).length=n:=by unfold nums;rw [List.length_map,List.length_range]
theorem ztD (n:Nat):(nums n).Nodup:=by
 unfold nums
 rw [List.Nodup,List.pairwise_map]
 exact List.Pairwise.imp (λ{a b:Nat} (h:a ≠ b) (e:(a:Int)=(b:Int))=>h (by omega)) (List.nodup_range:(List.range n).Nodup)
end lists

/-! ### Places of names -/
def zf3:List Str->Str->Int->Int
 | [],_,_=>-1
 | y :: r,s,k=>if y=s then k else zf3 r s (k + 1)
def fnd (l:List Str) (s:Str):Int:=zf3 l s 0
theorem zqs:∀ (l:List Str) (s:Str) (k:Int),0 <= k->(zf3 l s k=-1/\s ∉ l) \/ (k <= zf3 l s k/\zf3 l s k < k + l.length/\l[(zf3 l s k - k).toNat]?=some s/\∀ j:Nat,j < (zf3 l s k - k).toNat->l[j]? ≠ some s):=by
 intro l
 induction l with
 | nil=>intro s k _;exact .inl ⟨rfl,by simp⟩
 | cons y r ih =>
  intro s k hk
  unfold zf3
  by_cases h:y=s
  ·rw [if_pos h]
   right
   refine ⟨zIl _,by simp only [zLc];omega,by rw [h];simp,λj hj=>by omega⟩
  ·rw [if_neg h]
   rcases ih s (k + 1) (by omega) with ⟨h1,h2⟩ | ⟨h1,h2,h3,h4⟩
   ·left
    refine ⟨h1,?_⟩
    rw [List.mem_cons]
    exact λh5=>h5.elim (λe=>h e.symm) h2
   ·right
    have e:(zf3 r s (k + 1) - k).toNat=(zf3 r s (k + 1) - (k + 1)).toNat + 1:=by omega
    refine ⟨by omega,by simp only [zLc];omega,by rw [e,List.getElem?_cons_succ];exact h3,λj hj=>?_⟩
    cases j with
    | zero=>simp only [List.getElem?_cons_zero];exact λe=>h (Option.some.inj e)
    | succ j=>rw [List.getElem?_cons_succ];exact h4 j (by omega)
theorem zmk (l:List Str) (s:Str):(fnd l s=-1/\s ∉ l) \/ (0 <= fnd l s/\fnd l s < l.length/\l[(fnd l s).toNat]?=some s/\∀ j:Nat,j < (fnd l s).toNat->l[j]? ≠ some s):=by
 have:=zqs l s 0 (zIl _)
 unfold fnd
 simpa using this
def idx (l:List Str) (s:Str):Option Int:=if fnd l s < 0 then none else some (fnd l s)
theorem zuM {l:List Str} {s:Str} {c:Int} (h:idx l s=some c):0 <= c/\c < l.length:=by
 unfold idx at h
 split at h
 ·cases h
 cases h
 rcases zmk l s with h' | h'
 ·omega
 ·exact ⟨h'.1,h'.2.1⟩
theorem zsF (m:zaB) (s:Str) (hl:m.names.length <= 1000000):zjB m s=some (fnd m.names s):=by
 refine T.eqs ?_
 unfold zjB
 refine T.lp (λ(k:Int)=>0 <= k/\k <= (m.names.length:Int)/\fnd m.names s=zf3 (m.names.drop k.toNat) s k) (λ(k:Int)=>((m.names.length:Int) - k).toNat) ⟨zIl _,by omega,rfl⟩ (by omega) λL k ⟨h1,h2,h3⟩ hL=>?_
 refine T.br (λhb=>?_) λhb=>T.some ?_
 ·have hb:=zOT hb
  refine T.get h1 hb λy hy=>?_
  have hd:m.names.drop k.toNat=y :: m.names.drop (k.toNat + 1):=by
   rw [List.drop_eq_getElem_cons (by omega)]
   rw [List.getElem?_eq_getElem (by omega)] at hy
   rw [Option.some.inj hy]
  rw [hd] at h3
  unfold zf3 at h3
  refine T.br (λhe=>T.some ?_) λhe=>T.ck (by omega) (hL _ ⟨by omega,by omega,?_⟩ (by omega))
  ·rw [h3,if_pos (zOT he)]
  ·have e:(k + 1).toNat=k.toNat + 1:=by omega
   rw [h3,if_neg (zOF he),e]
 ·have hb:=zOF hb
  rw [zDn (by omega)] at h3
  exact h3.symm
def nmx (l:List zh):Nat->Int->List Str
 | 0,_=>[]
 | h + 1,i=>match (if 0 <= i then l[i.toNat]? else none) with
  | none=>[]
  | some n=>if n.kind=11 then [n.name] else (zet n).flatMap (nmx l h)
theorem znH {l:List zh} {h:Nat} {i:Nat} {n:zh} (e:l[i]?=some n):nmx l (h + 1) (i:Int)=if n.kind=11 then [n.name] else (zet n).flatMap (nmx l h):=by
 rw [nmx,if_pos (by omega)]
 have:((i:Int)).toNat=i:=by omega
 rw [this,e]
theorem zaN.append {S:Nat->Nat->Prop} {ys:List Int}:∀ {xs:List Int} {a b:Nat},zaN S (xs ++ ys) a b->∃ c,zaN S xs a c/\zaN S ys c b:=by
 intro xs
 induction xs with
 | nil=>intro a b h;exact ⟨a,rfl,h⟩
 | cons k r ih=>intro a b ⟨c,h0,h1,h2⟩;obtain ⟨d,h3,h4⟩:=ih h2;exact ⟨d,⟨c,h0,h1,h3⟩,h4⟩
theorem zaN.length {h:Nat} {l:List zh}:∀ {r a b},zaN (Sub h l) r a b->r.length <= b - a:=by
 intro r
 induction r with
 | nil=>intro a b _;exact zNz _
 | cons k r ih =>
  intro a b ⟨c,_,h4,h5⟩
  have:=h4.lt
  have:=ih h5
  have:=zaN.le (λx y h=>Nat.le_of_lt h.lt) h5
  rw [zLc]
  omega
theorem zaN.sub {h:Nat} {l:List zh}:∀ {r a b},zaN (Sub h l) r a b->∀ i,a <= i->i < b->∃ h' j,h' <= h/\Sub h' l i j/\j <= b:=by
 induction h with
 | zero =>
  intro r a b hk i h1 h2
  cases r with
  | nil=>cases hk;omega
  | cons k r=>obtain ⟨c,_,h,_⟩:=hk;exact h.elim
 | succ h ih =>
  intro r
  induction r with
  | nil=>intro a b hk i h1 h2;cases hk;omega
  | cons k r ihr =>
   intro a b ⟨c,h3,h4,h5⟩ i h1 h2
   have hle:=zaN.le (λx y h=>Nat.le_of_lt h.lt) h5
   rcases Nat.lt_or_ge i c with h6 | h6
   ·rcases Nat.lt_or_ge a i with h7 | h7
    ·obtain ⟨n,h8,h9⟩:=h4
     obtain ⟨h',j,e1,e2,e3⟩:=ih h9 i (by omega) h6
     exact ⟨h',j,by omega,e2,by omega⟩
    ·have:i=a:=by omega
     subst this
     exact ⟨h + 1,c,zNl _,h4,hle⟩
   ·exact ihr h5 i h6 h2

/-! ### The program's walk -/
theorem zte {α β:Type} {f g:α->List β}:∀ {l:List α},(∀ x ∈ l,f x=g x)->l.flatMap f=l.flatMap g:=by
 intro l
 induction l with
 | nil=>intro _;rfl
 | cons x l ih=>intro h;rw [List.flatMap_cons,List.flatMap_cons,h x zMs,ih λy hy=>h y (zMm _ hy)]
theorem zaN.mem {S:Nat->Nat->Prop} {k:Int}:∀ {r a b},zaN S r a b->k ∈ r->∃ (c d:Nat),k=(c:Int)/\S c d:=by
 intro r
 induction r with
 | nil=>intro a b _ h;cases h
 | cons x r ih =>
  intro a b ⟨c,h1,h2,h3⟩ h
  rcases List.mem_cons.1 h with e | e
  ·exact ⟨a,c,e.trans h1,h2⟩
  ·exact ih h3 e
theorem zzw:∀ {h h' l i j},Sub h l i j->h <= h'->nmx l h' (i:Int)=nmx l h (i:Int):=by
 intro h
 induction h with
 | zero=>intro h' l i j hs;exact hs.elim
 | succ h ih =>
  intro h' l i j ⟨n,h1,h2⟩ hle
  obtain ⟨h'',rfl⟩:∃ h'',h'=h'' + 1:=⟨h' - 1,by omega⟩
  rw [znH h1,znH h1]
  split
  ·rfl
  ·refine zte λk hk=>?_
   obtain ⟨c,d,e1,e2⟩:=h2.mem hk
   rw [e1]
   exact ih e2 (by omega)
theorem zBd {l:List zh} {h:Nat} {i:Int} (hi:i < 0 \/ (l.length:Int) <= i):nmx l h i=[]:=by
 cases h with
 | zero=>rfl
 | succ h =>
  rw [nmx]
  have:(if 0 <= i then l[i.toNat]? else none)=none:=by
   split
   ·rename_i h0
    exact List.getElem?_eq_none (by omega)
   ·rfl
  rw [this]

theorem WF.at {m:zaB} (w:WF m) {i:Nat} (hi:i < m.nodes.length):∃ h j,h <= 17/\Sub h m.nodes i j/\j <= m.nodes.length:=w.forest.sub i (zNz _) hi
def nms (m:zaB) (node:Int):List Str:=nmx m.nodes 17 node
def zmV (m:zaB) (node:Int):List Int:=zmp [] ((nms m node).filterMap (idx m.names))
def zsa (m:zaB) (node:Int):Bool:=(nms m node).any (λs=>fnd m.names s < 0)
theorem zi9 {α:Type} {l:List α} {k:Int} {y:α} (h0:0 <= k) (h:l[k.toNat]?=some y):l.drop k.toNat=y :: l.drop (k + 1).toNat:=by
 have hk:k.toNat < l.length:=by
  rcases Nat.lt_or_ge k.toNat l.length with h1 | h1
  ·exact h1
  ·rw [List.getElem?_eq_none h1] at h;cases h
 have e:(k + 1).toNat=k.toNat + 1:=by omega
 rw [e,List.drop_eq_getElem_cons hk]
 rw [List.getElem?_eq_getElem hk] at h
 rw [Option.some.inj h]
theorem zlf (l:List Int) (x:Int) (hl:l.length <= 1000000):zhl l x=some (decide (x ∈ l)):=by
 refine T.eqs ?_
 unfold zhl
 refine T.lp (λ(k:Int)=>0 <= k/\k <= (l.length:Int)/\(x ∈ l ↔ x ∈ l.drop k.toNat)) (λ(k:Int)=>((l.length:Int) - k).toNat) ⟨zIl _,by omega,Iff.rfl⟩ (by omega) λL k ⟨h1,h2,h3⟩ hL=>?_
 refine T.br (λhb=>?_) λhb=>T.some ?_
 ·have hb:=zOT hb
  refine T.get h1 hb λy hy=>?_
  rw [zi9 h1 hy,List.mem_cons] at h3
  refine T.br (λhe=>T.some (zDT (h3.2 (.inl (zOT he).symm))).symm) λhe=>T.ck (by omega) (hL _ ⟨by omega,by omega,?_⟩ (by omega))
  rw [h3]
  exact ⟨λh=>h.elim (λe=>absurd e.symm (zOF he)) λh=>h,.inr⟩
 ·have hb:=zOF hb
  rw [zDn (by omega)] at h3
  exact (zDF (λh=>by cases h3.1 h)).symm

def zxU (m:zaB) (f:zaB->Int->Int->List Int->Option (List Int × Bool)) (h:Nat):Prop:=∀ i j (d:Int) acc,Sub h m.nodes i j->j <= m.nodes.length->0 <= d->d + h <= 17->acc.length <= i ->
 T (λr=>r.1=zmp acc ((nmx m.nodes h i).filterMap (idx m.names))/\r.2=(nmx m.nodes h i).any (λs=>decide (fnd m.names s < 0))/\r.1.length <= j) (f m i d acc)
theorem ztn {m f h} (w:WF m) (ih:zxU m f h):zxU m (zga f) (h + 1):=by
 intro i j d acc hs hj hd0 hd hacc
 have hl:=w.nodes
 have hnl:=w.names
 have hij:=hs.lt
 obtain ⟨n,hn,hk⟩:=hs
 unfold zga
 have hi:i < m.nodes.length:=by omega
 have htn:((i:Int)).toNat=i:=by omega
 refine T.jp (λb=>b=false) (λJ k=>T.br (λhb=>by have:=zOT hb;omega) λ_=>k _ (zDF (by omega))) λb hb=>?_
 subst hb
 refine T.jp (λb=>b=false) (λJ k=>T.br (λhb=>by cases hb) λ_=>k _ (zDF (by omega))) λb hb=>?_
 subst hb
 refine T.br (λhb=>by cases hb) λ_=>?_
 refine T.get (by omega) (by omega) λn' hn'=>?_
 rw [htn,hn] at hn'
 cases hn'
 rw [znH hn]
 refine T.br (λhr=>?_) λhr=>?_
 ·have hr:=zOT hr
  rw [if_pos hr]
  refine T.eq (zsF _ _ (by omega)) (T.br (λhf=>T.some ⟨?_,?_,by dsimp only;omega⟩) λhf=>T.eq (zlf _ _ (by omega)) (T.jp (λl=>l=add acc (fnd m.names n.name)) (λJ k=>T.br (λhin=>T.abl (by simp only [zLs];omega) (k _ ?_)) λhin=>k _ ?_) λl hlq=>T.some ⟨?_,?_,?_⟩))
  ·have hf:=zOT hf
   have:idx m.names n.name=none:=by unfold idx;rw [if_pos hf]
   rw [List.filterMap_cons_none this];rfl
  ·rw [List.any_cons,hf];rfl
  ·unfold add;rw [if_neg (by simpa using hin)]
  ·unfold add;rw [if_pos (by simpa using hin)]
  ·have hf:=zOF hf
   have:idx m.names n.name=some (fnd m.names n.name):=by unfold idx;rw [if_neg hf]
   rw [List.filterMap_cons_some this,hlq];rfl
  ·rw [List.any_cons,hf];rfl
  ·have:=zsP acc (fnd m.names n.name)
   dsimp only
   rw [hlq];omega
 ·have hr:=zOF hr
  rw [if_neg hr]
  unfold zet at hk ⊢
  rw [if_neg hr] at hk ⊢
  obtain ⟨c,hk1,hk2⟩:=zaN.append hk
  rw [List.flatMap_append]
  have hc:=zaN.le (λx y h=>Nat.le_of_lt h.lt) hk2
  have hfl:=hk1.length
  rw [List.length_map] at hfl
  refine T.lp (λ(q:List Int × Bool × Int)=>0 <= q.2.2/\q.2.2 <= (n.fields.length:Int)/\∃ e,zaN (Sub h m.nodes) ((n.fields.drop q.2.2.toNat).map (λf=>f.ty)) e c/\i + 1 <= e/\zmp q.1 ((((n.fields.drop q.2.2.toNat).map (λf=>f.ty)).flatMap (nmx m.nodes h)).filterMap (idx m.names))=zmp acc (((n.fields.map (λf=>f.ty)).flatMap (nmx m.nodes h)).filterMap (idx m.names))/\(q.2.1 || (((n.fields.drop q.2.2.toNat).map (λf=>f.ty)).flatMap (nmx m.nodes h)).any (λs=>decide (fnd m.names s < 0)))=((n.fields.map (λf=>f.ty)).flatMap (nmx m.nodes h)).any (λs=>decide (fnd m.names s < 0))/\q.1.length <= e) (λ(q:List Int × Bool × Int)=>((n.fields.length:Int) - q.2.2).toNat)
   ⟨zIl _,by dsimp only;omega,i + 1,hk1,zNl _,rfl,rfl,by dsimp only;omega⟩ ?_ λL q hq hL=>?_
  ·dsimp only;omega
  ·obtain ⟨a1,b1,k⟩:=q
   obtain ⟨q1,q2,e,q3,q4,q5,q6,q7⟩:=hq
   dsimp only at q1 q2 q3 q5 q6 q7 ⊢
   have he:=zaN.le (λx y h=>Nat.le_of_lt h.lt) q3
   refine T.br (λhb=>?_) λhb=>?_
   ·have hb:=zOT hb
    refine T.get q1 hb λy hy=>?_
    rw [zi9 q1 hy,List.map_cons] at q3 q5 q6
    obtain ⟨c1,e1,e2,e3⟩:=q3
    have hc1:=zaN.le (λx y h=>Nat.le_of_lt h.lt) e3
    have:=e2.lt
    rw [List.flatMap_cons,e1] at q5 q6
    rw [List.filterMap_append,znk] at q5
    rw [List.any_append,<- Bool.or_assoc] at q6
    rw [e1]
    refine T.ck (by omega) (T.cal (ih e c1 (d + 1) a1 e2 (by omega) (by omega) (by omega) q7) λr _ ⟨r1,r2,r3⟩=>T.jp (λb=>b=(b1 || r.2)) (λJ k2=>T.br (λh=>k2 _ (by rw [h];rfl)) λh=>k2 _ (by rw [h];rfl)) λb hb2=>T.ck (by omega) (hL _ ⟨by dsimp only;omega,by dsimp only;omega,c1,e3,by omega,?_,?_,r3⟩ (by dsimp only;omega)))
    ·dsimp only;rw [r1];exact q5
    ·dsimp only;rw [hb2,r2];exact q6
   ·have hb:=zOF hb
    rw [zDn (by omega)] at q3 q5 q6
    cases q3
    have q6':b1=((n.fields.map (λf=>f.ty)).flatMap (nmx m.nodes h)).any (λs=>decide (fnd m.names s < 0)):=by rw [<- q6];simp
    rw [List.filterMap_append,znk,<- q5,List.any_append,<- q6']
    refine T.jp (λ(q:List Int × Bool)=>q.1=zmp a1 (((if n.kind=10 then [n.of] else []).flatMap (nmx m.nodes h)).filterMap (idx m.names))/\q.2=(b1 || ((if n.kind=10 then [n.of] else []).flatMap (nmx m.nodes h)).any (λs=>decide (fnd m.names s < 0)))/\q.1.length <= j) (λJ k2=>T.br (λhl10=>?_) λhl10=>k2 _ ?_) λq hq=>T.some hq
    ·have h10:=zOT hl10
     rw [if_pos h10] at hk2
     obtain ⟨c1,e1,e2,e3⟩:=hk2
     cases e3
     have ih1:=ih c j (d + 1) a1 e2 (by omega) (by omega) (by omega) q7
     rw [<- e1] at ih1
     refine T.ck (by omega) (T.cal ih1 λr _ ⟨r1,r2,r3⟩=>T.jp (λb=>b=(b1 || r.2)) (λJ k3=>T.br (λh=>k3 _ (by rw [h];rfl)) λh=>k3 _ (by rw [h];rfl)) λb hb2=>k2 (r.1,b) ⟨?_,?_,r3⟩)
     ·dsimp only;rw [if_pos h10,r1];simp [zrV]
     ·dsimp only;rw [if_pos h10,hb2,r2];simp
    ·have h10:=zOF hl10
     rw [if_neg h10] at hk2 ⊢
     cases hk2
     exact ⟨rfl,by simp,q7⟩
theorem zuH {m:zaB} (w:WF m):∀ h n,h <= n->zxU m (zho n) h:=by
 intro h
 induction h with
 | zero=>intro n _ i j d acc hs;exact hs.elim
 | succ h ih =>
  intro n hn
  obtain ⟨n',rfl⟩:∃ n',n=n' + 1:=⟨n - 1,by omega⟩
  exact ztn w (ih n' (by omega))
theorem zvh {m n i d acc} (hi:i < 0 \/ (m.nodes.length:Int) <= i):zho (n + 1) m i d acc=some (acc,false):=by
 refine T.eqs ?_
 show T _ (zga (zho n) m i d acc)
 unfold zga
 refine T.jp (λb=>b=true) (λJ k=>T.br (λ_=>k _ rfl) λhb=>k _ (zDT (by have:=zOF hb;omega))) λb hb=>?_
 subst hb
 refine T.jp (λb=>b=true) (λJ k=>T.br (λ_=>k _ rfl) λhb=>by cases hb) λb hb=>?_
 subst hb
 exact T.br (λ_=>T.some rfl) λhb=>by cases hb
theorem zwV {m:zaB} (w:WF m) (node:Int):zho fuel m node 0 []=some (zmV m node,zsa m node):=by
 by_cases hi:node < 0 \/ (m.nodes.length:Int) <= node
 ·obtain ⟨f',hf⟩:∃ f',fuel=f' + 1:=⟨fuel - 1,by unfold fuel;omega⟩
  rw [hf,zvh hi]
  unfold zmV zsa nms
  rw [zBd hi];rfl
 ·obtain ⟨i,rfl⟩:∃ i:Nat,node=(i:Int):=⟨node.toNat,by omega⟩
  obtain ⟨h,j,h1,h2,h3⟩:=w.at (i:=i) (by omega)
  obtain ⟨r,e,r1,r2,r3⟩:=zuH w h fuel (by unfold fuel;omega) i j 0 [] h2 h3 (zIl _) (by omega) (zNz _)
  rw [e]
  unfold zmV zsa nms
  rw [zzw h2 h1,<- r1,<- r2]
abbrev Gr:=List (List Int)
def Ed (U:Gr) (i j:Int):Prop:=0 <= i/\∃ l,U[i.toNat]?=some l/\j ∈ l
inductive Reach (U:Gr):Int->Int->Prop
 | one {i j}:Ed U i j->Reach U i j
 | tail {i j k}:Reach U i j->Ed U j k->Reach U i k
structure GOk (U:Gr):Prop where
 len:U.length <= 40
 ok:∀ l ∈ U,l.length <= 40/\∀ j ∈ l,0 <= j/\j < U.length
theorem GOk.ed {U i j} (g:GOk U) (h:Ed U i j):0 <= j/\j < U.length:=by
 obtain ⟨_,l,h1,h2⟩:=h
 exact (g.ok l (List.mem_of_getElem? h1)).2 j h2
def cf:List Bool->Nat
 | []=>0
 | b :: r=>(if b then 0 else 1) + cf r
/-! ### By breadth -/
theorem zvx {U} (g:GOk U) {i t:Int} (hi:0 <= i) (hi1:i < U.length):T (λr=>r=true ↔ Reach U i t) (zhT U i t):=by
 have hgl:=g.len
 unfold zhT
 refine T.get hi hi1 λl hl=>?_
 obtain ⟨hll,hlr⟩:=g.ok l (List.mem_of_getElem? hl)
 have hed:∀ j,Ed U i j ↔ j ∈ l:=λj=>⟨λ⟨_,l',h1,h2⟩=>by rw [hl] at h1;cases h1;exact h2,λh=>⟨hi,l,hl,h⟩⟩
 refine T.abl (by simp only [zLn];omega) ?_
 refine T.lp (λ(q:List Int × List Int)=>q.1.Nodup/\(∀ v ∈ q.1,0 <= v/\v < U.length)/\(∀ v ∈ q.2,Reach U i v)/\(∀ j,Ed U i j->j ∈ q.1 \/ j ∈ q.2)/\(∀ v ∈ q.1,∀ j,Ed U v j->j ∈ q.1 \/ j ∈ q.2)/\t ∉ q.1/\q.2.length <= 40 * (q.1.length + 1)) (λ(q:List Int × List Int)=>(U.length - q.1.length) * 41 + q.2.length)
  ⟨List.nodup_nil,λv h=>(by cases h),λv hv=>.one ((hed v).2 (by simpa using hv)),λj hj=>.inr (by simpa using (hed j).1 hj),λv h=>(by cases h),(by simp),by simp;omega⟩ (by simp;omega) λL q ⟨h1,h2,h3,h4,h5,h6,h7⟩ hL=>?_
 obtain ⟨s,td⟩:=q
 dsimp only at h1 h2 h3 h4 h5 h6 h7 ⊢
 have hsl:s.length <= U.length:=by
  have:=zdg (b:=nums U.length) h1 λx hx=>zh0.2 (h2 x hx)
  rwa [zgs] at this
 refine T.br (λhb=>?_) λhb=>T.some ⟨(λh=>by cases h),λh=>?_⟩
 ·have hb:=zOT hb
  cases td with
  | nil=>simp at hb
  | cons y td =>
   refine T.get (zIl _) hb λy' hy'=>?_
   have hy':y=y':=by simpa using hy'
   subst hy'
   have hyr:=h3 y zMs
   have hy01:0 <= y/\y < U.length:=by
    cases hyr with
    | one e=>exact g.ed e
    | tail _ e=>exact g.ed e
   refine T.asd (by simp only [zLc];omega) (T.br (λhe=>T.some ⟨λ_=>?_,λ_=>rfl⟩) λhe=>?_)
   ·rw [<- zOT he];exact hyr
   have he:=zOF he
   have hdr:(y :: td).drop ((1:Int)).toNat=td:=rfl
   rw [hdr]
   rw [zLc] at h7
   refine T.eq (zlf s y (by omega)) (T.br (λhn=>T.abl (by simp only [zLs];omega) ?_) λhn=>hL _ ⟨h1,h2,λv hv=>h3 v (zMm _ hv),?_,?_,h6,by dsimp only;omega⟩ (by dsimp only;rw [zLc];omega))
   ·have hys:y ∉ s:=by simpa using hn
    refine T.get hy01.1 hy01.2 λly hly=>?_
    obtain ⟨hyl,hyr2⟩:=g.ok ly (List.mem_of_getElem? hly)
    have hslt:s.length < U.length:=by
     have:=zdg (a:=y :: s) (b:=nums U.length) (List.nodup_cons.2 ⟨hys,h1⟩) λx hx=>zh0.2 (by rcases List.mem_cons.1 hx with e | e;rw [e];exact hy01;exact h2 x e)
     rw [zgs,zLc] at this
     omega
    refine T.abl (by omega) (hL _ ⟨?_,?_,?_,?_,?_,?_,?_⟩ ?_)
    ·dsimp only
     rw [List.nodup_append]
     exact ⟨h1,by simp,λa ha b hb=>by rw [zMo.1 hb];exact λe=>hys (e ▸ ha)⟩
    ·dsimp only
     intro v hv
     rcases List.mem_append.1 hv with e | e
     ·exact h2 v e
     ·rw [zMo.1 e];exact hy01
    ·dsimp only
     intro v hv
     rcases List.mem_append.1 hv with e | e
     ·exact h3 v (zMm _ e)
     ·exact hyr.tail ⟨hy01.1,ly,hly,e⟩
    ·dsimp only
     intro j hj
     rw [List.mem_append,List.mem_append,zMo]
     rcases h4 j hj with e | e
     ·exact .inl (.inl e)
     ·rcases List.mem_cons.1 e with e | e
      ·exact .inl (.inr e)
      ·exact .inr (.inl e)
    ·dsimp only
     intro v hv j hj
     rw [List.mem_append,List.mem_append,zMo]
     rcases List.mem_append.1 hv with e | e
     ·rcases h5 v e j hj with e | e
      ·exact .inl (.inl e)
      ·rcases List.mem_cons.1 e with e | e
       ·exact .inl (.inr e)
       ·exact .inr (.inl e)
     ·rw [zMo.1 e] at hj
      obtain ⟨_,l',e1,e2⟩:=hj
      rw [hly] at e1;cases e1
      exact .inr (.inr e2)
    ·dsimp only
     rw [List.mem_append,zMo]
     exact λh=>h.elim h6 λe=>he e.symm
    ·dsimp only
     rw [zLa,zLa,zLs]
     omega
    ·dsimp only
     rw [zLa,zLa,zLs,zLc]
     omega
   ·have hys:y ∈ s:=by simpa using hn
    intro j hj
    dsimp only
    rcases h4 j hj with e | e
    ·exact .inl e
    ·rcases List.mem_cons.1 e with e | e
     ·rw [e];exact .inl hys
     ·exact .inr e
   ·have hys:y ∈ s:=by simpa using hn
    intro v hv j hj
    dsimp only at hv ⊢
    rcases h5 v hv j hj with e | e
    ·exact .inl e
    ·rcases List.mem_cons.1 e with e | e
     ·rw [e];exact .inl hys
     ·exact .inr e
 ·have hb:=zOF hb
  cases td with
  | cons y td=>simp at hb
  | nil =>
   exfalso
   have key:∀ a b,Reach U a b->a=i->b ∈ s:=by
    intro a b hab
    induction hab with
    | one e=>intro ea;subst ea;simpa using h4 _ e
    | tail _ e ih=>intro ea;simpa using h5 _ (ih ea) _ e
   exact h6 (key _ _ h rfl)

/-! ### One that is ready -/
theorem zqH {U:Gr} (g:GOk U) (hac:∀ i,¬ Reach U i i) (out:List Int) (hl:out.length < U.length):∃ i:Int,0 <= i/\i < U.length/\i ∉ out/\∀ j,Ed U i j->j ∈ out:=by
 refine Classical.byContradiction λhno=>?_
 have hno:∀ i:Int,0 <= i->i < U.length->i ∉ out->∃ j,Ed U i j/\j ∉ out:=by
  intro i h1 h2 h3
  refine Classical.byContradiction λh4=>hno ⟨i,h1,h2,h3,λj hj=>Classical.byContradiction λh5=>h4 ⟨j,hj,h5⟩⟩
 have hst:∃ i:Int,0 <= i/\i < U.length/\i ∉ out:=by
  refine Classical.byContradiction λh=>?_
  have:=zdg (a:=nums U.length) (b:=out) (ztD _) λx hx=>by
   have:=zh0.1 hx
   exact Classical.byContradiction λh2=>h ⟨x,this.1,this.2,h2⟩
  rw [zgs] at this
  omega
 have path:∀ k:Nat,∃ (h:Int) (p:List Int),p.length=k/\(h :: p).Nodup/\(∀ x ∈ h :: p,0 <= x/\x < U.length/\x ∉ out)/\∀ x ∈ p,Reach U x h:=by
  intro k
  induction k with
  | zero =>
   obtain ⟨i,h1,h2,h3⟩:=hst
   exact ⟨i,[],rfl,by simp,λx hx=>by rw [zMo.1 hx];exact ⟨h1,h2,h3⟩,λx hx=>by cases hx⟩
  | succ k ih =>
   obtain ⟨h,p,e1,e2,e3,e4⟩:=ih
   obtain ⟨j,hj1,hj2⟩:=hno h (e3 h zMs).1 (e3 h zMs).2.1 (e3 h zMs).2.2
   have hall:∀ x ∈ h :: p,Reach U x j:=by
    intro x hx
    rcases List.mem_cons.1 hx with e | e
    ·rw [e];exact .one hj1
    ·exact (e4 x e).tail hj1
   refine ⟨j,h :: p,by rw [zLc,e1],List.nodup_cons.2 ⟨λhm=>hac j (hall j hm),e2⟩,λx hx=>?_,hall⟩
   rcases List.mem_cons.1 hx with e | e
   ·rw [e];have:=g.ed hj1;exact ⟨this.1,this.2,hj2⟩
   ·exact e3 x e
 obtain ⟨h,p,e1,e2,e3,_⟩:=path U.length
 have:=zdg (b:=nums U.length) e2 λx hx=>zh0.2 ⟨(e3 x hx).1,(e3 x hx).2.1⟩
 rw [zgs,zLc] at this
 omega
def first (P:Int->Bool):Nat->Int->Option Int
 | 0,_=>none
 | n + 1,k=>if P k then some k else first P n (k + 1)
theorem zjY {P:Int->Bool}:∀ {n k},first P n k=none->∀ i,k <= i->i < k + n->P i=false:=by
 intro n
 induction n with
 | zero=>intro k _ i h1 h2;omega
 | succ n ih =>
  intro k h i h1 h2
  unfold first at h
  cases hp:P k with
  | true=>rw [hp] at h;cases h
  | false =>
   rw [hp] at h
   rcases Int.lt_or_le k i with h3 | h3
   ·exact ih h i (by omega) (by omega)
   ·have:i=k:=by omega
    rw [this];exact hp
theorem zsI {P:Int->Bool}:∀ {n k i},first P n k=some i->k <= i/\i < k + n/\P i=true:=by
 intro n
 induction n with
 | zero=>intro k i h;cases h
 | succ n ih =>
  intro k i h
  unfold first at h
  cases hp:P k with
  | true=>rw [hp] at h;cases h;exact ⟨zIl _,by omega,hp⟩
  | false=>rw [hp] at h;have:=ih h;exact ⟨by omega,by omega,this.2.2⟩
def At (P:Int->Bool) (n:Nat) (k:Int):Prop:=0 <= k/\k <= n/\first P n 0=first P ((n:Int) - k).toNat k
theorem At.zero (P:Int->Bool) (n:Nat):At P n 0:=⟨zIl _,by omega,by simp⟩
theorem At.next {P:Int->Bool} {n:Nat} {k:Int} (h:At P n k) (hk:k < n) (hp:P k=false):At P n (k + 1):=by
 obtain ⟨h1,h2,h3⟩:=h
 have e:((n:Int) - k).toNat=((n:Int) - (k + 1)).toNat + 1:=by omega
 rw [e,first,hp] at h3
 exact ⟨by omega,by omega,h3⟩
theorem At.hit {P:Int->Bool} {n:Nat} {k:Int} (h:At P n k) (hk:k < n) (hp:P k=true):first P n 0=some k:=by
 obtain ⟨h1,h2,h3⟩:=h
 have e:((n:Int) - k).toNat=((n:Int) - (k + 1)).toNat + 1:=by omega
 rw [e,first,hp] at h3
 exact h3
theorem At.miss {P:Int->Bool} {n:Nat} {k:Int} (h:At P n k) (hk:¬ k < n):first P n 0=none:=by
 obtain ⟨h1,h2,h3⟩:=h
 have e:((n:Int) - k).toNat=0:=by omega
 rw [e] at h3
 exact h3

/-! ### What is wrong first -/
/-- What zmV what. -/
def gr (m:zaB):Gr:=m.types.map (zmV m)
theorem zmW {m:zaB} (w:WF m):(gr m).length=m.names.length:=by unfold gr;rw [List.length_map];exact w.types
theorem zoh {m:zaB} {t x:Int} (h:x ∈ zmV m t):0 <= x/\x < m.names.length:=by
 unfold zmV at h
 rcases zsu.1 h with e | e
 ·cases e
 ·obtain ⟨s,_,h2⟩:=List.mem_filterMap.1 e
  exact zuM h2
theorem zux {m:zaB} (w:WF m):GOk (gr m):=by
 refine ⟨by rw [zmW w];exact w.names,λl hl=>?_⟩
 unfold gr at hl
 obtain ⟨t,_,rfl⟩:=List.mem_map.1 hl
 refine ⟨?_,λj hj=>by rw [zmW w];exact zoh hj⟩
 have:=zdg (a:=zmV m t) (b:=nums m.names.length) (zty List.nodup_nil) λx hx=>zh0.2 (zoh hx)
 rw [zgs] at this
 have:=w.names
 omega
def zpX (m:zaB) (i:Int):Bool:=match m.names[i.toNat]? with | some s=>decide (fnd m.names s < i) | none=>false
def zmx (m:zaB) (i:Int):Bool:=match m.types[i.toNat]? with | some t=>zsa m t | none=>false
open Classical in
noncomputable def zrk (m:zaB) (i:Int):Bool:=decide (Reach (gr m) i i)
noncomputable def wr (m:zaB):Int × Int :=
 match first (zpX m) m.names.length 0 with
 | some i=>(i,8)
 | none=>match first (zmx m) m.names.length 0 with
  | some i=>(i,9)
  | none=>match first (zrk m) m.names.length 0 with
   | some i=>(i,10)
   | none=>(0,0)
open Classical in
theorem zsb {m:zaB} {b:Bool} {i:Int} (h:b=true ↔ Reach (gr m) i i):zrk m i=b:=by
 unfold zrk
 cases b with
 | true=>exact zDT (h.1 rfl)
 | false=>exact zDF λh2=>by cases h.2 h2
def rdy (U:Gr) (out:List Int) (i:Int):Bool:=decide (i ∉ out) && ((U[i.toNat]?).getD []).all (λj=>decide (j ∈ out))
def zoq (U:Gr):Nat->List Int->List Int
 | 0,out=>out
 | k + 1,out=>match first (rdy U out) U.length 0 with
  | some i=>zoq U k (out ++ [i])
  | none=>out
noncomputable def ztw (m:zaB):List Int × Int × Int:=if (wr m).2=0 then (zoq (gr m) m.names.length [],0,0) else ([],(wr m).1,(wr m).2)
theorem zww {m:zaB} (w:WF m) (h:(wr m).2=0):∀ i,¬ Reach (gr m) i i:=by
 intro i hr
 have hi:0 <= i/\i < (gr m).length:=by
  cases hr with
  | one e=>exact (zux w).ed e
  | tail _ e=>exact (zux w).ed e
 rw [zmW w] at hi
 unfold wr at h
 split at h
 ·cases h
 split at h
 ·cases h
 split at h
 ·cases h
 ·rename_i h3
  have:=zjY h3 i hi.1 (by omega)
  have h4:zrk m i=true:=zsb (b:=true) ⟨λ_=>hr,λ_=>rfl⟩
  rw [this] at h4;cases h4
theorem zp9 {m:zaB} (w:WF m) (h:(wr m).2=0) {out:List Int} (hl:out.length < m.names.length):first (rdy (gr m) out) (gr m).length 0 ≠ none:=by
 intro hn
 obtain ⟨i,h1,h2,h3,h4⟩:=zqH (zux w) (zww w h) out (by rw [zmW w];exact hl)
 have:=zjY hn i h1 (by omega)
 unfold rdy at this
 rw [zDT h3,Bool.true_and] at this
 have ha:((gr m)[i.toNat]?.getD []).all (λj=>decide (j ∈ out))=true:=by
  rw [List.all_eq_true]
  intro j hj
  rw [List.getElem?_eq_getElem (by omega)] at hj
  exact zDT (h4 j ⟨h1,_,List.getElem?_eq_getElem (by omega),hj⟩)
 rw [this] at ha;cases ha
def Tp (m:zaB) (out:List Int):Prop:=out.length <= m.names.length/\zoq (gr m) (m.names.length - out.length) out=zoq (gr m) m.names.length []
theorem Tp.nil (m:zaB):Tp m []:=⟨zNz _,rfl⟩
theorem Tp.next {m:zaB} {out:List Int} {i:Int} (h:Tp m out) (hl:out.length < m.names.length) (hf:first (rdy (gr m) out) (gr m).length 0=some i):Tp m (out ++ [i]):=by
 obtain ⟨h1,h2⟩:=h
 have e:m.names.length - out.length=(m.names.length - (out ++ [i]).length) + 1:=by rw [zLa,zLs];omega
 rw [e,zoq,hf] at h2
 exact ⟨by rw [zLa,zLs];omega,h2⟩
theorem Tp.done {m:zaB} {out:List Int} (h:Tp m out) (hl:¬ (out.length:Int) < m.names.length):out=zoq (gr m) m.names.length []:=by
 obtain ⟨h1,h2⟩:=h
 have e:m.names.length - out.length=0:=by omega
 rw [e] at h2
 exact h2

/-! ### The program's order -/
/-! ### The document's order -/
theorem zxB {l:List Str} {k:Int} {s:Str} (h0:0 <= k) (h:l[k.toNat]?=some s):decide (s ∈ (l.take k.toNat).drop (0:Int).toNat)=decide (fnd l s < k):=by
 have e0:(l.take k.toNat).drop (0:Int).toNat=l.take k.toNat:=rfl
 rw [e0]
 rcases zmk l s with h1 | ⟨h1,h2,h3,h4⟩
 ·exact absurd (List.mem_of_getElem? h) h1.2
 ·by_cases h5:fnd l s < k
  ·rw [zDT h5]
   refine zDT (List.mem_of_getElem? (i:=(fnd l s).toNat) ?_)
   rw [List.getElem?_take_of_lt (by omega)]
   exact h3
  ·rw [zDF h5]
   refine zDF λhm=>?_
   obtain ⟨j,hj⟩:=List.getElem?_of_mem hm
   rw [List.getElem?_take] at hj
   split at hj
   ·exact h4 j (by omega) hj
   ·cases hj
theorem zvs {m:zaB} (w:WF m):zjK m=some (ztw m):=by
 have hn:=w.names
 have ht:=w.types
 have hgl:=zmW w
 have hgo:=zux w
 refine T.eqs ?_
 unfold zjK
 refine T.lp (λ(k:Int)=>At (zpX m) m.names.length k) (λ(k:Int)=>((m.names.length:Int) - k).toNat) (At.zero _ _) (by omega) λL k hk hL=>?_
 have hk0:=hk.1
 refine T.br (λhb=>?_) λhb=>?_
 ·have hb:=zOT hb
  refine T.asd (by omega) (T.get hk0 hb λs hs=>T.cal (zi2 _ s (by rw [zLd,zLt];omega)) λb _ hbq=>?_)
  rw [zxB hk0 hs] at hbq
  have e:zpX m k=decide (fnd m.names s < k):=by unfold zpX;rw [hs]
  refine T.br (λh=>T.some ?_) λh=>T.ck (by omega) (hL _ (hk.next hb (by rw [e,<- hbq];exact h)) (by omega))
  have:wr m=(k,8):=by unfold wr;rw [hk.hit hb (by rw [e,<- hbq];exact h)]
  unfold ztw;rw [this];rfl
 have m1:=hk.miss (zOF hb)
 refine T.lp (λ(q:List (List Int) × Int × Int)=>0 <= q.2.2/\q.2.2 <= (m.names.length:Int)/\(q.1.length:Int)=q.2.2/\q.1 ++ (m.types.drop q.2.2.toNat).map (zmV m)=gr m/\((q.2.1 < 0/\At (zmx m) m.names.length q.2.2) \/ (0 <= q.2.1/\first (zmx m) m.names.length 0=some q.2.1))) (λ(q:List (List Int) × Int × Int)=>((m.names.length:Int) - q.2.2).toNat) ⟨zIl _,by dsimp only;omega,rfl,rfl,.inl ⟨by dsimp only;omega,At.zero _ _⟩⟩ (by dsimp only;omega) λL q ⟨h1,h2,h3,h4,h5⟩ hL=>?_
 obtain ⟨U,mi,k⟩:=q
 dsimp only at h1 h2 h3 h4 h5 ⊢
 refine T.br (λhb=>?_) λhb=>?_
 ·have hb:=zOT hb
  obtain ⟨t,htt⟩:∃ t,m.types[k.toNat]?=some t:=⟨_,List.getElem?_eq_getElem (by omega)⟩
  rw [zi9 h1 htt,List.map_cons] at h4
  have e:zmx m k=zsa m t:=by unfold zmx;rw [htt]
  refine T.jp (λ(q:List (List Int) × Int)=>q.1=U ++ [zmV m t]/\((q.2 < 0/\At (zmx m) m.names.length (k + 1)) \/ (0 <= q.2/\first (zmx m) m.names.length 0=some q.2))) (λJ kk=>?_) λq ⟨hq1,hq2⟩=>T.ck (by omega) (hL _ ⟨by dsimp only;omega,by dsimp only;omega,?_,?_,hq2⟩ (by dsimp only;omega))
  ·refine T.get h1 (by omega) λt' ht'=>?_
   rw [htt] at ht';cases ht'
   refine T.eq (zwV w t) (T.abl (by simp only [zLs];omega) (T.jp (λb=>b=(zsa m t && decide (mi < 0))) (λJ2 k2=>T.br (λh=>k2 _ ?_) λh=>k2 _ ?_) λb hbq=>T.br (λh=>kk _ ⟨rfl,?_⟩) λh=>kk _ ⟨rfl,?_⟩))
   ·dsimp only at h;rw [h];rfl
   ·dsimp only at h;rw [h];rfl
   ·rw [hbq,zBa] at h
    obtain ⟨l1,l2⟩:=h
    have l2:=zOT l2
    rcases h5 with h5 | h5
    ·exact .inr ⟨h1,h5.2.hit hb (by rw [e];exact l1)⟩
    ·omega
   ·rw [hbq,Bool.and_eq_false_iff] at h
    rcases h5 with h5 | h5
    ·refine .inl ⟨h5.1,h5.2.next hb ?_⟩
     rw [e]
     rcases h with h | h
     ·exact h
     ·have:=zOF h
      exact absurd h5.1 this
    ·exact .inr h5
  ·dsimp only;rw [hq1,zLa,zLs];omega
  ·dsimp only;rw [hq1,<- h4];simp
 have hb9:=zOF hb
 rw [zDn (by omega),List.map_nil,List.append_nil] at h4
 subst h4
 refine T.br (λhm=>T.some ?_) λhm=>?_
 ·have hm:=zOT hm
  have m2:=(h5.resolve_left λh=>by omega).2
  have:wr m=(mi,9):=by unfold wr;rw [m1,m2]
  unfold ztw;rw [this];rfl
 have hm:=zOF hm
 have m2:=(h5.resolve_right λh=>by omega).2.miss hb9
 refine T.lp (λ(k:Int)=>At (zrk m) m.names.length k) (λ(k:Int)=>((m.names.length:Int) - k).toNat) (At.zero _ _) (by omega) λL k hk hL=>?_
 have hk0:=hk.1
 refine T.br (λhb=>?_) λhb=>?_
 ·have hb:=zOT hb
  refine T.cal (zvx hgo (t:=k) hk0 (by omega)) λb _ hbq=>?_
  have e:=zsb hbq
  refine T.br (λh=>T.some ?_) λh=>T.ck (by omega) (hL _ (hk.next hb (by rw [e];exact h)) (by omega))
  have:wr m=(k,10):=by unfold wr;rw [m1,m2,hk.hit hb (by rw [e];exact h)]
  unfold ztw;rw [this];rfl
 have m3:=hk.miss (zOF hb)
 have hwr:wr m=(0,0):=by unfold wr;rw [m1,m2,m3]
 have he:(wr m).2=0:=by rw [hwr]
 refine T.lp (λ(out:List Int)=>Tp m out) (λ(out:List Int)=>m.names.length - out.length) (Tp.nil m) (by omega) λL out ho hL=>?_
 have hol:=ho.1
 refine T.br (λhb=>?_) λhb=>T.some ?_
 ·have hb:=zOT hb
  have hlt:out.length < m.names.length:=by omega
  refine T.lp (λ(k:Int)=>At (rdy (gr m) out) (gr m).length k) (λ(k:Int)=>((m.names.length:Int) - k).toNat) (At.zero _ _) (by omega) λL2 k hk hL2=>?_
  have hk0:=hk.1
  refine T.br (λhb2=>?_) λhb2=>?_
  ·have hb2:=zOT hb2
   obtain ⟨l,hl⟩:∃ l,(gr m)[k.toNat]?=some l:=⟨_,List.getElem?_eq_getElem (by omega)⟩
   have hll:=(hgo.ok l (List.mem_of_getElem? hl)).1
   have hrd:rdy (gr m) out k=(!decide (k ∈ out) && l.all (λj=>decide (j ∈ out))):=by unfold rdy;rw [hl];simp
   refine T.eq (zlf out k (by omega)) ?_
   refine T.lp (λ(q:Bool × Int)=>0 <= q.2/\q.2 <= (l.length:Int)/\(q.1 && (l.drop q.2.toNat).all (λj=>decide (j ∈ out)))=rdy (gr m) out k) (λ(q:Bool × Int)=>((l.length:Int) - q.2).toNat) ⟨zIl _,by dsimp only;omega,hrd.symm⟩ (by dsimp only;omega) λL3 q ⟨g1,g2,g3⟩ hL3=>?_
   obtain ⟨b,j⟩:=q
   dsimp only at g1 g2 g3 ⊢
   refine T.get hk0 (by omega) λl' hl'=>?_
   rw [hl] at hl';cases hl'
   refine T.br (λhb3=>?_) λhb3=>?_
   ·have hb3:=zOT hb3
    obtain ⟨x,hx⟩:∃ x,l[j.toNat]?=some x:=⟨_,List.getElem?_eq_getElem (by omega)⟩
    rw [zi9 g1 hx,List.all_cons,<- Bool.and_assoc] at g3
    refine T.jp (λc=>c=(b && decide (x ∈ out))) (λJ kk=>T.br (λh=>T.get hk0 (by omega) λl' hl'=>?_) λh=>kk _ (by rw [h];rfl)) λc hc=>T.ck (by omega) (hL3 _ ⟨by dsimp only;omega,by dsimp only;omega,by dsimp only;rw [hc];exact g3⟩ (by dsimp only;omega))
    rw [hl] at hl';cases hl'
    refine T.get g1 hb3 λx' hx'=>?_
    rw [hx] at hx';cases hx'
    exact T.eq (zlf out x (by omega)) (kk _ (by rw [h];rfl))
   ·have hb3:=zOF hb3
    rw [zDn (by omega),List.all_nil,Bool.and_true] at g3
    refine T.br (λhr=>T.abl (by simp only [zLs];omega) (hL _ (ho.next hlt (hk.hit (by omega) (by rw [<- g3];exact hr))) (by rw [zLa,zLs];omega))) λhr=>T.ck (by omega) (hL2 _ (hk.next (by omega) (by rw [<- g3];exact hr)) (by omega))
  ·have hb2:=zOF hb2
   exact absurd (hk.miss (by omega)) (zp9 w he hlt)
 ·unfold ztw;rw [if_pos he,ho.done (zOF hb)]
def zrM (U:Gr) (out:List Int):Prop:=∀ (k:Nat) (i:Int),out[k]?=some i->0 <= i/\i < U.length/\i ∉ out.take k/\∀ j ∈ (U[i.toNat]?).getD [],j ∈ out.take k
theorem zrM.nil (U:Gr):zrM U []:=λk i h=>by simp at h
theorem zrM.next {U:Gr} {out:List Int} {i:Int} (h:zrM U out) (hf:first (rdy U out) U.length 0=some i):zrM U (out ++ [i]):=by
 obtain ⟨h1,h2,h3⟩:=zsI hf
 unfold rdy at h3
 rw [zBa] at h3
 intro k x hk
 rcases Nat.lt_trichotomy k out.length with e | e | e
 ·rw [List.getElem?_append_left e] at hk
  rw [List.take_append_of_le_length (by omega)]
  exact h k x hk
 ·subst e
  rw [List.getElem?_append_right (zNl _)] at hk
  simp at hk
  subst hk
  rw [List.take_append_of_le_length (zNl _),List.take_length]
  exact ⟨h1,by omega,zOT h3.1,λj hj=>zOT (List.all_eq_true.1 h3.2 j hj)⟩
 ·rw [List.getElem?_append_right (by omega),List.getElem?_eq_none (by simp;omega)] at hk
  cases hk
theorem zu9 (U:Gr):∀ k out,zrM U out->zrM U (zoq U k out):=by
 intro k
 induction k with
 | zero=>intro out h;exact h
 | succ k ih =>
  intro out h
  unfold zoq
  split
  ·rename_i i hi;exact ih _ (h.next hi)
  ·exact h
theorem zvE {m:zaB} (w:WF m) (h:(wr m).2=0):∀ k out,out.length + k=m.names.length->(zoq (gr m) k out).length=m.names.length:=by
 intro k
 induction k with
 | zero=>intro out h;exact h
 | succ k ih =>
  intro out hl
  unfold zoq
  split
  ·rename_i i hi;exact ih _ (by rw [zLa,zLs];omega)
  ·rename_i hn;exact absurd hn (zp9 w h (by omega))
theorem zz3 {m:zaB} (w:WF m) (h:(wr m).2=0):∃ rk:Int->Nat,(∀ i,rk i <= m.names.length)/\∀ i j,Ed (gr m) i j->rk j < rk i:=by
 have hl:=zvE w h m.names.length [] (by simp)
 have hg:=zu9 (gr m) m.names.length [] (zrM.nil _)
 generalize zoq (gr m) m.names.length []=out at hl hg
 have hgl:=zmW w
 have hnd:out.Nodup:=by
  rw [List.nodup_iff_pairwise_ne,List.pairwise_iff_getElem]
  intro i j hi hj hij he
  have h1:=(hg j (out[j]) (List.getElem?_eq_getElem hj)).2.2.1
  refine h1 ?_
  rw [<- he]
  exact List.mem_take_iff_getElem.2 ⟨i,by omega,rfl⟩
 have hsub:∀ x ∈ out,x ∈ nums m.names.length:=λx hx=>by
  obtain ⟨k,hk⟩:=List.mem_iff_getElem?.1 hx
  have:=hg k x hk
  exact zh0.2 ⟨this.1,by omega⟩
 have hall:∀ i:Int,0 <= i->i < m.names.length->i ∈ out:=λi h0 h1=>by
  refine Classical.byContradiction λhno=>?_
  have:=zdg (a:=i :: out) (b:=nums m.names.length) (List.nodup_cons.2 ⟨hno,hnd⟩) (λx hx=>by
   rcases List.mem_cons.1 hx with e | e
   ·rw [e];exact zh0.2 ⟨h0,h1⟩
   ·exact hsub x e)
  rw [zgs,zLc] at this
  omega
 refine ⟨λi=>out.idxOf i,λi=>by rw [<- hl];exact List.idxOf_le_length,λi j ⟨h0,l,h1,h2⟩=>?_⟩
 have hi:i < m.names.length:=by
  have:=(List.getElem?_eq_some_iff.1 h1).1
  omega
 have hio:=hall i h0 hi
 have hlt:=List.idxOf_lt_length_of_mem hio
 have hk:=hg (out.idxOf i) i (by rw [List.getElem?_eq_getElem hlt,List.getElem_idxOf])
 have hj:=hk.2.2.2 j (by rw [h1];exact h2)
 obtain ⟨n,hn,he⟩:=List.mem_take_iff_getElem.1 hj
 have hn2:n < out.length:=by omega
 have:out.idxOf j <= n:=by
  rw [<- he]
  rw [hnd.idxOf_getElem n hn2]
  exact zNl _
 show out.idxOf j < out.idxOf i
 omega
end Go.Proofs.Q

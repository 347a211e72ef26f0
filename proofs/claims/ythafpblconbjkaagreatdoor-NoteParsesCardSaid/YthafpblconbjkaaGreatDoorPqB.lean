/- Numbers: the lexer's model answers, and what it lets pass. No condition: general lemmas. -/
import Derived.Test.YthafpblconbjkaaGreatDoorPqA
import Derived.KernelRfl
import Derived.WideLaws
import Derived.Lib.ItoaNum
import Derived.Lib.ReplaceLaws
import Derived.Lib.ParseIntB
import Derived.Lib.ValidU
set_option linter.unusedVariables false
set_option linter.unusedSimpArgs false
set_option maxRecDepth 4000
set_option maxHeartbeats 4000000
namespace Go.Sy
open Go
abbrev Pt (Rs:List VP) (Hs:List Ent):VP->List Ent->Prop:=λR H=>R=ziQ Rs/\H=Hs
abbrev Pt1 {τ0:Type} (Rs:τ0->List VP) (Hs:τ0->List Ent):VP->List Ent->Prop:=λR H=>∃ t0,R=ziQ (Rs t0)/\H=Hs t0
section
variable {c:Ctx} {ops:Array Oper} {Q:Exit->Act->World->Prop} {Γ:zM} {H Hr Hc H0:List Ent} {d j i id:Nat} {want b:Bool} {op:Op} {o:Oper} {ty:TypeId} {pos:String} {af:Array Edge} {rest:List Oper} {π:Ord} {σ:St} {R:VP} {x y:Code} {u:Operand}
theorem ws (k:Rl c ops ops.toList σ (nxt c y Q)):Wp c (.seq (.region id ops false) y) σ Q:=zeT (zdU k)
theorem ss (k:Rl c ops ops.toList σ (nxt c x (nxt c y Q))):Wp c (.seq (.seq (.region id ops false) x) y) σ Q:=zeT (ws k)
theorem rn (k:Wp c y σ Q):Rl c ops [] σ (nxt c y Q):=zkU (zc7 k)
theorem wk (k:Wp c y σ Q):Wp c .skip σ (nxt c y Q):=zm5 (zc7 k)
theorem rb (k:Fin c σ Q):Rl c ops [] σ (Exit.inBlock id Q):=zkU (zgB k)
theorem bn (k:Ret c σ Q):Ret c σ (Exit.inBlock id (nxt c y Q)):=zeW (zhD k)
theorem xn (k:Exi c id σ Q):Wp c (.exit id) σ (nxt c y Q):=zwc (ztd k)
theorem om (hx:zB Γ u=some R) (k:Rl c ops rest ⟨(d,R) :: Γ,H⟩ Q) (hd:Nat.blt d c.n=true:=by rfl):Rl c ops (⟨some d,.move u,ty,pos,af,none⟩ :: rest) ⟨Γ,H⟩ Q:=oV (zc0 hx) k hd
theorem oa (hx:zB Γ u=some R) (k:Rl c ops rest ⟨(d,R) :: Γ,H⟩ Q) (hd:Nat.blt d c.n=true:=by rfl):Rl c ops (⟨some d,.assign u,ty,pos,af,none⟩ :: rest) ⟨Γ,H⟩ Q:=oV (zjD hx) k hd
theorem an (hx:zB Γ u=some R) (k:Wp c y ⟨(d,R) :: Γ,H⟩ Q) (hd:Nat.blt d c.n=true:=by rfl):Rl c ops [⟨some d,.assign u,ty,pos,af,none⟩] ⟨Γ,H⟩ (nxt c y Q):=oa hx (rn k) hd
theorem ar (hx:zB Γ u=some R) (k:Ret c ⟨(d,R) :: Γ,H⟩ Q) (hd:Nat.blt d c.n=true:=by rfl):Rl c ops [⟨some d,.assign u,ty,pos,af,none⟩] ⟨Γ,H⟩ (nxt c .ret Q):=an hx (znZ k) hd
def gl (ops:Array Oper) (j:Nat) (Γ:zM):Option VP:=((ops[j]?).bind (·.dst)).bind (zcg Γ)
theorem zjS (h:gl ops j Γ=some R):∃ dj,(ops[j]?).bind (·.dst)=some dj/\zcg Γ dj=some R:=Option.bind_eq_some_iff.1 h
theorem oG (hb:b=want) (h:OpV c ⟨some d,op,ty,pos,af,some (j,want)⟩ ⟨Γ,H⟩ R) (k:Rl c ops rest ⟨(d,R) :: Γ,H⟩ Q) (hl:gl ops j Γ=some (isv b):=by exact rfl) (hd:Nat.blt d c.n=true:=by rfl):Rl c ops (⟨some d,op,ty,pos,af,some (j,want)⟩ :: rest) ⟨Γ,H⟩ Q:=by
 obtain ⟨dj,h1,h2⟩:=zjS hl;exact zqh rfl h1 h2 hb (OpV.t h k hd)
theorem oH {r:Option Nat} (hb:b=want) (h:OpT c ⟨r,op,ty,pos,af,some (j,want)⟩ σ λσ'=>Rl c ops rest σ' Q) (hl:gl ops j σ.Γ=some (isv b):=by exact rfl):Rl c ops (⟨r,op,ty,pos,af,some (j,want)⟩ :: rest) σ Q:=by
 obtain ⟨dj,h1,h2⟩:=zjS hl;exact zqh rfl h1 h2 hb h
theorem oN (hb:b=!want) (k:Rl c ops rest ⟨(d,zem) :: Γ,H⟩ Q) (hl:gl ops j Γ=some (isv b):=by exact rfl) (hd:Nat.blt d c.n=true:=by rfl):Rl c ops (⟨some d,op,ty,pos,af,some (j,want)⟩ :: rest) ⟨Γ,H⟩ Q:=by
 obtain ⟨dj,h1,h2⟩:=zjS hl;exact ztG h1 h2 hb k hd
theorem rm (ho:ops[i]?=some ⟨some d,.move u,ty,pos,af,none⟩) (hx:zB Γ u=some R) (k:Rd c ops π ⟨(d,R) :: Γ,H⟩ Q) (hd:Nat.blt d c.n=true:=by rfl):Rd c ops (.v i π) ⟨Γ,H⟩ Q:=zbe ho (zc0 hx) k hd
theorem rG (ho:ops[i]?=some ⟨some d,op,ty,pos,af,some (j,want)⟩) (hb:b=want) (h:OpV c ⟨some d,op,ty,pos,af,some (j,want)⟩ ⟨Γ,H⟩ R) (k:Rd c ops π ⟨(d,R) :: Γ,H⟩ Q) (hl:gl ops j Γ=some (isv b):=by exact rfl) (hd:Nat.blt d c.n=true:=by rfl):Rd c ops (.v i π) ⟨Γ,H⟩ Q:=by
 obtain ⟨dj,h1,h2⟩:=zjS hl;exact zyt ho h1 h2 hb h k hd
theorem rP (ho:ops[i]?=some ⟨some d,op,ty,pos,af,some (j,want)⟩) (hb:b=!want) (k:Rd c ops π ⟨(d,zem) :: Γ,H⟩ Q) (hl:gl ops j Γ=some (isv b):=by exact rfl) (hd:Nat.blt d c.n=true:=by rfl):Rd c ops (.v i π) ⟨Γ,H⟩ Q:=by
 obtain ⟨dj,h1,h2⟩:=zjS hl;exact zrt ho h1 h2 hb k hd
theorem rT (ho:ops[i]?=some o) (h:OpT c o σ λσ'=>Rd c ops π σ' Q) (hg:o.guard=none:=by exact rfl):Rd c ops (.t i π) σ Q:=zAc ho hg h
theorem rH {r:Option Nat} (ho:ops[i]?=some ⟨r,op,ty,pos,af,some (j,want)⟩) (hb:b=want) (h:OpT c ⟨r,op,ty,pos,af,some (j,want)⟩ σ λσ'=>Rd c ops π σ' Q) (hl:gl ops j σ.Γ=some (isv b):=by exact rfl):Rd c ops (.t i π) σ Q:=by
 obtain ⟨dj,h1,h2⟩:=zjS hl;exact zyG ho rfl h1 h2 hb h
end
section
variable {c:Ctx} {d:Option Nat} {ty:TypeId} {pos:String} {af:Array Edge} {g:Option (Nat × Bool)} {σ:St} {x i:Operand} {T f:Nat}
theorem vI {β γ:Type} [Rep β] [Rep γ] {y:β} (hx:zB σ.Γ x=some (zbn y)) (M:Fld β γ) (hf:zfw c.P T f M.off (Rep.n γ) (Rep.agg γ)=true) (z:γ) (hz:M.get y=z:=by exact rfl):OpV c ⟨d,.fieldAddr T x f,ty,pos,af,g⟩ σ (zbn z):=zAd hx M hf hz
theorem vN {α:Type} [Rep α] {l:List α} {n:Nat} {agg:Bool} (hx:zB σ.Γ x=some (isv l)) (hT:SlB c.P T n agg=true):OpV c ⟨d,.call ⟨.builtin .len,#[x],#[T]⟩,ty,pos,af,g⟩ σ (isv (l.length:Int)):=zyO hx (λ_ _ h=>h) hT
theorem vX {α:Type} [Rep α] {l:List α} {k:Int} {y:α} (hx:zB σ.Γ x=some (isv l)) (hi:zB σ.Γ i=some (isv k)) (hT:SlB c.P T (Rep.n α) (Rep.agg α)=true) (hy:zq l k=some y):OpV c ⟨d,.indexAddr T x i,ty,pos,af,g⟩ σ (zbn y):=zxd hx (λ_ _ h=>h) hi hT hy
theorem vP {α β:Type} [Rep α] [Rep β] {b:Nat} {L:Fld α β} {y:α} {T:TypeId} {o:Obj} (ht:TyB c.P T (Rep.n β) (Rep.agg β)=true) (hx:zB σ.Γ x=some (zdI o b L y)) (hp:(b,o) ∈ c.pin) (z:β) (hz:L.get y=z:=by exact rfl):OpV c ⟨d,.load T x,ty,pos,af,g⟩ σ (isv z):=ztA ht hx hp (by subst hz;exact λ_ _ h=>h)
end
/-! ### What turns the world -/
theorem p0 {e:Ent} {l:List Ent}:zcw e (e :: l) l:=.here
theorem p1 {e a:Ent} {l:List Ent}:zcw e (a :: e :: l) (a :: l):=.there .here
theorem p2 {e a b:Ent} {l:List Ent}:zcw e (a :: b :: e :: l) (a :: b :: l):=.there p1
theorem p3 {e a b c:Ent} {l:List Ent}:zcw e (a :: b :: c :: e :: l) (a :: b :: c :: l):=.there p2
theorem p4 {e a b c d:Ent} {l:List Ent}:zcw e (a :: b :: c :: d :: e :: l) (a :: b :: c :: d :: l):=.there p3
theorem a0 {e:Ent} {H Hc Hr:List Ent} (h:zbq H Hc Hr):zbq (e :: H) (e :: Hc) Hr:=.cons .here h
theorem a1 {e a:Ent} {H Hc Hr:List Ent} (h:zbq (a :: H) Hc Hr):zbq (a :: e :: H) (e :: Hc) Hr:=.cons p1 h
theorem a2 {e a b:Ent} {H Hc Hr:List Ent} (h:zbq (a :: b :: H) Hc Hr):zbq (a :: b :: e :: H) (e :: Hc) Hr:=.cons p2 h
theorem k0 {H:List Ent}:zbq H [] H:=.nil
theorem k5 {e1 e2 e3 e4 e5:Ent} {H:List Ent}:zbq (e1 :: e2 :: e3 :: e4 :: e5 :: H) [e1,e2,e3,e4,e5] H:=a0 k4
section
variable {c:Ctx} {ty:TypeId} {pos:String} {af:Array Edge} {g:Option (Nat × Bool)} {Γ:zM} {H Hr Hc:List Ent} {K:St->Prop} {x u:Operand} {T dd:Nat}
theorem tL {α β:Type} [Rep α] [Rep β] {b:Nat} {L:Fld α β} {y:α} (ht:TyB c.P T (Rep.n β) (Rep.agg β)=true) (hx:zB Γ x=some (zal b L)) (hp:zcw (zj b y) H Hr) (z:β) (k:K ⟨(dd,isv z) :: Γ,H⟩) (hz:L.get y=z:=by exact rfl) (hd:Nat.blt dd c.n=true:=by rfl) :
    OpT c ⟨some dd,.load T x,ty,pos,af,g⟩ ⟨Γ,H⟩ K:=zhE ht hx hp (by subst hz;exact λ_ _ h=>h) k hd
theorem tS {α β:Type} [Rep α] [Rep β] {b:Nat} {L:Fld α β} {y:α} {z:β} (ht:TyB c.P T (Rep.n β) (Rep.agg β)=true) (hx:zB Γ x=some (zal b L)) (hu:zB Γ u=some (isv z)) (hp:zcw (zj b y) H Hr) (y':α) (k:K ⟨Γ,zj b y' :: Hr⟩) (hy:L.set y z=y':=by exact rfl) :
    OpT c ⟨none,.store T x u,ty,pos,af,g⟩ ⟨Γ,H⟩ K:=zmd ht hx hu (λ_ _ h=>h) hp hy k
theorem tR {α β:Type} [Rep α] [Rep β] {b:Nat} {L:Fld α β} {y:α} {z:β} {R:VP} (ht:TyB c.P T (Rep.n β) (Rep.agg β)=true) (hx:zB Γ x=some (zal b L)) (hu:zB Γ u=some R) (hc:∀ S v,R.p S v->(isv z).p S v) (hp:zcw (zj b y) H Hr) (y':α) (hy:L.set y z=y') (k:K ⟨Γ,zj b y' :: Hr⟩) :
    OpT c ⟨none,.store T x u,ty,pos,af,g⟩ ⟨Γ,H⟩ K:=zmd ht hx hu hc hp hy k
theorem tB {α:Type} [Rep α] {y:α} (hx:zB Γ x=some (isv y)) (k:K ⟨(dd,zbn y) :: Γ,H⟩) (hd:Nat.blt dd c.n=true:=by rfl):OpT c ⟨some dd,.box T x,ty,pos,af,g⟩ ⟨Γ,H⟩ K:=ztt hx (λ_ _ h=>h) k hd
section
variable {f:FuncId} {xs:Array Operand} {ats:Array TypeId} {args:List VP} {τ0 τ1 τ2 τ3 τ4:Type}
theorem tC {R0:List VP} {H0:List Ent} (hs:Ctr c.P f args Hc (Pt R0 H0)) (hT:zkR c) (hx:zgK Γ xs.toList args) (ht:zbq H Hc Hr) (k:K ⟨(dd,ziQ R0) :: Γ,H0 ++ Hr⟩) (hd:Nat.blt dd c.n=true:=by rfl) :
    OpT c ⟨some dd,.call ⟨.value (.func f),xs,ats⟩,ty,pos,af,g⟩ ⟨Γ,H⟩ K:=zxS hs hT hx ht k hd
theorem tC1 {R0:τ0->List VP} {H0:τ0->List Ent} (hs:Ctr c.P f args Hc (Pt1 R0 H0)) (hT:zkR c) (hx:zgK Γ xs.toList args) (ht:zbq H Hc Hr) (k:∀ t0,K ⟨(dd,ziQ (R0 t0)) :: Γ,H0 t0 ++ Hr⟩) (hd:Nat.blt dd c.n=true:=by rfl) :
    OpT c ⟨some dd,.call ⟨.value (.func f),xs,ats⟩,ty,pos,af,g⟩ ⟨Γ,H⟩ K:=zsP hs hT hx ht (λR H' hR=>by obtain ⟨t0,rfl,rfl⟩:=hR;exact k t0) hd
end
end
theorem m0 {α:Type} {a:α} {l:List α}:a ∈ a :: l:=List.Mem.head _
theorem m1 {α:Type} {a b:α} {l:List α}:a ∈ b :: a :: l:=List.Mem.tail _ (List.Mem.head _)
theorem r1 {P:Program} {σ:St} {t:Nat} {R:VP} (h:zcg σ.Γ t=some R):zfq P σ [.tmp t] [R]:=.tmp h .nil
/-! ### Joins, loops, what is returned -/
section
variable {c:Ctx} {ops:Array Oper} {Q:Exit->Act->World->Prop} {ι β γ:Type} {r:β} {Γ:zM} {H Hc Hr:List Ent} {l:List Oper} {π:Ord} {σ:St} {B:(ι->Option β)->Option β} {R:ι->Option β} {x y:Code}
theorem MD {mod:zM} (h:zpL Γ mod:=by
 repeat first
 | exact zh4
 | refine zev rfl (λ_ _ h=>h) ?_
 | refine zev rfl (by first | exact zb7 | exact zii | exact zmw | exact zoL | exact λ_ _ _=>trivial | exact ziH (by first | rfl | simp)) ?_):zpL Γ mod:=h
theorem tk0:∃ Hx,zbq H [] Hx:=⟨_,.nil⟩
theorem tkC {e:Ent} {H1:List Ent} (h:zcw e H H1) (k:∃ Hx,zbq H1 Hc Hx):∃ Hx,zbq H (e :: Hc) Hx:=k.elim λ_ k=>⟨_,.cons h k⟩
theorem TK (h:∃ Hx,zbq H Hc Hx:=by
 repeat first
 | exact tk0
 | refine tkC .here ?_
 | refine tkC p1 ?_
 | refine tkC p2 ?_
 | refine tkC p3 ?_
 | refine tkC p4 ?_
 | refine tkC (.there p4) ?_
 | refine tkC (.there (.there p4)) ?_
 | refine tkC (.there (.there (.there p4))) ?_
 | refine tkC (.there (.there (.there (.there p4)))) ?_):∃ Hx,zbq H Hc Hx:=h
theorem oI {b:Bool} {T E:Option β} (h:br b T E=some r) (ht:b=true->T=some r->Rl c ops l σ Q) (hf:b=false->E=some r->Rl c ops l σ Q):Rl c ops l σ Q:=by
 cases b with
 | true=>exact ht rfl h
 | false=>exact hf rfl h
theorem rJ {b:Bool} {T E:Option β} (h:br b T E=some r) (ht:b=true->T=some r->Rd c ops π σ Q) (hf:b=false->E=some r->Rd c ops π σ Q):Rd c ops π σ Q:=by
 cases b with
 | true=>exact ht rfl h
 | false=>exact hf rfl h
def Jo (J:ι->Option β) (r:β) (P:St->Prop) (mod:ι->zM) (ds:List Nat) (Γ:zM) (Hr:List Ent):Prop :=
 ∀ {i},J i=some r->∀ (k:Nat) {Γ':zM} {H':List Ent} (_:Γ'.drop k=Γ:=by exact rfl) (_:zqK (Γ'.take k) ds Γ=true:=by exact rfl) (_:zpL Γ' (mod i):=by exact MD) (_:∃ Hx,zbq H' Hr Hx:=by exact TK),P ⟨Γ',H'⟩
def Jn (J:ι->Option β) (r:β) (P:St->Prop) (mod:ι->γ->zM) (Hm:ι->γ->List Ent) (Γ:zM) (Hr:List Ent):Prop :=
 ∀ {i},J i=some r->∀ (g:γ) (k:Nat) {Γ':zM} {H':List Ent} (_:Γ'.drop k=Γ:=by exact rfl) (_:zqK (Γ'.take k) ((mod i g).map (·.1)) Γ=true:=by exact rfl) (_:zpL Γ' (mod i g):=by exact MD) (_:∃ Hx,zbq H' (Hm i g ++ Hr) Hx:=by exact TK),P ⟨Γ',H'⟩
theorem jO [Rep ι] (n d:Nat) (h:jp B R=some r) (hk:∀ i,R i=some r->Rl c ops (l.drop n) ⟨(d,isv i) :: Γ,H⟩ Q)
    (hx:∀ J:ι->Option β,B J=some r->Jo J r (λσ'=>Rl c ops (l.drop n) σ' Q) (λi=>[(d,isv i)]) [d] Γ H->Rl c ops l ⟨Γ,H⟩ Q):Rl c ops l ⟨Γ,H⟩ Q :=
  zAi (γ:=Unit) (λi _=>[(d,isv i)]) (λ_ _=>[]) .nil h n rfl (λi _=>hk i) λJ h hJ=>hx J h (by intro i hi k Γ' H' h1 h2 h3 ⟨Hx,h4⟩;exact hJ i () hi _ (ziu (mod:=[(d,isv i)]) (Hm:=[]) k h1 h2 h3 h4))
theorem jD [Rep ι] (n d:Nat) (h:jp B R=some r) (hk:∀ i,R i=some r->Rd c ops (π.drop n) ⟨(d,isv i) :: Γ,H⟩ Q)
    (hx:∀ J:ι->Option β,B J=some r->Jo J r (λσ'=>Rd c ops (π.drop n) σ' Q) (λi=>[(d,isv i)]) [d] Γ H->Rd c ops π ⟨Γ,H⟩ Q):Rd c ops π ⟨Γ,H⟩ Q :=
  hx R h (by intro i hi k Γ' H' h1 h2 h3 ⟨Hx,h4⟩;exact λS a w m=>hk i hi S a w (m.weak (ziu (mod:=[(d,isv i)]) (Hm:=[]) k h1 h2 h3 h4)))
theorem jW [Rep ι] (d:Nat) (h:jp B R=some r) (hk:∀ i,R i=some r->Wp c y ⟨(d,isv i) :: Γ,H⟩ Q)
    (hx:∀ J:ι->Option β,B J=some r->Jo J r (λσ'=>Fin c σ' (nxt c y Q)) (λi=>[(d,isv i)]) [d] Γ H->Wp c x ⟨Γ,H⟩ (nxt c y Q)):Wp c x ⟨Γ,H⟩ (nxt c y Q) :=
  hx R h (by intro i hi k Γ' H' h1 h2 h3 ⟨Hx,h4⟩;exact zc7 (zyv (ziu (mod:=[(d,isv i)]) (Hm:=[]) k h1 h2 h3 h4) (hk i hi)))
theorem jw (h:jp B R=some r) (γ:Type) (mod:ι->γ->zM) (Hm:ι->γ->List Ent) (hT:zbq H Hc Hr) (hk:∀ i g,R i=some r->Wp c y ⟨mod i g ++ Γ,Hm i g ++ Hr⟩ Q)
    (hx:∀ J:ι->Option β,B J=some r->Jn J r (λσ'=>Fin c σ' (nxt c y Q)) mod Hm Γ Hr->Wp c x ⟨Γ,H⟩ (nxt c y Q)):Wp c x ⟨Γ,H⟩ (nxt c y Q) :=
  zAp mod Hm hT h hk λJ h hJ=>hx J h (by intro i hi g k Γ' H' h1 h2 h3 ⟨Hx,h4⟩;exact hJ i g hi _ (ziu k h1 h2 h3 h4))
theorem lP {F:(ι->Option β)->ι->Option β} {i0:ι} (h:lp F i0=some r) (γ:Type) (g0:γ) (mod:ι->γ->zM) (Hm:ι->γ->List Ent) (hm:zpL Γ (mod i0 g0)) (hT:zbq H (Hm i0 g0) Hr)
    (hx:∀ (L:ι->Option β) (i:ι) (g:γ) (Q':Exit->Act->World->Prop),F L i=some r->Jn L r (λσ'=>Fin c σ' Q') mod Hm Γ Hr->(∀ id σ',Exi c id σ' Q->Exi c id σ' Q')->(∀ σ',Ret c σ' Q->Ret c σ' Q')->Wp c x ⟨mod i g ++ Γ,Hm i g ++ Hr⟩ Q'):Wp c (.loop x) ⟨Γ,H⟩ Q :=
  zy0 mod Hm h g0 hm hT λL i g Q' h hL hE hR=>hx L i g Q' h (by intro i hi g k Γ' H' h1 h2 h3 ⟨Hx,h4⟩;exact hL i g hi _ (ziu k h1 h2 h3 h4)) hE hR
theorem lO [Rep ι] {F:(ι->Option β)->ι->Option β} {i0:ι} (d:Nat) (h:lp F i0=some r) (hm:zcg Γ d=some (isv i0))
    (hx:∀ (L:ι->Option β) (i:ι) (Q':Exit->Act->World->Prop),F L i=some r->Jo L r (λσ'=>Fin c σ' Q') (λi=>[(d,isv i)]) [d] Γ H->(∀ id σ',Exi c id σ' Q->Exi c id σ' Q')->(∀ σ',Ret c σ' Q->Ret c σ' Q')->Wp c x ⟨(d,isv i) :: Γ,H⟩ Q'):Wp c (.loop x) ⟨Γ,H⟩ Q :=
  zy0 (γ:=Unit) (λi _=>[(d,isv i)]) (λ_ _=>[]) h () (zev hm (λ_ _ h=>h) zh4) .nil λL i _ Q' h hL hE hR=>hx L i Q' h (by intro i hi k Γ' H' h1 h2 h3 ⟨Hx,h4⟩;exact hL i () hi _ (ziu (mod:=[(d,isv i)]) (Hm:=[]) k h1 h2 h3 h4)) hE hR
theorem iS {s:β} (h:some s=some r):s=r:=Option.some.inj h
end
end Go.Sy
namespace Go.Sy
structure Er where
 bad:Bool
instance:Rep Er where
 n:=1
 agg:=false
 rd:=λ_ cs x=>match x.bad with
  | false=>cs=[.nilIface]
  | true=>∃ t v,cs=[.iface t v]
 len:=λ{_ _ x} h=>by
  obtain ⟨b⟩:=x
  cases b with
  | false=>rw [show _=[Value.nilIface] from h];rfl
  | true=>obtain ⟨t,v,h⟩:=h;rw [h];rfl
 mono:=λ{_ _ _ x} _ h=>h
 cell:=λ{_ _ x} h u hu=>by
  obtain ⟨b⟩:=x
  cases b with
  | false=>rw [show _=[Value.nilIface] from h] at hu;simp at hu;subst hu;rfl
  | true=>obtain ⟨t,v,h⟩:=h;rw [h] at hu;simp at hu;subst hu;rfl
 one:=λ_=>rfl
section ops
variable {c:Ctx} {ty:TypeId} {pos:String} {af:Array Edge} {g:Option (Nat × Bool)} {σ:St} {d:Option Nat}
theorem zzi {S:Frz} {v:Value} {x:Er} (h:(isv x).p S v):(x.bad=false/\v=.nilIface) \/ (x.bad=true/\∃ t u,v=.iface t u):=by
 have h2:=(zeV h rfl).2
 obtain ⟨b⟩:=x
 cases b with
 | false =>
  have h3:[v]=[Value.nilIface]:=h2
  exact .inl ⟨rfl,by simpa using h3⟩
 | true =>
  obtain ⟨t,u,h3⟩:∃ t u,[v]=[Value.iface t u]:=h2
  exact .inr ⟨rfl,t,u,by simpa using h3⟩
theorem zzv {x:Operand} {y:Er} {T U:TypeId} (ht:c.P.underlying T=some (.interface (c.P.methodsAt T))) (hx:zB σ.Γ x=some (isv y)):OpV c ⟨d,.binOp .neq T x (.const .nilIface) U,ty,pos,af,g⟩ σ (isv y.bad):=λS a w m=>by
 rcases zzi (zb m hx) with ⟨h1,h2⟩ | ⟨h1,t,u,h2⟩
 ·refine ⟨.bool false,zbO.2 (by rw [h1]),λw' _=>?_⟩
  have e:=run_equal_nil_nil (P:=c.P) w' T ht
  have hc:a.eval (.const .nilIface)=.nilIface:=rfl
  simp [execOp,binOp,eqGuard,h2,hc,e]
 ·refine ⟨.bool true,zbO.2 (by rw [h1]),λw' _=>?_⟩
  have e:=run_equal_held_nil (P:=c.P) w' T t u ht
  have hc:a.eval (.const .nilIface)=.nilIface:=rfl
  simp [execOp,binOp,eqGuard,h2,hc,e]
end ops
section val
variable (a n r:Int) (b:List UInt8) (l:List Val) (m:List Raw)
@[simp] theorem Val.kind_mk:(Val.mk a n b l r m).kind=a:=rfl
@[simp] theorem Val.n_mk:(Val.mk a n b l r m).n=n:=rfl
@[simp] theorem Val.b_mk:(Val.mk a n b l r m).b=b:=rfl
@[simp] theorem Val.l_mk:(Val.mk a n b l r m).l=l:=rfl
@[simp] theorem Val.rule_mk:(Val.mk a n b l r m).rule=r:=rfl
@[simp] theorem Val.more_mk:(Val.mk a n b l r m).more=m:=rfl
end val
section cut
variable {c:Ctx} {ty:TypeId} {pos:String} {af:Array Edge} {g:Option (Nat × Bool)} {σ:St} {d:Option Nat}
theorem zyj {S:Frz}:(isv (Er.mk false)).p S .nilIface:=ze8 rfl rfl
theorem zut:OpV c ⟨d,.assign (.const .nilIface),ty,pos,af,g⟩ σ (isv (Er.mk false)):=λS a w m =>
 ⟨.nilIface,zyj,λw' _=>by simp [execOp];rfl⟩
theorem zwu {α:Type} [Rep α] {x:α} {cs:List Value} (ha:Rep.agg α=true) (hz:Zr cs x) (S:Frz) (v:Value) (h:(aggv cs.toArray).p S v):(isv x).p S v:=by
 obtain rfl:=h
 exact ziC ha (by simpa using hz S)
theorem ztU {α β:Type} [Rep α] [Rep β] {b:Nat} {L:Fld α β} {y:α} {x:Operand} {T:TypeId} {o:Obj} (ht:TyB c.P T (Rep.n zfY) (Rep.agg zfY)=true) (hx:zB σ.Γ x=some (zbn (zfY.mk b))) {i:Nat} (hi:zcg σ.Γ i=some (zdI o b L y)) :
    OpV c ⟨d,.load T x,ty,pos,af,g⟩ σ (zdI o b (Fld.id α) y):=λS a w m=>by
  obtain ⟨v,h1,h2⟩:=zrm (α:=α) (d:=d) (ty:=ty) (pos:=pos) (af:=af) (g:=g) ht hx S a w m
  obtain ⟨u,_,_,h3⟩:=m.env _ _ hi
  exact ⟨v,⟨h1,h3⟩,h2⟩
theorem zt8 (a:Addr):a.add 0=a:=by unfold Addr.add;simp
theorem zza {α:Type} [Rep α] {x o:Operand} {t:Vt} {n:Nat} {l:List α} {k:Int} {T:Nat} {Hr:List Ent} (hx:zB σ.Γ x=some (zbw t n)) (hT:SlB c.P T (Rep.n α) (Rep.agg α)=true) (hp:zcw (zI t l) σ.H Hr) (he:n=l.length)
    (ho:zB σ.Γ o=some (isv k)) (hk:0 <= k) (hq:k <= (l.length:Int)):OpV c ⟨d,.slice T x none (some o) none,ty,pos,af,g⟩ σ (zbw t (l.take k.toNat).length):=λS a w m=>by
  obtain ⟨hn,h1⟩:=zb m hx
  obtain ⟨h5,_⟩:=zah.1 (zb m ho)
  obtain ⟨e,hu,hte⟩:=SlB.spec hT
  have hlen:(l.take k.toNat).length=k.toNat:=by rw [zLt];omega
  have hs:=m.owns.sat _ ((hp.perm).mem_iff.2 (zMs ..))
  rw [hlen]
  cases t with
  | none =>
    obtain ⟨h1,h2⟩:=h1
    have hk0:k=0:=by omega
    subst hk0
    refine ⟨.slice none 0 0,⟨by simp,rfl,rfl⟩,λw' _=>?_⟩
    have e2:(Instr.sliceBound (a.eval o) 0 .sliceAcap).run c.P w'=.ok 0 w':=by rw [h5];exact zd1 (by omega) (by omega)
    simp [execOp,h1,Instr.sliceAt,Instr.slice,Instr.sliceBounds,underlying,hu,TyB.size hte,e2]
  | some t =>
    obtain ⟨b,cap⟩:=t
    obtain ⟨ob,_,_,cs,T',_,_,hc,_⟩:=hs
    have hc:l.length <= cap:=hc
    simp only at h1
    refine ⟨.slice (some ⟨b,0,none⟩) k.toNat cap,⟨by omega,rfl⟩,λw' _=>?_⟩
    have e2:(Instr.sliceBound (a.eval o) cap .sliceAcap).run c.P w'=.ok k.toNat w':=by rw [h5];exact zd1 (by omega) (by omega)
    simp [execOp,h1,Instr.sliceAt,Instr.slice,Instr.sliceBounds,underlying,hu,TyB.size hte,e2,zt8]
theorem zvb {α:Type} [Rep α] {Γ:zM} {H Hr:List Ent} {t:Vt} {l:List α} (k:Nat) (hp:zcw (zI t l) H Hr):Upd c ⟨Γ,H⟩ ⟨Γ,zI t (l.take k) :: Hr⟩:=(zgE hp).trans λS a w m =>
 ⟨S, S.le_refl,m.ent rfl λhs=>by
  unfold Ent.sat zI at *
  cases t with
  | none=>trivial
  | some t =>
   obtain ⟨b,cap⟩:=t
   obtain ⟨o,h1,h2,cs,T,h3,h4,h5,h6⟩:=hs
   refine ⟨o,h1,h2,cs,T,h3,h4,by rw [zLt];omega,?_⟩
   have:=ziy (r:=Rep.rd S) (λ_ _ h=>Rep.len h) k h6
   rw [List.take_take] at this
   rw [zLt]
   rcases Nat.le_total k l.length with hk | hk
   ·rw [Nat.min_eq_left hk]
    rwa [Nat.min_eq_left (Nat.mul_le_mul_right _ hk)] at this
   ·rw [Nat.min_eq_right hk]
    rwa [Nat.min_eq_right (Nat.mul_le_mul_right _ hk)] at this⟩
theorem zsI {Γ:zM} {H:List Ent} {α:Type} [Rep α] {T:TypeId} {len:Nat} {parts:Array (Nat × Operand)} {l:List α} {dd:Nat} {K:St->Prop} (hT:elB c.P T (Rep.n α)=true) (he:zm7 Γ 0 parts.toList l) (hl:l.length=len) (hmax:(Nat.ble (len * Rep.n α) 16777216 && Nat.ble len 16777216)=true)
    (k:∀ t,K ⟨(dd,zbw t l.length) :: Γ,zI t l :: H⟩) (hd:Nat.blt dd c.n=true:=by rfl):OpT c ⟨some dd,.buildSlice T len parts,ty,pos,af,g⟩ ⟨Γ,H⟩ K:=by
  intro S a w next Q m hn
  obtain ⟨e,i,z,hu,hi,hsz,hby,hz,hzn⟩:=(ElB.of hT).sl
  rw [zBa] at hmax
  have hmax':=Nat.le_of_ble_eq_true hmax.1
  have hmax2:=Nat.le_of_ble_eq_true hmax.2
  subst hl
  obtain ⟨out,cs,h1,h2,h3,h4⟩:=he.fill m (cells:=(Array.range (l.length * Rep.n α)).map (z.cells[· % z.cells.size]!)) (pre:=[]) (by simp) (by simp)
  rw [List.nil_append] at h2
  have hrun:(execOp a.eval ⟨some dd,.buildSlice T l.length parts,ty,pos,af,g⟩).run c.P w=.ok (.value (.slice (some ⟨w.heap.size,0,none⟩) l.length l.length)) { w with heap:=w.heap.push (.cells out e (0,0)) }:=by
    have e1:(parts.map λx=>match x with | (i,x)=>(i,a.eval x)).toList=parts.toList.map λp=>(p.1,a.eval p.2):=by cases parts;simp
    have hnb:¬ 2 ^ 24 < l.length * Rep.n α:=by omega
    by_cases h0:l.length * Rep.n α=0
    · have hz0:(Array.range 0).map (z.cells[· % z.cells.size]!)=#[]:=by simp
      rw [h0,hz0] at h1
      simp only [execOp,Instr.buildSlice,underlying,run_program,Sem.run_bind,hu,Sem.run_pure,Result.andThen_ok,sizeOf,typeInfo,hi,hsz,h0,e1]
      rw [if_neg (by omega)]
      have hz2:(Array.map (λ_=>(default:Value)) (Array.range 0))=#[]:=by simp
      simp [hz2,h1,newRow,newObj,Sem.run]
    · simp only [execOp,Instr.buildSlice,underlying,run_program,Sem.run_bind,hu,Sem.run_pure,Result.andThen_ok,sizeOf,typeInfo,hi,hsz,Sem.run_ite,gt_iff_lt,hnb,if_false,h0,e1]
      simp [zeroValue,typeInfo,hi,hz,h1,newRow,newObj,Sem.run]
  unfold Oper.wp
  rw [hrun]
  have hst:=zig (w:=w) m.sub (.cells out e (0,0))
  have m1:=m.step (Hc:=[]) (H':=[zI (some (w.heap.size,l.length)) l]) .nil hst
    (zfh ⟨.cells out e (0,0),by simp,zgI m.sub,out,e,rfl,by rw [<- Array.length_toList,h2,h3],zNl _,by
      rw [h2,<- h3,List.take_length];exact h4⟩ λb hb=>by
        have hb:some w.heap.size=some b:=hb
        cases hb;exact .inr (zNl _))
  refine hn _ _ _ _ hst.grow.le (k (some (w.heap.size,l.length))) (m1.put hd ⟨?_,rfl⟩)
  have hml:zfr=281474976710656:=rfl
  omega
def zrs (P:Program) (T U:TypeId):Bool :=
  (match P.underlying T with
   | some (.slice e)=>(match P.info? e with
     | some i=>i.size == 1 && Nat.ble i.bytes 1024 && i.bytes != 0 && i.zero.any (·.cells.size == 1)
     | none=>false)
   | _=>false) && (match P.underlying U with | some .string=>true | _=>false)
theorem AppSB.of {P:Program} {T U:TypeId} (h:zrs P T U=true):(∃ e i z,P.underlying T=some (.slice e)/\P.info? e=some i/\i.size=Rep.n UInt8/\i.bytes <= 1024/\i.bytes ≠ 0/\i.zero=some z/\z.cells.size=Rep.n UInt8)/\P.underlying U=some .string:=by
 unfold zrs at h
 simp only [zBa] at h
 obtain ⟨h1,h2⟩:=h
 constructor
 ·split at h1
  ·rename_i e hu
   split at h1
   ·rename_i i hi
    simp only [zBa,beq_iff_eq,bne_iff_ne] at h1
    obtain ⟨z,hz,hz'⟩:=(Option.any_eq_true _ _).1 h1.2
    exact ⟨e,i,z,hu,hi,h1.1.1.1,Nat.le_of_ble_eq_true h1.1.1.2,h1.1.2,hz,(by simpa using hz':z.cells.size=1)⟩
   ·cases h1
  ·cases h1
 ·split at h2
  ·rename_i hu;exact hu
  ·cases h2
theorem zsg {P:Program} (s:Str) (w:World):(Builtin.firstCells (Rep.n UInt8) s.b.length (.string s.ba)).run P w=.ok (s.b.map λx=>Value.int .u8 (x.toNat:Int)).toArray w:=by
 have h:(s.ba.extract 0 s.b.length)=s.ba:=by
  have:=zj7 s 0 s.b.length
  rw [List.take_length,List.drop_zero] at this
  exact this
 simp [Builtin.firstCells,h,Str.ba]
theorem zmE {P:Program} {T U e:TypeId} {i:TypeInfo} {z:Value} {p:Option Addr} {s:ByteArray} {ln mn cap n:Nat} {ty:TypeId} {cl cm:Array Value} {w:World}
    (hu:P.underlying T=some (.slice e)) (hu':P.underlying U=some .string) (hsn:s.size=mn) (hi:P.info? e=some i) (hsz:i.size=n) (hz:i.zero=some z) (hby0:i.bytes ≠ 0)
    (hneed:¬ ln + mn <= cap) (hbig:¬ 2 ^ 48 < Builtin.nextslicecap (ln + mn) cap * i.bytes)
    (h1:(Builtin.firstCells n ln (.slice p ln cap)).run P { w with drawn:=w.drawn + 1 }=.ok cl { w with drawn:=w.drawn + 1 })
    (h2:(Builtin.firstCells n mn (.string s)).run P { w with drawn:=w.drawn + 1 }=.ok cm { w with drawn:=w.drawn + 1 }) :
    (Builtin.append_ #[T,U] ty #[.slice p ln cap,.string s]).run P w =
      .ok (.slice (some ⟨w.heap.size,0,none⟩) (ln + mn) ((Question.appendCap (ln + mn) cap e).cut (w.tape w.drawn (.appendCap (ln + mn) cap e))))
        { w with drawn:=w.drawn + 1,heap:=w.heap.push (.cells (cl ++ cm ++ Builtin.zeroCells z.cells ((Question.appendCap (ln + mn) cap e).cut (w.tape w.drawn (.appendCap (ln + mn) cap e)) - (ln + mn))) e (0,0)) }:=by
  have hroom:∀ (k:Nat) (w:World),(askRoom k).run P w=.ok () w:=λk w=>by unfold askRoom;split <;> rfl
  have hch:(choose (.appendCap (ln + mn) cap e)).run P w=.ok ((Question.appendCap (ln + mn) cap e).cut (w.tape w.drawn (.appendCap (ln + mn) cap e))) { w with drawn:=w.drawn + 1 }:=by
    simp [choose,Sem.run,Question.forced]
  generalize (Question.appendCap (ln + mn) cap e).cut (w.tape w.drawn (.appendCap (ln + mn) cap e))=nc at *
  have hu1:∀ w:World,(underlying T).run P w=.ok (.slice e) w:=λw=>by simp [underlying,hu]
  have hu2:∀ w:World,(underlying U).run P w=.ok .string w:=λw=>by simp [underlying,hu']
  have hs1:∀ w:World,(sizeOf e).run P w=.ok n w:=λw=>by simp [sizeOf,typeInfo,hi,hsz]
  have ht1:∀ w:World,(typeInfo e).run P w=.ok i w:=λw=>by simp [typeInfo,hi]
  have hz1:∀ w:World,(zeroValue e).run P w=.ok z w:=λw=>by simp [zeroValue,typeInfo,hi,hz]
  have hl:∀ w:World,(Builtin.lenOf (.string s)).run P w=.ok mn w:=λw=>by subst hsn;rfl
  have hnr:∀ (cs:Array Value) (w:World),(newRow e cs).run P w=.ok ⟨w.heap.size,0,none⟩ { w with heap:=w.heap.push (.cells cs e (0,0)) }:=λcs w=>by simp [newRow,newObj,Sem.run]
  unfold Builtin.append_
  simp only [List.getElem?_toArray,List.getElem?_cons_zero,List.getElem?_cons_succ,Sem.run_bind,hu1,hu2,hs1,Result.andThen_ok,Sem.run_pure,hl,Bool.false_eq_true,if_false,Sem.run_ite,hneed,ht1,gt_iff_lt,hbig,hch,hroom,h1,h2,hz1,hnr,Bool.not_false,if_true]
  rw [if_neg (λh=>by rcases h.2 with h | h;exact h;exact hby0 h)]
theorem zwK {Γ:zM} {H:List Ent} {x y:Operand} {t:Vt} {n:Nat} {l:List UInt8} {s:Str} {T U:TypeId} {dd:Nat} {K:St->Prop} {Hr:List Ent} (hT:zrs c.P T U=true)
    (hx:zB Γ x=some (zbw t n)) (hy:zB Γ y=some (isv s)) (hp:zcw (zI t l) H Hr) (hnl:n <= l.length)
    (hb:Nat.ble (n + s.b.length) 68719476736=true)
    (k:∀ t',K ⟨(dd,zbw t' (l.take n ++ s.b).length) :: Γ,zI t' (l.take n ++ s.b) :: Hr⟩) (hd:Nat.blt dd c.n=true:=by rfl) :
    OpT c ⟨some dd,.call ⟨.builtin .append,#[x,y],#[T,U]⟩,ty,pos,af,g⟩ ⟨Γ,H⟩ K:=by
  intro S a w next Q mm hn
  replace hb:=Nat.le_of_ble_eq_true hb
  have hll:(l.take n ++ s.b).length=n + s.b.length:=by rw [zLa,zLt];omega
  obtain ⟨⟨e,i,z,hu,hi,hsz,hby,hby0,hz,hzn⟩,hu'⟩:=AppSB.of hT
  obtain ⟨hnm,htk⟩:=zb mm hx
  have ev':a.eval y=.string s.ba:=(zdv.1 (zb mm hy)).1
  obtain ⟨cm,hcme⟩:∃ cm,cm=s.b.map λx=>Value.int .u8 (x.toNat:Int):=⟨_,rfl⟩
  have hcm1:cm.length=s.b.length * Rep.n UInt8:=by rw [hcme,List.length_map];exact (Nat.mul_one _).symm
  have hcm2:rdL (Rep.rd S) s.b cm:=by rw [hcme];exact zn0 _
  have hcm4:∀ w',(Builtin.firstCells (Rep.n UInt8) s.b.length (a.eval y)).run c.P w'=.ok cm.toArray w':=λw'=>by rw [ev',hcme];exact zsg s w'
  have hcmo:∀ v ∈ cm,v.oneCell'=true:=zjK (λ_ _ h=>Rep.cell h) hcm2
  have hml:zfr=281474976710656:=rfl
  have hs:(zI t l).sat S w:=mm.owns.get hp
  have hrun:∀ w',(execOp a.eval ⟨some dd,.call ⟨.builtin .append,#[x,y],#[T,U]⟩,ty,pos,af,g⟩).run c.P w' =
      ((Builtin.append_ #[T,U] ty #[a.eval x,a.eval y]).run c.P w').andThen λv w'=>.ok (.value v) w':=by
    intro w'
    simp [execOp,resolve,invoke,builtin]
  unfold Oper.wp
  rw [hrun]
  -- a new block
  have grown:∀ (p:Option Addr) (cap:Nat) (cl:List Value),a.eval x=.slice p n cap->¬ n + s.b.length <= cap->cl.length=n * Rep.n UInt8->rdL (Rep.rd S) (l.take n) cl->(∀ v ∈ cl,v.oneCell'=true) ->
      ((Builtin.firstCells (Rep.n UInt8) n (.slice p n cap)).run c.P { w with drawn:=w.drawn + 1 }=.ok cl.toArray { w with drawn:=w.drawn + 1 }) ->
      (∃ v w',(Builtin.append_ #[T,U] ty #[a.eval x,a.eval y]).run c.P w=.ok v w'/\next (a.put (some dd) v) w'):=by
    intro p cap cl ev hneed hcl1 hcl2 _ hf1
    have hgrow:=zhT (need:=n + s.b.length) (cap:=cap) (by omega)
    have hbig:¬ 281474976710656 < Builtin.nextslicecap (n + s.b.length) cap * i.bytes:=by
      have h1:Builtin.nextslicecap (n + s.b.length) cap * i.bytes <= (2 * (n + s.b.length) + 1024) * 1024:=Nat.mul_le_mul hgrow hby
      omega
    let q0:Question:=.appendCap (n + s.b.length) cap e
    let nc:=q0.cut (w.tape w.drawn q0)
    have hnc:n + s.b.length <= nc:=Nat.le_add_right _ _
    let w1:World:={ w with drawn:=w.drawn + 1 }
    have hs1:S.sub w1:=mm.sub
    have hrun2:(Builtin.append_ #[T,U] ty #[a.eval x,a.eval y]).run c.P w=.ok (.slice (some ⟨w.heap.size,0,none⟩) (n + s.b.length) nc) { w1 with heap:=w.heap.push (.cells (cl.toArray ++ cm.toArray ++ Builtin.zeroCells z.cells (nc - (n + s.b.length))) e (0,0)) }:=by
      have hf2:=hcm4 w1
      rw [ev'] at hf2
      rw [ev,ev']
      exact zmE hu hu' (Str.ba_size s) hi hsz hz hby0 hneed (by simpa using hbig) hf1 hf2
    have hzs:(Builtin.zeroCells z.cells (nc - (n + s.b.length))).size=(nc - (n + s.b.length)) * z.cells.size:=by simp [Builtin.zeroCells]
    have hsp:=zig (w:=w1) hs1 (.cells (cl.toArray ++ cm.toArray ++ Builtin.zeroCells z.cells (nc - (n + s.b.length))) e (0,0))
    have hstep':zkC (zbP [zI t l]) S S w { w1 with heap:=w.heap.push (.cells (cl.toArray ++ cm.toArray ++ Builtin.zeroCells z.cells (nc - (n + s.b.length))) e (0,0)) } :=
      ⟨⟨rfl,rfl,rfl,hsp.keep.size,λk hk _=>hsp.keep.block k hk (by simp)⟩,Grow.refl _ _ _,hsp.sub⟩
    have hlc:(cl ++ cm).length=(n + s.b.length) * Rep.n UInt8:=by rw [zLa,hcl1,hcm1,Nat.add_mul]
    have m1:=mm.step (H':=[zI (some (w.heap.size,nc)) (l.take n ++ s.b)]) (zbq.cons hp .nil) hstep'
      (zfh ⟨.cells (cl.toArray ++ cm.toArray ++ Builtin.zeroCells z.cells (nc - (n + s.b.length))) e (0,0),by simp,zgI mm.sub,_,e,rfl,by
        rw [Array.size_append,Array.size_append,List.size_toArray,List.size_toArray,hzs,hzn,<- zLa,hlc,<- Nat.add_mul]
        congr 1;omega,by rw [hll];exact hnc,by
        rw [hll,<- hlc]
        simp only [Array.toList_append,List.toList_toArray]
        rw [List.take_left' rfl]
        exact zgp hcl2 hcm2⟩ λb' hb'=>by simp [zI] at hb';subst hb';exact .inr (zNl _))
    exact ⟨_,_,hrun2,hn _ _ _ _ (Frz.le_refl _) (k (some (w.heap.size,nc))) (m1.put hd ⟨by rw [hll];omega,by rw [hll]⟩)⟩
  have fin : (∃ v w',(Builtin.append_ #[T,U] ty #[a.eval x,a.eval y]).run c.P w=.ok v w'/\next (a.put (some dd) v) w'):=by
    cases t with
    | none =>
      obtain ⟨ev,rfl⟩:=htk
      by_cases hneed:0 + s.b.length <= 0
      · have hm0:s.b=[]:=by cases hsb:s.b with | nil=>rfl | cons _ _=>rw [hsb] at hneed;exact absurd hneed (by simp)
        refine ⟨.slice none 0 0,w,?_,?_⟩
        · have hf:=hcm4 w
          have hcm0:cm=[]:=List.length_eq_zero_iff.1 (by rw [hcm1,hm0];simp)
          rw [hcm0,ev',hm0] at hf
          simp only [zLn] at hf
          simp [Builtin.append_,underlying,hu,hu',ev,ev',sizeOf,typeInfo,hi,hsz,Builtin.lenOf,Str.ba_size,hm0,hf]
        · have m1:=mm.step (H':=[zI none (l.take 0 ++ ([]:List UInt8))]) (zbq.cons hp .nil) (S':=S) (w':=w) ⟨zjn.refl _ _,Grow.refl _ _ _,mm.sub⟩
            ⟨λx hx=>by simp at hx;subst hx;trivial,by simp [zbP,zI],λb hb=>by simp [zbP,zI] at hb⟩
          have k':=k none
          rw [hm0] at k'
          exact hn _ _ _ _ (Frz.le_refl _) k' (m1.put hd ⟨by simp,rfl,by simp⟩)
      · refine grown none 0 [] ev hneed (by simp) (by simp [rdL]) (by simp) (by simp [Builtin.firstCells])
    | some t =>
      obtain ⟨b,cap⟩:=t
      simp only at htk
      obtain ⟨o,ho,hnone,cs,T0,e1,hcsz,hlc,hr⟩:=hs
      subst e1
      have hle:n * Rep.n UInt8 <= l.length * Rep.n UInt8:=Nat.mul_le_mul_right _ hnl
      have hle2:l.length * Rep.n UInt8 <= cap * Rep.n UInt8:=Nat.mul_le_mul_right _ hlc
      have htk2:(cs.toList.take (l.length * Rep.n UInt8)).take (n * Rep.n UInt8)=cs.toList.take (n * Rep.n UInt8):=by rw [List.take_take,Nat.min_eq_left hle]
      have hrn:rdL (Rep.rd S) (l.take n) (cs.toList.take (n * Rep.n UInt8)):=by rw [<- htk2];exact ziy (λ_ _ h=>Rep.len h) n hr
      have hcln:(cs.toList.take (n * Rep.n UInt8)).length=n * Rep.n UInt8:=by
        have:cs.toList.length=cs.size:=by simp
        rw [zLt];omega
      by_cases hneed:n + s.b.length <= cap
      · have hfit:n * Rep.n UInt8 + cm.length <= cs.size:=by
          have h2:(n + s.b.length) * Rep.n UInt8 <= cap * Rep.n UInt8:=Nat.mul_le_mul_right _ hneed
          rw [Nat.add_mul] at h2
          rw [hcm1];omega
        have hst:=run_storeCells_at (P:=c.P) b (n * Rep.n UInt8) T0 cm 0 cs w ho (by omega) hcmo
        have hadd:(⟨b,0,none⟩:Addr).add (n * Rep.n UInt8)=⟨b,n * Rep.n UInt8,none⟩:=by rw [zc6,Nat.zero_add]
        have hrun2:(Builtin.append_ #[T,U] ty #[a.eval x,a.eval y]).run c.P w=.ok (.slice (some ⟨b,0,none⟩) (n + s.b.length) cap) (w.setRow b (cs.toList.take (n * Rep.n UInt8 + 0) ++ cm ++ cs.toList.drop (n * Rep.n UInt8 + 0 + cm.length)).toArray):=by
          have hf:=hcm4 w
          rw [ev'] at hf
          simp [Builtin.append_,underlying,hu,hu',htk,ev',sizeOf,typeInfo,hi,hsz,Builtin.lenOf,Str.ba_size,hf,hneed,hadd,hst]
        obtain ⟨hstep,hh⟩:=ziW (cs:=(cs.toList.take (n * Rep.n UInt8 + 0) ++ cm ++ cs.toList.drop (n * Rep.n UInt8 + 0 + cm.length)).toArray) mm.sub hnone ho
        have m1:=mm.step (Hc:=[zI (some (b,cap)) l]) (H':=[zI (some (b,cap)) (l.take n ++ s.b)]) (zbq.cons hp .nil) hstep
          (zfh ⟨_,hh,hnone,_,_,rfl,by
            have hcl:cs.toList.length=cs.size:=by simp
            simp only [List.size_toArray,zLa,zLt,zLd,hcl]
            omega,by rw [hll];exact hneed,by
            rw [hll,Nat.add_mul,<- hcm1,Nat.add_zero]
            simp only
            have:(cs.toList.take (n * Rep.n UInt8) ++ cm ++ cs.toList.drop (n * Rep.n UInt8 + cm.length)).take (n * Rep.n UInt8 + cm.length)=cs.toList.take (n * Rep.n UInt8) ++ cm:=List.take_left' (by rw [zLa,hcln])
            rw [this]
            exact zgp hrn hcm2⟩ λb' hb=>by simp [zI] at hb;subst hb;exact .inl (by simp [zbP,zI]))
        exact ⟨_,_,hrun2,hn _ _ _ _ (Frz.le_refl _) (k (some (b,cap))) (m1.put hd ⟨by rw [hll];omega,by rw [hll]⟩)⟩
      · refine grown (some ⟨b,0,none⟩) cap (cs.toList.take (n * Rep.n UInt8)) htk hneed hcln hrn (λv hv=>zjK (λ_ _ h=>Rep.cell h) hrn v hv) ?_
        have:=run_loadCells_list (P:=c.P) { w with drawn:=w.drawn + 1 } ⟨b,0,none⟩ (cs.toList.take (n * Rep.n UInt8)) (λj u hj=>by
          rw [zc6]
          unfold World.cell?
          show (match w.heap[b]? with | _=>_)=_
          rw [ho]
          simp only
          rw [List.getElem?_take] at hj
          split at hj
          · simpa using hj
          · cases hj)
        rw [hcln] at this
        simpa [Builtin.firstCells] using this
  obtain ⟨v,w',h1,h2⟩:=fin
  rw [h1]
  exact h2
theorem zx7 {Γ:zM} {H:List Ent} {x y:Operand} {t:Vt} {n:Nat} {l:List UInt8} {s:Str} {T U:TypeId} {dd:Nat} {K:St->Prop} {Hr:List Ent} (hT:zrs c.P T U=true)
    (hx:zB Γ x=some (zbw t n)) (hy:zB Γ y=some (isv s)) (hp:zcw (zI t l) H Hr) (hnl:n=l.length)
    (hb:Nat.ble (l.length + s.b.length) 68719476736=true)
    (k:∀ t',K ⟨(dd,zbw t' (l ++ s.b).length) :: Γ,zI t' (l ++ s.b) :: Hr⟩) (hd:Nat.blt dd c.n=true:=by rfl) :
    OpT c ⟨some dd,.call ⟨.builtin .append,#[x,y],#[T,U]⟩,ty,pos,af,g⟩ ⟨Γ,H⟩ K:=by
  subst hnl
  exact zwK hT hx hy hp (zNl _) hb (λt'=>by rw [List.take_length];exact k t') hd
theorem zs0 {x i:Operand} {s:Str} {k:UInt8} (y:UInt8) {T:Nat} (hT:zkw c.P T=true) (hx:zB σ.Γ x=some (isv s)) (hi:zB σ.Γ i=some (isv k))
    (hy:zq s.b (k.toNat:Int)=some y):OpV c ⟨d,.index T x i,ty,pos,af,g⟩ σ (isv y):=λS a w m=>by
  obtain ⟨h1,h2⟩:=zdv.1 (zb m hx)
  have h5:=zbS.1 (zb m hi)
  obtain ⟨hk,hy⟩:=zow hy
  refine ⟨.int .u8 y.toNat,zbS.2 rfl,λw' _=>?_⟩
  have h3:s.ba[k.toNat]?=some y:=by
    rw [Int.toNat_natCast] at hy
    have hlt:=(List.getElem?_eq_some_iff.1 hy).1
    have hlt2:k.toNat < s.ba.size:=by rw [Str.ba_size];exact hlt
    rw [getElem?_pos s.ba k.toNat hlt2]
    have:s.ba[k.toNat]=s.b[k.toNat]:=rfl
    rw [this];exact congrArg some (List.getElem?_eq_some_iff.1 hy).2
  simp [execOp,h1,h5,Instr.index,asIntOf,underlying,zkw.spec hT,h3]
end cut
end Go.Sy
namespace Go.Sy
open Go
inductive JA (ι:Type) where
 | v (mod:ι->zM) (Hm:ι->List Ent)
 | t (A:Tok->JA ι)
 | w (A:Vt->JA ι)
 | b (A:Nat->JA ι)
def JA.all {ι:Type} (Q:(ι->zM)->(ι->List Ent)->Prop):JA ι->Prop
 | .v mod Hm=>Q mod Hm
 | .t A=>∀ x,(A x).all Q
 | .w A=>∀ x,(A x).all Q
 | .b A=>∀ x,(A x).all Q
def JA.lf {ι:Type} (mod:ι->zM) (Hm:ι->List Ent):JA ι->Prop
 | .v mod' Hm'=>mod=mod'/\Hm=Hm'
 | .t A=>∃ x,(A x).lf mod Hm
 | .w A=>∃ x,(A x).lf mod Hm
 | .b A=>∃ x,(A x).lf mod Hm
theorem JA.all_lf {ι:Type} {Q:(ι->zM)->(ι->List Ent)->Prop}:∀ {A:JA ι},A.all Q ↔ ∀ mod Hm,A.lf mod Hm->Q mod Hm
 | .v mod Hm=>⟨λh _ _ ⟨e1,e2⟩=>e1 ▸ e2 ▸ h,λh=>h _ _ ⟨rfl,rfl⟩⟩
 | .t A=>⟨λh _ _ ⟨x,e⟩=>JA.all_lf.1 (h x) _ _ e,λh x=>JA.all_lf.2 λ_ _ e=>h _ _ ⟨x,e⟩⟩
 | .w A=>⟨λh _ _ ⟨x,e⟩=>JA.all_lf.1 (h x) _ _ e,λh x=>JA.all_lf.2 λ_ _ e=>h _ _ ⟨x,e⟩⟩
 | .b A=>⟨λh _ _ ⟨x,e⟩=>JA.all_lf.1 (h x) _ _ e,λh x=>JA.all_lf.2 λ_ _ e=>h _ _ ⟨x,e⟩⟩
inductive Ax:Type 1 where
 | b (k:Nat) (A:Nat->Ax)
 | t (k:Nat) (A:Tok->Ax)
 | w (k:Nat) (A:Vt->Ax)
 | m {ι:Type} (ks:List Bool) (A:JA ι)
inductive Fu:Type 1 where
 | a
 | b (x y:Fu)
 | o (n d:Nat) (x y:Fu)
 | w (ds:List Nat) (x y:Fu)
 | v (ds:List Nat) (x y:Fu)
 | l (ds:List Nat) (x:Fu)
 | j (n:Nat) (A:Ax) (x y:Fu)
 | k (A:Ax) (x:Fu)
 | q (n:Nat) (x:Fu)
 | d (n:Nat) (x:Fu)
 | p (i:Nat) (x:Fu)
 | e (π:Ord) (x:Fu)
 | u (i:Nat) (x:Fu)
 | f (b:Nat) (i:Nat) (x:Fu)
 | g (i:Nat) (x:Fu)
inductive AP where
 | mk (Rs:List VP) (Hs:List Ent)
 | t (A:Tok->AP)
 | v (A:Vt->AP)
 | b (A:Nat->AP)
def AP.p:AP->VP->List Ent->Prop
 | .mk Rs Hs,R,H=>R=ziQ Rs/\H=Hs
 | .t A,R,H=>∃ x,(A x).p R H
 | .v A,R,H=>∃ x,(A x).p R H
 | .b A,R,H=>∃ x,(A x).p R H
inductive AC (β:Type) where
 | mk (as:List VP) (H:List Ent) (A:β->AP)
 | t (A:Tok->AC β)
 | v (A:Vt->AC β)
 | b (A:Nat->AC β)
def AC.p {β:Type} (P:Program) (f:FuncId) (r:β):AC β->Prop
 | .mk as H A=>Ctr P f as H (A r).p
 | .t A=>∀ x,(A x).p P f r
 | .v A=>∀ x,(A x).p P f r
 | .b A=>∀ x,(A x).p P f r
class zd {β:Type} (P:Program) (f:FuncId) (m:Option β) (A:outParam (AC β)):Prop where
 h:∀ r,m=some r->A.p P f r
inductive Kn (β:Type) where
 | nxt (y:Code) (k:Kn β)
 | blk (id:Nat) (k:Kn β)
 | fv (n:Nat) (Q:Exit->Act->World->Prop)
 | un (i:Nat) (k:Kn β)
 | po (fn:Func) (w0:World) (S0:Frz) (H0:List Ent) (A:β->AP)
def Kn.q {β:Type} (P:Program) (r:β):Kn β->Exit->Act->World->Prop
 | .nxt y k=>Exit.then (λa w=>y.wp P (k.q P r) a w) (k.q P r)
 | .blk id k=>Exit.inBlock id (k.q P r)
 | .fv _ Q=>Q
 | .un _ k=>k.q P r
 | .po fn w0 S0 H0 A=>zl3 P fn w0 S0 H0 (A r).p
def Kn.len {β:Type}:Kn β->Nat
 | .nxt _ k=>k.len + 1
 | .blk _ k=>k.len + 1
 | .fv n _=>n + 1
 | .un _ k=>k.len + 1
 | .po ..=>0
inductive Cx where
 | rl (ops:Array Oper) (l:List Oper)
 | rv (ops:Array Oper) (i:Nat) (π:Ord)
 | rt (ops:Array Oper) (i:Nat) (π:Ord)
inductive Rx where
 | rl (ops:Array Oper) (l:List Oper)
 | rd (ops:Array Oper) (π:Ord)
def Rx.p (c:Ctx) (Q:Exit->Act->World->Prop):Rx->St->Prop
 | .rl ops l,σ=>Rl c ops l σ Q
 | .rd ops π,σ=>Rd c ops π σ Q
def Cx.af:Cx->Rx
 | .rl ops l=>.rl ops l
 | .rv ops _ π=>.rd ops π
 | .rt ops _ π=>.rd ops π
def Cx.ops:Cx->Array Oper
 | .rl ops _=>ops
 | .rv ops _ _=>ops
 | .rt ops _ _=>ops
def Cx.isT:Cx->Bool
 | .rv ..=>false
 | _=>true
def Cx.pend (c:Ctx) (Q:Exit->Act->World->Prop) (o:Oper):Cx->St->Prop
 | .rl ops l,σ=>Rl c ops (o :: l) σ Q
 | .rv ops i π,σ=>ops[i]?=some o->Rd c ops (.v i π) σ Q
 | .rt ops i π,σ=>ops[i]?=some o->Rd c ops (.t i π) σ Q
def Cx.opP (c:Ctx) (Q:Exit->Act->World->Prop) (o:Oper):Cx->St->Prop
 | .rl ops l,σ=>OpT c o σ λσ'=>Rl c ops l σ' Q
 | .rt ops _ π,σ=>OpT c o σ λσ'=>Rd c ops π σ' Q
 | .rv ops _ π,σ=>∃ d R,o.dst=some d/\Nat.blt d c.n=true/\OpV c o σ R/\Rd c ops π ⟨(d,R) :: σ.Γ,σ.H⟩ Q
structure Dx where
 ty:TypeId
 pos:String
 af:Array Edge
 g:Option (Nat × Bool)
 X:Cx
def Dx.o (D:Dx) (p:Op) (d:Nat):Oper:=⟨some d,p,D.ty,D.pos,D.af,D.g⟩
def Dx.n (D:Dx) (p:Op):Oper:=⟨none,p,D.ty,D.pos,D.af,D.g⟩
def Dx.r (D:Dx):Rx:=D.X.af
def Rx.len:Rx->Nat
 | .rl _ l=>l.length
 | .rd _ π=>π.len
def gvl (ops:Array Oper) (o:Oper) (Γ:zM):Option VP:=match o.guard with
 | some (j,_)=>gl ops j Γ
 | none=>none
inductive Tr where
 | y
 | n
 | u
def Tr.p (b:Bool):Tr->Prop
 | .y=>b=true
 | .n=>b=false
 | .u=>True
inductive Ot (β:Type):Type 1 where
 | c (Γ:zM) (H:List Ent) (m:Option β)
 | a {α:Type} (A:α->Ot β)
def Ot.ok {β:Type} (r:β) (Q:zM->List Ent->Prop):Ot β->Prop
 | .c Γ H m=>m=some r->Q Γ H
 | .a A=>∀ y,(A y).ok r Q
inductive Jd (β:Type):Type 1 where
 | wp (x:Code)
 | fin
 | fi
 | fj (b:Bool)
 | exi (id:Nat)
 | ret
 | run (x:Rx)
 | rj (b:Bool) (x:Rx)
 | ru (x:Rx)
 | pe (o:Oper) (x:Cx)
 | gd (V:VP) (o:Oper) (x:Cx)
 | gt (t:Tr) (b:Bool) (o:Oper) (x:Cx)
 | op (p:Op) (d:Nat) (D:Dx)
 | on (p:Op) (D:Dx)
 | kt (o:Ot β) (x:Rx)
 | cf (x:Operand) (ats:Array TypeId) (fn:FuncId) (caps:List VP) (xs:Array Operand) (d:Nat) (D:Dx)
 | cl {α:Type} (A:AC α) (f:FuncId) (caps:List VP) (xs:List Operand) (y:α) (d:Nat) (x:Rx)
 | ps (A:AP) (d:Nat) (x:Rx) (Hr:List Ent)
 | jk {ι:Type} (A:JA ι) (j:Jd β) (R:ι->Option β)
 | ak {ι:Type} (A:JA ι) (i:ι) (j:Jd β) (Γ0:zM) (Hr:List Ent)
 | rp (A:AP) (e:Bool)
 | jx (A:Ax) (n:Nat) (x y:Fu) (j:Jd β)
def Jd.p {β:Type} (c:Ctx) (r:β) (K:Kn β):Jd β->zM->List Ent->Prop
 | .wp x,Γ,H=>Wp c x ⟨Γ,H⟩ (K.q c.P r)
 | .fin,Γ,H=>Fin c ⟨Γ,H⟩ (K.q c.P r)
 | .fi,Γ,H=>Fin c ⟨Γ,H⟩ (K.q c.P r)
 | .fj _,Γ,H=>Fin c ⟨Γ,H⟩ (K.q c.P r)
 | .exi id,Γ,H=>Exi c id ⟨Γ,H⟩ (K.q c.P r)
 | .ret,Γ,H=>Ret c ⟨Γ,H⟩ (K.q c.P r)
 | .run x,Γ,H=>x.p c (K.q c.P r) ⟨Γ,H⟩
 | .rj _ x,Γ,H=>x.p c (K.q c.P r) ⟨Γ,H⟩
 | .ru x,Γ,H=>x.p c (K.q c.P r) ⟨Γ,H⟩
 | .pe o x,Γ,H=>x.pend c (K.q c.P r) o ⟨Γ,H⟩
 | .gd V o x,Γ,H=>gvl x.ops o Γ=some V->x.pend c (K.q c.P r) o ⟨Γ,H⟩
 | .gt t b o x,Γ,H=>t.p b->gvl x.ops o Γ=some (isv b)->x.pend c (K.q c.P r) o ⟨Γ,H⟩
 | .op p d D,Γ,H=>Nat.blt d c.n=true->D.X.opP c (K.q c.P r) (D.o p d) ⟨Γ,H⟩
 | .on p D,Γ,H=>D.X.opP c (K.q c.P r) (D.n p) ⟨Γ,H⟩
 | .kt o x,_,_=>o.ok r λΓ' H'=>x.p c (K.q c.P r) ⟨Γ',H'⟩
 | .cf x ats fn caps xs d D,Γ,H=>zB Γ x=some (zdV fn caps)->Nat.blt d c.n=true->D.X.opP c (K.q c.P r) (D.o (.call ⟨.value x,xs,ats⟩) d) ⟨Γ,H⟩
 | .cl A f caps xs y d x,Γ,H=>A.p c.P f y->∃ as Hc Hr H1 post,Ctr c.P f (as ++ caps) Hc post/\zgK Γ xs as/\Upd c ⟨Γ,H⟩ ⟨Γ,H1⟩/\zbq H1 Hc Hr/\∀ R H',post R H'->x.p c (K.q c.P r) ⟨(d,R) :: Γ,H' ++ Hr⟩
 | .ps A d x Hr,Γ,_=>∀ R H',A.p R H'->x.p c (K.q c.P r) ⟨(d,R) :: Γ,H' ++ Hr⟩
 | .jk A j R,Γ,H=>A.all λmod Hm=>∀ i,R i=some r->j.p c r K (mod i ++ Γ) (Hm i ++ H)
 | .ak A i j Γ0 Hr,Γ,H=>(A.all λmod Hm=>∀ Γ' H',Upd c ⟨Γ',H'⟩ ⟨mod i ++ Γ0,Hm i ++ Hr⟩->j.p c r K Γ' H')->j.p c r K Γ H
 | .jx _ _ _ _ j,Γ,H=>j.p c r K Γ H
 | .rp B e,Γ,H=>match K with
  | .po fn w0 S0 H0 A=>(∀ R H',B.p R H'->(A r).p R H')->(match e with | true=>Fin c ⟨Γ,H⟩ (zl3 c.P fn w0 S0 H0 (A r).p) | false=>Ret c ⟨Γ,H⟩ (zl3 c.P fn w0 S0 H0 (A r).p))
  | _=>True
def go {ι β:Type} (_p:Bool × Nat) (J:ι->Option β):ι->Option β:=J
def AJ {ι β:Type} (J:ι->Option β) (A:JA ι) (j:Jd β) (c:Ctx) (r:β) (K:Kn β) (Γ0:zM) (Hr:List Ent):Prop :=
 ∀ i,J i=some r->A.all λmod Hm=>∀ Γ' H',Upd c ⟨Γ',H'⟩ ⟨mod i ++ Γ0,Hm i ++ Hr⟩->j.p c r K Γ' H'
def LK {β:Type} (c:Ctx) (r:β) (Q':Exit->Act->World->Prop) (K:Kn β):Prop:=(∀ id σ',Exi c id σ' (K.q c.P r)->Exi c id σ' Q')/\(∀ σ',Ret c σ' (K.q c.P r)->Ret c σ' Q')
def Fa (b:Bool):Prop:=b=true
theorem Fa.mk {b:Bool} (h:b=true):Fa b:=h
theorem fa {b:Bool} (h:b=true:=by kernel_rfl):Fa b:=h
theorem Fa.h {b:Bool} (h:Fa b):b=true:=h
def zl8 (b:Bool) (t:Tr):Prop:=t.p b
theorem zl8.y {b:Bool} (h:b=true):zl8 b .y:=h
theorem zl8.n {b:Bool} (h:b=false):zl8 b .n:=h
theorem zl8.u {b:Bool}:zl8 b .u:=trivial
theorem zl8.h {b:Bool} {t:Tr} (h:zl8 b t):t.p b:=h
def EqS (n m:Nat):Prop:=n=m
theorem EqS.mk {n m:Nat} (h:n=m:=by first | rfl | simp | omega):EqS n m:=h
theorem EqS.h {n m:Nat} (h:EqS n m):n=m:=h
inductive Cvr:VP->VP->Prop
 | same {R:VP}:Cvr R R
 | ap {α:Type} [Rep α] {t:Tok} {l:List α}:Cvr (zbK t l) (isv l)
 | na {α:Type} [Rep α]:Cvr zeI (zbK none ([]:List α))
 | ni {α:Type} [Rep α]:Cvr zeI (isv ([]:List α))
 | vec {t:Vt} {n m:Nat}:EqS n m->Cvr (zbw t n) (zbw t m)
 | nv:Cvr zeI (zbw none 0)
 | any {R:VP}:Cvr R zf1
theorem Cvr.h {R R':VP} (h:Cvr R R'):∀ S v,R.p S v->R'.p S v:=by
 cases h with
 | same=>exact λ_ _ h=>h
 | ap=>exact zb7
 | na=>exact zii
 | ni=>exact zmw
 | vec e=>exact ziH e.h
 | nv=>exact zlv
 | any=>exact λ_ _ _=>trivial
inductive Md (Γ:zM):zM->Prop
 | nil:Md Γ []
 | cons {j:Nat} {R R':VP} {l:zM}:zcg Γ j=some R->Cvr R R'->Md Γ l->Md Γ ((j,R') :: l)
theorem Md.h {Γ l:zM} (h:Md Γ l):zpL Γ l:=by
 induction h with
 | nil=>exact zh4
 | cons a b _ ih=>exact zev a b.h ih
inductive OpG (Γ:zM):List Operand->List VP->Prop
 | nil:OpG Γ [] []
 | cons {x:Operand} {R R':VP} {xs:List Operand} {Rs:List VP}:zB Γ x=some R->Cvr R R'->OpG Γ xs Rs->OpG Γ (x :: xs) (R' :: Rs)
theorem OpG.h {Γ:zM} {xs:List Operand} {Rs:List VP} (h:OpG Γ xs Rs):zgK Γ xs Rs:=by
 induction h with
 | nil=>exact .nil
 | cons a b _ ih=>exact .cons a b.h ih
inductive OpC (Γ:zM) (caps:List VP):List Operand->List VP->Prop
 | nil:OpC Γ caps [] caps
 | cons {x:Operand} {R R':VP} {xs:List Operand} {Rs:List VP}:zB Γ x=some R->Cvr R R'->OpC Γ caps xs Rs->OpC Γ caps (x :: xs) (R' :: Rs)
theorem OpC.h {Γ:zM} {caps:List VP} {xs:List Operand} {Rs:List VP} (h:OpC Γ caps xs Rs):∃ as,Rs=as ++ caps/\zgK Γ xs as:=by
 induction h with
 | nil=>exact ⟨[],rfl,.nil⟩
 | cons a b _ ih=>obtain ⟨as,e,k⟩:=ih;exact ⟨_ :: as,e ▸ rfl,.cons a b.h k⟩
class CvC {α:Type} [Rep α] (x:α) (β:outParam Type) [I:outParam (Rep β)] (y:outParam β):Prop where
 h:∀ S v,(isv x).p S v->(isv y).p S v
inductive Cu:VP->VP->Prop
 | nv:Cu zeI (zbw none 0)
 | ap {α:Type} [Rep α] {t:Tok} {l:List α}:Cu (zbK t l) (isv l)
 | cv {α β:Type} [Rep α] {I:Rep β} {x:α} {y:β} [@CvC α _ x β I y]:Cu (isv x) (isv y)
theorem Cu.h {R R':VP} (h:Cu R R'):∀ S v,R.p S v->R'.p S v:=by
 cases h with
 | nv=>exact zlv
 | ap=>exact zb7
 | cv=>exact ‹@CvC _ _ _ _ _ _›.h
class CvF {α γ δ:Type} [Rep α] [Rep γ] [Rep δ] (t:Vt) (l:List δ) (x:α) (W:Fld α γ) (α' γ':outParam Type) [I:outParam (Rep α')] [I':outParam (Rep γ')] (y:outParam α') (W':outParam (Fld α' γ')):Prop where
 h:∀ S,(∀ n,n <= l.length->Cv S (Vh.mk t n) (l.take n))->Cv S x y
 o:W.off=W'.off
inductive CvP {α γ δ α' γ':Type} [Rep α] [Rep γ] [Rep δ] [Rep α'] [Rep γ'] (t:Vt) (l:List δ) (x:α) (W:Fld α γ) (y:α') (W':Fld α' γ'):Prop
 | mk [CvF t l x W α' γ' y W']:CvP t l x W y W'
inductive ReG (P:Program) (Γ:zM) (H:List Ent):List ResultVar->List VP->Prop
 | nil:ReG P Γ H [] []
 | tmp {t:Nat} {R R':VP} {rs:List ResultVar} {Rs:List VP}:zcg Γ t=some R->Cvr R R'->ReG P Γ H rs Rs->ReG P Γ H (.tmp t :: rs) (R' :: Rs)
 | cell {α β:Type} {I:Rep α} [Rep β] {t b:Nat} {L:Fld α β} {y:α} {z:β} {T:TypeId} {Hr:List Ent} {rs:List ResultVar} {Rs:List VP}:zcg Γ t=some (zal b L)->zcw (zj b y) H Hr->L.get y=z->Fa (TyB P T (Rep.n β) (Rep.agg β))->ReG P Γ H rs Rs->ReG P Γ H (.cell t T :: rs) (isv z :: Rs)
theorem ReG.h {P:Program} {Γ:zM} {H:List Ent} {rs:List ResultVar} {Rs:List VP} (h:ReG P Γ H rs Rs):zfq P ⟨Γ,H⟩ rs Rs:=by
 induction h with
 | nil=>exact .nil
 | tmp a b _ ih=>exact .as a b.h ih
 | cell a hp e f _ ih=>subst e;exact .cell a hp f.h ih
inductive CvR:{α:Type}->[Rep α]->α->α->Prop
 | id {α:Type} [Rep α] {x:α}:CvR x x
 | vh {t:Vt} {n m:Nat}:EqS n m->CvR (Vh.mk t n) (Vh.mk t m)
 | wr {α:Type} [Rep α] {x y:α}:CvR x y->CvR (Wr.mk x) (Wr.mk y)
 | pair {α β:Type} [Rep α] [Rep β] {x y:α} {z w:β}:CvR x y->CvR z w->CvR (x,z) (y,w)
theorem CvR.h {α:Type} [Rep α] {x y:α} (h:CvR x y):∀ S,Cv S x y:=by
 induction h with
 | id=>exact λS=>Cv.id
 | vh e=>exact λS=>Cv.vhe e.h
 | wr _ ih=>exact λS=>Cv.wr (ih S)
 | pair _ _ ih1 ih2=>exact λS=>Cv.pair (ih1 S) (ih2 S)
theorem zqT {c:Ctx} {α:Type} [Rep α] {Γ:zM} {l:List α} {H:List Ent}:Upd c ⟨Γ,H⟩ ⟨Γ,zI none l :: H⟩:=zoH _ rfl
inductive Cl:List Ent->List Ent->Prop
 | nil:Cl [] []
 | v {α:Type} [Rep α] {l:List α} {H Hr:List Ent}:Cl H Hr->Cl (zI none l :: H) Hr
 | t {H Hr:List Ent}:Cl H Hr->Cl (zO none :: H) Hr
 | k {e:Ent} {H Hr:List Ent}:Cl H Hr->Cl (e :: H) (e :: Hr)
inductive TX:List Ent->List Ent->List Ent->Prop
 | nil {H:List Ent}:TX H [] H
 | tok {H Hc Hr:List Ent}:TX H Hc Hr->TX H (zO none :: Hc) Hr
 | vec {α:Type} [Rep α] {l:List α} {H Hc Hr:List Ent}:TX H Hc Hr->TX H (zI none l :: Hc) Hr
 | box {α:Type} [Rep α] {b:Nat} {x y:α} {H H1 Hc Hr:List Ent}:zcw (zj b x) H H1->CvR x y->TX H1 Hc Hr->TX H (zj b y :: Hc) Hr
 | pick {e:Ent} {H H1 Hc Hr:List Ent}:zcw e H H1->TX H1 Hc Hr->TX H (e :: Hc) Hr
theorem zoF:∀ {Hc H:List Ent},H.Perm Hc->zbq H Hc []
 | [],_,h=>by rw [List.Perm.eq_nil h];exact .nil
 | e :: Hc,H,h=>by
  obtain ⟨A,B,rfl⟩:=List.append_of_mem (h.mem_iff.2 zMs)
  have hp:∀ A:List Ent,zcw e (A ++ e :: B) (A ++ B):=λA=>by
   induction A with
   | nil=>exact .here
   | cons x A ih=>exact .there ih
  exact .cons (hp A) (zoF ((List.perm_cons e).1 (List.perm_middle.symm.trans h)))
theorem zjy {c:Ctx} {Γ:zM} {H H':List Ent} (h:H.Perm H'):Upd c ⟨Γ,H⟩ ⟨Γ,H'⟩:=zrE ⟨λ_ R h=>⟨R,h,λ_ _ h=>h⟩,_,zoF h⟩
theorem zma {e:Ent} {H H1:List Ent} (h:zcw e H H1):∀ F:List Ent,zcw e (F ++ H) (F ++ H1)
 | []=>h
 | _ :: F=>.there (zma h F)
theorem TX.upd {c:Ctx} {Γ:zM} {H Hc Hr:List Ent} (h:TX H Hc Hr):∀ F,Upd c ⟨Γ,F ++ H⟩ ⟨Γ,(F ++ Hc) ++ Hr⟩:=by
 have fr:∀ {e:Ent} {F H:List Ent},(e :: (F ++ H)).Perm ((F ++ [e]) ++ H):=λ{e F H}=>by
  rw [zLA];exact List.perm_middle.symm
 induction h with
 | nil=>exact λF=>by rw [List.append_nil];exact zjy (List.Perm.refl _)
 | tok _ ih=>exact λF=>(zel.trans (zjy fr)).trans (by simpa using ih (F ++ [zO none]))
 | @vec _ _ l _ _ _ _ ih=>exact λF=>(zqT.trans (zjy fr)).trans (by simpa using ih (F ++ [zI none l]))
 | box hp hc _ ih=>exact λF=>((zxu (zma hp F) hc.h).trans (zjy fr)).trans (by simpa using ih (F ++ [zj _ _]))
 | @pick e _ _ _ _ hp _ ih=>exact λF=>((zgE (zma hp F)).trans (zjy fr)).trans (by simpa using ih (F ++ [e]))
theorem TX.up {c:Ctx} {H Hc Hr:List Ent} (h:TX H Hc Hr) {Γ Γ':zM} (hs:zM.imp Γ Γ'):Upd c ⟨Γ,H⟩ ⟨Γ',Hc⟩:=by
 have:=h.upd (c:=c) (Γ:=Γ) []
 exact this.trans (zrE ⟨hs,Hr,by
  have:∀ {A B:List Ent},zbq (A ++ B) A B:=λ{A B}=>by
   induction A with
   | nil=>exact .nil
   | cons x A ih=>exact .cons .here ih
  exact this⟩)
inductive Dr:List Bool->List Ent->List Ent->Prop
 | nil {H:List Ent}:Dr [] H H
 | t {e:Ent} {l:List Bool} {H Hr:List Ent}:Dr l H Hr->Dr (true :: l) (e :: H) Hr
 | f {e:Ent} {l:List Bool} {H Hr:List Ent}:Dr l H Hr->Dr (false :: l) (e :: H) (e :: Hr)
inductive PX:Ent->List Ent->List Ent->Prop
 | tok {H:List Ent}:PX (zO none) H H
 | vec {α:Type} [Rep α] {l:List α} {H:List Ent}:PX (zI none l) H H
 | pick {e:Ent} {H H1:List Ent}:zcw e H H1->PX e H H1
theorem PX.h {c:Ctx} {Γ:zM} {e:Ent} {H H1:List Ent} (h:PX e H H1):Upd c ⟨Γ,H⟩ ⟨Γ,e :: H1⟩:=by
 cases h with
 | tok=>exact zel
 | vec=>exact zqT
 | pick h=>exact zgE h
class AggC (cs:Array Value) (α:outParam Type) [I:outParam (Rep α)] (x:outParam α):Prop where
 h:∀ S v,(aggv cs).p S v->(isv x).p S v
inductive StV:VP->{α:Type}->[Rep α]->α->Prop
 | s {α:Type} [Rep α] {x:α}:StV (isv x) x
 | la {α:Type} [Rep α] {t:Tok} {l:List α}:StV (zbK t l) l
 | ta {α:Type} [Rep α] {t:Tok} {l:List α}:StV (zbK t l) (zaa.mk t l)
 | ln {α:Type} [Rep α]:StV zeI ([]:List α)
 | tn {α:Type} [Rep α]:StV zeI (zaa.mk none ([]:List α))
 | vv {t:Vt} {n:Nat}:StV (zbw t n) (Vh.mk t n)
 | vn:StV zeI (Vh.mk none 0)
 | p {α:Type} [Rep α] {b:Nat}:StV (zal b (Fld.id α)) (zfY.mk b)
 | z {α:Type} {I:Rep α} {x:α} {cs:Array Value} [@AggC cs α I x]:StV (aggv cs) x
theorem StV.h {R:VP} {α:Type} [Rep α] {x:α} (h:StV R x):∀ S v,R.p S v->(isv x).p S v:=by
 cases h with
 | s=>exact λ_ _ h=>h
 | ta=>exact zr2
 | tn=>exact nilvT
 | z=>exact ‹@AggC _ _ _ _›.h
 | vv=>exact zyA
 | vn=>exact zzb
 | la=>exact zb7
 | ln=>exact zmw
 | p=>exact zya
def zwf (α:Type) [Rep α] (b:Nat):VP:=zal b (Fld.id α)
theorem zp9 {α:Type} [Rep α] {b:Nat}:zwf α b=zal b (Fld.id α):=rfl
class SlC (ds:List Nat) (ι:Type) (mod:outParam (ι->zM)):Prop where
 h:True
instance {d:Nat} {ι:Type} [Rep ι]:SlC [d] ι (λi=>[(d,isv i)]):=⟨trivial⟩
instance {d:Nat} {ds:List Nat} {α β:Type} [Rep α] {mod:β->zM} [SlC ds β mod]:SlC (d :: ds) (α × β) (λi=>(d,isv i.1) :: mod i.2):=⟨trivial⟩
theorem AJ.h {ι β:Type} {J:ι->Option β} {A:JA ι} {j:Jd β} {c:Ctx} {r:β} {K:Kn β} {Γ0:zM} {Hr:List Ent} (h:AJ J A j c r K Γ0 Hr):∀ i,J i=some r->A.all λmod Hm=>∀ Γ' H',Upd c ⟨Γ',H'⟩ ⟨mod i ++ Γ0,Hm i ++ Hr⟩->j.p c r K Γ' H':=h
theorem AJ.mk {ι β:Type} {J:ι->Option β} {A:JA ι} {j:Jd β} {c:Ctx} {r:β} {K:Kn β} {Γ0:zM} {Hr:List Ent} (h:∀ i,J i=some r->A.all λmod Hm=>∀ Γ' H',Upd c ⟨Γ',H'⟩ ⟨mod i ++ Γ0,Hm i ++ Hr⟩->j.p c r K Γ' H'):AJ J A j c r K Γ0 Hr:=h
theorem LK.h {β:Type} {c:Ctx} {r:β} {Q':Exit->Act->World->Prop} {K:Kn β} (h:LK c r Q' K):(∀ id σ',Exi c id σ' (K.q c.P r)->Exi c id σ' Q')/\(∀ σ',Ret c σ' (K.q c.P r)->Ret c σ' Q'):=h
theorem LK.mk {β:Type} {c:Ctx} {r:β} {Q':Exit->Act->World->Prop} {K:Kn β} (h:(∀ id σ',Exi c id σ' (K.q c.P r)->Exi c id σ' Q')/\(∀ σ',Ret c σ' (K.q c.P r)->Ret c σ' Q')):LK c r Q' K:=h
theorem zjl {ι β:Type} {p:Bool × Nat} {J:ι->Option β}:go p J=J:=rfl
attribute [irreducible] Fa zl8 AJ LK go EqS zwf

def zwj (n:Nat):Nat->List Oper->Ord
 | _,[]=>.nil
 | i,_ :: l=>bif n.testBit i then .t i (zwj n (i + 1) l) else .v i (zwj n (i + 1) l)
def zyq (Γ:zM) (t:Tr) (y z:Operand):Option VP:=match t with
 | .y=>zB Γ y
 | .n=>zB Γ z
 | .u=>none
def zsY (k:Nat) (l:List Oper):List Oper:=l.drop (l.length - k)
def zng (k:Nat) (π:Ord):Ord:=π.drop (π.len - k)
class zaX (P:Program) (T f:Nat) (β:Type) [Rep β] (γ:outParam Type) [I:outParam (Rep γ)] (M:outParam (Fld β γ)):Prop where
 h:zfw P T f M.off (Rep.n γ) (Rep.agg γ)=true
class EqC (P:Program) (T:TypeId) (α:Type) [Rep α] [DecidableEq α]:Prop where
 h:zln P T α
instance {P:Program} {T:TypeId}:EqC P T UInt8:=⟨zln.u8⟩
instance {P:Program} {T:TypeId}:EqC P T UInt64:=⟨zln.u64⟩
instance {P:Program} {T:TypeId}:EqC P T Str:=⟨zln.str⟩
class zeA (P:Program) (T:TypeId) (α:outParam Type) [I:outParam (Rep α)] (x:outParam α):Prop where
 h:ze2 P T x
class zkr (P:Program) (T:TypeId) (α:outParam Type) [I:outParam (Rep α)] (x:outParam α):Prop where
 h:ze2 P T x
class UnC (P:Program) (T:TypeId) (d:outParam TypeDesc):Prop where
 h:P.underlying T=some d
class IfC (P:Program) (T:TypeId):Prop where
 h:P.underlying T=some (.interface (P.methodsAt T))
def Nz {α:Type} (x y:α):Prop:=x=y
theorem Nz.mk {α:Type} {x:α}:Nz x x:=rfl
theorem Nz.h {α:Type} {x y:α} (h:Nz x y):x=y:=h
attribute [irreducible] Nz
def Nd (b:Nat) (pin:List (Nat × Obj)):Prop:=b ∉ pin.map (·.1)
theorem Nd.mk {b:Nat} {pin:List (Nat × Obj)} (h:b ∉ pin.map (·.1)):Nd b pin:=h
theorem Nd.h {b:Nat} {pin:List (Nat × Obj)} (h:Nd b pin):b ∉ pin.map (·.1):=h
attribute [irreducible] Nd
inductive Ld {β:Type} (P:Program) (pin:List (Nat × Obj)) (Γ:zM) (H:List Ent) (T:TypeId) (d:Nat):Option β->Bool->VP->Ot β->Prop
 | IP {α:Type} {I:Rep α} {y:α} {k:Nat} {Hr m tb}:Fa (TyB P T (Rep.n zfY) (Rep.agg zfY))->zcw (zj k y) H Hr->Ld P pin Γ H T d m tb (zbn (zfY.mk k)) (.c ((d,zal k (Fld.id α)) :: Γ) H m)
 | I {α:Type} [Rep α] {z:α} {m tb}:Fa (TyB P T (Rep.n α) (Rep.agg α))->Ld P pin Γ H T d m tb (zbn z) (.c ((d,isv z) :: Γ) H m)
 | T {α γ:Type} [Rep α] [Rep γ] {W:Fld α (zaa γ)} {y:α} {Hr m l t k}:Fa (TyB P T (Rep.n (zaa γ)) (Rep.agg (zaa γ)))->zcw (zj k y) H Hr->W.get y=zaa.mk t l->Ld P pin Γ H T d m true (zal k W) (.c ((d,zbK t l) :: Γ) H m)
 | V {α:Type} [Rep α] {W:Fld α Vh} {y:α} {Hr m t k n}:Fa (TyB P T (Rep.n Vh) (Rep.agg Vh))->zcw (zj k y) H Hr->W.get y=Vh.mk t n->Ld P pin Γ H T d m true (zal k W) (.c ((d,zbw t n) :: Γ) H m)
 | B {α γ:Type} [Rep α] [Rep γ] {W:Fld α γ} {y:α} {z:γ} {Hr m k}:Fa (TyB P T (Rep.n γ) (Rep.agg γ))->zcw (zj k y) H Hr->Nz (W.get y) z->Ld P pin Γ H T d m true (zal k W) (.c ((d,isv z) :: Γ) H m)
 | PT {α γ:Type} [Rep α] [Rep γ] {W:Fld α (zaa γ)} {y:α} {m l o t k tb}:Fa (TyB P T (Rep.n (zaa γ)) (Rep.agg (zaa γ)))->(k,o) ∈ pin->W.get y=zaa.mk t l->Ld P pin Γ H T d m tb (zdI o k W y) (.c ((d,zbK t l) :: Γ) H m)
 | PV {α:Type} [Rep α] {W:Fld α Vh} {y:α} {m o t k n tb}:Fa (TyB P T (Rep.n Vh) (Rep.agg Vh))->(k,o) ∈ pin->W.get y=Vh.mk t n->Ld P pin Γ H T d m tb (zdI o k W y) (.c ((d,zbw t n) :: Γ) H m)
 | PB {α γ:Type} [Rep α] [Rep γ] {W:Fld α γ} {y:α} {z:γ} {m o k tb}:Fa (TyB P T (Rep.n γ) (Rep.agg γ))->(k,o) ∈ pin->Nz (W.get y) z->Ld P pin Γ H T d m tb (zdI o k W y) (.c ((d,isv z) :: Γ) H m)
 | E {α γ:Type} [Rep α] [Rep γ] {W:Fld α γ} {l:List α} {κ:α->Option β} {Hr t i}:Fa (TyB P T (Rep.n γ) (Rep.agg γ))->zcw (zI t l) H Hr->Ld P pin Γ H T d (cal (l[i]?) κ) true (zcO t i W) (.a λy=>.c ((d,isv (W.get y)) :: Γ) H (κ y))
inductive Fd (P:Program) (T n:Nat):VP->VP->Prop
 | I {α γ:Type} [Rep α] {I:Rep γ} {z:α} {w:γ} {M:Fld α γ} [@zaX P T n α _ γ I M]:Nz (M.get z) w->Fd P T n (zbn z) (zbn w)
 | B {δ α γ:Type} [Rep δ] [Rep α] {I:Rep γ} {W:Fld δ α} {M:Fld α γ} [@zaX P T n α _ γ I M] {k}:Fd P T n (zal k W) (zal k (W.comp M))
 | P {δ α γ:Type} [Rep δ] [Rep α] {I:Rep γ} {W:Fld δ α} {y:δ} {M:Fld α γ} [@zaX P T n α _ γ I M] {o k}:Fd P T n (zdI o k W y) (zdI o k (W.comp M) y)
 | E {δ α γ:Type} [Rep δ] [Rep α] {I:Rep γ} {W:Fld δ α} {M:Fld α γ} [@zaX P T n α _ γ I M] {t i}:Fd P T n (zcO t i W) (zcO t i (W.comp M))
inductive Fl (P:Program) (T n:Nat):VP->VP->Prop
 | I {α γ:Type} [Rep α] {I:Rep γ} {y:α} {M:Fld α γ} [@zaX P T n α _ γ I M]:Rep.agg α=true->Fl P T n (isv y) (isv (M.get y))
inductive Nc:VP->Prop
 | B {α γ:Type} [Rep α] [Rep γ] {W:Fld α γ} {k}:Nc (zal k W)
 | I {α:Type} [Rep α] {z:α}:Nc (zbn z)
 | O {α:Type} [Rep α] {b}:Nc (zwf α b)
 | P {α γ:Type} [Rep α] [Rep γ] {W:Fld α γ} {y:α} {o k}:Nc (zdI o k W y)
 | E {α γ:Type} [Rep α] [Rep γ] {W:Fld α γ} {t i}:Nc (zcO t i W)
inductive Ln (P:Program) (T:TypeId) (H:List Ent):VP->Int->Prop
 | L {α:Type} [Rep α] {l:List α}:Fa (SlB P T (Rep.n α) (Rep.agg α))->Ln P T H (isv l) l.length
 | A {α:Type} [Rep α] {l:List α} {t}:Fa (SlB P T (Rep.n α) (Rep.agg α))->Ln P T H (zbK t l) l.length
 | S {s:Str}:Fa (zkw P T)->Ln P T H (isv s) s.b.length
 | V {α:Type} {I:Rep α} {l:List α} {Hr t k}:zcw (zI t l) H Hr->Fa (SlB P T (Rep.n α) (Rep.agg α))->Ln P T H (zbw t k) (k:Nat)
inductive Bi {β:Type} (P:Program) (T:TypeId):BinOp->VP->VP->Option β->VP->Option β->Prop
 | eqI {a e:Int} {m}:Bi P T .eql (isv a) (isv e) m (isv (decide (a=e))) m
 | neI {a e:Int} {m}:Bi P T .neq (isv a) (isv e) m (isv (!decide (a=e))) m
 | adI {a e:Int} {m}:Bi P T .add (isv a) (isv e) (ck (a + e) m) (isv (a + e)) m
 | sbI {a e:Int} {m}:Bi P T .sub (isv a) (isv e) (ck (a - e) m) (isv (a - e)) m
 | ltI {a e:Int} {m}:Bi P T .lss (isv a) (isv e) m (isv (decide (a < e))) m
 | gtI {a e:Int} {m}:Bi P T .gtr (isv a) (isv e) m (isv (decide (e < a))) m
 | leI {a e:Int} {m}:Bi P T .leq (isv a) (isv e) m (isv (decide (a <= e))) m
 | geI {a e:Int} {m}:Bi P T .geq (isv a) (isv e) m (isv (decide (e <= a))) m
 | ltB {a e:UInt8} {m}:Bi P T .lss (isv a) (isv e) m (isv (decide (a < e))) m
 | gtB {a e:UInt8} {m}:Bi P T .gtr (isv a) (isv e) m (isv (decide (e < a))) m
 | leB {a e:UInt8} {m}:Bi P T .leq (isv a) (isv e) m (isv (decide (a <= e))) m
 | geB {a e:UInt8} {m}:Bi P T .geq (isv a) (isv e) m (isv (decide (e <= a))) m
 | eqA {α:Type} [Rep α] [DecidableEq α] {a e:α} [EqC P T α] {m}:Bi P T .eql (isv a) (isv e) m (isv (decide (a=e))) m
 | neA {α:Type} [Rep α] [DecidableEq α] {a e:α} [EqC P T α] {m}:Bi P T .neq (isv a) (isv e) m (isv (!decide (a=e))) m
 | mlI {a e:Int} {m}:Bi P T .mul (isv a) (isv e) (ck (a * e) m) (isv (a * e)) m
 | quI {a e:Int} {m}:Bi P T .quo (isv a) (isv e) (asr (!decide (e=0)) (ck (a.tdiv e) m)) (isv (a.tdiv e)) m
 | rmI {a e:Int} {m}:Bi P T .rem (isv a) (isv e) (asr (!decide (e=0)) m) (isv (a.tmod e)) m
 | anI {a e:Int} {m}:Bi P T .and (isv a) (isv e) (asr (decide (0 <= a/\0 <= e)) m) (isv (andI a e)) m
 | adB {a e:UInt8} {m}:Bi P T .add (isv a) (isv e) m (isv (a + e)) m
 | sbB {a e:UInt8} {m}:Bi P T .sub (isv a) (isv e) m (isv (a - e)) m
 | orB {a e:UInt8} {m}:Bi P T .or (isv a) (isv e) m (isv (a ||| e)) m
 | anB {a e:UInt8} {m}:Bi P T .and (isv a) (isv e) m (isv (a &&& e)) m
 | annB {a e:UInt8} {m}:Bi P T .andNot (isv a) (isv e) m (isv (a &&& ~~~e)) m
 | shB {a:UInt8} {e:UInt64} {m}:Bi P T .shl (isv a) (isv e) (asr (Nat.ble e.toNat 8) m) (isv (zsT a e.toNat)) m
 | srB {a:UInt8} {e:UInt64} {m}:Bi P T .shr (isv a) (isv e) (asr (Nat.ble e.toNat 8) m) (isv (zf0 a e.toNat)) m
 | ltU {a e:UInt64} {m}:Bi P T .lss (isv a) (isv e) m (isv (decide (a < e))) m
 | gtU {a e:UInt64} {m}:Bi P T .gtr (isv a) (isv e) m (isv (decide (e < a))) m
 | leU {a e:UInt64} {m}:Bi P T .leq (isv a) (isv e) m (isv (decide (a <= e))) m
 | geU {a e:UInt64} {m}:Bi P T .geq (isv a) (isv e) m (isv (decide (e <= a))) m
 | adU {a e:UInt64} {m}:Bi P T .add (isv a) (isv e) m (isv (a + e)) m
 | sbU {a e:UInt64} {m}:Bi P T .sub (isv a) (isv e) m (isv (a - e)) m
 | mlU {a e:UInt64} {m}:Bi P T .mul (isv a) (isv e) m (isv (a * e)) m
 | orU {a e:UInt64} {m}:Bi P T .or (isv a) (isv e) m (isv (a ||| e)) m
 | anU {a e:UInt64} {m}:Bi P T .and (isv a) (isv e) m (isv (a &&& e)) m
 | shU {a e:UInt64} {m}:Bi P T .shl (isv a) (isv e) (asr (Nat.ble e.toNat 64) m) (isv (zf9 a e.toNat)) m
 | srU {a e:UInt64} {m}:Fa (Nat.blt e.toNat 64)->Bi P T .shr (isv a) (isv e) m (isv (a >>> e)) m
 | quU {a e:UInt64} {m}:Bi P T .quo (isv a) (isv e) (asr (!decide (e=0)) m) (isv (a / e)) m
 | rmU {a e:UInt64} {m}:Bi P T .rem (isv a) (isv e) (asr (!decide (e=0)) m) (isv (a % e)) m
 | cat {a e:Str} {m}:Bi P T .add (isv a) (isv e) (asr (Nat.ble (a.b.length + e.b.length) 4611686018427387904) m) (isv (Str.mk (a.b ++ e.b))) m
inductive Cn {β:Type} (P:Program):TypeDesc->TypeDesc->VP->Option β->VP->Option β->Prop
 | ii {a:Int} {m s}:Cn P (.int s) (.int .i64) (isv a) m (isv a) m
 | iu {a:Int} {m s}:Cn P (.int s) (.int .u64) (isv a) m (isv (UInt64.ofNat (a % 18446744073709551616).toNat)) m
 | ib {a:Int} {m s}:Cn P (.int s) (.int .u8) (isv a) m (isv (UInt8.ofNat (a % 256).toNat)) m
 | bi {a:UInt8} {m s}:Cn P (.int s) (.int .i64) (isv a) m (isv (a.toNat:Int)) m
 | bu {a:UInt8} {m s}:Cn P (.int s) (.int .u64) (isv a) m (isv a.toUInt64) m
 | ui {a:UInt64} {m s}:Cn P (.int s) (.int .i64) (isv a) (ck (a.toNat:Int) m) (isv (a.toNat:Int)) m
 | uu {a:UInt64} {m s}:Cn P (.int s) (.int .u64) (isv a) m (isv a) m
 | ub {a:UInt64} {m s}:Cn P (.int s) (.int .u8) (isv a) m (isv a.toUInt8) m
 | bs {k} {l:List UInt8} [UnC P k (.int .u8)] {m R}:StV R l->Cn P (.slice k) .string R m (isv (Str.mk l)) m
inductive Ix {β:Type} (P:Program) (T:TypeId) (Γ:zM) (H:List Ent) (d:Nat):VP->VP->Option β->Ot β->Prop
 | L {α:Type} [Rep α] {l:List α} {k:Int} {κ:α->Option β}:Fa (SlB P T (Rep.n α) (Rep.agg α))->Ix P T Γ H d (isv l) (isv k) (cal (zq l k) κ) (.a λy=>.c ((d,zbn y) :: Γ) H (κ y))
 | A {α:Type} [Rep α] {l:List α} {k:Int} {κ:α->Option β} {t}:Fa (SlB P T (Rep.n α) (Rep.agg α))->Ix P T Γ H d (zbK t l) (isv k) (cal (zq l k) κ) (.a λy=>.c ((d,zbn y) :: Γ) H (κ y))
 | V {α:Type} {I:Rep α} {l:List α} {k:Int} {Hr m t n nn}:zcw (zI t l) H Hr->Fa (SlB P T (Rep.n α) (Rep.agg α))->EqS n nn->Ix P T Γ H d (zbw t n) (isv k) (asr (decide (0 <= k/\k < (nn:Int))) m) (.c ((d,zcO t k.toNat (Fld.id α)) :: Γ) H m)
inductive BuG {α:Type} [Rep α] (P:Program) (T:TypeId) (Γ:zM):α->List (Nat × Operand)->α->Prop
 | nil {x:α}:BuG P T Γ x [] x
 | cons {n} {γ:Type} {I:Rep γ} {x z:α} {y:γ} {M:Fld α γ} [@zaX P T n α _ γ I M] {l u R}:zB Γ u=some R->StV R y->BuG P T Γ (M.set x y) l z->BuG P T Γ x ((n,u) :: l) z
inductive ElG {α:Type} (I:Rep α) (Γ:zM):Nat->List (Nat × Operand)->List α->Prop
 | nil {k}:ElG I Γ k [] []
 | cons {y:α} {z:List α} {l u R k}:zB Γ u=some R->StV R y->ElG I Γ (k + 1) l z->ElG I Γ k ((k,u) :: l) (y :: z)
inductive Lo (Γ:zM):Option Operand->Int->Prop
 | n:Lo Γ none 0
 | s {k:Int} {u}:zB Γ u=some (isv k)->Lo Γ (some u) k
inductive Hi (Γ:zM) (n:Nat):Option Operand->Int->Prop
 | n:Hi Γ n none n
 | s {k:Int} {u}:zB Γ u=some (isv k)->Hi Γ n (some u) k
inductive Sc {β:Type} (P:Program) (T:TypeId) (Γ:zM) (lo hi:Option Operand):VP->Option β->VP->Option β->Prop
 | S {s:Str} {k q:Int} {m}:Fa (zkw P T)->Lo Γ lo k->Hi Γ s.b.length hi q->Sc P T Γ lo hi (isv s) (asr (decide (0 <= k/\k <= q/\q <= (s.b.length:Int))) m) (isv (Str.mk ((s.b.take q.toNat).drop k.toNat))) m
 | L {α:Type} [Rep α] {l:List α} {k q:Int} {m}:Fa (SlB P T (Rep.n α) (Rep.agg α))->Lo Γ lo k->Hi Γ l.length hi q->Sc P T Γ lo hi (isv l) (asr (decide (0 <= k/\k <= q/\q <= (l.length:Int))) m) (isv ((l.take q.toNat).drop k.toNat)) m
 | A {α:Type} [Rep α] {l:List α} {k q:Int} {m t}:Fa (SlB P T (Rep.n α) (Rep.agg α))->Lo Γ lo k->Hi Γ l.length hi q->Sc P T Γ lo hi (zbK t l) (asr (decide (0 <= k/\k <= q/\q <= (l.length:Int))) m) (isv ((l.take q.toNat).drop k.toNat)) m
inductive Ap {β:Type} (P:Program) (T U:TypeId) (Γ:zM) (H:List Ent) (d:Nat):VP->VP->Option β->Ot β->Prop
 | N {α:Type} {I:Rep α} {z:List α} {m R}:StV R z->Fa (zmy P T U (Rep.n α))->Ap P T U Γ H d zeI R (asr (Nat.ble (([]:List α).length + z.length) 68719476736) m) (.a λt=>.c ((d,zbK t (([]:List α) ++ z)) :: Γ) (zO t :: H) m)
 | T {α:Type} [Rep α] {l z:List α} {v:Tok} {Hr m R}:PX (zO v) H Hr->StV R z->Fa (zmy P T U (Rep.n α))->Ap P T U Γ H d (zbK v l) R (asr (Nat.ble (l.length + z.length) 68719476736) m) (.a λt=>.c ((d,zbK t (l ++ z)) :: Γ) (zO t :: Hr) m)
 | V {α:Type} {I:Rep α} {l z:List α} {v:Vt} {Hr m R n}:PX (zI v l) H Hr->EqS n l.length->StV R z->Fa (zmy P T U (Rep.n α))->Ap P T U Γ H d (zbw v n) R (asr (Nat.ble (l.length + z.length) 68719476736) m) (.a λt=>.c ((d,zbw t (l ++ z).length) :: Γ) (zI t (l ++ z) :: Hr) m)
inductive O {β:Type} (P:Program) (pin:List (Nat × Obj)) (Γ:zM) (H:List Ent) (d:Nat):Bool->Op->Option β->Ot β->Prop
 | mv {m u R tb}:zB Γ u=some R->O P pin Γ H d tb (.move u) m (.c ((d,R) :: Γ) H m)
 | ae {m tb}:O P pin Γ H d tb (.assign (.const .nilIface)) m (.c ((d,isv (Er.mk false)) :: Γ) H m)
 | as {m u R tb}:zB Γ u=some R->O P pin Γ H d tb (.assign u) m (.c ((d,R) :: Γ) H m)
 | pk {m b u u1 u2 R t tb}:zB Γ u=some (isv b)->zl8 b t->zyq Γ t u1 u2=some R->O P pin Γ H d tb (.pick u u1 u2) m (.c ((d,R) :: Γ) H m)
 | ld {m T u R s tb}:zB Γ u=some R->Ld P pin Γ H T d m tb R s->O P pin Γ H d tb (.load T u) m s
 | fa {m T u V R n tb}:zB Γ u=some R->Fd P T n R V->O P pin Γ H d tb (.fieldAddr T u n) m (.c ((d,V) :: Γ) H m)
 | nc {m u R tb}:zB Γ u=some R->Nc R->O P pin Γ H d tb (.nilCheck u) m (.c ((d,R) :: Γ) H m)
 | neE {T} [IfC P T] {y:Er} {m T2 u1 tb}:zB Γ u1=some (isv y)->O P pin Γ H d tb (.binOp .neq T u1 (.const .nilIface) T2) m (.c ((d,isv y.bad) :: Γ) H m)
 | mn {p q:Int} {m T1 T2 u1 u2 tb}:zB Γ u1=some (isv p)->zB Γ u2=some (isv q)->O P pin Γ H d tb (.call ⟨.builtin .min,#[u1,u2],#[T1,T2]⟩) m (.c ((d,isv (min p q)) :: Γ) H m)
 | mx {p q:Int} {m T1 T2 u1 u2 tb}:zB Γ u1=some (isv p)->zB Γ u2=some (isv q)->O P pin Γ H d tb (.call ⟨.builtin .max,#[u1,u2],#[T1,T2]⟩) m (.c ((d,isv (max p q)) :: Γ) H m)
 | s3 {α:Type} [Rep α] {l:List α} {q:Int} {m T u u1 u2 tb}:zB Γ u=some (isv l)->zB Γ u1=some (isv q)->zB Γ u2=some (isv q)->Fa (SlB P T (Rep.n α) (Rep.agg α))->O P pin Γ H d tb (.slice T u none (some u1) (some u2)) (asr (decide (0 <= q/\q <= (l.length:Int))) m) (.c ((d,isv (l.take q.toNat)) :: Γ) H m)
 | bi {m T E T2 u1 u2 V R1 R2 q tb}:zB Γ u1=some R1->zB Γ u2=some R2->Bi P T q R1 R2 m V E->O P pin Γ H d tb (.binOp q T u1 u2 T2) m (.c ((d,V) :: Γ) H E)
 | ix {m T u1 u2 R1 R2 s tb}:zB Γ u1=some R1->zB Γ u2=some R2->Ix P T Γ H d R1 R2 m s->O P pin Γ H d tb (.indexAddr T u1 u2) m s
 | is {s:Str} {k:Int} {κ:UInt8->Option β} {T u1 u2 tb}:zB Γ u1=some (isv s)->zB Γ u2=some (isv k)->Fa (zkw P T)->O P pin Γ H d tb (.index T u1 u2) (cal (zq s.b k) κ) (.a λy=>.c ((d,isv y) :: Γ) H (κ y))
 | ln {m T u R q tb}:zB Γ u=some R->Ln P T H R q->O P pin Γ H d tb (.call ⟨.builtin .len,#[u],#[T]⟩) m (.c ((d,isv q) :: Γ) H m)
 | ex {m u R n Rs tb}:zB Γ u=some (zgQ Rs)->Rs[n]?=some R->O P pin Γ H d tb (.extract u n) m (.c ((d,R) :: Γ) H m)
 | nt {m T b u tb}:zB Γ u=some (isv b)->O P pin Γ H d tb (.unOp .not T u) m (.c ((d,isv (!b)) :: Γ) H m)
 | ng {a:Int} {m T u tb}:zB Γ u=some (isv a)->O P pin Γ H d tb (.unOp .neg T u) (ck (-a) m) (.c ((d,isv (-a)) :: Γ) H m)
 | sb {T T2 k} [UnC P T .string] [UnC P T2 (.slice k)] [UnC P k (.int .u8)] {s:Str} {m u}:zB Γ u=some (isv s)->O P pin Γ H d true (.convert T T2 u) (asr (Nat.ble s.b.length 68719476736) m) (.c ((d,isv s.b) :: Γ) H m)
 | cn {T1 T2} {V' W':TypeDesc} [UnC P T1 V'] [UnC P T2 W'] {m E u V R tb}:zB Γ u=some R->Cn P V' W' R m V E->O P pin Γ H d tb (.convert T1 T2 u) m (.c ((d,V) :: Γ) H E)
 | fl {m T u V R n tb}:zB Γ u=some R->Fl P T n R V->O P pin Γ H d tb (.field T u n) m (.c ((d,V) :: Γ) H m)
 | bu {T} {α:Type} {I:Rep α} {x z:α} [@zeA P T α I x] {m xs tb}:Rep.agg α=true->BuG P T Γ x xs.toList z->Fa (zm2 P T)->O P pin Γ H d tb (.build T xs) m (.c ((d,isv z) :: Γ) H m)
 | bl {α:Type} {I:Rep α} {z:List α} {m T n xs}:ElG I Γ 0 xs.toList z->z.length=n->Fa (elB P T (Rep.n α) && (Nat.ble (n * Rep.n α) 16777216 && Nat.ble n 16777216))->O P pin Γ H d true (.buildSlice T n xs) m (.c ((d,zbK none z) :: Γ) H m)
 | vc {α:Type} [Rep α] {l:List α} {k:Int} {Hr m T u u2 t n tb}:zB Γ u=some (zbw t n)->zB Γ u2=some (isv k)->zcw (zI t l) H Hr->EqS n l.length->Fa (SlB P T (Rep.n α) (Rep.agg α))->O P pin Γ H d tb (.slice T u none (some u2) none) (asr (decide (0 <= k/\k <= (l.length:Int))) m) (.c ((d,zbw t (l.take k.toNat).length) :: Γ) (zI t (l.take k.toNat) :: Hr) m)
 | sl {m T E u V R lo hi tb}:zB Γ u=some R->Sc P T Γ lo hi R m V E->O P pin Γ H d tb (.slice T u lo hi none) m (.c ((d,V) :: Γ) H E)
 | ap {m T T2 u1 u2 R1 R2 s}:zB Γ u1=some R1->zB Γ u2=some R2->Ap P T T2 Γ H d R1 R2 m s->O P pin Γ H d true (.call ⟨.builtin .append,#[u1,u2],#[T,T2]⟩) m s
 | mk {T} {α:Type} {I:Rep α} {z:α} {k:Nat} {q:Int} [UnC P T (.slice k)] [@zeA P k α I z] {m u1 u2}:Fa (elB P T (Rep.n α))->zB Γ u1=some (isv q)->zB Γ u2=some (isv q)->O P pin Γ H d true (.makeSlice T u1 u2) (asr (decide (0 <= q/\q <= 68719476736)) m) (.a λt=>.c ((d,zbw t (List.replicate q.toNat z).length) :: Γ) (zI t (List.replicate q.toNat z) :: H) m)
 | mf {m fn xs Rs tb}:OpG Γ xs.toList Rs->O P pin Γ H d tb (.makeFunc (.func fn) #[] xs) m (.c ((d,zdV fn Rs) :: Γ) H m)
 | bx {α:Type} {I:Rep α} {z:α} {m T u R}:zB Γ u=some R->StV R z->O P pin Γ H d true (.box T u) m (.c ((d,zbn z) :: Γ) H m)
 | al {T} {α:Type} {I:Rep α} {x:α} [@zeA P T α I x] {m}:O P pin Γ H d true (.alloc T) m (.a λb=>.c ((d,zwf α b) :: Γ) (zj b x :: H) m)
inductive Sto {β:Type} (P:Program) (Γ:zM) (H:List Ent) (T:TypeId) (i:Nat):VP->VP->Option β->Ot β->Prop
 | O {α:Type} [Rep α] {y z:α} {Hr m R k}:Fa (TyB P T (Rep.n α) (Rep.agg α))->zcw (zj k y) H Hr->StV R z->Sto P Γ H T i (zwf α k) R m (.c ((i,zbn z) :: Γ) Hr m)
 | B {α γ:Type} [Rep α] [Rep γ] {W:Fld α γ} {y z:α} {w:γ} {Hr m R k}:Fa (TyB P T (Rep.n γ) (Rep.agg γ))->zcw (zj k y) H Hr->StV R w->Nz (W.set y w) z->Sto P Γ H T i (zal k W) R m (.c Γ (zj k z :: Hr) m)
 | E {α γ:Type} [Rep α] [Rep γ] {W:Fld α γ} {l:List α} {w:γ} {κ:α->Option β} {Hr t n}:Fa (TyB P T (Rep.n γ) (Rep.agg γ))->zcw (zI t l) H Hr->Sto P Γ H T i (zcO t n W) (isv w) (cal (l[n]?) κ) (.a λy=>.c Γ (zI t (l.set n (W.set y w)) :: Hr) (κ y))
inductive G {β:Type} (r:β):Fu->Jd β->Ctx->zM->List Ent->Kn β->Option β->Prop
  | none {f j c Γ H K}:G r f j c Γ H K none
  | run_go {ι:Type} {J:ι->Option β} {f c Γ H K Y b n i}:Nat.beq Y.len n=b->G r f (.rj b Y) c Γ H K (go (true,n) J i)->G r f (.run Y) c Γ H K (go (true,n) J i)
  | fF_r {α:Type} {I:Rep α} {l:List α} {i:Nat} {f c Γ H Hr K m Y t n}:zcw (zI t l) H Hr->EqS n l.length->G r f (.run Y) c ((i,isv l) :: (i,zbw t n) :: Γ) Hr K m->G r (.f 0 i f) (.run Y) c ((i,zbw t n) :: Γ) H K m
  | fB_r {α γ δ α' γ':Type} {I1:Rep α} {I2:Rep γ} {I3:Rep δ} {I4:Rep α'} {I5:Rep γ'} {x0:α} {W0:Fld α γ} {l:List δ} {y:α'} {W:Fld α' γ'} {i k:Nat} {f c Γ H Hr K m Y t H1}:zcw (zI t l) H H1->zcw (zj k x0) H1 Hr->CvP t l x0 W0 y W->G r f (.run Y) c ((i,zal k W) :: (i,zal k W0) :: Γ) (zj k y :: Hr) K m->G r (.f 1 i f) (.run Y) c ((i,zal k W0) :: Γ) H K m
  | up {R':VP} {i:Nat} {f c Γ H K m Y R}:Cu R R'->G r f (.run Y) c ((i,R') :: (i,R) :: Γ) H K m->G r (.u i f) (.run Y) c ((i,R) :: Γ) H K m
  | run_n {f c Γ H K m ops l d p ty pos af}:Fa (Nat.blt d c.n)->G r f (.op p d ⟨ty,pos,af,none,.rl ops l⟩) c Γ H K m->G r f (.run (.rl ops (⟨some d,p,ty,pos,af,none⟩ :: l))) c Γ H K m
  | kt_c {Γ':zM} {H':List Ent} {m':Option β} {f c Γ H K m Y}:G r f (.run Y) c Γ' H' K m'->G r f (.kt (.c Γ' H' m') Y) c Γ H K m
  | kt_a {α:Type} {A:α->Ot β} {f c Γ H K m Y}:(∀ y,G r f (.kt (A y) Y) c Γ H K m)->G r f (.kt (.a A) Y) c Γ H K m
  | call {P fn} {α:Type} {mc:Option α} {A:AC α} {κ:α->Option β} [zd P fn mc A] {f Γ H K d n w0 S0 M pin xs ats D}:D.X.isT=true->(∀ y,G r f (.cl A fn [] xs.toList y d D.r) ⟨P,n,w0,S0,M,pin⟩ Γ H K (κ y))->G r f (.op (.call ⟨.value (.func fn),xs,ats⟩) d D) ⟨P,n,w0,S0,M,pin⟩ Γ H K (cal mc κ)
  | callc {f c Γ H K m d fn i xs ats Rs D}:zB Γ (.tmp i)=some (zdV fn Rs)->G r f (.cf (.tmp i) ats fn Rs xs d D) c Γ H K m->G r f (.op (.call ⟨.value (.tmp i),xs,ats⟩) d D) c Γ H K m
  | cf {P fn} {α:Type} {mc:Option α} {A:AC α} {κ:α->Option β} [zd P fn mc A] {f Γ H K d u n w0 S0 M pin xs ats Rs D}:D.X.isT=true->(∀ y,G r f (.cl A fn Rs xs.toList y d D.r) ⟨P,n,w0,S0,M,pin⟩ Γ H K (κ y))->G r f (.cf u ats fn Rs xs d D) ⟨P,n,w0,S0,M,pin⟩ Γ H K (cal mc κ)
  | store {f Γ H K m T1 u2 R1 R2 P n w0 S0 M pin i s D}:zB Γ (.tmp i)=some R1->zB Γ u2=some R2->Sto P Γ H T1 i R1 R2 m s->D.X.isT=true->G r f (.kt s D.r) ⟨P,n,w0,S0,M,pin⟩ Γ H K m->G r f (.on (.store T1 (.tmp i) u2) D) ⟨P,n,w0,S0,M,pin⟩ Γ H K m
  | asq {a z:Nat} {f c Γ H K m d p D}:(a=z->G r f (.op p d D) c Γ H K m)->G r f (.op p d D) c Γ H K (asr (decide (a=z)) m)
  | lpn {α γ:Type} {I:Rep α} {I':Rep γ} {W:Fld α γ} {y:α} {k i:Nat} {e:Obj} {f Γ H K m d T1 u P n w0 S0 M pin D}:zB Γ u=some (zbn (zfY.mk k))->zcg Γ i=some (zdI e k W y)->Fa (TyB P T1 (Rep.n zfY) (Rep.agg zfY))->G r f (.run D.r) ⟨P,n,w0,S0,M,pin⟩ ((d,zdI e k (Fld.id α) y) :: Γ) H K m->G r (.g i f) (.op (.load T1 u) d D) ⟨P,n,w0,S0,M,pin⟩ Γ H K m
  | bv {α:Type} {I:Rep α} {z:List α} {f Γ H K m d T1 P n w0 S0 M pin xs nn D}:ElG I Γ 0 xs.toList z->z.length=nn->Fa (elB P T1 (Rep.n α) && (Nat.ble (nn * Rep.n α) 16777216 && Nat.ble nn 16777216))->D.X.isT=true->(∀ t,G r f (.run D.r) ⟨P,n,w0,S0,M,pin⟩ ((d,zbw t z.length) :: Γ) (zI t z :: H) K m)->G r (.q 3 f) (.op (.buildSlice T1 nn xs) d D) ⟨P,n,w0,S0,M,pin⟩ Γ H K m
  | al1 {T1 P} {α:Type} {I:Rep α} {x:α} [@zeA P T1 α I x] {f Γ H K m d n w0 S0 M pin D}:D.X.isT=true->(∀ b,G r f (.run D.r) ⟨P,n,w0,S0,M,pin⟩ ((d,zal b (Fld.id α)) :: Γ) (zj b x :: H) K m)->G r (.q 1 f) (.op (.alloc T1) d D) ⟨P,n,w0,S0,M,pin⟩ Γ H K m
  | al2 {T1 P} {α:Type} {I:Rep α} {x:α} [@zkr P T1 α I x] {f Γ H K m d n w0 S0 M pin D}:D.X.isT=true->(∀ b,G r f (.run D.r) ⟨P,n,w0,S0,M,pin⟩ ((d,zal b (Fld.id α)) :: Γ) (zj b x :: H) K m)->G r (.q 2 f) (.op (.alloc T1) d D) ⟨P,n,w0,S0,M,pin⟩ Γ H K m
  | al0 {f Γ H K m d T1 P n w0 S0 M pin s D}:O P pin Γ H d D.X.isT (.alloc T1) m s->G r f (.kt s D.r) ⟨P,n,w0,S0,M,pin⟩ Γ H K m->G r (.q 0 f) (.op (.alloc T1) d D) ⟨P,n,w0,S0,M,pin⟩ Γ H K m
  | bx0 {f Γ H K m d T1 u P n w0 S0 M pin s D}:O P pin Γ H d D.X.isT (.box T1 u) m s->G r f (.kt s D.r) ⟨P,n,w0,S0,M,pin⟩ Γ H K m->G r (.q 0 f) (.op (.box T1 u) d D) ⟨P,n,w0,S0,M,pin⟩ Γ H K m
  | bx1 {α:Type} {I:Rep α} {z:α} {f c Γ H K m d T1 u R D}:D.X.isT=true->zB Γ u=some R->StV R z->(∀ b,G r f (.run D.r) c ((d,zal b (Fld.id α)) :: Γ) (zj b z :: H) K m)->G r (.q 1 f) (.op (.box T1 u) d D) c Γ H K m
  | bu0 {f Γ H K m d T1 P n w0 S0 M pin xs s D}:O P pin Γ H d D.X.isT (.build T1 xs) m s->G r f (.kt s D.r) ⟨P,n,w0,S0,M,pin⟩ Γ H K m->G r (.q 0 f) (.op (.build T1 xs) d D) ⟨P,n,w0,S0,M,pin⟩ Γ H K m
  | bu2 {T1 P} {α:Type} {I:Rep α} {x z:α} [@zkr P T1 α I x] {f Γ H K m d n w0 S0 M pin xs D}:Rep.agg α=true->BuG P T1 Γ x xs.toList z->Fa (zm2 P T1)->G r f (.run D.r) ⟨P,n,w0,S0,M,pin⟩ ((d,isv z) :: Γ) H K m->G r (.q 2 f) (.op (.build T1 xs) d D) ⟨P,n,w0,S0,M,pin⟩ Γ H K m
  | op {f Γ H K m d p P n w0 S0 M pin s D}:O P pin Γ H d D.X.isT p m s->G r f (.kt s D.r) ⟨P,n,w0,S0,M,pin⟩ Γ H K m->G r f (.op p d D) ⟨P,n,w0,S0,M,pin⟩ Γ H K m
  | run_0 {f c Γ H K m ops l p ty pos af}:G r f (.on p ⟨ty,pos,af,none,.rl ops l⟩) c Γ H K m->G r f (.run (.rl ops (⟨none,p,ty,pos,af,none⟩ :: l))) c Γ H K m
  | run_g {k:Nat × Bool} {f c Γ H K m ops l p ty pos af V s}:gl ops k.1 Γ=some V->G r f (.gd V ⟨s,p,ty,pos,af,some k⟩ (.rl ops l)) c Γ H K m->G r f (.run (.rl ops (⟨s,p,ty,pos,af,some k⟩ :: l))) c Γ H K m
  | run_e {f c Γ H K m ops}:G r f .fin c Γ H K m->G r f (.run (.rl ops [])) c Γ H K m
  | rj_f {f c Γ H K m Y}:G r f (.ru Y) c Γ H K m->G r f (.rj false Y) c Γ H K m
  | ru_l {f c Γ H K m ops l o}:G r f (.pe o (.rl ops l)) c Γ H K m->G r f (.ru (.rl ops (o :: l))) c Γ H K m
  | pe_n {f c Γ H K m X d p ty pos af}:Fa (Nat.blt d c.n)->G r f (.op p d ⟨ty,pos,af,none,X⟩) c Γ H K m->G r f (.pe ⟨some d,p,ty,pos,af,none⟩ X) c Γ H K m
  | pe_g {k:Nat × Bool} {f c Γ H K m X p ty pos af V s}:gl X.ops k.1 Γ=some V->G r f (.gd V ⟨s,p,ty,pos,af,some k⟩ X) c Γ H K m->G r f (.pe ⟨s,p,ty,pos,af,some k⟩ X) c Γ H K m
  | pe_0 {f c Γ H K m X p ty pos af}:G r f (.on p ⟨ty,pos,af,none,X⟩) c Γ H K m->G r f (.pe ⟨none,p,ty,pos,af,none⟩ X) c Γ H K m
  | gd_u {k:Nat × Bool} {f c Γ H K m X d p ty pos af}:Fa (Nat.blt d c.n)->G r f (.run X.af) c ((d,zem) :: Γ) H K m->G r f (.gd zem ⟨some d,p,ty,pos,af,some k⟩ X) c Γ H K m
  | gd_b {f c Γ H K m o X b t}:zl8 b t->G r f (.gt t b o X) c Γ H K m->G r f (.gd (isv b) o X) c Γ H K m
  | gt_t {f c Γ H K m X d jj b p ty pos af}:Fa (Nat.blt d c.n)->G r f (.op p d ⟨ty,pos,af,some (jj,true),X⟩) c Γ H K m->G r f (.gt .y b ⟨some d,p,ty,pos,af,some (jj,true)⟩ X) c Γ H K m
  | gt_f {f c Γ H K m X d jj b p ty pos af}:Fa (Nat.blt d c.n)->G r f (.op p d ⟨ty,pos,af,some (jj,false),X⟩) c Γ H K m->G r f (.gt .n b ⟨some d,p,ty,pos,af,some (jj,false)⟩ X) c Γ H K m
  | gt_pt {f c Γ H K m X d jj b p ty pos af}:Fa (Nat.blt d c.n)->G r f (.run X.af) c ((d,zem) :: Γ) H K m->G r f (.gt .y b ⟨some d,p,ty,pos,af,some (jj,false)⟩ X) c Γ H K m
  | gt_pf {f c Γ H K m X d jj b p ty pos af}:Fa (Nat.blt d c.n)->G r f (.run X.af) c ((d,zem) :: Γ) H K m->G r f (.gt .n b ⟨some d,p,ty,pos,af,some (jj,true)⟩ X) c Γ H K m
  | gt_ua {c Γ H K T E o X b}:(b=true->G r .a (.pe o X) c Γ H K T)->(b=false->G r .a (.pe o X) c Γ H K E)->G r .a (.gt .u b o X) c Γ H K (br b T E)
  | gt_ub {fx fy c Γ H K T E o X b}:(b=true->G r fx (.pe o X) c Γ H K T)->(b=false->G r fy (.pe o X) c Γ H K E)->G r (.b fx fy) (.gt .u b o X) c Γ H K (br b T E)
  | gt_jl {ι:Type} [Rep ι] {B:(ι->Option β)->Option β} {R:ι->Option β} {fx fy c Γ H K ops l o d b n}:(∀ i,G r fx (.run (.rl ops (zsY n l))) c ((d,isv i) :: Γ) H K (R i)) ->
      (∀ J:ι->Option β,AJ (go (true,n) J) (.v (λi=>[(d,isv i)]) λ_=>[]) (.run (.rl ops (zsY n l))) c r K Γ H->G r fy (.pe o (.rl ops l)) c Γ H K (B (go (true,n) J)))->G r (.o n d fx fy) (.gt .u b o (.rl ops l)) c Γ H K (jp B R)
  | gt_jd {ι:Type} [Rep ι] {B:(ι->Option β)->Option β} {R:ι->Option β} {i:Nat} {fx fy c Γ H K ops π o d b n}:(∀ i,G r fx (.run (.rd ops (zng n π))) c ((d,isv i) :: Γ) H K (R i)) ->
      (∀ J:ι->Option β,AJ (go (true,n) J) (.v (λi=>[(d,isv i)]) λ_=>[]) (.run (.rd ops (zng n π))) c r K Γ H->G r fy (.pe o (.rv ops i π)) c Γ H K (B (go (true,n) J)))->ops[i]?=some o->G r (.o n d fx fy) (.gt .u b o (.rv ops i π)) c Γ H K (jp B R)
  | gt_jt {ι:Type} [Rep ι] {B:(ι->Option β)->Option β} {R:ι->Option β} {i:Nat} {fx fy c Γ H K ops π o d b n}:(∀ i,G r fx (.run (.rd ops (zng n π))) c ((d,isv i) :: Γ) H K (R i)) ->
      (∀ J:ι->Option β,AJ (go (true,n) J) (.v (λi=>[(d,isv i)]) λ_=>[]) (.run (.rd ops (zng n π))) c r K Γ H->G r fy (.pe o (.rt ops i π)) c Γ H K (B (go (true,n) J)))->ops[i]?=some o->G r (.o n d fx fy) (.gt .u b o (.rt ops i π)) c Γ H K (jp B R)
  | gt_jx {A:Ax} {fx fy c Γ H K o X b R n B}:G r .a (.jx A n fx fy (.pe o X)) c Γ H K (jp B R)->G r (.j n A fx fy) (.gt .u b o X) c Γ H K (jp B R)
  | cnd_x {A:Ax} {fx fy c Γ H K x y u R n B}:G r .a (.jx A n fx fy (.wp (.cond u x y))) c Γ H K (jp B R)->G r (.j n A fx fy) (.wp (.cond u x y)) c Γ H K (jp B R)
  | loo_x {A:Ax} {f c Γ H K x i F}:G r .a (.jx A 0 f .a (.wp (.loop x))) c Γ H K (lp F i)->G r (.k A f) (.wp (.loop x)) c Γ H K (lp F i)
  | jx_b {A:Nat->Ax} {α:Type} {I:Rep α} {y:α} {k:Nat} {f fx fy j c Γ H K m n q}:H[k]?=some (zj q y)->G r f (.jx (A q) n fx fy j) c Γ H K m->G r f (.jx (.b k A) n fx fy j) c Γ H K m
  | jx_t {A:Tok->Ax} {k:Nat} {f fx fy j c Γ H K m n q}:H[k]?=some (zO q)->G r f (.jx (A q) n fx fy j) c Γ H K m->G r f (.jx (.t k A) n fx fy j) c Γ H K m
  | jx_w {A:Vt->Ax} {α:Type} {I:Rep α} {z:List α} {k:Nat} {f fx fy j c Γ H K m n q}:H[k]?=some (zI q z)->G r f (.jx (A q) n fx fy j) c Γ H K m->G r f (.jx (.w k A) n fx fy j) c Γ H K m
  | jm_l {ks:List Bool} {ι:Type} {A:JA ι} {B:(ι->Option β)->Option β} {R:ι->Option β} {f fx fy c Γ H Hr K ops l o n}:Dr ks H Hr->G r fx (.jk A (.run (.rl ops (zsY n l))) R) c Γ Hr K (jp B R) ->
      (∀ J:ι->Option β,AJ (go (true,n) J) A (.run (.rl ops (zsY n l))) c r K Γ Hr->G r fy (.pe o (.rl ops l)) c Γ H K (B (go (true,n) J)))->G r f (.jx (.m ks A) n fx fy (.pe o (.rl ops l))) c Γ H K (jp B R)
  | jm_v {ks:List Bool} {ι:Type} {A:JA ι} {B:(ι->Option β)->Option β} {R:ι->Option β} {i:Nat} {f fx fy c Γ H Hr K ops π o n}:Dr ks H Hr->G r fx (.jk A (.run (.rd ops (zng n π))) R) c Γ Hr K (jp B R) ->
      (∀ J:ι->Option β,AJ (go (true,n) J) A (.run (.rd ops (zng n π))) c r K Γ Hr->G r fy (.pe o (.rv ops i π)) c Γ H K (B (go (true,n) J)))->G r f (.jx (.m ks A) n fx fy (.pe o (.rv ops i π))) c Γ H K (jp B R)
  | jm_t {ks:List Bool} {ι:Type} {A:JA ι} {B:(ι->Option β)->Option β} {R:ι->Option β} {i:Nat} {f fx fy c Γ H Hr K ops π o n}:Dr ks H Hr->G r fx (.jk A (.run (.rd ops (zng n π))) R) c Γ Hr K (jp B R) ->
      (∀ J:ι->Option β,AJ (go (true,n) J) A (.run (.rd ops (zng n π))) c r K Γ Hr->G r fy (.pe o (.rt ops i π)) c Γ H K (B (go (true,n) J)))->G r f (.jx (.m ks A) n fx fy (.pe o (.rt ops i π))) c Γ H K (jp B R)
  | jm_k {ks:List Bool} {ι:Type} {A:JA ι} {F:(ι->Option β)->ι->Option β} {i:ι} {f fx fy c Γ H Hr K x n}:Dr ks H Hr->G r f (.ak A i (.wp (.loop x)) Γ Hr) c Γ H K (lp F i) ->
      (∀ (L:ι->Option β) (Q':Exit->Act->World->Prop),AJ (go (false,K.len + 1) L) A .fin c r (.fv K.len Q') Γ Hr->LK c r Q' K->G r fx (.jk A (.wp x) (F (go (false,K.len + 1) L))) c Γ Hr (.fv K.len Q') (lp F i))->G r f (.jx (.m ks A) n fx fy (.wp (.loop x))) c Γ H K (lp F i)
  | jm_w {ks:List Bool} {ι:Type} {A:JA ι} {B:(ι->Option β)->Option β} {R:ι->Option β} {f fx fy c Γ H Hr K x n z}:Dr ks H Hr->G r fx (.jk A (.wp z) R) c Γ Hr K (jp B R) ->
      (∀ J:ι->Option β,AJ (go (false,K.len + 1) J) A .fin c r (.nxt z K) Γ Hr->G r fy (.wp x) c Γ H (.nxt z K) (B (go (false,K.len + 1) J)))->G r f (.jx (.m ks A) n fx fy (.wp x)) c Γ H (.nxt z K) (jp B R)
  | rj_t {ι:Type} {J:ι->Option β} {A:JA ι} {nn:Bool × Nat} {f c Γ H Hr K Y Γ0 i}:AJ (go nn J) A (.run Y) c r K Γ0 Hr->G r f (.ak A i (.run Y) Γ0 Hr) c Γ H K (go nn J i)->G r f (.rj true Y) c Γ H K (go nn J i)
  | cl_m {α:Type} {A:α->AP} {f c Γ H Hr K m Y d fn a xs as Hc Rs}:OpC Γ Rs xs as->TX H Hc Hr->G r f (.ps (A a) d Y Hr) c Γ H K m->G r f (.cl (.mk as Hc A) fn Rs xs a d Y) c Γ H K m
  | ps_m {H':List Ent} {f c Γ H Hr K m Y d Rs Hs}:Cl (Hs ++ Hr) H->G r f (.run Y) c ((d,ziQ Rs) :: Γ) H K m->G r f (.ps (.mk Rs Hs) d Y Hr) c Γ H' K m
  | seq {f c Γ H K m x y}:G r f (.wp x) c Γ H (.nxt y K) m->G r f (.wp (.seq x y)) c Γ H K m
  | blk_x {A:Ax} {fx fy c Γ H K x id R n z B}:G r .a (.jx A n fx fy (.wp (.block id x))) c Γ H (.nxt z K) (jp B R)->G r (.w [] (.j n A fx fy) .a) (.wp (.block id x)) c Γ H (.nxt z K) (jp B R)
  | reg_x {A:Ax} {fx fy c Γ H K id ops R n B}:G r .a (.jx A n fx fy (.wp (.region id ops true))) c Γ H K (jp B R)->G r (.v [] (.j n A fx fy) .a) (.wp (.region id ops true)) c Γ H K (jp B R)
  | fB_w {α γ δ α' γ':Type} {I1:Rep α} {I2:Rep γ} {I3:Rep δ} {I4:Rep α'} {I5:Rep γ'} {x0:α} {W0:Fld α γ} {l:List δ} {y:α'} {W:Fld α' γ'} {i k:Nat} {f c Γ H Hr K m id ops b t H1}:zcg Γ i=some (zal k W0)->zcw (zI t l) H H1->zcw (zj k x0) H1 Hr->CvP t l x0 W0 y W->G r f (.wp (.region id ops b)) c ((i,zal k W) :: Γ) (zj k y :: Hr) K m->G r (.f 2 i f) (.wp (.region id ops b)) c Γ H K m
  | reg {f c Γ H K m id ops}:G r f (.run (.rl ops ops.toList)) c Γ H K m->G r f (.wp (.region id ops false)) c Γ H K m
  | cnd_a {c Γ H K T E x y b u}:zB Γ u=some (isv b)->G r .a (.wp x) c Γ H K T->G r .a (.wp y) c Γ H K E->G r .a (.wp (.cond u x y)) c Γ H K (br b T E)
  | cnd_b {fx fy c Γ H K T E x y b u}:zB Γ u=some (isv b)->G r fx (.wp x) c Γ H K T->G r fy (.wp y) c Γ H K E->G r (.b fx fy) (.wp (.cond u x y)) c Γ H K (br b T E)
  | fin_go {ι:Type} {J:ι->Option β} {f c Γ H K b n i}:Nat.beq K.len n=b->G r f (.fj b) c Γ H K (go (false,n) J i)->G r f .fin c Γ H K (go (false,n) J i)
  | fin_n {f c Γ H K m y}:G r f (.wp y) c Γ H K m->G r f .fin c Γ H (.nxt y K) m
  | fin_any {f c Γ H K m}:G r f .fi c Γ H K m->G r f .fin c Γ H K m
  | fi_n {f c Γ H K m y}:G r f (.wp y) c Γ H K m->G r f .fi c Γ H (.nxt y K) m
  | skp {f c Γ H K m}:G r f .fin c Γ H K m->G r f (.wp .skip) c Γ H K m
  | rtn {f c Γ H K m}:G r f .ret c Γ H K m->G r f (.wp .ret) c Γ H K m
  | re_n {f c Γ H K m y}:G r f .ret c Γ H K m->G r f .ret c Γ H (.nxt y K) m
  | re_b {f c Γ H K m id}:G r f .ret c Γ H K m->G r f .ret c Γ H (.blk id K) m
  | re_l {f c Γ H K m n Q'}:LK c r Q' K->G r f .ret c Γ H K m->G r f .ret c Γ H (.fv n Q') m
  | re_p {e:β} {f Γ H P n w0 S0 fn A H0}:G r f (.rp (A e) false) ⟨P,n,w0,S0,zbP H0,[]⟩ Γ H (.po fn w0 S0 H0 A) (some e)->G r f .ret ⟨P,n,w0,S0,zbP H0,[]⟩ Γ H (.po fn w0 S0 H0 A) (some e)
  | rp_m {f Γ H Hr m b P n w0 S0 fn A Rs Hs H0}:ReG P Γ H fn.results.toList Rs->TX H Hs Hr->G r f (.rp (.mk Rs Hs) b) ⟨P,n,w0,S0,zbP H0,[]⟩ Γ H (.po fn w0 S0 H0 A) m
  | fj_f {f c Γ H K m}:G r f .fi c Γ H K m->G r f (.fj false) c Γ H K m
  | fj_t {ι:Type} {J:ι->Option β} {A:JA ι} {nn:Bool × Nat} {f c Γ H Hr K Γ0 i}:AJ (go nn J) A .fin c r K Γ0 Hr->G r f (.ak A i .fin Γ0 Hr) c Γ H K (go nn J i)->G r f (.fj true) c Γ H K (go nn J i)
  | jk_v {ι:Type} {mod:ι->zM} {R:ι->Option β} {Hm:ι->List Ent} {f j c Γ H K m}:(∀ i,G r f j c (mod i ++ Γ) (Hm i ++ H) K (R i))->G r f (.jk (.v mod Hm) j R) c Γ H K m
  | jk_t {ι:Type} {A:Tok->JA ι} {R:ι->Option β} {f j c Γ H K m}:(∀ i,G r f (.jk (A i) j R) c Γ H K m)->G r f (.jk (.t A) j R) c Γ H K m
  | jk_w {ι:Type} {A:Vt->JA ι} {R:ι->Option β} {f j c Γ H K m}:(∀ i,G r f (.jk (A i) j R) c Γ H K m)->G r f (.jk (.w A) j R) c Γ H K m
  | jk_b {ι:Type} {A:Nat->JA ι} {R:ι->Option β} {f j c Γ H K m}:(∀ i,G r f (.jk (A i) j R) c Γ H K m)->G r f (.jk (.b A) j R) c Γ H K m
  | ak_v {ι:Type} {mod:ι->zM} {Hm:ι->List Ent} {i:ι} {f j c Γ H Hr K m Γ0 H0}:Γ.drop (Γ.length - Γ0.length)=Γ0->Fa (zqK (Γ.take (Γ.length - Γ0.length)) ((mod i).map (·.1)) Γ0)->Md Γ (mod i)->TX H (Hm i ++ Hr) H0->G r f (.ak (.v mod Hm) i j Γ0 Hr) c Γ H K m
  | ak_t {ι:Type} {A:Tok->JA ι} {i:ι} {f j c Γ H Hr K m k Γ0}:G r f (.ak (A k) i j Γ0 Hr) c Γ H K m->G r f (.ak (.t A) i j Γ0 Hr) c Γ H K m
  | ak_w {ι:Type} {A:Vt->JA ι} {i:ι} {f j c Γ H Hr K m k Γ0}:G r f (.ak (A k) i j Γ0 Hr) c Γ H K m->G r f (.ak (.w A) i j Γ0 Hr) c Γ H K m
  | ak_b {ι:Type} {A:Nat->JA ι} {i:ι} {f j c Γ H Hr K m k Γ0}:G r f (.ak (A k) i j Γ0 Hr) c Γ H K m->G r f (.ak (.b A) i j Γ0 Hr) c Γ H K m
  | cl_t {α:Type} {A:Tok->AC α} {f c Γ H K m Y d k fn a xs Rs}:G r f (.cl (A k) fn Rs xs a d Y) c Γ H K m->G r f (.cl (.t A) fn Rs xs a d Y) c Γ H K m
  | cl_v {α:Type} {A:Vt->AC α} {f c Γ H K m Y d k fn a xs Rs}:G r f (.cl (A k) fn Rs xs a d Y) c Γ H K m->G r f (.cl (.v A) fn Rs xs a d Y) c Γ H K m
  | cl_b {α:Type} {A:Nat->AC α} {f c Γ H K m Y d k fn a xs Rs}:G r f (.cl (A k) fn Rs xs a d Y) c Γ H K m->G r f (.cl (.b A) fn Rs xs a d Y) c Γ H K m
  | ps_t {A:Tok->AP} {f c Γ H Hr K m Y d}:(∀ k,G r f (.ps (A k) d Y Hr) c Γ H K m)->G r f (.ps (.t A) d Y Hr) c Γ H K m
  | ps_v {A:Vt->AP} {f c Γ H Hr K m Y d}:(∀ k,G r f (.ps (A k) d Y Hr) c Γ H K m)->G r f (.ps (.v A) d Y Hr) c Γ H K m
  | ps_b {A:Nat->AP} {f c Γ H Hr K m Y d}:(∀ k,G r f (.ps (A k) d Y Hr) c Γ H K m)->G r f (.ps (.b A) d Y Hr) c Γ H K m
  | fF_t {α:Type} {I:Rep α} {l:List α} {i:Nat} {f c Γ H Hr K m t n}:zcg Γ i=some (zbw t n)->zcw (zI t l) H Hr->EqS n l.length->G r f .ret c ((i,isv l) :: Γ) Hr K m->G r (.f 0 i f) .ret c Γ H K m
  | run_2 {i:Nat} {fx fy c Γ H K m ops π ρ}:G r fx (.run (.rd ops (.t i π))) c Γ H K m->G r fy (.run (.rd ops ρ)) c Γ H K m->G r (.b fx fy) (.run (.rd ops (.alt i π ρ))) c Γ H K m
  | ru_2 {i:Nat} {fx fy c Γ H K m ops π ρ}:G r fx (.ru (.rd ops (.t i π))) c Γ H K m->G r fy (.ru (.rd ops ρ)) c Γ H K m->G r (.b fx fy) (.ru (.rd ops (.alt i π ρ))) c Γ H K m
  | run_v {i:Nat} {f c Γ H K m ops π o}:ops[i]?=some o->G r f (.pe o (.rv ops i π)) c Γ H K m->G r f (.run (.rd ops (.v i π))) c Γ H K m
  | run_t {i:Nat} {f c Γ H K m ops π o}:ops[i]?=some o->G r f (.pe o (.rt ops i π)) c Γ H K m->G r f (.run (.rd ops (.t i π))) c Γ H K m
  | ru_v {i:Nat} {f c Γ H K m ops π o}:ops[i]?=some o->G r f (.pe o (.rv ops i π)) c Γ H K m->G r f (.ru (.rd ops (.v i π))) c Γ H K m
  | ru_t {i:Nat} {f c Γ H K m ops π o}:ops[i]?=some o->G r f (.pe o (.rt ops i π)) c Γ H K m->G r f (.ru (.rd ops (.t i π))) c Γ H K m
  | run_d {f c Γ H K m ops}:G r f .fin c Γ H K m->G r f (.run (.rd ops .nil)) c Γ H K m
  | pin {α γ:Type} {I:Rep α} {I':Rep γ} {i k:Nat} {y:α} {W:Fld α γ} {f Γ H Hr K m id ops b P n w0 S0 M pin}:zcg Γ i=some (zal k W)->zcw (zj k y) H Hr->(∀ o,Nd k pin->G r f (.wp (.region id ops b)) ⟨P,n,w0,S0,M,(k,o) :: pin⟩ ((i,zdI o k W y) :: Γ) Hr (.un i K) m)->G r (.p i f) (.wp (.region id ops b)) ⟨P,n,w0,S0,M,pin⟩ Γ H K m
  | regE {f c Γ H K m id ops π}:Fa (c.P.follows .mixedOrders)->Fa (Region.noSelect ops && (π.len == ops.size) && zgz ops true π (Array.replicate ops.size false))->G r f (.run (.rd ops π)) c Γ H K m->G r (.e π f) (.wp (.region id ops true)) c Γ H K m
  | regD {f c Γ H K m id ops n}:Fa (c.P.follows .mixedOrders)->Fa (Region.noSelect ops && ((zwj n 0 ops.toList).len == ops.size) && zgz ops true (zwj n 0 ops.toList) (Array.replicate ops.size false))->G r f (.run (.rd ops (zwj n 0 ops.toList))) c Γ H K m->G r (.d n f) (.wp (.region id ops true)) c Γ H K m
  | fi_u {α γ:Type} {I:Rep α} {I':Rep γ} {i k:Nat} {y:α} {W:Fld α γ} {o:Obj} {f Γ H K m P n w0 S0 M pin}:zcg Γ i=some (zdI o k W y)->Nd k pin->G r f .fin ⟨P,n,w0,S0,M,pin⟩ ((i,zal k W) :: Γ) (zj k y :: H) K m->G r f .fi ⟨P,n,w0,S0,M,(k,o) :: pin⟩ Γ H (.un i K) m
  | ext {f c Γ H K m id}:G r f (.exi id) c Γ H K m->G r f (.wp (.exit id)) c Γ H K m
  | blk_j {ds} {ι:Type} {mod:ι->zM} [SlC ds ι mod] {B:(ι->Option β)->Option β} {R:ι->Option β} {fx fy c Γ H K x id z}:G r fx (.jk (.v mod λ_=>[]) (.wp z) R) c Γ H K (jp B R) ->
      (∀ J:ι->Option β,AJ (go (false,K.len + 1) J) (.v mod λ_=>[]) .fin c r (.nxt z K) Γ H->G r fy (.wp (.block id x)) c Γ H (.nxt z K) (B (go (false,K.len + 1) J)))->G r (.v ds fx fy) (.wp (.block id x)) c Γ H (.nxt z K) (jp B R)
  | cnd_j {ds} {ι:Type} {mod:ι->zM} [SlC ds ι mod] {B:(ι->Option β)->Option β} {R:ι->Option β} {fx fy c Γ H K x y u z}:G r fx (.jk (.v mod λ_=>[]) (.wp z) R) c Γ H K (jp B R) ->
      (∀ J:ι->Option β,AJ (go (false,K.len + 1) J) (.v mod λ_=>[]) .fin c r (.nxt z K) Γ H->G r fy (.wp (.cond u x y)) c Γ H (.nxt z K) (B (go (false,K.len + 1) J)))->G r (.w ds fx fy) (.wp (.cond u x y)) c Γ H (.nxt z K) (jp B R)
  | blk {f c Γ H K m x id}:G r f (.wp x) c Γ H (.blk id K) m->G r f (.wp (.block id x)) c Γ H K m
  | loo {ds} {ι:Type} {mod:ι->zM} [SlC ds ι mod] {F:(ι->Option β)->ι->Option β} {i0:ι} {f c Γ H K x}:Md Γ (mod i0)->(∀ (L:ι->Option β) (i:ι) (Q':Exit->Act->World->Prop),AJ (go (false,K.len + 1) L) (.v mod λ_=>[]) .fin c r (.fv K.len Q') Γ H->LK c r Q' K ->
      G r f (.wp x) c (mod i ++ Γ) H (.fv K.len Q') (F (go (false,K.len + 1) L) i))->G r (.l ds f) (.wp (.loop x)) c Γ H K (lp F i0)
  | fi_b {f c Γ H K m id}:G r f .fin c Γ H K m->G r f .fi c Γ H (.blk id K) m
  | fi_p {e:β} {f Γ H P n w0 S0 fn A H0}:G r f (.rp (A e) true) ⟨P,n,w0,S0,zbP H0,[]⟩ Γ H (.po fn w0 S0 H0 A) (some e)->G r f .fi ⟨P,n,w0,S0,zbP H0,[]⟩ Γ H (.po fn w0 S0 H0 A) (some e)
  | ex_n {f c Γ H K m y id}:G r f (.exi id) c Γ H K m->G r f (.exi id) c Γ H (.nxt y K) m
  | ex_b {f c Γ H K m id}:G r f .fin c Γ H K m->G r f (.exi id) c Γ H (.blk id K) m
  | ex_p {f c Γ H K m id id'}:Nat.beq id id'=false->G r f (.exi id) c Γ H K m->G r f (.exi id) c Γ H (.blk id' K) m
  | ex_l {f c Γ H K m id n Q'}:LK c r Q' K->G r f (.exi id) c Γ H K m->G r f (.exi id) c Γ H (.fv n Q') m
  | rp_t {A:Tok->AP} {f c Γ H K m b k}:G r f (.rp (A k) b) c Γ H K m->G r f (.rp (.t A) b) c Γ H K m
  | rp_v {A:Vt->AP} {f c Γ H K m b k}:G r f (.rp (A k) b) c Γ H K m->G r f (.rp (.v A) b) c Γ H K m
  | rp_b {A:Nat->AP} {f c Γ H K m b k}:G r f (.rp (A k) b) c Γ H K m->G r f (.rp (.b A) b) c Γ H K m

section
variable {β:Type} {r:β} {f f' fx fy:Fu} {j:Jd β} {c:Ctx} {Γ:zM} {H Hr:List Ent} {K:Kn β} {m T E:Option β} {x y:Code} {id id':Nat} {ops:Array Oper} {l:List Oper} {π ρ:Ord} {o:Oper} {X:Cx} {Y:Rx} {D:Dx}
 {d dj jj:Nat} {b want:Bool} {p:Op} {ty T1 T2:TypeId} {pos:String} {af:Array Edge} {g:Option (Nat × Bool)} {u u1 u2 u3:Operand} {V R R1 R2:VP} {t:Tr}
theorem Dx.opV {c:Ctx} {Q:Exit->Act->World->Prop} (h:OpV c (D.o p d) ⟨Γ,H⟩ R) (hd:Nat.blt d c.n=true) (k:D.r.p c Q ⟨(d,R) :: Γ,H⟩):D.X.opP c Q (D.o p d) ⟨Γ,H⟩:=by
 obtain ⟨ty,pos,af,g,X⟩:=D
 cases X with
 | rl ops l=>exact OpV.t h k hd
 | rt ops i π=>exact OpV.t h k hd
 | rv ops i π=>exact ⟨d,R,rfl,hd,h,k⟩
theorem Dx.opT {c:Ctx} {Q:Exit->Act->World->Prop} (hX:D.X.isT=true) (h:∀ K:St->Prop,(∀ σ',D.r.p c Q σ'->K σ')->OpT c o ⟨Γ,H⟩ K):D.X.opP c Q o ⟨Γ,H⟩:=by
 obtain ⟨ty,pos,af,g,X⟩:=D
 cases X with
 | rl ops l=>exact h _ λ_ h=>h
 | rt ops i π=>exact h _ λ_ h=>h
 | rv ops i π=>cases hX
theorem zwp {c:Ctx} {Q:Exit->Act->World->Prop} (hg:o.guard=none) (h:X.opP c Q o ⟨Γ,H⟩):X.pend c Q o ⟨Γ,H⟩:=by
 cases X with
 | rl ops l=>exact zmo hg h
 | rt ops i π=>exact λho=>zAc ho hg h
 | rv ops i π =>
  intro ho
  obtain ⟨d,R,h1,h2,h3,h4⟩:=h
  obtain ⟨o1,op,ty,pos,af,g⟩:=o
  cases h1;cases hg
  exact zbe ho h3 h4 h2
theorem zzk {c:Ctx} {Q:Exit->Act->World->Prop} (hb:b=want) (hg:o.guard=some (jj,want)) (hv:gvl X.ops o Γ=some (isv b)) (h:X.opP c Q o ⟨Γ,H⟩):X.pend c Q o ⟨Γ,H⟩:=by
 have hv':gl X.ops jj Γ=some (isv b):=by unfold gvl at hv;rw [hg] at hv;exact hv
 obtain ⟨dj,h1,h2⟩:=zjS hv'
 cases X with
 | rl ops l=>exact zqh hg h1 h2 hb h
 | rt ops i π=>exact λho=>zyG ho hg h1 h2 hb h
 | rv ops i π =>
  intro ho
  obtain ⟨d,R,e1,e2,e3,e4⟩:=h
  obtain ⟨o1,op,ty,pos,af,g⟩:=o
  cases e1;cases hg
  exact zyt ho h1 h2 hb e3 e4 e2
theorem zzc {c:Ctx} {Q:Exit->Act->World->Prop} (hb:b=!want) (hd:Nat.blt d c.n=true) (hv:gvl X.ops ⟨some d,p,ty,pos,af,some (jj,want)⟩ Γ=some (isv b)) (h:X.af.p c Q ⟨(d,zem) :: Γ,H⟩):X.pend c Q ⟨some d,p,ty,pos,af,some (jj,want)⟩ ⟨Γ,H⟩:=by
 obtain ⟨dj,h1,h2⟩:=zjS hv
 cases X with
 | rl ops l=>exact ztG h1 h2 hb h hd
 | rt ops i π=>exact λho=>zix ho h1 h2 hb h hd
 | rv ops i π=>exact λho=>zrt ho h1 h2 hb h hd
theorem zy3 {k:Nat × Bool} {c:Ctx} {Q:Exit->Act->World->Prop} (hd:Nat.blt d c.n=true) (hv:gvl X.ops ⟨some d,p,ty,pos,af,some k⟩ Γ=some zem) (h:X.af.p c Q ⟨(d,zem) :: Γ,H⟩):X.pend c Q ⟨some d,p,ty,pos,af,some k⟩ ⟨Γ,H⟩:=by
 obtain ⟨dj,h1,h2⟩:=zjS (j:=k.1) hv
 cases X with
 | rl ops l=>exact zv4 (j:=k.1) (want:=k.2) h1 h2 h hd
 | rt ops i π=>exact λho=>zuz (j:=k.1) (want:=k.2) ho h1 h2 h hd
 | rv ops i π=>exact λho=>zuL (j:=k.1) (want:=k.2) ho h1 h2 h hd
theorem zqE {Γ:zM}:zM.imp Γ Γ:=λ_ R h=>⟨R,h,λ_ _ h=>h⟩
theorem zmY:∀ {A B:List Ent},zbq (A ++ B) A B
 | [],_=>.nil
 | _ :: _,_=>.cons .here zmY
theorem zkh:∀ {H:List Ent},zbq H H []
 | []=>.nil
 | _ :: _=>.cons .here zkh
theorem brh {P:Prop} (h:br b T E=some r) (h1:b=true->T=some r->P) (h2:b=false->E=some r->P):P:=by
 cases b with
 | true=>exact h1 rfl h
 | false=>exact h2 rfl h
theorem Cl.upds {c:Ctx} {Γ:zM} {H Hr:List Ent} (h:Cl H Hr):∀ F,Upd c ⟨Γ,F ++ H⟩ ⟨Γ,F ++ Hr⟩:=by
 induction h with
 | nil=>exact λF=>zjy (List.Perm.refl _)
 | v _ ih | t _ ih=>exact λF=>(zvH (zma .here F)).trans (ih F)
 | @k e _ _ _ ih=>exact λF=>by simpa using ih (F ++ [e])
theorem Cl.upd {c:Ctx} {Γ:zM} {H Hr:List Ent} (h:Cl H Hr):Upd c ⟨Γ,H⟩ ⟨Γ,Hr⟩:=h.upds []
theorem zlN {Γ:zM} {i:Nat} {R:VP}:zcg ((i,R) :: Γ) i=some R:=by simp [zcg]
theorem zq1 {α β α' β':Type} [Rep α] [Rep β] [Rep α'] [Rep β'] {b:Nat} {W:Fld α β} {W':Fld α' β'} (e:W.off=W'.off) (S:Frz) (v:Value) (h:(zal b W).p S v):(zal b W').p S v:=by
 have h:v=.pointer (some ⟨b,W.off,none⟩):=h
 exact (e ▸ h:v=.pointer (some ⟨b,W'.off,none⟩))
theorem ziR {c:Ctx} {Q:Exit->Act->World->Prop} {Γ':zM} {H':List Ent} (hu:Upd c ⟨Γ',H'⟩ ⟨Γ,H⟩) (h:Y.p c Q ⟨Γ,H⟩):Y.p c Q ⟨Γ',H'⟩:=by
 cases Y with
 | rl ops l=>exact zbj hu h
 | rd ops π=>exact znR hu h
theorem zz3 {ι:Type} {Q:Exit->Act->World->Prop} {F:(ι->Option β)->ι->Option β} {i0:ι} {mod:ι->zM} (hm:zpL Γ (mod i0)) (h:lp F i0=some r)
    (hx:∀ (L:ι->Option β) (i:ι) (Q':Exit->Act->World->Prop),F L i=some r->(∀ j,L j=some r->Fin c ⟨mod j ++ Γ,[] ++ H⟩ Q')->(∀ id σ',Exi c id σ' Q->Exi c id σ' Q')->(∀ σ',Ret c σ' Q->Ret c σ' Q')->Wp c x ⟨mod i ++ Γ,H⟩ Q'):Wp c (.loop x) ⟨Γ,H⟩ Q :=
  zy0 (γ:=Unit) (λi _=>mod i) (λ_ _=>[]) h () hm .nil λL i _ Q' h hL hE hR=>hx L i Q' h (λj hj=>hL j () hj _ ⟨λi R h=>⟨R,h,λ_ _ h=>h⟩,_,zkh⟩) hE hR
theorem rpW {B B':AP} {e:Bool} (h:True->(Jd.rp B e).p c r K Γ H) (hB:∀ R H',B.p R H'->B'.p R H'):(Jd.rp B' e).p c r K Γ H:=by
 cases K with
 | po fn w0 S0 H0 A=>exact λk=>h trivial λR H' e=>k R H' (hB R H' e)
 | _=>trivial
theorem rpM {P:Program} {n:Nat} {w0:World} {S0:Frz} {H0:List Ent} {fn:Func} {A:AP} {Rs:List VP} {Hs:List Ent} (h1:ReG P Γ H fn.results.toList Rs) (h2:TX H Hs Hr) (hk:∀ R H',(AP.mk Rs Hs).p R H'->A.p R H') :
    (match b with | true=>Fin ⟨P,n,w0,S0,zbP H0,[]⟩ ⟨Γ,H⟩ (zl3 P fn w0 S0 H0 A.p) | false=>Ret ⟨P,n,w0,S0,zbP H0,[]⟩ ⟨Γ,H⟩ (zl3 P fn w0 S0 H0 A.p)):=by
  have:∀ S a w,za6 ⟨P,n,w0,S0,zbP H0,[]⟩ ⟨Γ,H⟩ S a w->bodyPost P fn (λe w'=>∃ v S' R H',A.p R H'/\e=.returned v/\R.p S' v/\zkC (zbP H0) S0 S' w0 w'/\zmW (zbP H0) w0.heap.size H' S' w') .ret a w:=λS a w m=>by
    obtain ⟨v,hv,hr⟩:=zk1 m h1.h
    obtain ⟨S',hS,m'⟩:=(by simpa using h2.upd []:Upd _ ⟨Γ,H⟩ ⟨Γ,Hs ++ Hr⟩) S a w m
    exact ⟨m.dfr,v,hr,v,S',_,_,hk _ _ ⟨rfl,rfl⟩,rfl,(ziQ Rs).mono hS hv,⟨m'.keep,m'.grow,m'.sub⟩,zgo m'.owns zmY⟩
  cases b with
  | true=>exact λS a w m=>this S a w m
  | false=>exact this
theorem zgP {c:Ctx} {Q:Exit->Act->World->Prop} (h:OpV c (D.o p d) ⟨Γ,H⟩ R) (hd:Nat.blt d c.n=true) (hm:m=some r) (k:(Ot.c ((d,R) :: Γ) H m).ok r λΓ' H'=>D.r.p c Q ⟨Γ',H'⟩):D.X.opP c Q (D.o p d) ⟨Γ,H⟩:=Dx.opV h hd (k hm)
theorem zno {c:Ctx} {Q:Exit->Act->World->Prop} {H':List Ent} (hX:D.X.isT=true) (hu:Upd c ⟨Γ,H⟩ ⟨Γ,H'⟩) (h:D.X.opP c Q o ⟨Γ,H'⟩):D.X.opP c Q o ⟨Γ,H⟩:=by
 have up:∀ {K:St->Prop},OpT c o ⟨Γ,H'⟩ K->OpT c o ⟨Γ,H⟩ K:=λh S a w next Q m hn=>by
  obtain ⟨S',hS,m'⟩:=hu S a w m
  exact h S' a w next Q m' λσ' S2 a' w' h1 h2 m2=>hn σ' S2 a' w' (Frz.le_trans hS h1) h2 m2
 obtain ⟨ty,pos,af,g,X⟩:=D
 cases X with
 | rl ops l=>exact up h
 | rt ops i π=>exact up h
 | rv ops i π=>cases hX
theorem zw1 {P Q:Prop} [Decidable P] [Decidable Q] {g:Prop} (h:asr (decide (P/\Q)) m=some r) (K:P->Q->m=some r->g):g:=zcf h λq h=>K q.1 q.2 h
theorem Bi.sound {P:Program} {c:Ctx} {q:BinOp} {o1:Option Nat} {σ:St} {m':Option β} (h:Bi P T1 q R1 R2 m V m') (hP:c.P=P) (h1:zB σ.Γ u1=some R1) (h2:zB σ.Γ u2=some R2) (hm:m=some r):OpV c ⟨o1,.binOp q T1 u1 u2 T2,ty,pos,af,g⟩ σ V/\m'=some r:=by
 subst hP
 cases h with
 | eqI=>exact ⟨zou h1 h2,hm⟩
 | neI=>exact ⟨zkK h1 h2,hm⟩
 | adI=>exact zfx hm λq h=>⟨zpl h1 h2 q,h⟩
 | sbI=>exact zfx hm λq h=>⟨zpH h1 h2 q,h⟩
 | mlI=>exact zfx hm λq h=>⟨zzZ h1 h2 q,h⟩
 | ltI=>exact ⟨zmh h1 h2,hm⟩
 | gtI=>exact ⟨zl6 h1 h2,hm⟩
 | leI=>exact ⟨zz8 h1 h2,hm⟩
 | geI=>exact ⟨zyp h1 h2,hm⟩
 | ltB=>exact ⟨zgU h1 h2,hm⟩
 | gtB=>exact ⟨zze h1 h2,hm⟩
 | leB=>exact ⟨zy8 h1 h2,hm⟩
 | geB=>exact ⟨zyQ h1 h2,hm⟩
 | eqA=>exact ⟨zzY ‹EqC _ _ _›.h h1 h2,hm⟩
 | neA=>exact ⟨zzX ‹EqC _ _ _›.h h1 h2,hm⟩
 | quI=>exact zbC hm λq h=>zfx h λq2 h=>⟨zyL h1 h2 q q2,h⟩
 | rmI=>exact zbC hm λq h=>⟨zyP h1 h2 q,h⟩
 | anI=>exact zcf hm λq h=>⟨zzB h1 h2 q.1 q.2,h⟩
 | adB=>exact ⟨zyW h1 h2,hm⟩
 | sbB=>exact ⟨zzr h1 h2,hm⟩
 | orB=>exact ⟨zzJ h1 h2,hm⟩
 | anB=>exact ⟨zsB h1 h2,hm⟩
 | annB=>exact ⟨ztL h1 h2,hm⟩
 | shB=>exact zbC hm λq h=>⟨zyM h1 h2 q,h⟩
 | srB=>exact zbC hm λq h=>⟨zsp h1 h2 q,h⟩
 | ltU=>exact ⟨zw5 h1 h2,hm⟩
 | gtU=>exact ⟨zxy h1 h2,hm⟩
 | leU=>exact ⟨zx2 h1 h2,hm⟩
 | geU=>exact ⟨zx1 h1 h2,hm⟩
 | adU=>exact ⟨zw9 h1 h2,hm⟩
 | sbU=>exact ⟨zxe h1 h2,hm⟩
 | mlU=>exact ⟨zyb h1 h2,hm⟩
 | orU=>exact ⟨zhU h1 h2,hm⟩
 | anU=>exact ⟨znu h1 h2,hm⟩
 | shU=>exact zbC hm λq h=>⟨ziP h1 h2 q,h⟩
 | srU e=>exact ⟨zyh h1 h2 (by simpa using e.h),hm⟩
 | quU=>exact zbC hm λq h=>⟨zyk h1 h2 q,h⟩
 | rmU=>exact zbC hm λq h=>⟨zxM h1 h2 q,h⟩
 | cat=>exact zbC hm λq h=>⟨zzP h1 h2 q,h⟩
theorem Cn.sound {P:Program} {c:Ctx} {o1:Option Nat} {σ:St} {m':Option β} {s s':TypeDesc} (h:Cn P s s' R m V m') (hP:c.P=P) (a:UnC P T1 s) (b:UnC P T2 s') (h1:zB σ.Γ u=some R) (hm:m=some r):OpV c ⟨o1,.convert T1 T2 u,ty,pos,af,g⟩ σ V/\m'=some r:=by
 subst hP
 cases h with
 | ii=>exact ⟨zAm a.h b.h h1,hm⟩
 | iu=>exact ⟨zzO a.h b.h h1,hm⟩
 | ib=>exact ⟨zxc a.h b.h h1,hm⟩
 | bi=>exact ⟨zyD a.h b.h h1,hm⟩
 | bu=>exact ⟨zh2 a.h b.h h1,hm⟩
 | ui=>exact zfx hm λq h=>⟨zyV a.h b.h h1 q,h⟩
 | uu=>exact ⟨zAk a.h b.h h1,hm⟩
 | ub=>exact ⟨zxr a.h b.h h1,hm⟩
 | bs s=>exact ⟨zz4 a.h (UnC.h (self:=inferInstance)) b.h h1 s.h,hm⟩
theorem Fd.sound {P:Program} {c:Ctx} {n:Nat} {o1:Option Nat} {σ:St} (h:Fd P T1 n R V) (hP:c.P=P) (h1:zB σ.Γ u=some R):OpV c ⟨o1,.fieldAddr T1 u n,ty,pos,af,g⟩ σ V:=by
 subst hP
 cases h with
 | I e=>exact zAd h1 _ ‹@zaX _ _ _ _ _ _ _ _›.h e.h
 | B=>exact zo0 h1 _ ‹@zaX _ _ _ _ _ _ _ _›.h
 | P=>exact zzQ h1 _ ‹@zaX _ _ _ _ _ _ _ _›.h
 | E=>exact zAo h1 _ ‹@zaX _ _ _ _ _ _ _ _›.h
theorem Nc.sound {c:Ctx} {o1:Option Nat} {σ:St} (h:Nc R) (h1:zB σ.Γ u=some R):OpV c ⟨o1,.nilCheck u,ty,pos,af,g⟩ σ R:=by
 cases h with
 | B=>exact zhC h1
 | I=>exact zqF h1
 | O=>rw [zp9] at h1 ⊢;exact zhC h1
 | P=>exact zna h1
 | E=>exact zzx h1
theorem Ln.sound {P:Program} {c:Ctx} {q:Int} {o1:Option Nat} {σ:St} (h:Ln P T1 H R q) (hP:c.P=P) (h1:zB σ.Γ u=some R):OpV c ⟨o1,.call ⟨.builtin .len,#[u],#[T1]⟩,ty,pos,af,g⟩ σ (isv q):=by
 subst hP
 cases h with
 | L e=>exact zzL e.h h1
 | A e=>exact zyO h1 zb7 e.h
 | S e=>exact zzm e.h h1
 | V _ e=>exact zoK e.h h1
theorem zAe {c:Ctx} {d:Option Nat} {σ:St} (hx:zB σ.Γ u=some (isv b)) (hb:t.p b) (hy:zyq σ.Γ t u1 u2=some R):OpV c ⟨d,.pick u u1 u2,ty,pos,af,g⟩ σ R:=by
 cases t with
 | y=>exact zb8 hx hb hy
 | n=>exact zcb hx hb hy
 | u=>cases hy
theorem Ld.sound {c:Ctx} {Q:Exit->Act->World->Prop} {s:Ot β} (h:Ld c.P c.pin Γ H T1 d m D.X.isT R s) (h1:zB Γ u=some R) (hd:Nat.blt d c.n=true) (hm:m=some r) (k:s.ok r λΓ' H'=>D.r.p c Q ⟨Γ',H'⟩):D.X.opP c Q (D.o (.load T1 u) d) ⟨Γ,H⟩:=by
 generalize hb:D.X.isT=tb at h
 cases h with
 | IP e=>exact zgP (zrm e.h h1) hd hm k
 | I e=>exact zgP (zao e.h h1) hd hm k
 | T e hp e2=>exact Dx.opT hb λK hK=>zhE e.h h1 hp (by rw [e2];exact zoL) (hK _ (k hm)) hd
 | V e hp e2=>exact Dx.opT hb λK hK=>zhE e.h h1 hp (by rw [e2];exact zs1) (hK _ (k hm)) hd
 | B e hp e2=>exact Dx.opT hb λK hK=>zhE e.h h1 hp (by rw [e2.h];exact λ_ _ h=>h) (hK _ (k hm)) hd
 | PT e hp e2=>exact zgP (ztA e.h h1 hp (by rw [e2];exact zoL)) hd hm k
 | PV e hp e2=>exact zgP (ztA e.h h1 hp (by rw [e2];exact zs1)) hd hm k
 | PB e hp e2=>exact zgP (ztA e.h h1 hp (by rw [e2.h];exact λ_ _ h=>h)) hd hm k
 | E e hp=>exact zat hm λy hy h=>Dx.opT hb λK hK=>znt e.h h1 hp hy (hK _ (k y h)) hd
theorem Ix.sound {c:Ctx} {Q:Exit->Act->World->Prop} {s:Ot β} (h:Ix c.P T1 Γ H d R1 R2 m s) (h1:zB Γ u1=some R1) (h2:zB Γ u2=some R2) (hd:Nat.blt d c.n=true) (hm:m=some r) (k:s.ok r λΓ' H'=>D.r.p c Q ⟨Γ',H'⟩):D.X.opP c Q (D.o (.indexAddr T1 u1 u2) d) ⟨Γ,H⟩:=by
 cases h with
 | L e=>exact zat hm λy q h=>Dx.opV (zxd h1 (λ_ _ h=>h) h2 e.h q) hd (k y h)
 | A e=>exact zat hm λy q h=>Dx.opV (zxd h1 zb7 h2 e.h q) hd (k y h)
 | V _ e en=>exact zw1 hm λq1 q2 h=>Dx.opV (zmV e.h h1 h2 q1 (by rw [en.h];exact q2)) hd (k h)
theorem BuG.h {α:Type} [Rep α] {P:Program} {x z:α} {l:List (Nat × Operand)} (h:BuG P T1 Γ x l z):zn4 P T1 Γ x l z:=by
 induction h with
 | nil=>exact .nil
 | cons e s _ ih=>exact .cons _ ‹@zaX _ _ _ _ _ _ _ _›.h e s.h ih
theorem ElG.h {α:Type} {I:Rep α} {n:Nat} {z:List α} {l:List (Nat × Operand)} (h:ElG I Γ n l z):zm7 Γ n l z:=by
 induction h with
 | nil=>exact .nil
 | cons e s _ ih=>exact .cons e s.h ih
theorem Lo.h {lo:Option Operand} {k:Int} (h:Lo Γ lo k):(lo=none/\k=0) \/ ∃ o,lo=some o/\zB Γ o=some (isv k):=by
 cases h with
 | n=>exact .inl ⟨rfl,rfl⟩
 | s e=>exact .inr ⟨_,rfl,e⟩
theorem Hi.h {n:Nat} {hi:Option Operand} {k:Int} (h:Hi Γ n hi k):(hi=none/\k=n) \/ ∃ o,hi=some o/\zB Γ o=some (isv k):=by
 cases h with
 | n=>exact .inl ⟨rfl,rfl⟩
 | s e=>exact .inr ⟨_,rfl,e⟩
theorem Sc.sound {P:Program} {c:Ctx} {o1:Option Nat} {lo hi:Option Operand} {m':Option β} (h:Sc P T1 Γ lo hi R m V m') (hP:c.P=P) (h1:zB Γ u=some R) (hm:m=some r):OpV c ⟨o1,.slice T1 u lo hi none,ty,pos,af,g⟩ ⟨Γ,H⟩ V/\m'=some r:=by
 subst hP
 cases h with
 | S e a b=>exact zcf hm λq h=>⟨zzG e.h h1 a.h b.h q.1 q.2.1 q.2.2,h⟩
 | L e a b=>exact zcf hm λq h=>⟨zmk h1 (λ_ _ h=>h) e.h a.h b.h q.1 q.2.1 q.2.2,h⟩
 | A e a b=>exact zcf hm λq h=>⟨zmk h1 zb7 e.h a.h b.h q.1 q.2.1 q.2.2,h⟩
theorem Ap.sound {c:Ctx} {Q:Exit->Act->World->Prop} {s:Ot β} (h:Ap c.P T1 T2 Γ H d R1 R2 m s) (h1:zB Γ u1=some R1) (h2:zB Γ u2=some R2) (hX:D.X.isT=true) (hd:Nat.blt d c.n=true) (hm:m=some r) (k:s.ok r λΓ' H'=>D.r.p c Q ⟨Γ',H'⟩):D.X.opP c Q (D.o (.call ⟨.builtin .append,#[u1,u2],#[T1,T2]⟩) d) ⟨Γ,H⟩:=by
 cases h with
 | N s e=>exact zbC hm λq h=>Dx.opT hX λK hK=>zp8 e.h h1 h2 s.h q (λt=>hK _ (k t h)) hd
 | T hp s e=>exact zbC hm λq h=>zno hX hp.h (Dx.opT hX λK hK=>zjf e.h h1 (λ_ _ h=>h) h2 s.h .here q (λt=>hK _ (k t h)) hd)
 | V hp n s e=>exact zbC hm λq h=>zno hX hp.h (Dx.opT hX λK hK=>zqy e.h h1 h2 s.h .here n.h q (λt=>hK _ (k t h)) hd)
theorem O.sound {c:Ctx} {Q:Exit->Act->World->Prop} {s:Ot β} (h:O c.P c.pin Γ H d D.X.isT p m s) (hT:zkR c) (hd:Nat.blt d c.n=true) (hm:m=some r) (k:s.ok r λΓ' H'=>D.r.p c Q ⟨Γ',H'⟩):D.X.opP c Q (D.o p d) ⟨Γ,H⟩:=by
 generalize hb:D.X.isT=tb at h
 cases h with
 | mv e=>exact zgP (zc0 e) hd hm k
 | ae=>exact zgP zut hd hm k
 | as e=>exact zgP (zjD e) hd hm k
 | vc e1 e2 hp hn e=>exact zcf hm λq h=>Dx.opV (zza e1 e.h hp hn.h e2 q.1 q.2) hd (ziR (zvb _ ((hp))) (k h))
 | mk e e1 e2=>exact zcf hm λq h=>Dx.opT hb λK hK=>zuC e.h ‹@zeA _ _ _ _ _›.h (UnC.h (self:=inferInstance)) e1 e2 q.1 rfl q.2 (λt=>hK _ (k t h)) hd
 | pk e1 e2 e3=>exact zgP (zAe e1 e2.h e3) hd hm k
 | ld e h=>subst hb;exact h.sound e hd hm k
 | fa e h=>exact zgP (h.sound rfl e) hd hm k
 | nc e h=>exact zgP (h.sound e) hd hm k
 | neE e=>exact zgP (zzv ‹IfC _ _›.h e) hd hm k
 | mn e1 e2=>exact zgP (zzM e1 e2) hd hm k
 | mx e1 e2=>exact zgP (zyF e1 e2) hd hm k
 | s3 e e1 e2 h=>exact zcf hm λq hh=>Dx.opV (zyy e (λ_ _ h=>h) h.h e1 e2 q.1 q.2) hd (k hh)
 | bi e1 e2 h => exact Dx.opV (h.sound rfl e1 e2 hm).1 hd (k (h.sound (o1 := none) (σ := ⟨Γ, H⟩) (ty := 0) (pos := "") (af := #[]) (g := none) (T2 := 0) rfl e1 e2 hm).2)
 | ix e1 e2 h=>exact h.sound e1 e2 hd hm k
 | is e1 e2 e=>exact zat hm λy q h=>Dx.opV (zzC y e.h e1 e2 q) hd (k y h)
 | ln e h=>exact zgP (h.sound rfl e) hd hm k
 | ex e1 e2=>exact zgP (zle e1 e2) hd hm k
 | nt e=>exact zgP (zvI e) hd hm k
 | ng e=>exact zfx hm λq h=>Dx.opV (zzU e q) hd (k h)
 | @cn _ _ _ _ i1 i2 _ _ _ _ _ _ e h => exact Dx.opV (h.sound rfl i1 i2 e hm).1 hd (k (h.sound (o1 := none) (σ := ⟨Γ, H⟩) (ty := 0) (pos := "") (af := #[]) (g := none) rfl i1 i2 e hm).2)
 | fl e h =>
  cases h with
  | I ha=>exact zgP (zw7 _ ha ‹@zaX _ _ _ _ _ _ _ _›.h e) hd hm k
 | bu ha h e=>exact zgP (zj5 ha e.h ‹@zeA _ _ _ _ _›.h h.h) hd hm k
 | bl h e e2 =>
  have e2:=e2.h
  rw [zBa] at e2
  exact Dx.opT hb λK hK=>zcj e2.1 h.h e e2.2 (hK _ (k hm)) hd
 | sl e h => exact Dx.opV (h.sound rfl e hm).1 hd (k (h.sound (o1 := none) (H := H) (ty := 0) (pos := "") (af := #[]) (g := none) rfl e hm).2)
 | ap e1 e2 h=>exact h.sound e1 e2 hb hd hm k
 | sb e=>exact zbC hm λq h=>Dx.opT hb λK hK=>zAg (UnC.h (self:=inferInstance)) (UnC.h (self:=inferInstance)) (UnC.h (self:=inferInstance)) e q (hK _ (k h)) hd
 | mf e=>exact zgP (zsD e.h) hd hm k
 | bx e s=>exact Dx.opT hb λK hK=>ztt e s.h (hK _ (k hm)) hd
 | al=>exact Dx.opT hb λK hK=>zhZ _ ‹@zeA _ _ _ _ _›.h (λb=>hK _ (by rw [<- zp9];exact k b hm)) hd
theorem Sto.sound {c:Ctx} {Q:Exit->Act->World->Prop} {s:Ot β} {i:Nat} (h:Sto c.P Γ H T1 i R1 R2 m s) (h1:zB Γ (.tmp i)=some R1) (h2:zB Γ u2=some R2) (hX:D.X.isT=true) (hm:m=some r) (k:s.ok r λΓ' H'=>D.r.p c Q ⟨Γ',H'⟩):D.X.opP c Q (D.n (.store T1 (.tmp i) u2)) ⟨Γ,H⟩:=by
 cases h with
 | O e hp s =>
  rw [zp9] at h1
  refine Dx.opT hX λK hK=>OpT.upd (zmd e.h h1 h2 s.h hp rfl (K:=λσ=>σ=⟨Γ,zj _ _ :: _⟩) rfl) λσ' hs=>?_
  subst hs
  exact ⟨_,hK _ (k hm),zns i .here h1⟩
 | B e hp s z=>exact Dx.opT hX λK hK=>zmd e.h h1 h2 s.h hp z.h (hK _ (k hm))
 | E e hp=>exact zat hm λy hy h=>Dx.opT hX λK hK=>zoJ e.h h1 h2 hp hy (hK _ (k y h))
theorem zz7 {Γ':zM} {H':List Ent} {x:Code} (hu:Upd c ⟨Γ',H'⟩ ⟨Γ,H⟩) (h:(Jd.wp x).p c r K Γ H):(Jd.wp x).p c r K Γ' H':=ztg hu h
theorem zzs {ι:Type} {A:JA ι} {R:ι->Option β} (h:(Jd.jk A j R).p c r K Γ H):∀ i,R i=some r->A.all λmod Hm=>j.p c r K (mod i ++ Γ) (Hm i ++ H) :=
 λi hi=>JA.all_lf.2 λmod Hm e=>JA.all_lf.1 h mod Hm e i hi
theorem zyE {ι:Type} {A:JA ι} {R:ι->Option β} {n:Bool × Nat} {j':Jd β} {K':Kn β} (h:(Jd.jk A j R).p c r K Γ H) (hu:∀ {Γ Γ' H H'},Upd c ⟨Γ',H'⟩ ⟨Γ,H⟩->j.p c r K Γ H->j'.p c r K' Γ' H'):AJ (go n R) A j' c r K' Γ H :=
 AJ.mk λi hi=>JA.all_lf.2 λmod Hm e Γ' H' hk=>hu hk (JA.all_lf.1 (zzs h i (by rw [zjl] at hi;exact hi)) mod Hm e)
theorem zz6 {ι:Type} {A:JA ι} {Q:Exit->Act->World->Prop} {F:(ι->Option β)->ι->Option β} {i0:ι} (h:lp F i0=some r)
    (hx:∀ (L:ι->Option β) (Q':Exit->Act->World->Prop),(∀ i,L i=some r->A.all λmod Hm=>∀ Γ' H',Upd c ⟨Γ',H'⟩ ⟨mod i ++ Γ,Hm i ++ Hr⟩->Fin c ⟨Γ',H'⟩ Q')->(∀ id σ',Exi c id σ' Q->Exi c id σ' Q')->(∀ σ',Ret c σ' Q->Ret c σ' Q')->A.all λmod Hm=>∀ i,F L i=some r->Wp c x ⟨mod i ++ Γ,Hm i ++ Hr⟩ Q') :
    A.all λmod Hm=>Wp c (.loop x) ⟨mod i0 ++ Γ,Hm i0 ++ Hr⟩ Q:=by
  refine JA.all_lf.2 λmod Hm e=>?_
  refine zv0 (ι:=Nat × ι × (ι->zM) × (ι->List Ent)) (λp=>lpN F p.1 p.2.1=some r/\A.lf p.2.2.1 p.2.2.2) (λp=>⟨p.2.2.1 p.2.1 ++ Γ,p.2.2.2 p.2.1 ++ Hr⟩) (λp=>p.1) (fuel,i0,mod,Hm) ⟨h,e⟩ ⟨zqE,_,zkh⟩ ?_
  rintro ⟨n,i,mod,Hm⟩ ⟨hI,e⟩
  cases n with
  | zero=>cases hI
  | succ n =>
    exact JA.all_lf.1 (hx (lpN F n) _ (λj hj=>JA.all_lf.2 λmod' Hm' e' Γ' H' hu=>znw hu (zqC (n,j,mod',Hm') ⟨hj,e'⟩ (Nat.lt_succ_self n) ⟨zqE,_,zkh⟩)) (λid σ' he=>zrW he) (λσ' hr=>zry hr)) mod Hm e i hI
theorem G.sound (h:G r f j c Γ H K m):zkR c->m=some r->j.p c r K Γ H:=by
 induction h with
 | run_go _ _ ih | rj_f _ ih | ru_l _ ih | fin_go _ _ ih | fin_any _ ih | fj_f _ ih | cnd_x _ ih | blk_x _ ih | reg_x _ ih | loo_x _ ih | jx_b _ _ ih | jx_t _ _ ih | jx_w _ _ ih=>exact ih
 | gt_jx _ ih=>exact λhT h _ _=>ih hT h
 | run_n e _ ih=>exact λhT h=>zmo rfl (ih hT h e.h)
 | run_0 _ ih=>exact λhT h=>zmo rfl (ih hT h)
 | run_g e _ ih=>exact λhT h=>ih hT h e
 | run_e _ ih=>exact λhT h=>zkU (ih hT h)
 | kt_c _ ih=>exact λhT _ h=>ih hT h
 | kt_a _ ih=>exact λhT h y=>ih y hT h
 | call e _ ih =>
  intro hT h hd
  refine zat h λy hy h=>?_
  obtain ⟨as,Hc,Hr,H1,post,h1,h2,hu,h3,h4⟩:=ih y hT h (‹zd _ _ _ _›.h y hy)
  exact zno e hu (Dx.opT e λK hK=>zsP (List.append_nil as ▸ h1) hT h2 h3 (λR H' hp=>hK _ (h4 R H' hp)) hd)
 | callc e _ ih=>exact λhT h=>ih hT h e
 | cf e _ ih =>
  intro hT h hf hd
  refine zat h λy hy h=>?_
  obtain ⟨as,Hc,Hr,H1,post,h1,h2,hu,h3,h4⟩:=ih y hT h (‹zd _ _ _ _›.h y hy)
  exact zno e hu (Dx.opT e λK hK=>zxK hf h2 h1 hT h3 (λR H' hp=>hK _ (h4 R H' hp)) hd)
 | op h _ ih | al0 h _ ih | bx0 h _ ih | bu0 h _ ih=>exact λhT hm hd=>h.sound hT hd hm (ih hT hm)
 | store e1 e2 h hX _ ih=>exact λhT hm=>h.sound e1 e2 hX hm (ih hT hm)
 | none=>exact λ_ h=>by cases h
 | asq _ ih=>exact λhT h hd=>zcf h λq h=>ih q hT h hd
 | lpn e1 e2 e _ ih=>exact λhT h hd=>Dx.opV (ztU e.h e1 e2) hd (ih hT h)
 | bv h e e2 hX _ ih =>
  have e2:=e2.h
  rw [zBa] at e2
  exact λhT hm hd=>Dx.opT hX λK hK=>zsI e2.1 h.h e e2.2 (λt=>hK _ (ih t hT hm)) hd
 | al1 hX _ ih=>exact λhT h hd=>Dx.opT hX λK hK=>zhZ _ ‹@zeA _ _ _ _ _›.h (λb=>hK _ (ih b hT h)) hd
 | al2 hX _ ih=>exact λhT h hd=>Dx.opT hX λK hK=>zhZ _ ‹@zkr _ _ _ _ _›.h (λb=>hK _ (ih b hT h)) hd
 | bx1 hX e s _ ih=>exact λhT h hd=>Dx.opT hX λK hK=>zva e s.h (λb=>hK _ (ih b hT h)) hd
 | bu2 ha e1 e2 _ ih=>exact λhT h hd=>Dx.opV (zj5 ha e2.h ‹@zkr _ _ _ _ _›.h e1.h) hd (ih hT h)
 | pe_n e _ ih=>exact λhT h=>zwp rfl (ih hT h e.h)
 | pe_g e _ ih=>exact λhT h=>ih hT h e
 | pe_0 _ ih=>exact λhT h=>zwp rfl (ih hT h)
 | seq _ ih=>exact λhT h=>zeT (ih hT h)
 | reg _ ih=>exact λhT h=>zdU (ih hT h)
 | cnd_a e _ _ ih1 ih2=>exact λhT h=>zcu h e (λ_ h=>ih1 hT h) (λ_ h=>ih2 hT h)
 | cnd_b e _ _ ih1 ih2=>exact λhT h=>zcu h e (λ_ h=>ih1 hT h) (λ_ h=>ih2 hT h)
 | fin_n _ ih | fi_n _ ih=>exact λhT h=>zc7 (ih hT h)
 | skp _ ih=>exact λhT h=>zm5 (ih hT h)
 | blk _ ih=>exact λhT h=>zej (ih hT h)
 | rtn _ ih=>exact λhT h=>znZ (ih hT h)
 | re_n _ ih=>exact λhT h=>zhD (ih hT h)
 | re_b _ ih=>exact λhT h=>zeW (ih hT h)
 | gd_b e _ ih=>exact λhT h hv=>ih hT h e.h hv
 | gd_u e _ ih=>exact λhT h hv=>zy3 e.h hv (ih hT h)
 | gt_t e _ ih | gt_f e _ ih=>exact λhT h hb hv=>zzk hb rfl hv (ih hT h e.h)
 | gt_pt e _ ih | gt_pf e _ ih=>exact λhT h hb hv=>zzc hb e.h hv (ih hT h)
 | gt_ua _ _ ih1 ih2 | gt_ub _ _ ih1 ih2=>exact λhT h _ hv=>brh h (λe h=>ih1 e hT h) (λe h=>ih2 e hT h)
 | gt_jl _ _ ih1 ih2=>exact λhT h _ hv=>ih2 _ (AJ.mk λi hi Γ' H' hu=>ziR hu (ih1 i hT (by rw [zjl] at hi;exact hi))) hT (by rw [zjl];exact h)
 | gt_jd _ _ e ih1 ih2 | gt_jt _ _ e ih1 ih2=>exact λhT h _ hv _=>ih2 _ (AJ.mk λi hi Γ' H' hu=>ziR hu (ih1 i hT (by rw [zjl] at hi;exact hi))) hT (by rw [zjl];exact h) e
 | jm_l _ _ _ ih1 ih2 | jm_v _ _ _ ih1 ih2 | jm_t _ _ _ ih1 ih2=>exact λhT h=>ih2 _ (zyE (ih1 hT h) λhu h=>ziR hu h) hT (by rw [zjl];exact h)
 | jm_w _ _ _ ih1 ih2=>exact λhT h=>ih2 _ (zyE (ih1 hT h) λhu h=>znw hu (zc7 h)) hT (by rw [zjl];exact h)
 | jm_k _ _ _ ih1 ih2=>exact λhT h=>ih1 hT h (JA.all_lf.2 λmod Hm e Γ' H' hu=>ztg hu (JA.all_lf.1 (zz6 h λL Q' hL hE hR=>by have:=ih2 L Q' (AJ.mk λi hi=>hL i (by rw [zjl] at hi;exact hi)) (LK.mk ⟨hE,hR⟩) hT h;rw [zjl] at this;exact this) mod Hm e))
 | rj_t a _ ih | fj_t a _ ih=>exact λhT h=>ih hT h (a.h _ h)
 | jk_v _ ih=>exact λhT h i hi=>ih i hT hi
 | jk_t _ ih | jk_w _ ih | jk_b _ ih=>exact λhT h k=>ih k hT h
 | ak_v e1 e2 e3 e4=>exact λhT h a=>a _ _ (e4.up (zof _ e1 e2.h e3.h))
 | ak_t _ ih | ak_w _ ih | ak_b _ ih=>exact λhT h a=>ih hT h (a _)
 | cl_m e1 e2 _ ih =>
  intro hT h hA
  obtain ⟨as,rfl,e⟩:=e1.h
  exact ⟨_,_,_,_,_,hA,e,by simpa using e2.upd [],zmY,ih hT h⟩
 | cl_t _ ih | cl_v _ ih | cl_b _ ih=>exact λhT h hA=>ih hT h (hA _)
 | ps_m hc _ ih=>exact λhT h R H' ⟨e1,e2⟩=>e1 ▸ e2 ▸ ziR hc.upd (ih hT h)
 | ps_t _ ih | ps_v _ ih | ps_b _ ih=>exact λhT h R H' ⟨k,e⟩=>ih k hT h R H' e
 | fF_r hp e _ ih=>exact λhT h=>ziR (zhK _ hp zlN e.h) (ih hT h)
 | fF_t e1 hp e _ ih=>exact λhT h=>zg1 (zhK _ hp e1 e.h) (ih hT h)
 | fB_r hp hq k _ ih=>cases k with | mk=>exact λhT h=>ziR ((zrg hp hq ‹CvF _ _ _ _ _ _ _ _›.h).trans (zbp _ zlN (zq1 ‹CvF _ _ _ _ _ _ _ _›.o))) (ih hT h)
 | fB_w e1 hp hq k _ ih=>cases k with | mk=>exact λhT h=>zz7 ((zrg hp hq ‹CvF _ _ _ _ _ _ _ _›.h).trans (zbp _ e1 (zq1 ‹CvF _ _ _ _ _ _ _ _›.o))) (ih hT h)
 | up e2 _ ih=>exact λhT h=>ziR (zbp _ zlN e2.h) (ih hT h)
 | run_2 _ _ ih1 ih2 | ru_2 _ _ ih1 ih2=>exact λhT h=>zpY (ih1 hT h) (ih2 hT h)
 | run_v e _ ih | run_t e _ ih | ru_v e _ ih | ru_t e _ ih=>exact λhT h=>ih hT h e
 | run_d _ ih=>exact λhT h=>zg5 (ih hT h)
 | regD e1 e2 _ ih | regE e1 e2 _ ih=>exact λhT h=>zeU _ e1.h e2.h (ih hT h)
 | pin e hp _ ih=>exact λhT h=>zvi _ hp e λo hn=>ih o (Nd.mk hn) hT h
 | fi_u e hn _ ih=>exact λhT h=>znK _ hn.h e (ih hT h)
 | ext _ ih=>exact λhT h=>zwc (ih hT h)
 | cnd_j _ _ ih1 ih2 | blk_j _ _ ih1 ih2=>exact λhT h=>ih2 _ (AJ.mk λi hi Γ' H' hu=>znw hu (zc7 (ih1 hT h i (by rw [zjl] at hi;exact hi)))) hT (by rw [zjl];exact h)
 | loo e _ ih=>exact λhT h=>zz3 e.h h λL i Q' h hL hE hR=>ih (L:=L) i Q' (AJ.mk λi hi Γ' H' hu=>znw hu (hL i (by rw [zjl] at hi;exact hi))) (LK.mk ⟨hE,hR⟩) hT (by rw [zjl];exact h)
 | fi_b _ ih=>exact λhT h=>zgB (ih hT h)
 | fi_p _ ih | re_p _ ih=>exact λhT h=>ih hT h (by cases h;exact λ_ _ h=>h)
 | ex_n _ ih=>exact λhT h=>ztd (ih hT h)
 | ex_b _ ih=>exact λhT h=>zeR (ih hT h)
 | ex_p e _ ih=>exact λhT h=>zve e (ih hT h)
 | ex_l a _ ih=>exact λhT h=>a.h.1 _ _ (ih hT h)
 | re_l a _ ih=>exact λhT h=>a.h.2 _ (ih hT h)
 | rp_t _ ih | rp_v _ ih | rp_b _ ih=>exact λhT h=>rpW (λhk=>ih hT h) λ_ _ e=>⟨_,e⟩
 | rp_m e1 e2=>exact λhT h hk=>rpM e1 e2 hk
end
def AC.ok {β:Type} (Q:List VP->List Ent->(β->AP)->Prop):AC β->Prop
 | .mk as H A=>Q as H A
 | .t A=>∀ x,(A x).ok Q
 | .v A=>∀ x,(A x).ok Q
 | .b A=>∀ x,(A x).ok Q
theorem AC.ok_p {β:Type} {P:Program} {f:FuncId} {r:β} {Q:List VP->List Ent->(β->AP)->Prop} (hQ:∀ as H A,Q as H A->Ctr P f as H (A r).p):∀ {A:AC β},A.ok Q->A.p P f r
 | .mk as H A,h=>hQ as H A h
 | .t A,h=>λx=>AC.ok_p hQ (h x)
 | .v A,h=>λx=>AC.ok_p hQ (h x)
 | .b A,h=>λx=>AC.ok_p hQ (h x)
theorem zd.of {β:Type} {P:Program} {i:FuncId} {fn:Func} {code:Code} {A:AC β} {m:Option β} (f:Fu) (hf:P.funcs[i]?=some fn) (hb:fn.body=some code)
    (h : A.ok fun as H B => Nat.ble as.length fn.ntmps = true ∧ ∀ r w0 S0, G r f (.wp code) ⟨P, fn.ntmps, w0, S0, zbP H, []⟩ (zkd 0 as) H (.po fn w0 S0 H B) m) (hn : (fn.name == "runtime.NumGoroutine") = false := by decide +kernel) : zd P i m A :=
  ⟨λr hr=>AC.ok_p (λ_ _ _ k=>zeu hf hb (λw0 S0 hT=>(k.2 r w0 S0).sound hT hr) hn k.1) h⟩
theorem cw {β:Type} {P:Program} {f:FuncId} {m:Option β} {A:AC β} [zd P f m A] {r:β} (h:m=some r):A.p P f r:=zd.h _ h
theorem au {p:Prop} (h:p:=by
 first
 | assumption
 | exact zl8.y (by assumption)
 | exact zl8.n (by assumption)
 | exact zl8.u
 | exact Nz.mk
 | exact EqS.mk):p:=h
theorem W {β:Type} {P:Program} {i:FuncId} {fn:Func} {code:Code} {A:AC β} {m:Option β} (f:Fu) (hf:P.funcs[i]?=some fn) (hb:fn.body=some code)
    (h:A.ok λas H B=>Nat.ble as.length fn.ntmps=true/\∀ r w0 S0,G r f (.wp code) ⟨P,fn.ntmps,w0,S0,zbP H,[]⟩ (zkd 0 as) H (.po fn w0 S0 H B) m:=by
      repeat' first | constructor | exact fa | exact au | intro) (hn : (fn.name == "runtime.NumGoroutine") = false := by decide +kernel) : zd P i m A := zd.of f hf hb h hn
end Go.Sy
namespace Go.Proofs.Q
open Go.Sy
def zdJ (n b:Int):Option Str:=bif decide (b=10) && Nat.ble (Lib.itoa n).length 100 then some ⟨Lib.itoa n⟩ else none
def strings_ReplaceAll (s o n:Str):Option Str:=bif Nat.ble s.b.length 1000000 && Nat.ble 1 o.b.length && Nat.ble (s.b.length + Lib.count s.b o.b * n.b.length) 140737488355328 && Nat.ble (Lib.replaceAll s.b o.b n.b).length 4294967296 then some ⟨Lib.replaceAll s.b o.b n.b⟩ else none
def zba (s:Str) (b z:Int):Option (Int × Er):=bif decide (b=10) && decide (z=64) && Nat.ble s.b.length 281474976710656 then (match Lib.parseIntB 64 s.b with
 | .ok v=>some (v,⟨false⟩)
 | .range=>some (Lib.intSat 64 s.b,⟨true⟩)
 | _=>some (0,⟨true⟩)) else none
theorem zyx (l:List UInt8):zc3 (Lib.intSat 64 l):=by
 unfold Lib.intSat
 split <;> exact zk3 (by decide) (by decide)
theorem zr5 {l:List UInt8} {v:Int} (h:Lib.parseIntB 64 l=.ok v):zc3 v:=by
 unfold Lib.parseIntB at h
 split at h
 ·cases h
 ·dsimp only at h
  split at h
  ·cases h
  ·cases h
  ·rename_i u _
   split at h
   ·cases h
   ·split at h
    ·cases h
    ·rename_i h1 h2
     injection h with h
     subst h
     split
     ·rename_i h3
      have:¬ 2 ^ 63 < u:=λh4=>h2 ⟨h3,h4⟩
      exact zk3 (by omega) (by omega)
     ·rename_i h3
      have:¬ 2 ^ 63 <= u:=λh4=>h1 ⟨h3,h4⟩
      exact zk3 (by omega) (by omega)
def utf8_ValidString (s:Str):Option Bool:=some (Lib.validD s.b)
def zhi (a_s:Str) (a_i:Int):Option (UInt8) :=
 jp (ι:=Bool) (λJ2=>br (decide (a_i < (0:Int))) (J2 (true)) (J2 ((decide ((a_s.b.length:Int) <= a_i))))) (λq1=>br q1 (some ((0:UInt8))) (cal (zq a_s.b a_i) λy4=>some (y4)))

def zht (a_s:Str) (a_i:Int):Option (Int) :=
 lp (ι:=Int) (λL2 q1=>br (decide (q1 < (a_s.b.length:Int))) (cal (zq a_s.b q1) λy51=>jp (ι:=Bool) (λJ53=>br (decide (y51=(32:UInt8))) (J53 (true)) (cal (zq a_s.b q1) λy55=>J53 ((decide (y55=(9:UInt8)))))) (λq52=>jp (ι:=Bool) (λJ57=>br q52 (J57 (true)) (cal (zq a_s.b q1) λy59=>J57 ((decide (y59=(10:UInt8)))))) (λq56=>jp (ι:=Bool) (λJ61=>br q56 (J61 (true)) (cal (zq a_s.b q1) λy63=>J61 ((decide (y63=(13:UInt8)))))) (λq60=>br q60 (ck ((q1 + (1:Int))) <| L2 ((q1 + (1:Int)))) (cal (zq a_s.b q1) λy65=>jp (ι:=Bool) (λJ67=>br (decide (y65=(45:UInt8))) (ck ((q1 + (1:Int))) <| cal (zhi a_s (q1 + (1:Int))) λy70=>J67 ((decide (y70=(45:UInt8))))) (J67 (false))) (λq66=>br q66 (ck ((q1 + (2:Int))) <| lp (ι:=Int) (λL73 q72=>jp (ι:=Bool) (λJ87=>br (decide (q72 < (a_s.b.length:Int))) (cal (zq a_s.b q72) λy89=>J87 ((!decide (y89=(10:UInt8))))) (J87 (false))) (λq86=>br q86 (cal (zq a_s.b q72) λy90=>jp (ι:=Bool) (λJ92=>br (decide (y90=(45:UInt8))) (ck ((q72 + (1:Int))) <| cal (zhi a_s (q72 + (1:Int))) λy95=>J92 ((decide (y95=(45:UInt8))))) (J92 (false))) (λq91=>br q91 (ck ((q72 + (2:Int))) <| L2 ((q72 + (2:Int)))) (ck ((q72 + (1:Int))) <| L73 ((q72 + (1:Int)))))) (L2 (q72)))) (((q1 + (2:Int))))) (some (q1)))))))) (some (q1))) ((a_i))

def zgy (a_c:UInt8):Option (Bool) :=
 jp (ι:=Bool) (λJ2=>br (decide ((97:UInt8) <= a_c)) (J2 ((decide (a_c <= (122:UInt8))))) (J2 (false))) (λq1=>jp (ι:=Bool) (λJ5=>br q1 (J5 (true)) (jp (ι:=Bool) (λJ8=>br (decide ((65:UInt8) <= a_c)) (J8 ((decide (a_c <= (90:UInt8))))) (J8 (false))) (λq7=>J5 (q7)))) (λq4=>some (q4)))

def zfQ (a_c:UInt8):Option (Bool) :=
 jp (ι:=Bool) (λJ2=>br (decide ((48:UInt8) <= a_c)) (J2 ((decide (a_c <= (57:UInt8))))) (J2 (false))) (λq1=>some (q1))

def ziB (a_s:Str) (a_i:Int):Option (Int) :=
 lp (ι:=Int) (λL2 q1=>jp (ι:=Bool) (λJ30=>br (decide (q1 < (a_s.b.length:Int))) (cal (zq a_s.b q1) λy32=>cal (zgy y32) λy33=>jp (ι:=Bool) (λJ35=>br y33 (J35 (true)) (cal (zq a_s.b q1) λy37=>cal (zfQ y37) λy38=>J35 (y38))) (λq34=>jp (ι:=Bool) (λJ40=>br q34 (J40 (true)) (cal (zq a_s.b q1) λy42=>jp (ι:=Bool) (λJ44=>br (decide (y42=(45:UInt8))) (ck ((q1 + (1:Int))) <| cal (zhi a_s (q1 + (1:Int))) λy47=>J44 ((!decide (y47=(45:UInt8))))) (J44 (false))) (λq43=>J40 (q43)))) (λq39=>J30 (q39)))) (J30 (false))) (λq29=>br q29 (ck ((q1 + (1:Int))) <| L2 ((q1 + (1:Int)))) (ck ((q1 - (1:Int))) <| cal (zq a_s.b (q1 - (1:Int))) λy50=>jp (ι:=Bool) (λJ52=>br (decide (y50=(45:UInt8))) (J52 (true)) (ck ((q1 - a_i)) <| J52 ((decide ((60:Int) < (q1 - a_i)))))) (λq51=>br q51 (some ((-1:Int))) (some (q1)))))) ((a_i))

def zju :Option ((List Str)) :=
 some (([(Str.mk [68,69,70,73,78,73,84,73,79,78,83]),(Str.mk [69,88,80,76,73,67,73,84]),(Str.mk [73,77,80,76,73,67,73,84]),(Str.mk [65,85,84,79,77,65,84,73,67]),(Str.mk [84,65,71,83]),(Str.mk [66,69,71,73,78]),(Str.mk [69,78,68]),(Str.mk [66,79,79,76,69,65,78]),(Str.mk [73,78,84,69,71,69,82]),(Str.mk [69,78,85,77,69,82,65,84,69,68]),(Str.mk [78,85,76,76]),(Str.mk [79,67,84,69,84]),(Str.mk [83,84,82,73,78,71]),(Str.mk [85,84,70,56,83,116,114,105,110,103]),(Str.mk [83,69,81,85,69,78,67,69]),(Str.mk [83,69,84]),(Str.mk [67,72,79,73,67,69]),(Str.mk [79,70]),(Str.mk [79,80,84,73,79,78,65,76]),(Str.mk [68,69,70,65,85,76,84]),(Str.mk [83,73,90,69]),(Str.mk [77,73,78]),(Str.mk [77,65,88]),(Str.mk [84,82,85,69]),(Str.mk [70,65,76,83,69])]:(List Str)))

def zgF (a_l:(List Str)) (a_x:Str):Option (Bool) :=
 lp (ι:=Int) (λL2 q1=>br (decide (q1 < (a_l.length:Int))) (cal (zq a_l q1) λy5=>br (decide (y5=a_x)) (some (true)) (ck ((q1 + (1:Int))) <| L2 ((q1 + (1:Int))))) (some (false))) (((0:Int)))

def zil (a_s:Str):Option (Bool) :=
 cal (zju ) λy1=>cal (zgF y1 a_s) λy2=>some (y2)

def zgq (a_s:Str) (a_i:Int):Option (Int) :=
 cal (zq a_s.b a_i) λy1=>jp (ι:=Int) (λJ3=>br (decide (y1=(45:UInt8))) (ck ((a_i + (1:Int))) <| J3 ((a_i + (1:Int)))) (J3 (a_i))) (λq2=>lp (ι:=Int × UInt64) (λL6 q5=>jp (ι:=Bool) (λJ50=>br (decide (q5.1 < (a_s.b.length:Int))) (cal (zq a_s.b q5.1) λy52=>cal (zfQ y52) λy53=>J50 (y53)) (J50 (false))) (λq49=>br q49 (ck ((q5.1 - q2)) <| jp (ι:=UInt64) (λJ56=>br (decide ((q5.1 - q2) < (19:Int))) (cal (zq a_s.b q5.1) λy57=>J56 ((((10:UInt64) * q5.2) + (y57 - (48:UInt8)).toUInt64))) (J56 (q5.2))) (λq55=>ck ((q5.1 + (1:Int))) <| L6 ((q5.1 + (1:Int)),q55))) (ck ((q5.1 - q2)) <| jp (ι:=Bool) (λJ61=>br (decide ((q5.1 - q2) < (1:Int))) (J61 (true)) (J61 ((decide ((19:Int) < (q5.1 - q2)))))) (λq60=>jp (ι:=Bool) (λJ64=>br q60 (J64 (true)) (jp (ι:=Bool) (λJ67=>br (decide ((1:Int) < (q5.1 - q2))) (cal (zq a_s.b q2) λy69=>J67 ((decide (y69=(48:UInt8))))) (J67 (false))) (λq66=>J64 (q66)))) (λq63=>jp (ι:=Bool) (λJ71=>br q63 (J71 (true)) (jp (ι:=Bool) (λJ74=>br (decide (y1=(45:UInt8))) (cal (zq a_s.b q2) λy76=>J74 ((decide (y76=(48:UInt8))))) (J74 (false))) (λq73=>J71 (q73)))) (λq70=>jp (ι:=Bool) (λJ78=>br q70 (J78 (true)) (cal (zhi a_s q5.1) λy80=>cal (zgy y80) λy81=>J78 (y81))) (λq77=>jp (ι:=Bool) (λJ83=>br q77 (J83 (true)) (J83 ((decide ((9223372036854775808:UInt64) < q5.2))))) (λq82=>jp (ι:=Bool) (λJ86=>br q82 (J86 (true)) (jp (ι:=Bool) (λJ89=>br (!(decide (y1=(45:UInt8)))) (J89 ((decide (q5.2=(9223372036854775808:UInt64))))) (J89 (false))) (λq88=>J86 (q88)))) (λq85=>br q85 (some ((-1:Int))) (some (q5.1))))))))))) ((q2,(0:UInt64))))

def zj1 (a_s:Str) (a_i:Int):Option (Int × Str) :=
 ck ((a_i + (1:Int))) <| lp (ι:=Int) (λL3 q2=>jp (ι:=Bool) (λJ32=>br (decide (q2 < (a_s.b.length:Int))) (cal (zq a_s.b q2) λy34=>cal (zfQ y34) λy35=>jp (ι:=Bool) (λJ37=>br y35 (J37 (true)) (cal (zq a_s.b q2) λy39=>jp (ι:=Bool) (λJ41=>br (decide ((65:UInt8) <= y39)) (cal (zq a_s.b q2) λy43=>J41 ((decide (y43 <= (70:UInt8))))) (J41 (false))) (λq40=>J37 (q40)))) (λq36=>J32 (q36))) (J32 (false))) (λq31=>br q31 (ck ((q2 + (1:Int))) <| L3 ((q2 + (1:Int)))) (ck ((q2 - (a_i + (1:Int)))) <| asr (!decide ((2:Int)=0)) <| jp (ι:=Bool) (λJ48=>br (!decide (((q2 - (a_i + (1:Int))).tmod (2:Int))=(0:Int))) (J48 (true)) (cal (zhi a_s q2) λy50=>J48 ((!decide (y50=(39:UInt8)))))) (λq47=>jp (ι:=Bool) (λJ52=>br q47 (J52 (true)) (ck ((q2 + (1:Int))) <| cal (zhi a_s (q2 + (1:Int))) λy55=>J52 ((!decide (y55=(72:UInt8)))))) (λq51=>br q51 (some ((-1:Int),(Str.mk []))) (ck ((q2 + (2:Int))) <| asr (decide (0 <= (a_i + (1:Int))/\(a_i + (1:Int)) <= q2/\q2 <= (a_s.b.length:Int))) <| some ((q2 + (2:Int)),(Str.mk ((a_s.b.take (q2).toNat).drop ((a_i + (1:Int))).toNat))))))))) (((a_i + (1:Int))))

def zgu (a_s:Str) (a_i:Int):Option (Int × Str) :=
 ck ((a_i + (1:Int))) <| lp (ι:=Int × Str) (λL3 q2=>br (decide (q2.1 < (a_s.b.length:Int))) (jp (ι:=Int × Str) (λJ18=>cal (zq a_s.b q2.1) λy19=>br (!decide (y19=(34:UInt8))) (ck ((q2.1 + (1:Int))) <| asr (decide (0 <= q2.1/\q2.1 <= (q2.1 + (1:Int))/\(q2.1 + (1:Int)) <= (a_s.b.length:Int))) <| asr (Nat.ble (q2.2.b.length + (Str.mk ((a_s.b.take ((q2.1 + (1:Int))).toNat).drop (q2.1).toNat)).b.length) 4611686018427387904) <| J18 (q2.1,(Str.mk (q2.2.b ++ (Str.mk ((a_s.b.take ((q2.1 + (1:Int))).toNat).drop (q2.1).toNat)).b)))) (ck ((q2.1 + (1:Int))) <| cal (zhi a_s (q2.1 + (1:Int))) λy24=>br (!decide (y24=(34:UInt8))) (cal (utf8_ValidString q2.2) λy25=>br (!y25) (some ((-1:Int),(Str.mk []))) (ck ((q2.1 + (1:Int))) <| some ((q2.1 + (1:Int)),q2.2))) (asr (Nat.ble (q2.2.b.length + (Str.mk [34]).b.length) 4611686018427387904) <| ck ((q2.1 + (1:Int))) <| J18 ((q2.1 + (1:Int)),(Str.mk (q2.2.b ++ (Str.mk [34]).b)))))) (λq17=>ck ((q17.1 + (1:Int))) <| L3 ((q17.1 + (1:Int)),q17.2))) (some ((-1:Int),(Str.mk [])))) (((a_i + (1:Int)),(Str.mk [])))

def ziN (a_s:Str) (a_i:Int):Option (Int) :=
 asr (decide (0 <= a_i/\a_i <= (a_s.b.length:Int)/\(a_s.b.length:Int) <= (a_s.b.length:Int))) <| lp (ι:=Int) (λL4 q3=>br (decide (q3 < (([(Str.mk [58,58,61]),(Str.mk [46,46,46]),(Str.mk [46,46]),(Str.mk [91,91]),(Str.mk [93,93]),(Str.mk [123]),(Str.mk [125]),(Str.mk [91]),(Str.mk [93]),(Str.mk [40]),(Str.mk [41]),(Str.mk [44]),(Str.mk [58])]:(List Str)).length:Int))) (cal (zq ([(Str.mk [58,58,61]),(Str.mk [46,46,46]),(Str.mk [46,46]),(Str.mk [91,91]),(Str.mk [93,93]),(Str.mk [123]),(Str.mk [125]),(Str.mk [91]),(Str.mk [93]),(Str.mk [40]),(Str.mk [41]),(Str.mk [44]),(Str.mk [58])]:(List Str)) q3) λy12=>jp (ι:=Bool) (λJ14=>br (decide ((y12.b.length:Int) <= ((Str.mk ((a_s.b.take ((a_s.b.length:Int)).toNat).drop (a_i).toNat)).b.length:Int))) (asr (decide (0 <= (0:Int)/\(0:Int) <= (y12.b.length:Int)/\(y12.b.length:Int) <= ((Str.mk ((a_s.b.take ((a_s.b.length:Int)).toNat).drop (a_i).toNat)).b.length:Int))) <| cal (zq ([(Str.mk [58,58,61]),(Str.mk [46,46,46]),(Str.mk [46,46]),(Str.mk [91,91]),(Str.mk [93,93]),(Str.mk [123]),(Str.mk [125]),(Str.mk [91]),(Str.mk [93]),(Str.mk [40]),(Str.mk [41]),(Str.mk [44]),(Str.mk [58])]:(List Str)) q3) λy17=>J14 ((decide ((Str.mk (((Str.mk ((a_s.b.take ((a_s.b.length:Int)).toNat).drop (a_i).toNat)).b.take ((y12.b.length:Int)).toNat).drop (0:Int).toNat))=y17)))) (J14 (false))) (λq13=>br q13 (some ((y12.b.length:Int))) (ck ((q3 + (1:Int))) <| L4 ((q3 + (1:Int)))))) (some ((0:Int)))) (((0:Int)))

def zkk (a_s:Str) (a_i:Int):Option (zS × Int) :=
 cal (zq a_s.b a_i) λy3=>jp (ι:=Int × zS) (λJ5=>cal (zgy y3) λy6=>br y6 (cal (ziB a_s a_i) λy7=>br (decide (y7 < (0:Int))) (some ((zS.mk (0:Int) (Str.mk []) a_i),(-1:Int))) (asr (decide (0 <= a_i/\a_i <= y7/\y7 <= (a_s.b.length:Int))) <| jp (ι:=zS) (λJ10=>br (decide (y3 <= (90:UInt8))) (J10 ((zS.mk (1:Int) (Str.mk ((a_s.b.take (y7).toNat).drop (a_i).toNat)) a_i))) (J10 ((zS.mk (2:Int) (Str.mk ((a_s.b.take (y7).toNat).drop (a_i).toNat)) a_i)))) (λq9=>cal (zil q9.text) λy11=>br y11 (J5 (y7,{ q9 with kind:=(5:Int) })) (J5 (y7,q9))))) (cal (zfQ y3) λy12=>jp (ι:=Bool) (λJ14=>br y12 (J14 (true)) (jp (ι:=Bool) (λJ17=>br (decide (y3=(45:UInt8))) (ck ((a_i + (1:Int))) <| cal (zhi a_s (a_i + (1:Int))) λy20=>cal (zfQ y20) λy21=>J17 (y21)) (J17 (false))) (λq16=>J14 (q16)))) (λq13=>br q13 (cal (zgq a_s a_i) λy22=>br (decide (y22 < (0:Int))) (some ((zS.mk (0:Int) (Str.mk []) a_i),(-1:Int))) (asr (decide (0 <= a_i/\a_i <= y22/\y22 <= (a_s.b.length:Int))) <| J5 (y22,(zS.mk (3:Int) (Str.mk ((a_s.b.take (y22).toNat).drop (a_i).toNat)) a_i)))) (br (decide (y3=(39:UInt8))) (cal (zj1 a_s a_i) λy24=>J5 (y24.1,(zS.mk (4:Int) y24.2 a_i))) (br (decide (y3=(34:UInt8))) (cal (zgu a_s a_i) λy25=>J5 (y25.1,(zS.mk (7:Int) y25.2 a_i))) (cal (ziN a_s a_i) λy26=>br (decide ((0:Int) < y26)) (ck ((a_i + y26)) <| asr (decide (0 <= a_i/\a_i <= (a_i + y26)/\(a_i + y26) <= (a_s.b.length:Int))) <| ck ((a_i + y26)) <| J5 ((a_i + y26),(zS.mk (6:Int) (Str.mk ((a_s.b.take ((a_i + y26)).toNat).drop (a_i).toNat)) a_i))) (J5 ((-1:Int),(zS.mk (0:Int) (Str.mk []) a_i))))))))) (λq4=>some (q4.2,q4.1))

def zfb (zaZ:Str):Option ((List zS) × Int × Int) :=
 br (decide ((8000:Int) < (zaZ.b.length:Int))) (some (([]:(List zS)),(0:Int),(5:Int))) (lp (ι:=(List zS) × Int) (λL2 q1=>cal (zht zaZ q1.2) λy12=>br (decide ((zaZ.b.length:Int) <= y12)) (asr (Nat.ble (q1.1.length + ([(zS.mk (0:Int) (Str.mk []) (zaZ.b.length:Int))]:(List zS)).length) 68719476736) <| some ((q1.1 ++ ([(zS.mk (0:Int) (Str.mk []) (zaZ.b.length:Int))]:(List zS))),(0:Int),(0:Int))) (cal (zkk zaZ y12) λy16=>br (decide (y16.2 < (0:Int))) (some (([]:(List zS)),y12,(6:Int))) (asr (Nat.ble (q1.1.length + ([y16.1]:(List zS)).length) 68719476736) <| L2 ((q1.1 ++ ([y16.1]:(List zS))),y16.2)))) ((([]:(List zS)),(0:Int))))

def zaD (a_x:zA):Option (zS × zA) :=
 cal (zq a_x.l a_x.at_) λy7=>some (y7,a_x)

def za4 (a_x:zA) (a_e:Int) (a_t:zS):Option (zA) :=
 br (decide (a_x.e=(0:Int))) (some ((zA.mk a_x.l a_x.at_ a_x.m a_e a_t.at_))) (some (a_x))

def zbA (a_x:zA):Option (zS × zA) :=
 cal (zq a_x.l a_x.at_) λy7=>ck ((a_x.at_ + (1:Int))) <| jp (ι:=zA) (λJ13=>br (decide ((a_x.at_ + (1:Int)) < (a_x.l.length:Int))) (ck ((a_x.at_ + (1:Int))) <| J13 ((zA.mk a_x.l (a_x.at_ + (1:Int)) a_x.m a_x.e a_x.p))) (J13 (a_x))) (λq12=>some (y7,q12))

def zbB (a_x:zA) (a_k:Int):Option (Str × zA) :=
 cal (zaD a_x) λy4=>jp (ι:=Bool) (λJ9=>br (!decide (y4.2.e=(0:Int))) (J9 (true)) (J9 ((!decide (y4.1.kind=a_k))))) (λq8=>br q8 (cal (za4 y4.2 (7:Int) y4.1) λy11=>some ((Str.mk []),y11)) (cal (zbA y4.2) λy14=>some (y14.1.text,y14.2)))

def zE (a_x:zA) (a_s:Str):Option (Bool × zA) :=
 cal (zaD a_x) λy4=>jp (ι:=Bool) (λJ9=>br (decide (y4.2.e=(0:Int))) (jp (ι:=Bool) (λJ12=>br (decide (y4.1.kind=(5:Int))) (J12 (true)) (J12 ((decide (y4.1.kind=(6:Int)))))) (λq11=>J9 (q11))) (J9 (false))) (λq8=>jp (ι:=Bool) (λJ15=>br q8 (J15 ((decide (y4.1.text=a_s)))) (J15 (false))) (λq14=>br q14 (cal (zbA y4.2) λy17=>some (true,y17.2)) (some (false,y4.2))))

def zP (a_x:zA) (a_s:Str):Option (zA) :=
 jp (ι:=Bool × zA) (λJ5=>br (decide (a_x.e=(0:Int))) (cal (zE a_x a_s) λy7=>J5 ((!y7.1),y7.2)) (J5 (false,a_x))) (λq4=>br q4.1 (cal (zaD q4.2) λy10=>cal (za4 y10.2 (7:Int) y10.1) λy13=>some (y13)) (some (q4.2)))

def zio (a_t:zS):Option (Bool) :=
 lp (ι:=Int) (λL3 q2=>br (decide (q2 < (([(Str.mk [91]),(Str.mk [66,79,79,76,69,65,78]),(Str.mk [78,85,76,76]),(Str.mk [85,84,70,56,83,116,114,105,110,103]),(Str.mk [73,78,84,69,71,69,82]),(Str.mk [79,67,84,69,84]),(Str.mk [69,78,85,77,69,82,65,84,69,68]),(Str.mk [83,69,84]),(Str.mk [67,72,79,73,67,69]),(Str.mk [83,69,81,85,69,78,67,69])]:(List Str)).length:Int))) (cal (zq ([(Str.mk [91]),(Str.mk [66,79,79,76,69,65,78]),(Str.mk [78,85,76,76]),(Str.mk [85,84,70,56,83,116,114,105,110,103]),(Str.mk [73,78,84,69,71,69,82]),(Str.mk [79,67,84,69,84]),(Str.mk [69,78,85,77,69,82,65,84,69,68]),(Str.mk [83,69,84]),(Str.mk [67,72,79,73,67,69]),(Str.mk [83,69,81,85,69,78,67,69])]:(List Str)) q2) λy12=>jp (ι:=Bool) (λJ14=>br (decide (y12=a_t.text)) (jp (ι:=Bool) (λJ17=>br (decide (a_t.kind=(5:Int))) (J17 (true)) (J17 ((decide (a_t.kind=(6:Int)))))) (λq16=>J14 (q16))) (J14 (false))) (λq13=>br q13 (some (true)) (ck ((q2 + (1:Int))) <| L3 ((q2 + (1:Int)))))) (some ((decide (a_t.kind=(1:Int)))))) (((0:Int)))

def zfj (a_s:Str):Option (Int) :=
 cal (zq a_s.b (0:Int)) λy1=>jp (ι:=Str) (λJ3=>br (decide (y1=(45:UInt8))) (asr (decide (0 <= (1:Int)/\(1:Int) <= (a_s.b.length:Int)/\(a_s.b.length:Int) <= (a_s.b.length:Int))) <| J3 ((Str.mk ((a_s.b.take ((a_s.b.length:Int)).toNat).drop ((1:Int)).toNat)))) (J3 (a_s))) (λq2=>lp (ι:=UInt64 × Int) (λL6 q5=>br (decide (q5.2 < (q2.b.length:Int))) (cal (zq q2.b q5.2) λy13=>ck ((q5.2 + (1:Int))) <| L6 ((((10:UInt64) * q5.1) + (y13 - (48:UInt8)).toUInt64),(q5.2 + (1:Int)))) (br (decide (y1=(45:UInt8))) (ck (((q5.1 - (1:UInt64)).toNat:Int)) <| ck ((-((q5.1 - (1:UInt64)).toNat:Int))) <| ck (((-((q5.1 - (1:UInt64)).toNat:Int)) - (1:Int))) <| some (((-((q5.1 - (1:UInt64)).toNat:Int)) - (1:Int)))) (ck ((q5.1.toNat:Int)) <| some ((q5.1.toNat:Int))))) (((0:UInt64),(0:Int))))

def zb6 (a_x:zA):Option (Int × zA) :=
 cal (zbB a_x (3:Int)) λy4=>br (decide (y4.1=(Str.mk []))) (some ((0:Int),y4.2)) (cal (zfj y4.1) λy7=>some (y7,y4.2))

def zcI (a_x:zA):Option (zbx × zA) :=
 cal (zE a_x (Str.mk [77,73,78])) λy6=>jp (ι:=zA × zbx) (λJ10=>br (!y6.1) (cal (zb6 y6.2) λy11=>J10 (y11.2,(zbx.mk true true false false y11.1 (0:Int)))) (J10 (y6.2,(zbx.mk true false false false (0:Int) (0:Int))))) (λq9=>jp (ι:=zA × zbx) (λJ15=>cal (zE q9.1 (Str.mk [46,46])) λy16=>br y16.1 (cal (zE y16.2 (Str.mk [77,65,88])) λy19=>br (!y19.1) (cal (zb6 y19.2) λy22=>J15 (y22.2,{ { q9.2 with hasHigh:=true } with high:=y22.1 })) (J15 (y19.2,q9.2))) (br q9.2.hasLow (J15 (y16.2,{ { q9.2 with hasHigh:=true } with high:=q9.2.low })) (J15 (y16.2,q9.2)))) (λq14=>cal (zE q14.1 (Str.mk [44])) λy25=>jp (ι:=zA × zbx) (λJ29=>br y25.1 (cal (zP y25.2 (Str.mk [46,46,46])) λy30=>J29 (y30,{ q14.2 with more:=true })) (J29 (y25.2,q14.2))) (λq28=>some (q28.2,q28.1))))

def zcN (a_x:zA):Option (zbx × zA) :=
 cal (zE a_x (Str.mk [40])) λy5=>br (!y5.1) (some ((zbx.mk false false false false (0:Int) (0:Int)),y5.2)) (cal (zP y5.2 (Str.mk [83,73,90,69])) λy8=>cal (zP y8 (Str.mk [40])) λy11=>cal (zcI y11) λy14=>cal (zP y14.2 (Str.mk [41])) λy18=>cal (zP y18 (Str.mk [41])) λy21=>some (y14.1,y21))

def zdl (a_x:zA) (a_n_:zh):Option (zA × zh) :=
 jp (ι:=zA × zh) (λJ7=>lp (ι:=zA × zh) (λL9 q8=>br (decide (q8.1.e=(0:Int))) (jp (ι:=Bool) (λJ47=>br (decide ((0:Int) < (q8.2.items.length:Int))) (J47 ((!q8.2.more))) (J47 (false))) (λq46=>jp (ι:=Bool × zA) (λJ50=>br q46 (cal (zE q8.1 (Str.mk [46,46,46])) λy52=>J50 (y52.1,y52.2)) (J50 (false,q8.1))) (λq49=>jp (ι:=zA × zh) (λJ56=>br q49.1 (J56 (q49.2,(zh.mk q8.2.kind q8.2.name q8.2.mark q8.2.con q8.2.items q8.2.fields (q8.2.items.length:Int) true q8.2.of))) (cal (zbB q49.2 (2:Int)) λy57=>cal (zE y57.2 (Str.mk [40])) λy61=>jp (ι:=zA × zai) (λJ65=>br y61.1 (cal (zb6 y61.2) λy66=>cal (zP y66.2 (Str.mk [41])) λy69=>J65 (y69,(zai.mk y57.1 y66.1 true))) (J65 (y61.2,(zai.mk y57.1 (0:Int) false)))) (λq64=>asr (Nat.ble (q8.2.items.length + ([q64.2]:(List zai)).length) 68719476736) <| J56 (q64.1,(zh.mk q8.2.kind q8.2.name q8.2.mark q8.2.con (q8.2.items ++ ([q64.2]:(List zai))) q8.2.fields q8.2.root q8.2.more q8.2.of))))) (λq55=>cal (zE q55.1 (Str.mk [44])) λy79=>br (!y79.1) (J7 (y79.2,q55.2)) (L9 (y79.2,q55.2)))))) (J7 (q8.1,q8.2))) ((a_x,a_n_))) (λq6=>br (!q6.2.more) (some (q6.1,(zh.mk q6.2.kind q6.2.name q6.2.mark q6.2.con q6.2.items q6.2.fields (q6.2.items.length:Int) q6.2.more q6.2.of))) (some (q6.1,q6.2)))

def zhf (a_s:Str):Option ((List UInt8)) :=
 lp (ι:=(List UInt8) × Int) (λL2 q1=>ck ((q1.2 + (1:Int))) <| br (decide ((q1.2 + (1:Int)) < (a_s.b.length:Int))) (lp (ι:=UInt8 × Int) (λL33 q32=>ck ((q1.2 + (2:Int))) <| br (decide (q32.2 < (q1.2 + (2:Int)))) (cal (zq a_s.b q32.2) λy47=>cal (zq a_s.b q32.2) λy48=>jp (ι:=UInt8) (λJ50=>br (decide ((65:UInt8) <= y48)) (cal (zq a_s.b q32.2) λy51=>J50 (((y51 - (65:UInt8)) + (10:UInt8)))) (J50 ((y47 - (48:UInt8))))) (λq49=>asr (Nat.ble (4:UInt64).toNat 8) <| ck ((q32.2 + (1:Int))) <| L33 (((zsT q32.1 (4:UInt64).toNat) ||| q49),(q32.2 + (1:Int))))) (asr (Nat.ble (q1.1.length + ([q32.1]:(List UInt8)).length) 68719476736) <| ck ((q1.2 + (2:Int))) <| L2 ((q1.1 ++ ([q32.1]:(List UInt8))),(q1.2 + (2:Int))))) (((0:UInt8),q1.2))) (some (q1.1))) ((([]:(List UInt8)),(0:Int)))

def zdk (a_x:zA):Option (Val × zA) :=
 cal (zaD a_x) λy5=>jp (ι:=zA) (λJ10=>br (!decide (y5.2.e=(0:Int))) (J10 (y5.2)) (cal (zE y5.2 (Str.mk [84,82,85,69])) λy11=>br y11.1 (some ((Val.mk (1:Int) (1:Int) ([]:(List UInt8)) ([]:(List Val)) (0:Int) ([]:(List Raw))),y11.2)) (cal (zE y11.2 (Str.mk [70,65,76,83,69])) λy14=>br y14.1 (some ((Val.mk (1:Int) (0:Int) ([]:(List UInt8)) ([]:(List Val)) (0:Int) ([]:(List Raw))),y14.2)) (cal (zE y14.2 (Str.mk [78,85,76,76])) λy17=>br y17.1 (some ((Val.mk (4:Int) (0:Int) ([]:(List UInt8)) ([]:(List Val)) (0:Int) ([]:(List Raw))),y17.2)) (br (decide (y5.1.kind=(3:Int))) (cal (zbA y17.2) λy20=>cal (zfj y20.1.text) λy23=>some ((Val.mk (2:Int) y23 ([]:(List UInt8)) ([]:(List Val)) (0:Int) ([]:(List Raw))),y20.2)) (br (decide (y5.1.kind=(2:Int))) (cal (zbA y17.2) λy24=>asr (Nat.ble y24.1.text.b.length 68719476736) <| some ((Val.mk (3:Int) (0:Int) y24.1.text.b ([]:(List Val)) (0:Int) ([]:(List Raw))),y24.2)) (br (decide (y5.1.kind=(4:Int))) (cal (zbA y17.2) λy28=>cal (zhf y28.1.text) λy31=>some ((Val.mk (5:Int) (0:Int) y31 ([]:(List Val)) (0:Int) ([]:(List Raw))),y28.2)) (br (decide (y5.1.kind=(7:Int))) (cal (zbA y17.2) λy32=>asr (Nat.ble y32.1.text.b.length 68719476736) <| some ((Val.mk (6:Int) (0:Int) y32.1.text.b ([]:(List Val)) (0:Int) ([]:(List Raw))),y32.2)) (cal (za4 y17.2 (7:Int) y5.1) λy36=>J10 (y36)))))))))) (λq9=>some ((Val.mk (0:Int) (0:Int) ([]:(List UInt8)) ([]:(List Val)) (0:Int) ([]:(List Raw))),q9))

def zcS (zaq:zA->zh->Int->Int->Option (zA × zh)) (zaB:zA->Int->Option (Int × zA)) (zaw:zA->zh->Int->Option (zA × zh)) (zae:zA->zh->Int->Option (zA × zh)) (a_x:zA) (a_n_:zh) (za:Int) (zcG:Int):Option (zA × zh) :=
 cal (zbB a_x (2:Int)) λy6=>ck ((za + (1:Int))) <| cal (zaB y6.2 (za + (1:Int))) λy11=>jp (ι:=zaF × zA) (λJ16=>br (decide (a_n_.kind=(9:Int))) (J16 ((zaF.mk y6.1 y11.1 false false (Val.mk (0:Int) (0:Int) ([]:(List UInt8)) ([]:(List Val)) (0:Int) ([]:(List Raw))) zcG),y11.2)) (cal (zE y11.2 (Str.mk [79,80,84,73,79,78,65,76])) λy17=>br y17.1 (J16 ((zaF.mk y6.1 y11.1 true false (Val.mk (0:Int) (0:Int) ([]:(List UInt8)) ([]:(List Val)) (0:Int) ([]:(List Raw))) zcG),y17.2)) (cal (zE y17.2 (Str.mk [68,69,70,65,85,76,84])) λy20=>br y20.1 (cal (zdk y20.2) λy23=>J16 ((zaF.mk y6.1 y11.1 false true y23.1 zcG),y23.2)) (J16 ((zaF.mk y6.1 y11.1 false false (Val.mk (0:Int) (0:Int) ([]:(List UInt8)) ([]:(List Val)) (0:Int) ([]:(List Raw))) zcG),y20.2))))) (λq15=>asr (Nat.ble (a_n_.fields.length + ([q15.1]:(List zaF)).length) 68719476736) <| some (q15.2,(zh.mk a_n_.kind a_n_.name a_n_.mark a_n_.con a_n_.items (a_n_.fields ++ ([q15.1]:(List zaF))) a_n_.root a_n_.more a_n_.of)))
def zdr (zaq:zA->zh->Int->Int->Option (zA × zh)) (zaB:zA->Int->Option (Int × zA)) (zaw:zA->zh->Int->Option (zA × zh)) (zae:zA->zh->Int->Option (zA × zh)) (a_x:zA) (za:Int):Option (Int × zA) :=
 br (!decide (a_x.e=(0:Int))) (some ((0:Int),a_x)) (cal (zaD a_x) λy4=>cal (zio y4.1) λy7=>br (!y7) (cal (zaD y4.2) λy8=>cal (za4 y8.2 (7:Int) y8.1) λy11=>some ((0:Int),y11)) (jp (ι:=Bool) (λJ15=>br (decide ((16:Int) < za)) (J15 (true)) (J15 ((decide ((300:Int) <= ((y4.2.m.nodes.length:Nat):Int)))))) (λq14=>br q14 (cal (zaD y4.2) λy17=>cal (za4 y17.2 (5:Int) y17.1) λy20=>some ((0:Int),y20)) (asr (Nat.ble (y4.2.m.nodes.length + ([(zh.mk (0:Int) (Str.mk []) (zcP.mk false (0:Int) (0:Int)) (zbx.mk false false false false (0:Int) (0:Int)) ([]:(List zai)) ([]:(List zaF)) (0:Int) false (0:Int))]:(List zh)).length) 68719476736) <| cal (zE (zA.mk y4.2.l y4.2.at_ (zaA.mk y4.2.m.name y4.2.m.tagging y4.2.m.names y4.2.m.types (y4.2.m.nodes ++ ([(zh.mk (0:Int) (Str.mk []) (zcP.mk false (0:Int) (0:Int)) (zbx.mk false false false false (0:Int) (0:Int)) ([]:(List zai)) ([]:(List zaF)) (0:Int) false (0:Int))]:(List zh)))) y4.2.e y4.2.p) (Str.mk [91])) λy31=>jp (ι:=zA × zh) (λJ35=>br y31.1 (cal (zaD y31.2) λy36=>cal (zb6 y36.2) λy40=>jp (ι:=Bool) (λJ44=>br (decide (y40.2.e=(0:Int))) (jp (ι:=Bool) (λJ47=>br (decide (y40.1 < (0:Int))) (J47 (true)) (J47 ((decide ((268435456:Int) < y40.1))))) (λq46=>J44 (q46))) (J44 (false))) (λq43=>jp (ι:=zA) (λJ50=>br q43 (cal (za4 y40.2 (12:Int) y36.1) λy51=>J50 (y51)) (J50 (y40.2))) (λq49=>cal (zP q49 (Str.mk [93])) λy54=>cal (zE y54 (Str.mk [69,88,80,76,73,67,73,84])) λy57=>br y57.1 (J35 (y57.2,(zh.mk (0:Int) (Str.mk []) (zcP.mk true y40.1 (1:Int)) (zbx.mk false false false false (0:Int) (0:Int)) ([]:(List zai)) ([]:(List zaF)) (0:Int) false (0:Int)))) (cal (zE y57.2 (Str.mk [73,77,80,76,73,67,73,84])) λy60=>br y60.1 (J35 (y60.2,(zh.mk (0:Int) (Str.mk []) (zcP.mk true y40.1 (2:Int)) (zbx.mk false false false false (0:Int) (0:Int)) ([]:(List zai)) ([]:(List zaF)) (0:Int) false (0:Int)))) (J35 (y60.2,(zh.mk (0:Int) (Str.mk []) (zcP.mk true y40.1 (0:Int)) (zbx.mk false false false false (0:Int) (0:Int)) ([]:(List zai)) ([]:(List zaF)) (0:Int) false (0:Int)))))))) (J35 (y31.2,(zh.mk (0:Int) (Str.mk []) (zcP.mk false (0:Int) (0:Int)) (zbx.mk false false false false (0:Int) (0:Int)) ([]:(List zai)) ([]:(List zaF)) (0:Int) false (0:Int))))) (λq34=>cal (zaw q34.1 q34.2 za) λy63=>br (!decide (y63.1.e=(0:Int))) (some ((0:Int),y63.1)) (asr (decide (0 <= ((y4.2.m.nodes.length:Nat):Int)/\((y4.2.m.nodes.length:Nat):Int) < ((y63.1.m.nodes.length:Nat):Int))) <| cal (y63.1.m.nodes[((y4.2.m.nodes.length:Nat):Int).toNat]?) λy74=>some (((y4.2.m.nodes.length:Nat):Int),(zA.mk y63.1.l y63.1.at_ (zaA.mk y63.1.m.name y63.1.m.tagging y63.1.m.names y63.1.m.types (y63.1.m.nodes.set (((y4.2.m.nodes.length:Nat):Int).toNat) y63.2)) y63.1.e y63.1.p))))))))
def zdb (zaq:zA->zh->Int->Int->Option (zA × zh)) (zaB:zA->Int->Option (Int × zA)) (zaw:zA->zh->Int->Option (zA × zh)) (zae:zA->zh->Int->Option (zA × zh)) (a_x:zA) (a_n_:zh) (za:Int):Option (zA × zh) :=
 cal (zaD a_x) λy6=>br (!decide (y6.2.e=(0:Int))) (some (y6.2,a_n_)) (cal (zE y6.2 (Str.mk [66,79,79,76,69,65,78])) λy10=>br y10.1 (some (y10.2,(zh.mk (1:Int) a_n_.name a_n_.mark a_n_.con a_n_.items a_n_.fields a_n_.root a_n_.more a_n_.of))) (cal (zE y10.2 (Str.mk [78,85,76,76])) λy13=>br y13.1 (some (y13.2,(zh.mk (4:Int) a_n_.name a_n_.mark a_n_.con a_n_.items a_n_.fields a_n_.root a_n_.more a_n_.of))) (cal (zE y13.2 (Str.mk [85,84,70,56,83,116,114,105,110,103])) λy16=>br y16.1 (cal (zcN y16.2) λy19=>some (y19.2,(zh.mk (6:Int) a_n_.name a_n_.mark y19.1 a_n_.items a_n_.fields a_n_.root a_n_.more a_n_.of))) (cal (zE y16.2 (Str.mk [73,78,84,69,71,69,82])) λy22=>br y22.1 (cal (zE y22.2 (Str.mk [40])) λy25=>br y25.1 (cal (zcI y25.2) λy28=>cal (zP y28.2 (Str.mk [41])) λy31=>some (y31,(zh.mk (2:Int) a_n_.name a_n_.mark y28.1 a_n_.items a_n_.fields a_n_.root a_n_.more a_n_.of))) (some (y25.2,(zh.mk (2:Int) a_n_.name a_n_.mark a_n_.con a_n_.items a_n_.fields a_n_.root a_n_.more a_n_.of)))) (cal (zE y22.2 (Str.mk [79,67,84,69,84])) λy34=>br y34.1 (cal (zP y34.2 (Str.mk [83,84,82,73,78,71])) λy37=>cal (zcN y37) λy40=>some (y40.2,(zh.mk (5:Int) a_n_.name a_n_.mark y40.1 a_n_.items a_n_.fields a_n_.root a_n_.more a_n_.of))) (cal (zE y34.2 (Str.mk [69,78,85,77,69,82,65,84,69,68])) λy43=>br y43.1 (cal (zP y43.2 (Str.mk [123])) λy46=>cal (zdl y46 (zh.mk (3:Int) a_n_.name a_n_.mark a_n_.con a_n_.items a_n_.fields a_n_.root a_n_.more a_n_.of)) λy49=>cal (zP y49.1 (Str.mk [125])) λy54=>some (y54,y49.2)) (cal (zE y43.2 (Str.mk [83,69,84])) λy57=>br y57.1 (cal (zP y57.2 (Str.mk [123])) λy60=>cal (zae y60 (zh.mk (8:Int) a_n_.name a_n_.mark a_n_.con a_n_.items a_n_.fields a_n_.root a_n_.more a_n_.of) za) λy63=>some (y63.1,y63.2)) (cal (zE y57.2 (Str.mk [67,72,79,73,67,69])) λy69=>br y69.1 (cal (zP y69.2 (Str.mk [123])) λy72=>cal (zae y72 (zh.mk (9:Int) a_n_.name a_n_.mark a_n_.con a_n_.items a_n_.fields a_n_.root a_n_.more a_n_.of) za) λy75=>some (y75.1,y75.2)) (cal (zE y69.2 (Str.mk [83,69,81,85,69,78,67,69])) λy81=>br y81.1 (cal (zE y81.2 (Str.mk [123])) λy84=>br y84.1 (cal (zae y84.2 (zh.mk (7:Int) a_n_.name a_n_.mark a_n_.con a_n_.items a_n_.fields a_n_.root a_n_.more a_n_.of) za) λy87=>some (y87.1,y87.2)) (cal (zcN y84.2) λy93=>cal (zP y93.2 (Str.mk [79,70])) λy96=>ck ((za + (1:Int))) <| cal (zaB y96 (za + (1:Int))) λy100=>some (y100.2,(zh.mk (10:Int) a_n_.name a_n_.mark y93.1 a_n_.items a_n_.fields a_n_.root a_n_.more y100.1)))) (br (decide (y6.1.kind=(1:Int))) (cal (zbA y81.2) λy104=>some (y104.2,(zh.mk (11:Int) y6.1.text a_n_.mark a_n_.con a_n_.items a_n_.fields a_n_.root a_n_.more a_n_.of))) (cal (za4 y81.2 (7:Int) y6.1) λy107=>some (y107,a_n_))))))))))))
def zcE (zaq:zA->zh->Int->Int->Option (zA × zh)) (zaB:zA->Int->Option (Int × zA)) (zaw:zA->zh->Int->Option (zA × zh)) (zae:zA->zh->Int->Option (zA × zh)) (a_x:zA) (a_n_:zh) (za:Int):Option (zA × zh) :=
 cal (zE a_x (Str.mk [125])) λy6=>br y6.1 (some (y6.2,a_n_)) (jp (ι:=zA × zh) (λJ10=>lp (ι:=Int × zA × zh) (λL12 q11=>br (decide (q11.2.1.e=(0:Int))) (jp (ι:=Int × zA × zh) (λJ64=>jp (ι:=Bool × zA) (λJ66=>br (!q11.2.2.more) (cal (zE q11.2.1 (Str.mk [46,46,46])) λy68=>J66 (y68.1,y68.2)) (J66 (false,q11.2.1))) (λq65=>br q65.1 (J64 (q11.1,q65.2,(zh.mk q11.2.2.kind q11.2.2.name q11.2.2.mark q11.2.2.con q11.2.2.items q11.2.2.fields (q11.2.2.fields.length:Int) true q11.2.2.of))) (jp (ι:=Bool × zA) (λJ72=>br q11.2.2.more (cal (zE q65.2 (Str.mk [91,91])) λy74=>J72 (y74.1,y74.2)) (J72 (false,q65.2))) (λq71=>br q71.1 (ck ((q11.1 + (1:Int))) <| jp (ι:=zA × zh) (λJ79=>lp (ι:=zA × zh) (λL81 q80=>br (decide (q80.1.e=(0:Int))) (cal (zaq q80.1 q80.2 za (q11.1 + (1:Int))) λy91=>cal (zE y91.1 (Str.mk [44])) λy97=>br (!y97.1) (J79 (y97.2,y91.2)) (L81 (y97.2,y91.2))) (J79 (q80.1,q80.2))) ((q71.2,q11.2.2))) (λq78=>cal (zP q78.1 (Str.mk [93,93])) λy101=>J64 ((q11.1 + (1:Int)),y101,q78.2))) (cal (zaq q71.2 q11.2.2 za (0:Int)) λy104=>J64 (q11.1,y104.1,y104.2)))))) (λq63=>cal (zE q63.2.1 (Str.mk [44])) λy110=>br (!y110.1) (J10 (y110.2,q63.2.2)) (L12 (q63.1,y110.2,q63.2.2)))) (J10 (q11.2.1,q11.2.2))) (((0:Int),y6.2,a_n_))) (λq9=>cal (zP q9.1 (Str.mk [125])) λy114=>br (!q9.2.more) (some (y114,(zh.mk q9.2.kind q9.2.name q9.2.mark q9.2.con q9.2.items q9.2.fields (q9.2.fields.length:Int) q9.2.more q9.2.of))) (some (y114,q9.2))))
def zdw:Nat->(zA->zh->Int->Int->Option (zA × zh)) × (zA->Int->Option (Int × zA)) × (zA->zh->Int->Option (zA × zh)) × (zA->zh->Int->Option (zA × zh))
 | 0=>(λ_ _ _ _=>none,λ_ _=>none,λ_ _ _=>none,λ_ _ _=>none)
 | n + 1=>let p:=zdw n;(zcS p.1 p.2.1 p.2.2.1 p.2.2.2,zdr p.1 p.2.1 p.2.2.1 p.2.2.2,zdb p.1 p.2.1 p.2.2.1 p.2.2.2,zcE p.1 p.2.1 p.2.2.1 p.2.2.2)
def zbb (n:Nat):zA->zh->Int->Int->Option (zA × zh):=(zdw n).1
def zaY (n:Nat):zA->Int->Option (Int × zA):=(zdw n).2.1
def zbh (n:Nat):zA->zh->Int->Option (zA × zh):=(zdw n).2.2.1
def za0 (n:Nat):zA->zh->Int->Option (zA × zh):=(zdw n).2.2.2

def zfN (zaZ:Str):Option (zaA × Int × Int) :=
 cal (zfb zaZ) λy2=>br (!decide (y2.2.2=(0:Int))) (some ((zaA.mk (Str.mk []) (0:Int) ([]:(List Str)) ([]:(List Int)) ([]:(List zh))),y2.2.1,y2.2.2)) (cal (zbB (zA.mk y2.1 (0:Int) (zaA.mk (Str.mk []) (0:Int) ([]:(List Str)) ([]:(List Int)) ([]:(List zh))) (0:Int) (0:Int)) (1:Int)) λy7=>cal (zP (zA.mk y7.2.l y7.2.at_ (zaA.mk y7.1 y7.2.m.tagging y7.2.m.names y7.2.m.types y7.2.m.nodes) y7.2.e y7.2.p) (Str.mk [68,69,70,73,78,73,84,73,79,78,83])) λy10=>jp (ι:=zA) (λJ14=>cal (zE y10 (Str.mk [69,88,80,76,73,67,73,84])) λy15=>br y15.1 (cal (zP y15.2 (Str.mk [84,65,71,83])) λy18=>J14 (y18)) (cal (zE y15.2 (Str.mk [73,77,80,76,73,67,73,84])) λy21=>br y21.1 (cal (zP (zA.mk y21.2.l y21.2.at_ (zaA.mk y21.2.m.name (1:Int) y21.2.m.names y21.2.m.types y21.2.m.nodes) y21.2.e y21.2.p) (Str.mk [84,65,71,83])) λy24=>J14 (y24)) (cal (zE y21.2 (Str.mk [65,85,84,79,77,65,84,73,67])) λy27=>br y27.1 (cal (zP (zA.mk y27.2.l y27.2.at_ (zaA.mk y27.2.m.name (2:Int) y27.2.m.names y27.2.m.types y27.2.m.nodes) y27.2.e y27.2.p) (Str.mk [84,65,71,83])) λy30=>J14 (y30)) (J14 (y27.2))))) (λq13=>cal (zP q13 (Str.mk [58,58,61])) λy33=>cal (zP y33 (Str.mk [66,69,71,73,78])) λy36=>lp (ι:=zA) (λL40 q39=>jp (ι:=Bool × zA) (λJ92=>br (decide (q39.e=(0:Int))) (cal (zE q39 (Str.mk [69,78,68])) λy94=>J92 ((!y94.1),y94.2)) (J92 (false,q39))) (λq91=>br q91.1 (cal (zaD q91.2) λy97=>cal (zbB y97.2 (1:Int)) λy101=>jp (ι:=Bool) (λJ105=>br (decide (y101.2.e=(0:Int))) (J105 ((decide ((40:Int) <= (y101.2.m.names.length:Int))))) (J105 (false))) (λq104=>jp (ι:=zA) (λJ108=>br q104 (cal (za4 y101.2 (5:Int) y97.1) λy109=>J108 (y109)) (J108 (y101.2))) (λq107=>cal (zP q107 (Str.mk [58,58,61])) λy112=>cal (zaY fuel y112 (0:Int)) λy115=>asr (Nat.ble (y115.2.m.names.length + ([y101.1]:(List Str)).length) 68719476736) <| asr (Nat.ble (y115.2.m.types.length + ([y115.1]:(List Int)).length) 68719476736) <| L40 ((zA.mk y115.2.l y115.2.at_ (zaA.mk y115.2.m.name y115.2.m.tagging (y115.2.m.names ++ ([y101.1]:(List Str))) (y115.2.m.types ++ ([y115.1]:(List Int))) y115.2.m.nodes) y115.2.e y115.2.p))))) (jp (ι:=Bool × zA) (λJ126=>br (decide (q91.2.e=(0:Int))) (cal (zaD q91.2) λy128=>J126 ((!decide (y128.1.kind=(0:Int))),y128.2)) (J126 (false,q91.2))) (λq125=>jp (ι:=zA) (λJ132=>br q125.1 (cal (zaD q125.2) λy133=>cal (za4 y133.2 (7:Int) y133.1) λy136=>J132 (y136)) (J132 (q125.2))) (λq131=>br (!decide (q131.e=(0:Int))) (some ((zaA.mk (Str.mk []) (0:Int) ([]:(List Str)) ([]:(List Int)) ([]:(List zh))),q131.p,q131.e)) (some (q131.m,(0:Int),(0:Int)))))))) ((y36))))
def zjC (a_m:zaA) (zqf:Str):Option (Int) :=
 lp (ι:=Int) (λL2 q1=>br (decide (q1 < (a_m.names.length:Int))) (cal (zq a_m.names q1) λy5=>br (decide (y5=zqf)) (some (q1)) (ck ((q1 + (1:Int))) <| L2 ((q1 + (1:Int))))) (some ((-1:Int)))) (((0:Int)))

def zhL (a_l:(List Int)) (a_x:Int):Option (Bool) :=
 lp (ι:=Int) (λL2 q1=>br (decide (q1 < (a_l.length:Int))) (cal (zq a_l q1) λy5=>br (decide (y5=a_x)) (some (true)) (ck ((q1 + (1:Int))) <| L2 ((q1 + (1:Int))))) (some (false))) (((0:Int)))

def zgx (zia:zaA->Int->Int->(List Int)->Option ((List Int) × Bool)) (a_m:zaA) (zeO:Int) (za:Int) (a_l:(List Int)):Option ((List Int) × Bool) :=
 jp (ι:=Bool) (λJ2=>br (decide (zeO < (0:Int))) (J2 (true)) (J2 ((decide ((a_m.nodes.length:Int) <= zeO))))) (λq1=>jp (ι:=Bool) (λJ5=>br q1 (J5 (true)) (J5 ((decide ((16:Int) < za))))) (λq4=>br q4 (some (a_l,false)) (cal (zq a_m.nodes zeO) λy7=>br (decide (y7.kind=(11:Int))) (cal (zjC a_m y7.name) λy9=>br (decide (y9 < (0:Int))) (some (a_l,true)) (cal (zhL a_l y9) λy10=>jp (ι:=(List Int)) (λJ12=>br (!y10) (asr (Nat.ble (a_l.length + ([y9]:(List Int)).length) 68719476736) <| J12 ((a_l ++ ([y9]:(List Int))))) (J12 (a_l))) (λq11=>some (q11,false)))) (lp (ι:=(List Int) × Bool × Int) (λL17 q16=>br (decide (q16.2.2 < (y7.fields.length:Int))) (cal (zq y7.fields q16.2.2) λy28=>ck ((za + (1:Int))) <| cal (zia a_m y28.ty (za + (1:Int)) q16.1) λy30=>jp (ι:=Bool) (λJ33=>br q16.2.1 (J33 (true)) (J33 (y30.2))) (λq32=>ck ((q16.2.2 + (1:Int))) <| L17 (y30.1,q32,(q16.2.2 + (1:Int))))) (jp (ι:=(List Int) × Bool) (λJ37=>br (decide (y7.kind=(10:Int))) (ck ((za + (1:Int))) <| cal (zia a_m y7.of (za + (1:Int)) q16.1) λy39=>jp (ι:=Bool) (λJ42=>br q16.2.1 (J42 (true)) (J42 (y39.2))) (λq41=>J37 (y39.1,q41))) (J37 (q16.1,q16.2.1))) (λq36=>some (q36.1,q36.2)))) ((a_l,false,(0:Int)))))))
def zmj:Nat->(zaA->Int->Int->(List Int)->Option ((List Int) × Bool))
 | 0=>(λ_ _ _ _=>none)
 | n + 1=>let p:=zmj n;(zgx p)
def zhP (n:Nat):zaA->Int->Int->(List Int)->Option ((List Int) × Bool):=(zmj n)

def zh7 (ziV:(List (List Int))) (zdh:Int) (a_to:Int):Option (Bool) :=
 cal (zq ziV zdh) λy2=>asr (Nat.ble (([]:(List Int)).length + y2.length) 68719476736) <| lp (ι:=(List Int) × (List Int)) (λL6 q5=>br (decide ((0:Int) < (q5.2.length:Int))) (cal (zq q5.2 (0:Int)) λy17=>asr (decide (0 <= (1:Int)/\(1:Int) <= (q5.2.length:Int))) <| br (decide (y17=a_to)) (some (true)) (cal (zhL q5.1 y17) λy20=>br (!y20) (asr (Nat.ble (q5.1.length + ([y17]:(List Int)).length) 68719476736) <| cal (zq ziV y17) λy24=>asr (Nat.ble ((q5.2.drop ((1:Int)).toNat).length + y24.length) 68719476736) <| L6 ((q5.1 ++ ([y17]:(List Int))),((q5.2.drop ((1:Int)).toNat) ++ y24))) (L6 (q5.1,(q5.2.drop ((1:Int)).toNat))))) (some (false))) ((([]:(List Int)),(([]:(List Int)) ++ y2)))

def zjv (a_m:zaA):Option ((List Int) × Int × Int) :=
 lp (ι:=Int) (λL2 q1=>br (decide (q1 < (a_m.names.length:Int))) (asr (decide (0 <= (0:Int)/\(0:Int) <= q1/\q1 <= (a_m.names.length:Int))) <| cal (zq a_m.names q1) λy804=>cal (zgF ((a_m.names.take (q1).toNat).drop (0:Int).toNat) y804) λy805=>br y805 (some (([]:(List Int)),q1,(8:Int))) (ck ((q1 + (1:Int))) <| L2 ((q1 + (1:Int))))) (lp (ι:=(List (List Int)) × Int × Int) (λL808 q807=>br (decide (q807.2.2 < (a_m.names.length:Int))) (jp (ι:=(List (List Int)) × Int) (λJ1338=>cal (zq a_m.types q807.2.2) λy1339=>cal (zhP fuel a_m y1339 (0:Int) ([]:(List Int))) λy1341=>asr (Nat.ble (q807.1.length + ([y1341.1]:(List (List Int))).length) 68719476736) <| jp (ι:=Bool) (λJ1347=>br y1341.2 (J1347 ((decide (q807.2.1 < (0:Int))))) (J1347 (false))) (λq1346=>br q1346 (J1338 ((q807.1 ++ ([y1341.1]:(List (List Int)))),q807.2.2)) (J1338 ((q807.1 ++ ([y1341.1]:(List (List Int)))),q807.2.1)))) (λq1337=>ck ((q807.2.2 + (1:Int))) <| L808 (q1337.1,q1337.2,(q807.2.2 + (1:Int))))) (br (decide ((0:Int) <= q807.2.1)) (some (([]:(List Int)),q807.2.1,(9:Int))) (lp (ι:=Int) (λL1351 q1350=>br (decide (q1350 < (a_m.names.length:Int))) (cal (zh7 q807.1 q1350 q1350) λy1476=>br y1476 (some (([]:(List Int)),q1350,(10:Int))) (ck ((q1350 + (1:Int))) <| L1351 ((q1350 + (1:Int))))) (lp (ι:=(List Int)) (λL1479 q1478=>br (decide ((q1478.length:Int) < (a_m.names.length:Int))) (lp (ι:=Int) (λL1540 q1539=>br (decide (q1539 < (a_m.names.length:Int))) (cal (zhL q1478 q1539) λy1569=>lp (ι:=Bool × Int) (λL1571 q1570=>cal (zq q807.1 q1539) λy1584=>br (decide (q1570.2 < (y1584.length:Int))) (jp (ι:=Bool) (λJ1586=>br q1570.1 (cal (zq q807.1 q1539) λy1588=>cal (zq y1588 q1570.2) λy1589=>cal (zhL q1478 y1589) λy1590=>J1586 (y1590)) (J1586 (false))) (λq1585=>ck ((q1570.2 + (1:Int))) <| L1571 (q1585,(q1570.2 + (1:Int))))) (br q1570.1 (asr (Nat.ble (q1478.length + ([q1539]:(List Int)).length) 68719476736) <| L1479 ((q1478 ++ ([q1539]:(List Int))))) (ck ((q1539 + (1:Int))) <| L1540 ((q1539 + (1:Int)))))) (((!y1569),(0:Int)))) (L1479 (q1478))) (((0:Int)))) (some (q1478,(0:Int),(0:Int)))) ((([]:(List Int)))))) (((0:Int)))))) ((([]:(List (List Int))),(-1:Int),(0:Int))))) (((0:Int)))
def zbi (a_x:GMk) (a_e:Int):Option (GMk) :=
 br (decide (a_x.e=(0:Int))) (some ((GMk.mk a_x.m a_x.l a_e))) (some (a_x))

def zf5 (zfm:Int):Option (Tag) :=
 br (decide (zfm=(1:Int))) (some ((Tag.mk (0:Int) (1:Int)))) (br (decide (zfm=(2:Int))) (some ((Tag.mk (0:Int) (2:Int)))) (br (decide (zfm=(5:Int))) (some ((Tag.mk (0:Int) (4:Int)))) (br (decide (zfm=(4:Int))) (some ((Tag.mk (0:Int) (5:Int)))) (br (decide (zfm=(3:Int))) (some ((Tag.mk (0:Int) (10:Int)))) (br (decide (zfm=(6:Int))) (some ((Tag.mk (0:Int) (12:Int)))) (jp (ι:=Bool) (λJ3=>br (decide (zfm=(7:Int))) (J3 ((decide (zfm=(7:Int))))) (J3 ((decide (zfm=(10:Int)))))) (λq2=>br q2 (some ((Tag.mk (0:Int) (16:Int)))) (br (decide (zfm=(8:Int))) (some ((Tag.mk (0:Int) (17:Int)))) (some ((Tag.mk (0:Int) (0:Int))))))))))))

def zjQ (a_c:zbx) (zqc:Bool):Option (Int) :=
 br (!a_c.has) (some ((0:Int))) (jp (ι:=Bool) (λJ2=>br a_c.hasLow (J2 (a_c.hasHigh)) (J2 (false))) (λq1=>jp (ι:=Bool) (λJ5=>br q1 (J5 ((decide (a_c.high < a_c.low)))) (J5 (false))) (λq4=>br q4 (some ((11:Int))) (jp (ι:=Bool) (λJ8=>br zqc (jp (ι:=Bool) (λJ11=>br (!a_c.hasLow) (J11 (true)) (J11 ((decide (a_c.low < (0:Int)))))) (λq10=>jp (ι:=Bool) (λJ14=>br q10 (J14 (true)) (J14 ((decide ((70000:Int) < a_c.low))))) (λq13=>jp (ι:=Bool) (λJ17=>br q13 (J17 (true)) (jp (ι:=Bool) (λJ20=>br a_c.hasHigh (jp (ι:=Bool) (λJ23=>br (decide (a_c.high < (0:Int))) (J23 (true)) (J23 ((decide ((70000:Int) < a_c.high))))) (λq22=>J20 (q22))) (J20 (false))) (λq19=>J17 (q19)))) (λq16=>J8 (q16))))) (J8 (false))) (λq7=>br q7 (some ((11:Int))) (some ((0:Int))))))))

def zjN (a_l:(List zai)) (a_v:Int):Option (Bool) :=
 lp (ι:=Int) (λL2 q1=>br (decide (q1 < (a_l.length:Int))) (cal (zq a_l q1) λy9=>jp (ι:=Bool) (λJ11=>br y9.has (cal (zq a_l q1) λy13=>J11 ((decide (y13.number=a_v)))) (J11 (false))) (λq10=>br q10 (some (true)) (ck ((q1 + (1:Int))) <| L2 ((q1 + (1:Int)))))) (some (false))) (((0:Int)))

def zdP (a_x:GMk) (a_n_:zh):Option ((List zai) × GMk) :=
 lp (ι:=(List zai) × Int × Int) (λL3 q2=>br (decide (q2.2.2 < a_n_.root)) (cal (zq a_n_.items q2.2.2) λy335=>jp (ι:=Int × zai) (λJ338=>br (!y335.has) (lp (ι:=Int) (λL340 q339=>asr (decide (0 <= (0:Int)/\(0:Int) <= a_n_.root/\a_n_.root <= (a_n_.items.length:Int))) <| cal (zjN ((a_n_.items.take (a_n_.root).toNat).drop (0:Int).toNat) q339) λy346=>br y346 (ck ((q339 + (1:Int))) <| L340 ((q339 + (1:Int)))) (ck ((q339 + (1:Int))) <| J338 ((q339 + (1:Int)),{ y335 with number:=q339 }))) ((q2.2.1))) (J338 (q2.2.1,y335))) (λq337=>asr (Nat.ble (q2.1.length + ([{ q337.2 with has:=false }]:(List zai)).length) 68719476736) <| ck ((q2.2.2 + (1:Int))) <| L3 ((q2.1 ++ ([{ q337.2 with has:=false }]:(List zai))),q337.1,(q2.2.2 + (1:Int))))) (lp (ι:=(List zai) × Int × Bool × Bool × Int) (λL355 q354=>br (decide (q354.2.2.2.2 < (a_n_.items.length:Int))) (cal (zq a_n_.items q354.2.2.2.2) λy558=>jp (ι:=zai) (λJ561=>br (!y558.has) (lp (ι:=Int × zai) (λL563 q562=>br (decide (q562.1 < (q354.1.length:Int))) (jp (ι:=zai) (λJ578=>cal (zq q354.1 q562.1) λy579=>br (decide (y579.number=(9223372036854775807:Int))) (cal (zbi a_x (11:Int)) λy580=>some (([]:(List zai)),y580)) (jp (ι:=Bool) (λJ584=>br (decide (q562.1=(0:Int))) (J584 (true)) (cal (zq q354.1 q562.1) λy586=>J584 ((decide (q562.2.number <= y586.number))))) (λq583=>br q583 (cal (zq q354.1 q562.1) λy587=>ck ((y587.number + (1:Int))) <| J578 ({ q562.2 with number:=(y587.number + (1:Int)) })) (J578 (q562.2))))) (λq577=>ck ((q562.1 + (1:Int))) <| L563 ((q562.1 + (1:Int)),q577))) (J561 (q562.2))) (((0:Int),{ y558 with number:=(0:Int) }))) (J561 (y558))) (λq560=>jp (ι:=Bool) (λJ592=>br q354.2.2.2.1 (J592 (true)) (jp (ι:=Bool) (λJ595=>br q354.2.2.1 (J595 ((decide (q560.number <= q354.2.1)))) (J595 (false))) (λq594=>J592 (q594)))) (λq591=>asr (Nat.ble (q354.1.length + ([{ q560 with has:=false }]:(List zai)).length) 68719476736) <| ck ((q354.2.2.2.2 + (1:Int))) <| L355 ((q354.1 ++ ([{ q560 with has:=false }]:(List zai))),q560.number,true,q591,(q354.2.2.2.2 + (1:Int)))))) (lp (ι:=Bool × Int) (λL602 q601=>br (decide (q601.2 < (q354.1.length:Int))) (lp (ι:=Bool × Int) (λL634 q633=>br (decide (q633.2 < q601.2)) (jp (ι:=Bool) (λJ648=>br q633.1 (J648 (true)) (cal (zq q354.1 q633.2) λy650=>cal (zq q354.1 q601.2) λy651=>J648 ((decide (y650.name=y651.name))))) (λq647=>jp (ι:=Bool) (λJ653=>br q647 (J653 (true)) (cal (zq q354.1 q633.2) λy655=>cal (zq q354.1 q601.2) λy656=>J653 ((decide (y655.number=y656.number))))) (λq652=>ck ((q633.2 + (1:Int))) <| L634 (q652,(q633.2 + (1:Int)))))) (ck ((q601.2 + (1:Int))) <| L602 (q633.1,(q601.2 + (1:Int))))) ((q601.1,(0:Int)))) (jp (ι:=GMk) (λJ661=>br q601.1 (cal (zbi a_x (8:Int)) λy662=>J661 (y662)) (J661 (a_x))) (λq660=>some (q354.1,q660)))) ((q354.2.2.2.1,(0:Int))))) ((q2.1,(0:Int),false,false,a_n_.root)))) ((([]:(List zai)),(0:Int),(0:Int)))

def zeg (a_c:zbx) (a_v:Int):Option (Bool) :=
 jp (ι:=Bool) (λJ2=>br (!a_c.has) (J2 (true)) (jp (ι:=Bool) (λJ5=>br (!a_c.hasLow) (J5 (true)) (J5 ((decide (a_c.low <= a_v))))) (λq4=>jp (ι:=Bool) (λJ8=>br q4 (jp (ι:=Bool) (λJ11=>br (!a_c.hasHigh) (J11 (true)) (J11 ((decide (a_v <= a_c.high))))) (λq10=>J8 (q10))) (J8 (false))) (λq7=>J2 (q7))))) (λq1=>some (q1))

def zbz (a_s:(List UInt8)):Option (UInt64) :=
 cal (zq a_s (0:Int)) λy1=>cal (zq a_s (1:Int)) λy2=>asr (Nat.ble (8:UInt64).toNat 64) <| cal (zq a_s (2:Int)) λy4=>asr (Nat.ble (16:UInt64).toNat 64) <| cal (zq a_s (3:Int)) λy6=>asr (Nat.ble (24:UInt64).toNat 64) <| cal (zq a_s (4:Int)) λy8=>asr (Nat.ble (32:UInt64).toNat 64) <| cal (zq a_s (5:Int)) λy10=>asr (Nat.ble (40:UInt64).toNat 64) <| cal (zq a_s (6:Int)) λy12=>asr (Nat.ble (48:UInt64).toNat 64) <| cal (zq a_s (7:Int)) λy14=>asr (Nat.ble (56:UInt64).toNat 64) <| some ((((((((y1.toUInt64 ||| (zf9 y2.toUInt64 (8:UInt64).toNat)) ||| (zf9 y4.toUInt64 (16:UInt64).toNat)) ||| (zf9 y6.toUInt64 (24:UInt64).toNat)) ||| (zf9 y8.toUInt64 (32:UInt64).toNat)) ||| (zf9 y10.toUInt64 (40:UInt64).toNat)) ||| (zf9 y12.toUInt64 (48:UInt64).toNat)) ||| (zf9 y14.toUInt64 (56:UInt64).toNat)))

def zcy (a_p:(List UInt8)):Option (Bool) :=
 asr (decide (0 <= (a_p.length:Int)/\(a_p.length:Int) <= (a_p.length:Int))) <| lp (ι:=(List UInt8)) (λL3 q2=>br (decide ((0:Int) < (q2.length:Int))) (cal (zq q2 (0:Int)) λy99=>br (decide (y99 < (128:UInt8))) (asr (decide (0 <= (1:Int)/\(1:Int) <= (q2.length:Int)/\(q2.length:Int) <= (q2.length:Int))) <| jp (ι:=Bool) (λJ102=>br (decide ((8:Int) < (((q2.take ((q2.length:Int)).toNat).drop ((1:Int)).toNat).length:Int))) (cal (zbz ((q2.take ((q2.length:Int)).toNat).drop ((1:Int)).toNat)) λy104=>J102 ((decide ((y104 &&& (9259542123273814144:UInt64))=(0:UInt64))))) (J102 (false))) (λq101=>jp (ι:=(List UInt8)) (λJ106=>br q101 (asr (decide (0 <= (8:Int)/\(8:Int) <= (((q2.take ((q2.length:Int)).toNat).drop ((1:Int)).toNat).length:Int)/\(((q2.take ((q2.length:Int)).toNat).drop ((1:Int)).toNat).length:Int) <= (((q2.take ((q2.length:Int)).toNat).drop ((1:Int)).toNat).length:Int))) <| jp (ι:=Bool) (λJ109=>br (decide ((16:Int) < (((((q2.take ((q2.length:Int)).toNat).drop ((1:Int)).toNat).take ((((q2.take ((q2.length:Int)).toNat).drop ((1:Int)).toNat).length:Int)).toNat).drop ((8:Int)).toNat).length:Int))) (asr (decide (0 <= (8:Int)/\(8:Int) <= (((((q2.take ((q2.length:Int)).toNat).drop ((1:Int)).toNat).take ((((q2.take ((q2.length:Int)).toNat).drop ((1:Int)).toNat).length:Int)).toNat).drop ((8:Int)).toNat).length:Int)/\(((((q2.take ((q2.length:Int)).toNat).drop ((1:Int)).toNat).take ((((q2.take ((q2.length:Int)).toNat).drop ((1:Int)).toNat).length:Int)).toNat).drop ((8:Int)).toNat).length:Int) <= (((((q2.take ((q2.length:Int)).toNat).drop ((1:Int)).toNat).take ((((q2.take ((q2.length:Int)).toNat).drop ((1:Int)).toNat).length:Int)).toNat).drop ((8:Int)).toNat).length:Int))) <| cal (zbz ((((q2.take ((q2.length:Int)).toNat).drop ((1:Int)).toNat).take ((((q2.take ((q2.length:Int)).toNat).drop ((1:Int)).toNat).length:Int)).toNat).drop ((8:Int)).toNat)) λy112=>cal (zbz ((((((q2.take ((q2.length:Int)).toNat).drop ((1:Int)).toNat).take ((((q2.take ((q2.length:Int)).toNat).drop ((1:Int)).toNat).length:Int)).toNat).drop ((8:Int)).toNat).take ((((((q2.take ((q2.length:Int)).toNat).drop ((1:Int)).toNat).take ((((q2.take ((q2.length:Int)).toNat).drop ((1:Int)).toNat).length:Int)).toNat).drop ((8:Int)).toNat).length:Int)).toNat).drop ((8:Int)).toNat)) λy113=>J109 ((decide (((y112 ||| y113) &&& (9259542123273814144:UInt64))=(0:UInt64))))) (J109 (false))) (λq108=>br q108 (asr (decide (0 <= (16:Int)/\(16:Int) <= (((((q2.take ((q2.length:Int)).toNat).drop ((1:Int)).toNat).take ((((q2.take ((q2.length:Int)).toNat).drop ((1:Int)).toNat).length:Int)).toNat).drop ((8:Int)).toNat).length:Int)/\(((((q2.take ((q2.length:Int)).toNat).drop ((1:Int)).toNat).take ((((q2.take ((q2.length:Int)).toNat).drop ((1:Int)).toNat).length:Int)).toNat).drop ((8:Int)).toNat).length:Int) <= (((((q2.take ((q2.length:Int)).toNat).drop ((1:Int)).toNat).take ((((q2.take ((q2.length:Int)).toNat).drop ((1:Int)).toNat).length:Int)).toNat).drop ((8:Int)).toNat).length:Int))) <| lp (ι:=(List UInt8)) (λL116 q115=>jp (ι:=Bool) (λJ129=>br (decide ((32:Int) < (q115.length:Int))) (asr (decide (0 <= (8:Int)/\(8:Int) <= (q115.length:Int)/\(q115.length:Int) <= (q115.length:Int))) <| asr (decide (0 <= (16:Int)/\(16:Int) <= (q115.length:Int)/\(q115.length:Int) <= (q115.length:Int))) <| asr (decide (0 <= (24:Int)/\(24:Int) <= (q115.length:Int)/\(q115.length:Int) <= (q115.length:Int))) <| cal (zbz q115) λy134=>cal (zbz ((q115.take ((q115.length:Int)).toNat).drop ((8:Int)).toNat)) λy135=>cal (zbz ((q115.take ((q115.length:Int)).toNat).drop ((16:Int)).toNat)) λy136=>cal (zbz ((q115.take ((q115.length:Int)).toNat).drop ((24:Int)).toNat)) λy137=>J129 ((decide ((((y134 ||| y135) ||| (y136 ||| y137)) &&& (9259542123273814144:UInt64))=(0:UInt64))))) (J129 (false))) (λq128=>br q128 (asr (decide (0 <= (32:Int)/\(32:Int) <= (q115.length:Int)/\(q115.length:Int) <= (q115.length:Int))) <| L116 (((q115.take ((q115.length:Int)).toNat).drop ((32:Int)).toNat))) (J106 (q115)))) ((((((((q2.take ((q2.length:Int)).toNat).drop ((1:Int)).toNat).take ((((q2.take ((q2.length:Int)).toNat).drop ((1:Int)).toNat).length:Int)).toNat).drop ((8:Int)).toNat).take ((((((q2.take ((q2.length:Int)).toNat).drop ((1:Int)).toNat).take ((((q2.take ((q2.length:Int)).toNat).drop ((1:Int)).toNat).length:Int)).toNat).drop ((8:Int)).toNat).length:Int)).toNat).drop ((16:Int)).toNat)))) (J106 (((((q2.take ((q2.length:Int)).toNat).drop ((1:Int)).toNat).take ((((q2.take ((q2.length:Int)).toNat).drop ((1:Int)).toNat).length:Int)).toNat).drop ((8:Int)).toNat))))) (J106 (((q2.take ((q2.length:Int)).toNat).drop ((1:Int)).toNat)))) (λq105=>L3 (q105)))) (asr (Nat.ble (4:UInt64).toNat 8) <| asr (Nat.blt (zf0 (zfU y99) (4:UInt64).toNat).toNat 16) <| br (decide ((((zfU y99) &&& (7:UInt8)).toNat:Int)=(2:Int))) (jp (ι:=Bool) (λJ144=>br (decide ((q2.length:Int) < (2:Int))) (J144 (true)) (cal (zq q2 (1:Int)) λy146=>J144 ((decide (y146 < (zim (zf0 (zfU y99) (4:UInt64).toNat)).lo))))) (λq143=>jp (ι:=Bool) (λJ148=>br q143 (J148 (true)) (cal (zq q2 (1:Int)) λy150=>J148 ((decide ((zim (zf0 (zfU y99) (4:UInt64).toNat)).hi < y150))))) (λq147=>br q147 (some (false)) (asr (decide (0 <= (2:Int)/\(2:Int) <= (q2.length:Int)/\(q2.length:Int) <= (q2.length:Int))) <| L3 (((q2.take ((q2.length:Int)).toNat).drop ((2:Int)).toNat)))))) (br (decide ((((zfU y99) &&& (7:UInt8)).toNat:Int)=(3:Int))) (jp (ι:=Bool) (λJ153=>br (decide ((q2.length:Int) < (3:Int))) (J153 (true)) (cal (zq q2 (1:Int)) λy155=>J153 ((decide (y155 < (zim (zf0 (zfU y99) (4:UInt64).toNat)).lo))))) (λq152=>jp (ι:=Bool) (λJ157=>br q152 (J157 (true)) (cal (zq q2 (1:Int)) λy159=>J157 ((decide ((zim (zf0 (zfU y99) (4:UInt64).toNat)).hi < y159))))) (λq156=>jp (ι:=Bool) (λJ161=>br q156 (J161 (true)) (cal (zq q2 (2:Int)) λy163=>J161 ((decide (y163 < (128:UInt8)))))) (λq160=>jp (ι:=Bool) (λJ165=>br q160 (J165 (true)) (cal (zq q2 (2:Int)) λy167=>J165 ((decide ((191:UInt8) < y167))))) (λq164=>br q164 (some (false)) (asr (decide (0 <= (3:Int)/\(3:Int) <= (q2.length:Int)/\(q2.length:Int) <= (q2.length:Int))) <| L3 (((q2.take ((q2.length:Int)).toNat).drop ((3:Int)).toNat)))))))) (br (decide ((((zfU y99) &&& (7:UInt8)).toNat:Int)=(4:Int))) (jp (ι:=Bool) (λJ170=>br (decide ((q2.length:Int) < (4:Int))) (J170 (true)) (cal (zq q2 (1:Int)) λy172=>J170 ((decide (y172 < (zim (zf0 (zfU y99) (4:UInt64).toNat)).lo))))) (λq169=>jp (ι:=Bool) (λJ174=>br q169 (J174 (true)) (cal (zq q2 (1:Int)) λy176=>J174 ((decide ((zim (zf0 (zfU y99) (4:UInt64).toNat)).hi < y176))))) (λq173=>jp (ι:=Bool) (λJ178=>br q173 (J178 (true)) (cal (zq q2 (2:Int)) λy180=>J178 ((decide (y180 < (128:UInt8)))))) (λq177=>jp (ι:=Bool) (λJ182=>br q177 (J182 (true)) (cal (zq q2 (2:Int)) λy184=>J182 ((decide ((191:UInt8) < y184))))) (λq181=>jp (ι:=Bool) (λJ186=>br q181 (J186 (true)) (cal (zq q2 (3:Int)) λy188=>J186 ((decide (y188 < (128:UInt8)))))) (λq185=>jp (ι:=Bool) (λJ190=>br q185 (J190 (true)) (cal (zq q2 (3:Int)) λy192=>J190 ((decide ((191:UInt8) < y192))))) (λq189=>br q189 (some (false)) (asr (decide (0 <= (4:Int)/\(4:Int) <= (q2.length:Int)/\(q2.length:Int) <= (q2.length:Int))) <| L3 (((q2.take ((q2.length:Int)).toNat).drop ((4:Int)).toNat)))))))))) (some (false)))))) (some (true))) (((a_p.take ((a_p.length:Int)).toNat)))

def zcQ (a_x:GMk) (a_i:Int) (a_v:Val):Option (Val × GMk) :=
 asr (decide (0 <= a_i/\a_i < ((a_x.l.length:Nat):Int))) <| cal (a_x.l[a_i.toNat]?) λy5=>jp (ι:=Bool × Val) (λJ8=>jp (ι:=Bool) (λJ10=>br (decide (y5.kind=(1:Int))) (J10 ((decide (y5.kind=(1:Int))))) (J10 ((decide (y5.kind=(4:Int)))))) (λq9=>br q9 (J8 ((decide (a_v.kind=y5.kind)),a_v)) (br (decide (y5.kind=(2:Int))) (jp (ι:=Bool) (λJ12=>br (decide (a_v.kind=y5.kind)) (cal (zeg y5.con a_v.n) λy14=>J12 (y14)) (J12 (false))) (λq11=>J8 (q11,a_v))) (jp (ι:=Bool) (λJ16=>br (decide (y5.kind=(5:Int))) (J16 ((decide (y5.kind=(5:Int))))) (J16 ((decide (y5.kind=(6:Int)))))) (λq15=>br q15 (jp (ι:=Bool) (λJ18=>br (decide (a_v.kind=y5.kind)) (cal (zeg y5.con (a_v.b.length:Int)) λy20=>J18 (y20)) (J18 (false))) (λq17=>jp (ι:=Bool) (λJ22=>br q17 (jp (ι:=Bool) (λJ25=>br (decide (y5.kind=(5:Int))) (J25 (true)) (cal (zcy a_v.b) λy27=>J25 (y27))) (λq24=>J22 (q24))) (J22 (false))) (λq21=>J8 (q21,a_v)))) (br (decide (y5.kind=(3:Int))) (br (decide (a_v.kind=y5.kind)) (lp (ι:=Bool × Int × Val) (λL29 q28=>jp (ι:=Bool) (λJ41=>br (decide (q28.2.1 < y5.root)) (J41 ((!q28.1))) (J41 (false))) (λq40=>br q40 (jp (ι:=Bool × Val) (λJ44=>cal (zq y5.items q28.2.1) λy47=>br (decide (y47.name=(Str.mk q28.2.2.b))) (cal (zq y5.items q28.2.1) λy48=>J44 (true,(Val.mk (3:Int) y48.number ([]:(List UInt8)) ([]:(List Val)) (0:Int) ([]:(List Raw))))) (J44 (q28.1,q28.2.2))) (λq43=>ck ((q28.2.1 + (1:Int))) <| L29 (q43.1,(q28.2.1 + (1:Int)),q43.2))) (J8 (q28.1,q28.2.2)))) ((false,(0:Int),a_v))) (J8 ((decide (a_v.kind=y5.kind)),a_v))) (J8 (false,a_v)))))))) (λq7=>jp (ι:=GMk) (λJ52=>br (!q7.1) (cal (zbi a_x (13:Int)) λy53=>J52 (y53)) (J52 (a_x))) (λq51=>some (q7.2,q51)))

def zdF (a_x:GMk) (a_i:Int):Option (Int × GMk) :=
 asr (decide (0 <= a_i/\a_i < ((a_x.l.length:Nat):Int))) <| cal (a_x.l[a_i.toNat]?) λy3=>br (decide ((0:Int) < (y3.tags.length:Int))) (some ((1:Int),a_x)) (some ((0:Int),a_x))

def zkM (zhA:(List Tag)) (zew:Int) (zi5:Int):Option ((List Tag) × Int) :=
 jp (ι:=Bool) (λJ2=>br (decide (zew < (0:Int))) (J2 (true)) (J2 ((decide ((268435456:Int) < zew))))) (λq1=>jp (ι:=Bool) (λJ5=>br q1 (J5 (true)) (jp (ι:=Bool) (λJ8=>br (decide (zi5=(1:Int))) (J8 ((decide ((zhA.length:Int)=(0:Int))))) (J8 (false))) (λq7=>J5 (q7)))) (λq4=>br q4 (some (([]:(List Tag)),(12:Int))) (br (decide (zi5=(1:Int))) (asr (decide (0 <= (1:Int)/\(1:Int) <= (zhA.length:Int)/\(zhA.length:Int) <= (zhA.length:Int))) <| asr (Nat.ble (([(Tag.mk (2:Int) zew)]:(List Tag)).length + ((zhA.take ((zhA.length:Int)).toNat).drop ((1:Int)).toNat).length) 68719476736) <| some ((([(Tag.mk (2:Int) zew)]:(List Tag)) ++ ((zhA.take ((zhA.length:Int)).toNat).drop ((1:Int)).toNat)),(0:Int))) (asr (Nat.ble (([(Tag.mk (2:Int) zew)]:(List Tag)).length + zhA.length) 68719476736) <| some ((([(Tag.mk (2:Int) zew)]:(List Tag)) ++ zhA),(0:Int))))))

def zdG (a_x:GMk) (a_i:Int) (zew:Int) (zi5:Int):Option (GMk) :=
 br (!decide (a_x.e=(0:Int))) (some (a_x)) (asr (decide (0 <= a_i/\a_i < ((a_x.l.length:Nat):Int))) <| cal (a_x.l[a_i.toNat]?) λy3=>cal (zkM y3.tags zew zi5) λy4=>br (!decide (y4.2=(0:Int))) (cal (zbi a_x y4.2) λy5=>some (y5)) (asr (decide (0 <= a_i/\a_i < ((a_x.l.length:Nat):Int))) <| cal (a_x.l[a_i.toNat]?) λy7=>some ((GMk.mk a_x.m (a_x.l.set a_i.toNat ({ y7 with tags:=y4.1 })) a_x.e))))

def ziJ (zjz:(List zg)->Int->Option (Bool)) (a_l:(List zg)) (a_i:Int):Option (Bool) :=
 asr (decide (0 <= a_i/\a_i < ((a_l.length:Nat):Int))) <| cal (a_l[a_i.toNat]?) λy2=>jp (ι:=Bool) (λJ4=>br (!decide (y2.kind=(9:Int))) (J4 (true)) (asr (decide (0 <= a_i/\a_i < ((a_l.length:Nat):Int))) <| cal (a_l[a_i.toNat]?) λy7=>J4 ((decide ((0:Int) < (y7.tags.length:Int)))))) (λq3=>br q3 (some (false)) (asr (decide (0 <= a_i/\a_i < ((a_l.length:Nat):Int))) <| cal (a_l[a_i.toNat]?) λy9=>lp (ι:=Bool × Int) (λL11 q10=>asr (decide (0 <= a_i/\a_i < ((a_l.length:Nat):Int))) <| cal (a_l[a_i.toNat]?) λy23=>br (decide (q10.2 < (y23.fields.length:Int))) (jp (ι:=Bool) (λJ25=>br q10.1 (J25 (true)) (asr (decide (0 <= a_i/\a_i < ((a_l.length:Nat):Int))) <| cal (a_l[a_i.toNat]?) λy28=>cal (zq y28.fields q10.2) λy29=>cal (zjz a_l y29.ty) λy30=>J25 (y30))) (λq24=>ck ((q10.2 + (1:Int))) <| L11 (q24,(q10.2 + (1:Int))))) (some (q10.1))) ((y9.more,(0:Int)))))
def zmB:Nat->((List zg)->Int->Option (Bool))
 | 0=>(λ_ _=>none)
 | n + 1=>let p:=zmB n;(ziJ p)
def zjs (n:Nat):(List zg)->Int->Option (Bool):=(zmB n)

def zgX (zhH:(List zg)->Int->Option ((List Tag))) (a_l:(List zg)) (a_i:Int):Option ((List Tag)) :=
 asr (decide (0 <= a_i/\a_i < ((a_l.length:Nat):Int))) <| cal (a_l[a_i.toNat]?) λy2=>br (decide ((0:Int) < (y2.tags.length:Int))) (asr (decide (0 <= a_i/\a_i < ((a_l.length:Nat):Int))) <| cal (a_l[a_i.toNat]?) λy4=>asr (decide (0 <= (0:Int)/\(0:Int) <= (1:Int)/\(1:Int) <= (y4.tags.length:Int))) <| some (((y4.tags.take ((1:Int)).toNat).drop (0:Int).toNat))) (lp (ι:=(List Tag) × Int) (λL7 q6=>asr (decide (0 <= a_i/\a_i < ((a_l.length:Nat):Int))) <| cal (a_l[a_i.toNat]?) λy18=>br (decide (q6.2 < (y18.fields.length:Int))) (asr (decide (0 <= a_i/\a_i < ((a_l.length:Nat):Int))) <| cal (a_l[a_i.toNat]?) λy20=>cal (zq y20.fields q6.2) λy21=>cal (zhH a_l y21.ty) λy22=>asr (Nat.ble (q6.1.length + y22.length) 68719476736) <| ck ((q6.2 + (1:Int))) <| L7 ((q6.1 ++ y22),(q6.2 + (1:Int)))) (some (q6.1))) ((([]:(List Tag)),(0:Int))))
def zkO:Nat->((List zg)->Int->Option ((List Tag)))
 | 0=>(λ_ _=>none)
 | n + 1=>let p:=zkO n;(zgX p)
def zhB (n:Nat):(List zg)->Int->Option ((List Tag)):=(zkO n)

def zfR (a_l:(List Tag)) (a_x:Tag):Option (Bool) :=
 lp (ι:=Int) (λL2 q1=>br (decide (q1 < (a_l.length:Int))) (cal (zq a_l q1) λy5=>br (decide (y5=a_x)) (some (true)) (ck ((q1 + (1:Int))) <| L2 ((q1 + (1:Int))))) (some (false))) (((0:Int)))

def zg9 (zlX:(List (List Tag))):Option (Bool) :=
 lp (ι:=(List Tag) × Int) (λL2 q1=>br (decide (q1.2 < (zlX.length:Int))) (lp (ι:=(List Tag) × Int) (λL30 q29=>cal (zq zlX q1.2) λy42=>br (decide (q29.2 < (y42.length:Int))) (cal (zq zlX q1.2) λy43=>cal (zq y43 q29.2) λy44=>cal (zfR q29.1 y44) λy45=>br y45 (some (false)) (cal (zq zlX q1.2) λy46=>cal (zq y46 q29.2) λy47=>asr (Nat.ble (q29.1.length + ([y47]:(List Tag)).length) 68719476736) <| ck ((q29.2 + (1:Int))) <| L30 ((q29.1 ++ ([y47]:(List Tag))),(q29.2 + (1:Int))))) (ck ((q1.2 + (1:Int))) <| L2 (q29.1,(q1.2 + (1:Int))))) ((q1.1,(0:Int)))) (some (true))) ((([]:(List Tag)),(0:Int)))

def zcM (a_x:GMk) (a_l:(List zaF)) (znr:Bool):Option (Bool × GMk) :=
 lp (ι:=(List (List Tag)) × Int) (λL3 q2=>br (decide (q2.2 < (a_l.length:Int))) (cal (zq a_l q2.2) λy25=>cal (zjs fuel a_x.l y25.ty) λy26=>jp (ι:=Bool) (λJ28=>br y26 (jp (ι:=Bool) (λJ31=>br znr (J31 (true)) (J31 ((decide ((1:Int) < (a_l.length:Int)))))) (λq30=>J28 (q30))) (J28 (false))) (λq27=>br q27 (some (false,a_x)) (cal (zq a_l q2.2) λy35=>cal (zhB fuel a_x.l y35.ty) λy36=>asr (Nat.ble (q2.1.length + ([y36]:(List (List Tag))).length) 68719476736) <| ck ((q2.2 + (1:Int))) <| L3 ((q2.1 ++ ([y36]:(List (List Tag)))),(q2.2 + (1:Int)))))) (cal (zg9 q2.1) λy41=>some (y41,a_x))) ((([]:(List (List Tag))),(0:Int)))

def zie (a_t:zg):Option ((List Bool)) :=
 lp (ι:=(List Bool) × Int) (λL2 q1=>br (decide (q1.2 < (a_t.fields.length:Int))) (cal (zq a_t.fields q1.2) λy15=>jp (ι:=Bool) (λJ17=>br y15.optional (J17 (true)) (cal (zq a_t.fields q1.2) λy19=>J17 (y19.has))) (λq16=>jp (ι:=Bool) (λJ21=>br q16 (J21 (true)) (J21 ((decide (a_t.root <= q1.2))))) (λq20=>asr (Nat.ble (q1.1.length + ([q20]:(List Bool)).length) 68719476736) <| ck ((q1.2 + (1:Int))) <| L2 ((q1.1 ++ ([q20]:(List Bool))),(q1.2 + (1:Int)))))) (some (q1.1))) ((([]:(List Bool)),(0:Int)))

def zjB (a_t:zg):Option (Int) :=
 cal (zie a_t) λy1=>lp (ι:=Int) (λL3 q2=>jp (ι:=Bool) (λJ11=>br (decide ((0:Int) < q2)) (ck ((q2 - (1:Int))) <| cal (zq y1 (q2 - (1:Int))) λy14=>J11 (y14)) (J11 (false))) (λq10=>br q10 (ck ((q2 - (1:Int))) <| L3 ((q2 - (1:Int)))) (some (q2)))) ((a_t.root))

def zdQ (a_x:GMk) (a_t:zg):Option (Bool × GMk) :=
 br (!decide (a_t.kind=(7:Int))) (cal (zcM a_x a_t.fields a_t.more) λy2=>some (y2.1,y2.2)) (cal (zie a_t) λy3=>lp (ι:=Int × GMk) (λL5 q4=>br (decide (q4.1 < (a_t.fields.length:Int))) (jp (ι:=GMk) (λJ37=>cal (zq y3 q4.1) λy38=>br (!y38) (J37 (q4.2)) (ck ((q4.1 + (1:Int))) <| lp (ι:=Int) (λL41 q40=>jp (ι:=Bool) (λJ51=>br (decide (q40 < (a_t.fields.length:Int))) (cal (zq y3 q40) λy53=>J51 (y53)) (J51 (false))) (λq50=>br q50 (ck ((q40 + (1:Int))) <| L41 ((q40 + (1:Int)))) (ck ((q40 + (1:Int))) <| asr (decide (0 <= q4.1/\q4.1 <= (min (q40 + (1:Int)) (a_t.fields.length:Int))/\(min (q40 + (1:Int)) (a_t.fields.length:Int)) <= (a_t.fields.length:Int))) <| cal (zcM q4.2 ((a_t.fields.take ((min (q40 + (1:Int)) (a_t.fields.length:Int))).toNat).drop (q4.1).toNat) false) λy57=>br (!y57.1) (some (false,y57.2)) (J37 (y57.2))))) (((q4.1 + (1:Int)))))) (λq36=>ck ((q4.1 + (1:Int))) <| L5 ((q4.1 + (1:Int)),q36))) (jp (ι:=Bool × GMk) (λJ61=>br (!a_t.more) (J61 (true,q4.2)) (cal (zjB a_t) λy63=>asr (decide (0 <= y63/\y63 <= (a_t.fields.length:Int)/\(a_t.fields.length:Int) <= (a_t.fields.length:Int))) <| cal (zcM q4.2 ((a_t.fields.take ((a_t.fields.length:Int)).toNat).drop (y63).toNat) true) λy65=>J61 (y65.1,y65.2))) (λq60=>some (q60.1,q60.2)))) (((0:Int),a_x)))

def zcU (za2:GMk->Int->zh->Int->Option (GMk)) (za5:GMk->Int->Int->Option (Int × GMk)) (zbf:GMk->zh->Int->Option (Int × GMk)) (a_x:GMk) (a_i:Int) (a_n_:zh) (za:Int):Option (GMk) :=
 lp (ι:=Bool × Int) (λL3 q2=>br (decide (q2.2 < (a_n_.fields.length:Int))) (cal (zq a_n_.fields q2.2) λy170=>jp (ι:=Bool) (λJ175=>br q2.1 (J175 (true)) (cal (zq a_x.m.nodes y170.ty) λy177=>J175 (y177.mark.has))) (λq174=>ck ((q2.2 + (1:Int))) <| L3 (q174,(q2.2 + (1:Int))))) (jp (ι:=Bool) (λJ180=>br (decide (a_n_.kind=(9:Int))) (J180 ((decide ((a_n_.fields.length:Int)=(0:Int))))) (J180 (false))) (λq179=>jp (ι:=Bool) (λJ183=>br q179 (J183 ((!a_n_.more))) (J183 (false))) (λq182=>jp (ι:=GMk) (λJ186=>br q182 (cal (zbi a_x (11:Int)) λy187=>J186 (y187)) (J186 (a_x))) (λq185=>lp (ι:=(List zaF) × Int × GMk) (λL189 q188=>jp (ι:=Bool) (λJ263=>br (decide (q188.2.1 < (a_n_.fields.length:Int))) (J263 ((decide (q188.2.2.e=(0:Int))))) (J263 (false))) (λq262=>br q262 (cal (zq a_n_.fields q188.2.1) λy265=>lp (ι:=Int × GMk) (λL268 q267=>br (decide (q267.1 < q188.2.1)) (jp (ι:=GMk) (λJ299=>cal (zq a_n_.fields q267.1) λy302=>br (decide (y302.name=y265.name)) (cal (zbi q267.2 (8:Int)) λy303=>J299 (y303)) (J299 (q267.2))) (λq298=>ck ((q267.1 + (1:Int))) <| L268 ((q267.1 + (1:Int)),q298))) (ck ((za + (1:Int))) <| cal (za5 q267.2 y265.ty (za + (1:Int))) λy306=>jp (ι:=Bool) (λJ309=>br (decide (y306.2.e=(0:Int))) (J309 (y265.has)) (J309 (false))) (λq308=>jp (ι:=zaF × GMk) (λJ312=>br q308 (cal (zcQ y306.2 y306.1 y265.dflt) λy313=>J312 ({ { y265 with ty:=y306.1 } with dflt:=y313.1 },y313.2)) (J312 ({ y265 with ty:=y306.1 },y306.2))) (λq311=>jp (ι:=Bool) (λJ315=>br (decide (q311.2.e=(0:Int))) (J315 ((!q2.1))) (J315 (false))) (λq314=>jp (ι:=GMk) (λJ318=>br q314 (cal (zdF q311.2 q311.1.ty) λy321=>cal (zdG y321.2 q311.1.ty q188.2.1 y321.1) λy322=>J318 (y322)) (J318 (q311.2))) (λq317=>asr (Nat.ble (q188.1.length + ([q311.1]:(List zaF)).length) 68719476736) <| ck ((q188.2.1 + (1:Int))) <| L189 ((q188.1 ++ ([q311.1]:(List zaF))),(q188.2.1 + (1:Int)),q317))))))) (((0:Int),q188.2.2))) (br (decide (q188.2.2.e=(0:Int))) (asr (decide (0 <= a_i/\a_i < ((q188.2.2.l.length:Nat):Int))) <| cal (q188.2.2.l[a_i.toNat]?) λy329=>asr (decide (0 <= a_i/\a_i < (((q188.2.2.l.set a_i.toNat ({ y329 with fields:=q188.1 })).length:Nat):Int))) <| cal ((q188.2.2.l.set a_i.toNat ({ y329 with fields:=q188.1 }))[a_i.toNat]?) λy331=>cal (zdQ (GMk.mk q188.2.2.m (q188.2.2.l.set a_i.toNat ({ y329 with fields:=q188.1 })) q188.2.2.e) y331) λy332=>br (!y332.1) (cal (zbi y332.2 (12:Int)) λy333=>some (y333)) (some (y332.2))) (some (q188.2.2))))) ((([]:(List zaF)),(0:Int),q185))))))) (((!decide (a_x.m.tagging=(2:Int))),(0:Int)))
def zdp (za2:GMk->Int->zh->Int->Option (GMk)) (za5:GMk->Int->Int->Option (Int × GMk)) (zbf:GMk->zh->Int->Option (Int × GMk)) (a_x:GMk) (a_k:Int) (za:Int):Option (Int × GMk) :=
 br (!decide (a_x.e=(0:Int))) (some ((0:Int),a_x)) (cal (zq a_x.m.nodes a_k) λy2=>jp (ι:=Int × GMk) (λJ5=>br (decide (y2.kind=(11:Int))) (cal (zjC a_x.m y2.name) λy6=>cal (zq a_x.m.types y6) λy7=>cal (za5 a_x y7 za) λy8=>J5 (y8.1,y8.2)) (cal (zbf a_x y2 za) λy12=>J5 (y12.1,y12.2))) (λq4=>jp (ι:=Bool) (λJ15=>br (decide (q4.2.e=(0:Int))) (J15 (y2.mark.has)) (J15 (false))) (λq14=>jp (ι:=GMk) (λJ18=>br q14 (jp (ι:=Int × GMk) (λJ20=>br (decide (y2.mark.mode=(2:Int))) (J20 ((1:Int),q4.2)) (jp (ι:=Bool) (λJ22=>br (decide (y2.mark.mode=(0:Int))) (J22 ((!decide (q4.2.m.tagging=(0:Int))))) (J22 (false))) (λq21=>br q21 (cal (zdF q4.2 q4.1) λy24=>J20 (y24.1,y24.2)) (J20 ((0:Int),q4.2))))) (λq19=>cal (zdG q19.2 q4.1 y2.mark.number q19.1) λy25=>J18 (y25))) (J18 (q4.2))) (λq17=>some (q4.1,q17)))))
def zdm (za2:GMk->Int->zh->Int->Option (GMk)) (za5:GMk->Int->Int->Option (Int × GMk)) (zbf:GMk->zh->Int->Option (Int × GMk)) (a_x:GMk) (a_n_:zh) (za:Int):Option (Int × GMk) :=
 jp (ι:=Bool) (λJ3=>br (decide ((16:Int) < za)) (J3 (true)) (J3 ((decide ((300:Int) <= ((a_x.l.length:Nat):Int)))))) (λq2=>br q2 (cal (zbi a_x (5:Int)) λy5=>some ((0:Int),y5)) (jp (ι:=zg) (λJ8=>br (!decide (a_n_.kind=(9:Int))) (cal (zf5 a_n_.kind) λy9=>J8 ((zg.mk a_n_.kind ([y9]:(List Tag)) a_n_.con ([]:(List zai)) ([]:(List zaF)) a_n_.root a_n_.more (0:Int)))) (J8 ((zg.mk a_n_.kind ([]:(List Tag)) a_n_.con ([]:(List zai)) ([]:(List zaF)) a_n_.root a_n_.more (0:Int))))) (λq7=>jp (ι:=GMk) (λJ12=>asr (Nat.ble (a_x.l.length + ([q7]:(List zg)).length) 68719476736) <| J12 ((GMk.mk a_x.m (a_x.l ++ ([q7]:(List zg))) a_x.e))) (λq11=>jp (ι:=GMk) (λJ21=>jp (ι:=Bool) (λJ23=>br (decide (a_n_.kind=(2:Int))) (J23 ((decide (a_n_.kind=(2:Int))))) (br (decide (a_n_.kind=(5:Int))) (J23 ((decide (a_n_.kind=(5:Int))))) (br (decide (a_n_.kind=(6:Int))) (J23 ((decide (a_n_.kind=(6:Int))))) (J23 ((decide (a_n_.kind=(10:Int)))))))) (λq22=>br q22 (cal (zjQ a_n_.con (!decide (a_n_.kind=(2:Int)))) λy24=>jp (ι:=GMk) (λJ26=>br (!decide (y24=(0:Int))) (cal (zbi q11 y24) λy27=>J26 (y27)) (J26 (q11))) (λq25=>br (decide (a_n_.kind=(10:Int))) (ck ((za + (1:Int))) <| cal (za5 q25 a_n_.of (za + (1:Int))) λy29=>br (decide (y29.2.e=(0:Int))) (asr (decide (0 <= ((a_x.l.length:Nat):Int)/\((a_x.l.length:Nat):Int) < ((y29.2.l.length:Nat):Int))) <| cal (y29.2.l[((a_x.l.length:Nat):Int).toNat]?) λy32=>J21 ((GMk.mk y29.2.m (y29.2.l.set (((a_x.l.length:Nat):Int).toNat) ({ y32 with of:=y29.1 })) y29.2.e))) (J21 (y29.2))) (J21 (q25)))) (br (decide (a_n_.kind=(3:Int))) (cal (zdP q11 a_n_) λy33=>asr (decide (y33.2.l.length=q11.l.length)) <| asr (decide (0 <= ((a_x.l.length:Nat):Int)/\((a_x.l.length:Nat):Int) < ((q11.l.length:Nat):Int))) <| cal (y33.2.l[((a_x.l.length:Nat):Int).toNat]?) λy36=>J21 ((GMk.mk y33.2.m (y33.2.l.set (((a_x.l.length:Nat):Int).toNat) ({ y36 with items:=y33.1 })) y33.2.e))) (jp (ι:=Bool) (λJ38=>br (decide (a_n_.kind=(7:Int))) (J38 ((decide (a_n_.kind=(7:Int))))) (br (decide (a_n_.kind=(8:Int))) (J38 ((decide (a_n_.kind=(8:Int))))) (J38 ((decide (a_n_.kind=(9:Int))))))) (λq37=>br q37 (cal (za2 q11 ((a_x.l.length:Nat):Int) a_n_ za) λy39=>J21 (y39)) (J21 (q11))))))) (λq20=>some (((a_x.l.length:Nat):Int),q20))))))
def zV:Nat->(GMk->Int->zh->Int->Option (GMk)) × (GMk->Int->Int->Option (Int × GMk)) × (GMk->zh->Int->Option (Int × GMk))
 | 0=>(λ_ _ _ _=>none,λ_ _ _=>none,λ_ _ _=>none)
 | n + 1=>let p:=zV n;(zcU p.1 p.2.1 p.2.2,zdp p.1 p.2.1 p.2.2,zdm p.1 p.2.1 p.2.2)
def zb2 (n:Nat):GMk->Int->zh->Int->Option (GMk):=(zV n).1
def zcx (n:Nat):GMk->Int->Int->Option (Int × GMk):=(zV n).2.1
def zcz (n:Nat):GMk->zh->Int->Option (Int × GMk):=(zV n).2.2

def zhl (a_m:zaA):Option (zZ × Int × Int) :=
 cal (zjv a_m) λy2=>br (!decide (y2.2.2=(0:Int))) (some ((zZ.mk (Str.mk []) ([]:(List Str)) ([]:(List Int)) ([]:(List zg))),y2.2.1,y2.2.2)) (jp (ι:=zZ) (λJ6=>asr (Nat.ble (([]:(List Str)).length + a_m.names.length) 68719476736) <| J6 ((zZ.mk a_m.name (([]:(List Str)) ++ a_m.names) ([]:(List Int)) ([]:(List zg))))) (λq5=>lp (ι:=Int × zZ × GMk) (λL17 q16=>br (decide (q16.1 < (a_m.names.length:Int))) (jp (ι:=zZ × GMk) (λJ35=>cal (zq a_m.types q16.1) λy36=>cal (zcx fuel q16.2.2 y36 (0:Int)) λy37=>asr (Nat.ble (q16.2.1.roots.length + ([y37.1]:(List Int)).length) 68719476736) <| J35 ((zZ.mk q16.2.1.name q16.2.1.names (q16.2.1.roots ++ ([y37.1]:(List Int))) q16.2.1.types),y37.2)) (λq34=>br (!decide (q34.2.e=(0:Int))) (some ((zZ.mk (Str.mk []) ([]:(List Str)) ([]:(List Int)) ([]:(List zg))),q16.1,q34.2.e)) (ck ((q16.1 + (1:Int))) <| L17 ((q16.1 + (1:Int)),q34.1,q34.2)))) (some ((zZ.mk q16.2.1.name q16.2.1.names q16.2.1.roots q16.2.2.l),(0:Int),(0:Int)))) (((0:Int),q5,(GMk.mk a_m ([]:(List zg)) (0:Int))))))

def zck (zaZ:Str):Option (zZ × Bool) :=
 br (decide ((3000:Int) < (zaZ.b.length:Int))) (some ((zZ.mk (Str.mk []) ([]:(List Str)) ([]:(List Int)) ([]:(List zg))),false)) (cal (zfN zaZ) λy2=>br (!decide (y2.2.2=(0:Int))) (some ((zZ.mk (Str.mk []) ([]:(List Str)) ([]:(List Int)) ([]:(List zg))),false)) (cal (zhl y2.1) λy4=>jp (ι:=Bool) (λJ7=>br (decide (y4.2.2=(0:Int))) (J7 ((decide ((y4.1.types.length:Int) <= (120:Int))))) (J7 (false))) (λq6=>some (y4.1,q6))))
def zfK (a_t:zZ) (zfS:Int):Option (Int × Bool) :=
 br (decide ((a_t.roots.length:Int)=(0:Int))) (some ((0:Int),false)) (asr (!decide ((UInt64.ofNat ((a_t.roots.length:Int) % 18446744073709551616).toNat)=0)) <| ck ((((UInt64.ofNat (zfS % 18446744073709551616).toNat) % (UInt64.ofNat ((a_t.roots.length:Int) % 18446744073709551616).toNat)).toNat:Int)) <| cal (zq a_t.roots (((UInt64.ofNat (zfS % 18446744073709551616).toNat) % (UInt64.ofNat ((a_t.roots.length:Int) % 18446744073709551616).toNat)).toNat:Int)) λy3=>some (y3,true))

def zms (a_a:(List UInt8)) (a_b:(List UInt8)):Option (Bool) :=
 some ((decide ((Str.mk a_a)=(Str.mk a_b))))

def zqV (a_a:Raw) (a_b:Raw):Option (Bool) :=
 jp (ι:=Bool) (λJ2=>br (decide (a_a.n=a_b.n)) (cal (zms a_a.b a_b.b) λy4=>J2 (y4)) (J2 (false))) (λq1=>some (q1))

def zg0 (a_a:(List Raw)) (a_b:(List Raw)):Option (Bool) :=
 br (!decide ((a_a.length:Int)=(a_b.length:Int))) (some (false)) (lp (ι:=Int) (λL2 q1=>br (decide (q1 < (a_a.length:Int))) (cal (zq a_a q1) λy7=>cal (zq a_b q1) λy8=>cal (zqV y7 y8) λy9=>br (!y9) (some (false)) (ck ((q1 + (1:Int))) <| L2 ((q1 + (1:Int))))) (some (true))) (((0:Int))))

def zee (zb3:(List Val)->(List Val)->Option (Bool)) (zge:Val->Val->Option (Bool)) (a_a:(List Val)) (a_b:(List Val)):Option (Bool) :=
 br (!decide ((a_a.length:Int)=(a_b.length:Int))) (some (false)) (lp (ι:=Int) (λL2 q1=>br (decide (q1 < (a_a.length:Int))) (cal (zq a_a q1) λy7=>cal (zq a_b q1) λy8=>cal (zge y7 y8) λy9=>br (!y9) (some (false)) (ck ((q1 + (1:Int))) <| L2 ((q1 + (1:Int))))) (some (true))) (((0:Int))))
def zjp (zb3:(List Val)->(List Val)->Option (Bool)) (zge:Val->Val->Option (Bool)) (a_a:Val) (a_b:Val):Option (Bool) :=
 jp (ι:=Bool) (λJ2=>br (decide (a_a.kind=a_b.kind)) (J2 ((decide (a_a.n=a_b.n)))) (J2 (false))) (λq1=>jp (ι:=Bool) (λJ5=>br q1 (cal (zms a_a.b a_b.b) λy7=>J5 (y7)) (J5 (false))) (λq4=>jp (ι:=Bool) (λJ9=>br q4 (cal (zb3 a_a.l a_b.l) λy11=>J9 (y11)) (J9 (false))) (λq8=>jp (ι:=Bool) (λJ13=>br q8 (J13 ((decide (a_a.rule=a_b.rule)))) (J13 (false))) (λq12=>jp (ι:=Bool) (λJ16=>br q12 (cal (zg0 a_a.more a_b.more) λy18=>J16 (y18)) (J16 (false))) (λq15=>some (q15))))))
def zfM:Nat->((List Val)->(List Val)->Option (Bool)) × (Val->Val->Option (Bool))
 | 0=>(λ_ _=>none,λ_ _=>none)
 | n + 1=>let p:=zfM n;(zee p.1 p.2,zjp p.1 p.2)
def zeQ (n:Nat):(List Val)->(List Val)->Option (Bool):=(zfM n).1
def zg4 (n:Nat):Val->Val->Option (Bool):=(zfM n).2

def zhR (zij:Val->Option (Int)) (a_v:Val):Option (Int) :=
 lp (ι:=Int × Int) (λL2 q1=>br (decide (q1.2 < (a_v.l.length:Int))) (cal (zq a_v.l q1.2) λy7=>cal (zij y7) λy8=>ck ((q1.1 + y8)) <| ck ((q1.2 + (1:Int))) <| L2 ((q1.1 + y8),(q1.2 + (1:Int)))) (some (q1.1))) (((1:Int),(0:Int)))
def zlw:Nat->(Val->Option (Int))
 | 0=>(λ_=>none)
 | n + 1=>let p:=zlw n;(zhR p)
def zh8 (n:Nat):Val->Option (Int):=(zlw n)

def zlb (a_t:zZ) (a_i:Int):Option (Bool) :=
 jp (ι:=Bool) (λJ2=>br (decide ((0:Int) <= a_i)) (J2 ((decide (a_i < (a_t.types.length:Int))))) (J2 (false))) (λq1=>some (q1))

def zgM (a_t:zZ) (a_i:Int):Option ((List (List Int))) :=
 cal (zlb a_t a_i) λy3=>br (!y3) (some (([]:(List (List Int))))) (cal (zq a_t.types a_i) λy6=>jp (ι:=Bool) (λJ9=>br (!decide (y6.kind=(7:Int))) (J9 ((!decide (y6.kind=(8:Int))))) (J9 (false))) (λq8=>jp (ι:=Bool) (λJ12=>br q8 (J12 ((!decide (y6.kind=(9:Int))))) (J12 (false))) (λq11=>br q11 (some (([]:(List (List Int))))) (lp (ι:=(List (List Int)) × Int) (λL19 q18=>br (decide (q18.2 < (y6.fields.length:Int))) (jp (ι:=(List (List Int))) (λJ50=>cal (zq y6.fields q18.2) λy51=>jp (ι:=Bool) (λJ53=>br (!decide (y6.kind=(9:Int))) (J53 ((decide ((0:Int) < y51.group)))) (J53 (false))) (λq52=>jp (ι:=Bool) (λJ56=>br q52 (J56 ((decide (y6.root < q18.2)))) (J56 (false))) (λq55=>jp (ι:=Bool) (λJ59=>br q55 (ck ((q18.2 - (1:Int))) <| cal (zq y6.fields (q18.2 - (1:Int))) λy62=>J59 ((decide (y62.group=y51.group)))) (J59 (false))) (λq58=>br q58 (ck ((((q18.1.length:Nat):Int) - (1:Int))) <| ck ((((q18.1.length:Nat):Int) - (1:Int))) <| asr (decide (0 <= (((q18.1.length:Nat):Int) - (1:Int))/\(((q18.1.length:Nat):Int) - (1:Int)) < ((q18.1.length:Nat):Int))) <| asr (decide ((((q18.1.length:Nat):Int) - (1:Int)).toNat + 1=q18.1.length)) <| cal (q18.1[(((q18.1.length:Nat):Int) - (1:Int)).toNat]?) λy67=>asr (Nat.ble (y67.length + ([q18.2]:(List Int)).length) 68719476736) <| asr (decide (0 <= (((q18.1.length:Nat):Int) - (1:Int))/\(((q18.1.length:Nat):Int) - (1:Int)) < ((q18.1.length:Nat):Int))) <| asr (decide ((((q18.1.length:Nat):Int) - (1:Int)).toNat + 1=q18.1.length)) <| cal (q18.1[(((q18.1.length:Nat):Int) - (1:Int)).toNat]?) λy73=>J50 ((q18.1.set ((((q18.1.length:Nat):Int) - (1:Int)).toNat) (y67 ++ ([q18.2]:(List Int)))))) (asr (Nat.ble (q18.1.length + ([([q18.2]:(List Int))]:(List (List Int))).length) 68719476736) <| J50 ((q18.1 ++ [([q18.2]:(List Int))]))))))) (λq49=>ck ((q18.2 + (1:Int))) <| L19 (q49,(q18.2 + (1:Int))))) (some (q18.1))) ((([]:(List (List Int))),y6.root))))))

def zfI (a_b:(List UInt8)):Option (UInt64 × Int × Int) :=
 lp (ι:=UInt64 × Int) (λL2 q1=>br (decide (q1.2 < (a_b.length:Int))) (jp (ι:=Bool) (λJ16=>br (decide (q1.2=(0:Int))) (cal (zq a_b (0:Int)) λy18=>J16 ((decide (y18=(128:UInt8))))) (J16 (false))) (λq15=>jp (ι:=Bool) (λJ20=>br q15 (J20 (true)) (J20 ((decide ((144115188075855872:UInt64) <= q1.1))))) (λq19=>br q19 (some ((0:UInt64),(0:Int),(4:Int))) (asr (Nat.ble (7:UInt64).toNat 64) <| cal (zq a_b q1.2) λy23=>cal (zq a_b q1.2) λy24=>br (decide (y24 < (128:UInt8))) (ck ((q1.2 + (1:Int))) <| some (((zf9 q1.1 (7:UInt64).toNat) ||| (y23 &&& (127:UInt8)).toUInt64),(q1.2 + (1:Int)),(0:Int))) (ck ((q1.2 + (1:Int))) <| L2 (((zf9 q1.1 (7:UInt64).toNat) ||| (y23 &&& (127:UInt8)).toUInt64),(q1.2 + (1:Int)))))))) (some ((0:UInt64),(0:Int),(3:Int)))) (((0:UInt64),(0:Int)))

def zgR (a_v:UInt64):Option ((List UInt8)) :=
 lp (ι:=UInt64 × (List UInt8)) (λL3 q2=>br (decide ((255:UInt64) < q2.1)) (asr (Nat.ble (([(q2.1 >>> (8:UInt64)).toUInt8]:(List UInt8)).length + q2.2.length) 68719476736) <| L3 ((q2.1 >>> (8:UInt64)),(([(q2.1 >>> (8:UInt64)).toUInt8]:(List UInt8)) ++ q2.2))) (some (q2.2))) ((a_v,([a_v.toUInt8]:(List UInt8))))

def zeP (a_b:(List UInt8)):Option (UInt64 × Int) :=
 br (decide ((a_b.length:Int)=(0:Int))) (some ((0:UInt64),(3:Int))) (br (decide ((8:Int) < (a_b.length:Int))) (some ((0:UInt64),(4:Int))) (lp (ι:=UInt64 × Int) (λL2 q1=>br (decide (q1.2 < (a_b.length:Int))) (asr (Nat.ble (8:UInt64).toNat 64) <| cal (zq a_b q1.2) λy9=>ck ((q1.2 + (1:Int))) <| L2 (((zf9 q1.1 (8:UInt64).toNat) ||| y9.toUInt64),(q1.2 + (1:Int)))) (cal (zgR q1.1) λy11=>cal (zms y11 a_b) λy12=>br (!y12) (some ((0:UInt64),(4:Int))) (some (q1.1,(0:Int))))) (((0:UInt64),(0:Int)))))

def zg2 (a_b:(List UInt8)):Option (Tag × Bool × Int × Int × Int) :=
 br (decide ((a_b.length:Int)=(0:Int))) (some ((Tag.mk (0:Int) (0:Int)),false,(0:Int),(0:Int),(3:Int))) (cal (zq a_b (0:Int)) λy2=>asr (Nat.ble (6:UInt64).toNat 8) <| cal (zq a_b (0:Int)) λy4=>cal (zq a_b (0:Int)) λy6=>jp (ι:=Int × Tag) (λJ8=>br (decide (((y4 &&& (31:UInt8)).toNat:Int)=(31:Int))) (asr (decide (0 <= (1:Int)/\(1:Int) <= (a_b.length:Int)/\(a_b.length:Int) <= (a_b.length:Int))) <| cal (zfI ((a_b.take ((a_b.length:Int)).toNat).drop ((1:Int)).toNat)) λy10=>br (!decide (y10.2.2=(0:Int))) (some ((Tag.mk (0:Int) (0:Int)),false,(0:Int),(0:Int),y10.2.2)) (jp (ι:=Bool) (λJ12=>br (decide (y10.1 < (31:UInt64))) (J12 (true)) (J12 ((decide ((268435456:UInt64) < y10.1))))) (λq11=>br q11 (some ((Tag.mk (0:Int) (0:Int)),false,(0:Int),(0:Int),(4:Int))) (ck ((y10.1.toNat:Int)) <| ck (((1:Int) + y10.2.1)) <| J8 (((1:Int) + y10.2.1),(Tag.mk ((zf0 y2 (6:UInt64).toNat).toNat:Int) (y10.1.toNat:Int))))))) (J8 ((1:Int),(Tag.mk ((zf0 y2 (6:UInt64).toNat).toNat:Int) ((y4 &&& (31:UInt8)).toNat:Int))))) (λq7=>br (decide ((a_b.length:Int) <= q7.1)) (some ((Tag.mk (0:Int) (0:Int)),false,(0:Int),(0:Int),(3:Int))) (cal (zq a_b q7.1) λy16=>ck ((q7.1 + (1:Int))) <| jp (ι:=Int × Int) (λJ19=>br (decide ((128:Int) <= (y16.toNat:Int))) (ck (((y16.toNat:Int) - (128:Int))) <| jp (ι:=Bool) (λJ22=>br (decide (((y16.toNat:Int) - (128:Int))=(0:Int))) (J22 (true)) (J22 ((decide ((8:Int) < ((y16.toNat:Int) - (128:Int))))))) (λq21=>br q21 (some ((Tag.mk (0:Int) (0:Int)),false,(0:Int),(0:Int),(4:Int))) (ck (((a_b.length:Int) - (q7.1 + (1:Int)))) <| br (decide (((a_b.length:Int) - (q7.1 + (1:Int))) < ((y16.toNat:Int) - (128:Int)))) (some ((Tag.mk (0:Int) (0:Int)),false,(0:Int),(0:Int),(3:Int))) (ck (((q7.1 + (1:Int)) + ((y16.toNat:Int) - (128:Int)))) <| asr (decide (0 <= (q7.1 + (1:Int))/\(q7.1 + (1:Int)) <= ((q7.1 + (1:Int)) + ((y16.toNat:Int) - (128:Int)))/\((q7.1 + (1:Int)) + ((y16.toNat:Int) - (128:Int))) <= (a_b.length:Int))) <| cal (zeP ((a_b.take (((q7.1 + (1:Int)) + ((y16.toNat:Int) - (128:Int)))).toNat).drop ((q7.1 + (1:Int))).toNat)) λy27=>jp (ι:=Bool) (λJ29=>br (!decide (y27.2=(0:Int))) (J29 (true)) (J29 ((decide (y27.1 < (128:UInt64)))))) (λq28=>jp (ι:=Bool) (λJ32=>br q28 (J32 (true)) (J32 ((decide ((2147483647:UInt64) < y27.1))))) (λq31=>br q31 (some ((Tag.mk (0:Int) (0:Int)),false,(0:Int),(0:Int),(4:Int))) (ck ((y27.1.toNat:Int)) <| ck (((q7.1 + (1:Int)) + ((y16.toNat:Int) - (128:Int)))) <| J19 (((q7.1 + (1:Int)) + ((y16.toNat:Int) - (128:Int))),(y27.1.toNat:Int))))))))) (J19 ((q7.1 + (1:Int)),(y16.toNat:Int)))) (λq18=>some (q7.2,(!decide ((y6 &&& (32:UInt8))=(0:UInt8))),q18.2,q18.1,(0:Int))))))

def ziU (a_b:(List UInt8)):Option ((List UInt8)) :=
 asr (Nat.ble (([]:(List UInt8)).length + a_b.length) 68719476736) <| some ((([]:(List UInt8)) ++ a_b))

def zkT (a_b:(List UInt8)):Option (Tag × Bool × (List UInt8) × Int × Int) :=
 cal (zg2 a_b) λy2=>br (!decide (y2.2.2.2.2=(0:Int))) (some ((Tag.mk (0:Int) (0:Int)),false,([]:(List UInt8)),(0:Int),y2.2.2.2.2)) (ck (((a_b.length:Int) - y2.2.2.2.1)) <| br (decide (((a_b.length:Int) - y2.2.2.2.1) < y2.2.2.1)) (some ((Tag.mk (0:Int) (0:Int)),false,([]:(List UInt8)),(0:Int),(3:Int))) (ck ((y2.2.2.2.1 + y2.2.2.1)) <| asr (decide (0 <= y2.2.2.2.1/\y2.2.2.2.1 <= (y2.2.2.2.1 + y2.2.2.1)/\(y2.2.2.2.1 + y2.2.2.1) <= (a_b.length:Int))) <| ck ((y2.2.2.2.1 + y2.2.2.1)) <| cal (ziU ((a_b.take ((y2.2.2.2.1 + y2.2.2.1)).toNat).drop (y2.2.2.2.1).toNat)) λy8=>some (y2.1,y2.2.1,y8,(y2.2.2.2.1 + y2.2.2.1),(0:Int))))

def zfE (zgi:(List zg)->Int->Option ((List Tag))) (a_l:(List zg)) (a_i:Int):Option ((List Tag)) :=
 cal (zq a_l a_i) λy1=>br (decide ((0:Int) < (y1.tags.length:Int))) (cal (zq a_l a_i) λy2=>asr (decide (0 <= (0:Int)/\(0:Int) <= (1:Int)/\(1:Int) <= (y2.tags.length:Int))) <| some (((y2.tags.take ((1:Int)).toNat).drop (0:Int).toNat))) (lp (ι:=(List Tag) × Int) (λL5 q4=>cal (zq a_l a_i) λy13=>br (decide (q4.2 < (y13.fields.length:Int))) (cal (zq a_l a_i) λy14=>cal (zq y14.fields q4.2) λy15=>cal (zgi a_l y15.ty) λy16=>asr (Nat.ble (q4.1.length + y16.length) 68719476736) <| ck ((q4.2 + (1:Int))) <| L5 ((q4.1 ++ y16),(q4.2 + (1:Int)))) (some (q4.1))) ((([]:(List Tag)),(0:Int))))
def zjr:Nat->((List zg)->Int->Option ((List Tag)))
 | 0=>(λ_ _=>none)
 | n + 1=>let p:=zjr n;(zfE p)
def zfO (n:Nat):(List zg)->Int->Option ((List Tag)):=(zjr n)

def ziz (a_t:zZ) (a_i:Int):Option ((List Tag)) :=
 jp (ι:=Bool) (λJ2=>br (decide (a_i < (0:Int))) (J2 (true)) (J2 ((decide ((a_t.types.length:Int) <= a_i))))) (λq1=>br q1 (some (([]:(List Tag)))) (cal (zfO fuel a_t.types a_i) λy4=>asr (Nat.ble (([]:(List Tag)).length + y4.length) 68719476736) <| some ((([]:(List Tag)) ++ y4))))

def zhs (a_t:zZ) (a_i:Int) (a_b:(List UInt8)):Option (Tag × Bool) :=
 cal (zkT a_b) λy2=>jp (ι:=Bool) (λJ5=>br (!decide (y2.2.2.2.2=(0:Int))) (J5 (true)) (J5 ((!decide (y2.2.2.2.1=(a_b.length:Int)))))) (λq4=>br q4 (some (y2.1,false)) (cal (zq a_t.types a_i) λy7=>jp (ι:=Int) (λJ9=>br (decide (y7.kind=(7:Int))) (cal (zq a_t.types a_i) λy10=>cal (zjB y10) λy11=>J9 (y11)) (J9 ((0:Int)))) (λq8=>lp (ι:=Int) (λL13 q12=>cal (zq a_t.types a_i) λy20=>br (decide (q12 < (y20.fields.length:Int))) (cal (zq a_t.types a_i) λy21=>cal (zq y21.fields q12) λy22=>cal (ziz a_t y22.ty) λy23=>cal (zfR y23 y2.1) λy24=>br y24 (some (y2.1,false)) (ck ((q12 + (1:Int))) <| L13 ((q12 + (1:Int))))) (some (y2.1,true))) ((q8)))))

def zgb (a_x:zg) (a_n_:Int):Option (Int) :=
 lp (ι:=Int) (λL2 q1=>br (decide (q1 < (a_x.items.length:Int))) (cal (zq a_x.items q1) λy5=>br (decide (y5.number=a_n_)) (some (q1)) (ck ((q1 + (1:Int))) <| L2 ((q1 + (1:Int))))) (some ((-1:Int)))) (((0:Int)))

def zjF (a_b:(List UInt8)):Option (Bool) :=
 jp (ι:=Bool) (λJ2=>br (decide ((1:Int) <= (a_b.length:Int))) (J2 ((decide ((a_b.length:Int) <= (70000:Int))))) (J2 (false))) (λq1=>some (q1))

def zhM (a_t:zZ) (a_i:Int) (a_v:Val):Option (Bool) :=
 cal (zq a_t.types a_i) λy1=>jp (ι:=Bool) (λJ4=>br (!y1.more) (J4 (true)) (jp (ι:=Bool) (λJ7=>br (!decide (y1.kind=(9:Int))) (J7 ((!decide (y1.kind=(3:Int))))) (J7 (false))) (λq6=>J4 (q6)))) (λq3=>jp (ι:=Bool) (λJ10=>br q3 (J10 (true)) (J10 ((decide ((0:Int) < (a_v.l.length:Int)))))) (λq9=>jp (ι:=Bool) (λJ13=>br q9 (J13 (true)) (J13 ((decide ((0:Int) < (a_v.more.length:Int)))))) (λq12=>br q12 (some (false)) (ck (((y1.items.length:Int) - y1.root)) <| jp (ι:=Int) (λJ17=>br (decide (y1.kind=(9:Int))) (cal (zgM a_t a_i) λy18=>J17 ((y18.length:Int))) (J17 (((y1.items.length:Int) - y1.root)))) (λq16=>jp (ι:=Bool) (λJ20=>br (decide (a_v.rule=(1:Int))) (J20 ((decide (y1.kind=(9:Int))))) (J20 (false))) (λq19=>br q19 (cal (zhs a_t a_i a_v.b) λy22=>jp (ι:=Bool) (λJ25=>br y22.2 (J25 ((decide (a_v.n=(0:Int))))) (J25 (false))) (λq24=>some (q24))) (br (decide (a_v.rule=(1:Int))) (jp (ι:=Bool) (λJ28=>br (decide ((a_v.b.length:Int)=(0:Int))) (cal (zgb y1 a_v.n) λy30=>J28 ((decide (y30 < (0:Int))))) (J28 (false))) (λq27=>some (q27))) (br (decide (a_v.rule=(2:Int))) (jp (ι:=Bool) (λJ32=>br (decide (q16 <= a_v.n)) (J32 ((decide (a_v.n < (1000:Int))))) (J32 (false))) (λq31=>jp (ι:=Bool) (λJ35=>br q31 (jp (ι:=Bool) (λJ38=>br (decide (y1.kind=(9:Int))) (cal (zjF a_v.b) λy40=>J38 (y40)) (J38 (false))) (λq37=>jp (ι:=Bool) (λJ42=>br q37 (J42 (true)) (jp (ι:=Bool) (λJ45=>br (decide (y1.kind=(3:Int))) (J45 ((decide ((a_v.b.length:Int)=(0:Int))))) (J45 (false))) (λq44=>J42 (q44)))) (λq41=>J35 (q41)))) (J35 (false))) (λq34=>some (q34)))) (some (false))))))))))

def zet (a_v:Val) (a_n_:Bool) (a_b:Bool) (a_l:Bool) (zqt:Bool):Option (Bool) :=
 jp (ι:=Bool) (λJ2=>br a_n_ (J2 (true)) (J2 ((decide (a_v.n=(0:Int)))))) (λq1=>jp (ι:=Bool) (λJ5=>br q1 (jp (ι:=Bool) (λJ8=>br a_b (J8 (true)) (J8 ((decide ((a_v.b.length:Int)=(0:Int)))))) (λq7=>J5 (q7))) (J5 (false))) (λq4=>jp (ι:=Bool) (λJ11=>br q4 (jp (ι:=Bool) (λJ14=>br a_l (J14 (true)) (J14 ((decide ((a_v.l.length:Int)=(0:Int)))))) (λq13=>J11 (q13))) (J11 (false))) (λq10=>jp (ι:=Bool) (λJ17=>br q10 (jp (ι:=Bool) (λJ20=>br zqt (J20 (true)) (jp (ι:=Bool) (λJ23=>br (decide (a_v.rule=(0:Int))) (J23 ((decide ((a_v.more.length:Int)=(0:Int))))) (J23 (false))) (λq22=>J20 (q22)))) (λq19=>J17 (q19))) (J17 (false))) (λq16=>some (q16)))))

def zk7 (a_a:Tag) (a_b:Tag):Option (Bool) :=
 jp (ι:=Bool) (λJ2=>br (decide (a_a.cls < a_b.cls)) (J2 (true)) (jp (ι:=Bool) (λJ5=>br (decide (a_a.cls=a_b.cls)) (J5 ((decide (a_a.num < a_b.num)))) (J5 (false))) (λq4=>J2 (q4)))) (λq1=>some (q1))

def zhe (a_t:zZ) (a_i:Int) (a_v:Val):Option (Bool) :=
 br (decide ((a_v.more.length:Int)=(0:Int))) (some ((decide (a_v.rule=(0:Int))))) (cal (zq a_t.types a_i) λy1=>jp (ι:=Bool) (λJ3=>br (!y1.more) (J3 (true)) (jp (ι:=Bool) (λJ6=>br (!decide (a_v.rule=(1:Int))) (J6 ((!decide (a_v.rule=(2:Int))))) (J6 (false))) (λq5=>J3 (q5)))) (λq2=>br q2 (some (false)) (lp (ι:=Int × Tag) (λL10 q9=>br (decide (q9.1 < (a_v.more.length:Int))) (jp (ι:=Tag) (λJ46=>cal (zq a_v.more q9.1) λy47=>br (decide (a_v.rule=(2:Int))) (cal (zgM a_t a_i) λy49=>jp (ι:=Int) (λJ51=>br (decide ((0:Int) < q9.1)) (ck ((q9.1 - (1:Int))) <| cal (zq a_v.more (q9.1 - (1:Int))) λy53=>ck ((y53.n + (1:Int))) <| J51 ((y53.n + (1:Int)))) (J51 ((y49.length:Int)))) (λq50=>jp (ι:=Bool) (λJ56=>br (decide (y47.n < q50)) (J56 (true)) (J56 ((decide ((1000:Int) <= y47.n))))) (λq55=>jp (ι:=Bool) (λJ59=>br q55 (J59 (true)) (cal (zjF y47.b) λy61=>J59 ((!y61)))) (λq58=>br q58 (some (false)) (J46 (q9.2)))))) (cal (zhs a_t a_i y47.b) λy62=>jp (ι:=Bool) (λJ65=>br (!y62.2) (J65 (true)) (J65 ((!decide (y47.n=(0:Int)))))) (λq64=>jp (ι:=Bool) (λJ68=>br q64 (J68 (true)) (cal (zq a_t.types a_i) λy70=>jp (ι:=Bool) (λJ72=>br (decide (y70.kind=(8:Int))) (J72 ((decide ((0:Int) < q9.1)))) (J72 (false))) (λq71=>jp (ι:=Bool) (λJ75=>br q71 (cal (zk7 q9.2 y62.1) λy77=>J75 ((!y77))) (J75 (false))) (λq74=>J68 (q74))))) (λq67=>br q67 (some (false)) (J46 (y62.1)))))) (λq45=>ck ((q9.1 + (1:Int))) <| L10 ((q9.1 + (1:Int)),q45))) (some (true))) (((0:Int),Tag.zero)))))

def zdW (zd4:zZ->Int->Val->Int->Option (Bool)) (zeq:zZ->Int->Val->Int->Option (Bool)) (a_t:zZ) (a_i:Int) (a_v:Val) (za:Int):Option (Bool) :=
 cal (zq a_t.types a_i) λy1=>cal (zet a_v false false true true) λy3=>jp (ι:=Bool) (λJ5=>br (!y3) (J5 (true)) (J5 ((!decide ((a_v.l.length:Int)=(y1.fields.length:Int)))))) (λq4=>jp (ι:=Bool) (λJ8=>br q4 (J8 (true)) (cal (zhe a_t a_i a_v) λy10=>J8 ((!y10)))) (λq7=>br q7 (some (false)) (lp (ι:=Int) (λL12 q11=>br (decide (q11 < (y1.fields.length:Int))) (jp (ι:=Unit) (λJ164=>cal (zq y1.fields q11) λy165=>jp (ι:=Bool) (λJ168=>br y165.optional (J168 (true)) (J168 (y165.has))) (λq167=>cal (zq a_v.l q11) λy170=>br (decide (y170.kind=(0:Int))) (cal (zq a_v.l q11) λy171=>cal (zg4 fuel y171 (Val.mk (0:Int) (0:Int) ([]:(List UInt8)) ([]:(List Val)) (0:Int) ([]:(List Raw)))) λy172=>jp (ι:=Bool) (λJ174=>br (!y172) (J174 (true)) (jp (ι:=Bool) (λJ177=>br (!q167) (J177 ((decide (q11 < y1.root)))) (J177 (false))) (λq176=>J174 (q176)))) (λq173=>br q173 (some (false)) (J164 ()))) (cal (zq a_v.l q11) λy179=>ck ((za + (1:Int))) <| cal (zeq a_t y165.ty y179 (za + (1:Int))) λy181=>jp (ι:=Bool) (λJ183=>br (!y181) (J183 (true)) (jp (ι:=Bool) (λJ186=>br y165.has (cal (zq a_v.l q11) λy188=>cal (zg4 fuel y188 y165.dflt) λy189=>J186 (y189)) (J186 (false))) (λq185=>J183 (q185)))) (λq182=>br q182 (some (false)) (J164 ()))))) (λq163=>ck ((q11 + (1:Int))) <| L12 ((q11 + (1:Int))))) (cal (zgM a_t a_i) λy191=>lp (ι:=Int) (λL193 q192=>br (decide (q192 < (y191.length:Int))) (lp (ι:=Bool × Bool × Int) (λL254 q253=>cal (zq y191 q192) λy280=>br (decide (q253.2.2 < (y280.length:Int))) (cal (zq y191 q192) λy281=>cal (zq y281 q253.2.2) λy282=>cal (zq y1.fields y282) λy283=>cal (zq y191 q192) λy285=>cal (zq y285 q253.2.2) λy286=>cal (zq a_v.l y286) λy287=>jp (ι:=Bool) (λJ289=>br q253.1 (J289 (true)) (J289 ((!decide (y287.kind=(0:Int)))))) (λq288=>jp (ι:=Bool) (λJ292=>br q253.2.1 (J292 (true)) (jp (ι:=Bool) (λJ295=>br (!(!decide (y287.kind=(0:Int)))) (J295 ((!y283.optional))) (J295 (false))) (λq294=>jp (ι:=Bool) (λJ298=>br q294 (J298 ((!y283.has))) (J298 (false))) (λq297=>J292 (q297))))) (λq291=>ck ((q253.2.2 + (1:Int))) <| L254 (q288,q291,(q253.2.2 + (1:Int)))))) (cal (zq y191 q192) λy301=>cal (zq y301 (0:Int)) λy302=>cal (zq y1.fields y302) λy303=>jp (ι:=Bool) (λJ305=>br (decide ((0:Int) < y303.group)) (J305 (q253.1)) (J305 (false))) (λq304=>jp (ι:=Bool) (λJ308=>br q304 (J308 (q253.2.1)) (J308 (false))) (λq307=>br q307 (some (false)) (ck ((q192 + (1:Int))) <| L193 ((q192 + (1:Int)))))))) ((false,false,(0:Int)))) (some (true))) (((0:Int))))) (((0:Int))))))
def ze3 (zd4:zZ->Int->Val->Int->Option (Bool)) (zeq:zZ->Int->Val->Int->Option (Bool)) (a_t:zZ) (a_i:Int) (a_v:Val) (za:Int):Option (Bool) :=
 jp (ι:=Bool) (λJ2=>br (decide (a_i < (0:Int))) (J2 (true)) (J2 ((decide ((a_t.types.length:Int) <= a_i))))) (λq1=>jp (ι:=Bool) (λJ5=>br q1 (J5 (true)) (J5 ((decide ((17:Int) < za))))) (λq4=>br q4 (some (false)) (cal (zq a_t.types a_i) λy7=>br (decide (a_v.kind=(12:Int))) (cal (zhM a_t a_i a_v) λy9=>some (y9)) (br (!decide (a_v.kind=y7.kind)) (some (false)) (br (decide (y7.kind=(1:Int))) (cal (zet a_v true false false false) λy10=>jp (ι:=Bool) (λJ12=>br y10 (jp (ι:=Bool) (λJ15=>br (decide (a_v.n=(0:Int))) (J15 (true)) (J15 ((decide (a_v.n=(1:Int)))))) (λq14=>J12 (q14))) (J12 (false))) (λq11=>some (q11))) (br (decide (y7.kind=(2:Int))) (cal (zet a_v true false false false) λy17=>jp (ι:=Bool) (λJ19=>br y17 (jp (ι:=Bool) (λJ22=>br y7.con.more (J22 (true)) (cal (zeg y7.con a_v.n) λy24=>J22 (y24))) (λq21=>J19 (q21))) (J19 (false))) (λq18=>some (q18))) (br (decide (y7.kind=(3:Int))) (cal (zet a_v true false false false) λy25=>jp (ι:=Bool) (λJ27=>br y25 (cal (zgb y7 a_v.n) λy29=>J27 ((decide ((0:Int) <= y29)))) (J27 (false))) (λq26=>some (q26))) (br (decide (y7.kind=(4:Int))) (cal (zet a_v false false false false) λy30=>some (y30)) (jp (ι:=Bool) (λJ32=>br (decide (y7.kind=(5:Int))) (J32 ((decide (y7.kind=(5:Int))))) (J32 ((decide (y7.kind=(6:Int)))))) (λq31=>br q31 (cal (zet a_v false true false false) λy33=>jp (ι:=Bool) (λJ35=>br y33 (J35 ((decide ((a_v.b.length:Int) <= (70000:Int))))) (J35 (false))) (λq34=>jp (ι:=Bool) (λJ38=>br q34 (jp (ι:=Bool) (λJ41=>br y7.con.more (J41 (true)) (cal (zeg y7.con (a_v.b.length:Int)) λy43=>J41 (y43))) (λq40=>J38 (q40))) (J38 (false))) (λq37=>jp (ι:=Bool) (λJ45=>br q37 (jp (ι:=Bool) (λJ48=>br (decide (y7.kind=(5:Int))) (J48 (true)) (cal (zcy a_v.b) λy50=>J48 (y50))) (λq47=>J45 (q47))) (J45 (false))) (λq44=>some (q44))))) (br (decide (y7.kind=(10:Int))) (cal (zet a_v false false true false) λy51=>jp (ι:=Bool) (λJ53=>br (!y51) (J53 (true)) (jp (ι:=Bool) (λJ56=>br (!y7.con.more) (cal (zeg y7.con (a_v.l.length:Int)) λy58=>J56 ((!y58))) (J56 (false))) (λq55=>J53 (q55)))) (λq52=>br q52 (some (false)) (lp (ι:=Int) (λL60 q59=>br (decide (q59 < (a_v.l.length:Int))) (cal (zq a_v.l q59) λy65=>ck ((za + (1:Int))) <| cal (zeq a_t y7.of y65 (za + (1:Int))) λy67=>br (!y67) (some (false)) (ck ((q59 + (1:Int))) <| L60 ((q59 + (1:Int))))) (some (true))) (((0:Int)))))) (br (decide (y7.kind=(9:Int))) (cal (zet a_v true false true false) λy70=>jp (ι:=Bool) (λJ72=>br y70 (J72 ((decide ((0:Int) <= a_v.n)))) (J72 (false))) (λq71=>jp (ι:=Bool) (λJ75=>br q71 (J75 ((decide (a_v.n < (y7.fields.length:Int))))) (J75 (false))) (λq74=>jp (ι:=Bool) (λJ78=>br q74 (J78 ((decide ((a_v.l.length:Int)=(1:Int))))) (J78 (false))) (λq77=>jp (ι:=Bool) (λJ81=>br q77 (cal (zq y7.fields a_v.n) λy83=>cal (zq a_v.l (0:Int)) λy84=>ck ((za + (1:Int))) <| cal (zeq a_t y83.ty y84 (za + (1:Int))) λy86=>J81 (y86)) (J81 (false))) (λq80=>some (q80)))))) (jp (ι:=Bool) (λJ88=>br (decide (y7.kind=(7:Int))) (J88 ((decide (y7.kind=(7:Int))))) (J88 ((decide (y7.kind=(8:Int)))))) (λq87=>br q87 (cal (zd4 a_t a_i a_v za) λy89=>some (y89)) (some (false))))))))))))))))
def zik:Nat->(zZ->Int->Val->Int->Option (Bool)) × (zZ->Int->Val->Int->Option (Bool))
 | 0=>(λ_ _ _ _=>none,λ_ _ _ _=>none)
 | n + 1=>let p:=zik n;(zdW p.1 p.2,ze3 p.1 p.2)
def zfL (n:Nat):zZ->Int->Val->Int->Option (Bool):=(zik n).1
def zex (n:Nat):zZ->Int->Val->Int->Option (Bool):=(zik n).2

def zga (a_t:zZ) (a_i:Int) (a_v:Val):Option (Bool) :=
 cal (zh8 fuel a_v) λy1=>jp (ι:=Bool) (λJ3=>br (decide (y1 <= (5000:Int))) (cal (zex fuel a_t a_i a_v (1:Int)) λy5=>J3 (y5)) (J3 (false))) (λq2=>some (q2))

def zhh (a_b:(List UInt8)):Option (UInt64 × Int × Int) :=
 lp (ι:=UInt64 × Int) (λL2 q1=>br (decide (q1.2 < (a_b.length:Int))) (cal (zq a_b q1.2) λy13=>jp (ι:=Bool) (λJ15=>br (decide (q1.2=(0:Int))) (J15 ((decide (y13=(128:UInt8))))) (J15 (false))) (λq14=>jp (ι:=Bool) (λJ18=>br q14 (J18 (true)) (J18 ((!decide ((q1.1 >>> (57:UInt64))=(0:UInt64)))))) (λq17=>br q17 (some ((0:UInt64),(0:Int),(4:Int))) (asr (Nat.ble (7:UInt64).toNat 64) <| br (decide (y13 < (128:UInt8))) (ck ((q1.2 + (1:Int))) <| some (((zf9 q1.1 (7:UInt64).toNat) ||| (y13 &&& (127:UInt8)).toUInt64),(q1.2 + (1:Int)),(0:Int))) (ck ((q1.2 + (1:Int))) <| L2 (((zf9 q1.1 (7:UInt64).toNat) ||| (y13 &&& (127:UInt8)).toUInt64),(q1.2 + (1:Int)))))))) (some ((0:UInt64),(0:Int),(3:Int)))) (((0:UInt64),(0:Int)))

def zlF (a_b:(List UInt8)):Option (Int × Int × Int) :=
 cal (zq a_b (0:Int)) λy1=>br (decide (((y1 &&& (31:UInt8)).toNat:Int) < (31:Int))) (some (((y1 &&& (31:UInt8)).toNat:Int),(0:Int),(0:Int))) (asr (decide (0 <= (1:Int)/\(1:Int) <= (a_b.length:Int)/\(a_b.length:Int) <= (a_b.length:Int))) <| cal (zhh ((a_b.take ((a_b.length:Int)).toNat).drop ((1:Int)).toNat)) λy3=>br (!decide (y3.2.2=(0:Int))) (some ((0:Int),(0:Int),y3.2.2)) (jp (ι:=Bool) (λJ5=>br (decide (y3.1 < (31:UInt64))) (J5 (true)) (J5 ((decide ((268435456:UInt64) < y3.1))))) (λq4=>br q4 (some ((0:Int),(0:Int),(4:Int))) (ck ((y3.1.toNat:Int)) <| some ((y3.1.toNat:Int),y3.2.1,(0:Int))))))

def zke (a_b:(List UInt8)):Option (UInt64) :=
 lp (ι:=UInt64 × Int) (λL2 q1=>br (decide (q1.2 < (a_b.length:Int))) (cal (zq a_b q1.2) λy6=>asr (Nat.ble (8:UInt64).toNat 64) <| ck ((q1.2 + (1:Int))) <| L2 (((zf9 q1.1 (8:UInt64).toNat) ||| y6.toUInt64),(q1.2 + (1:Int)))) (some (q1.1))) (((0:UInt64),(0:Int)))

def zfZ (a_b:(List UInt8)):Option (UInt64 × Int) :=
 br (decide ((a_b.length:Int)=(0:Int))) (some ((0:UInt64),(3:Int))) (jp (ι:=Bool) (λJ2=>br (decide ((8:Int) < (a_b.length:Int))) (J2 (true)) (jp (ι:=Bool) (λJ5=>br (decide ((1:Int) < (a_b.length:Int))) (cal (zq a_b (0:Int)) λy7=>J5 ((decide (y7=(0:UInt8))))) (J5 (false))) (λq4=>J2 (q4)))) (λq1=>br q1 (some ((0:UInt64),(4:Int))) (cal (zke a_b) λy8=>some (y8,(0:Int)))))

def zlK (a_b:(List UInt8)):Option (Int × Int × Int) :=
 br (decide ((a_b.length:Int)=(0:Int))) (some ((0:Int),(0:Int),(3:Int))) (cal (zq a_b (0:Int)) λy1=>br (decide (y1 < (128:UInt8))) (cal (zq a_b (0:Int)) λy2=>some ((y2.toNat:Int),(1:Int),(0:Int))) (cal (zq a_b (0:Int)) λy3=>jp (ι:=Bool) (λJ5=>br (decide (((y3 &&& ~~~(128:UInt8)).toNat:Int)=(0:Int))) (J5 (true)) (J5 ((decide ((8:Int) < ((y3 &&& ~~~(128:UInt8)).toNat:Int)))))) (λq4=>br q4 (some ((0:Int),(0:Int),(4:Int))) (br (decide ((a_b.length:Int) <= ((y3 &&& ~~~(128:UInt8)).toNat:Int))) (some ((0:Int),(0:Int),(3:Int))) (ck (((1:Int) + ((y3 &&& ~~~(128:UInt8)).toNat:Int))) <| asr (decide (0 <= (1:Int)/\(1:Int) <= ((1:Int) + ((y3 &&& ~~~(128:UInt8)).toNat:Int))/\((1:Int) + ((y3 &&& ~~~(128:UInt8)).toNat:Int)) <= (a_b.length:Int))) <| cal (zfZ ((a_b.take (((1:Int) + ((y3 &&& ~~~(128:UInt8)).toNat:Int))).toNat).drop ((1:Int)).toNat)) λy9=>jp (ι:=Bool) (λJ11=>br (!decide (y9.2=(0:Int))) (J11 (true)) (J11 ((decide (y9.1 < (128:UInt64)))))) (λq10=>jp (ι:=Bool) (λJ14=>br q10 (J14 (true)) (J14 ((decide ((2147483647:UInt64) < y9.1))))) (λq13=>br q13 (some ((0:Int),(0:Int),(4:Int))) (ck ((y9.1.toNat:Int)) <| ck (((1:Int) + ((y3 &&& ~~~(128:UInt8)).toNat:Int))) <| some ((y9.1.toNat:Int),((1:Int) + ((y3 &&& ~~~(128:UInt8)).toNat:Int)),(0:Int))))))))))

def zkb (a_b:(List UInt8)):Option (Tag × Bool × Int × Int × Int) :=
 br (decide ((a_b.length:Int)=(0:Int))) (some ((Tag.mk (0:Int) (0:Int)),false,(0:Int),(0:Int),(3:Int))) (cal (zlF a_b) λy2=>br (!decide (y2.2.2=(0:Int))) (some ((Tag.mk (0:Int) (0:Int)),false,(0:Int),(0:Int),y2.2.2)) (ck (((1:Int) + y2.2.1)) <| asr (decide (0 <= ((1:Int) + y2.2.1)/\((1:Int) + y2.2.1) <= (a_b.length:Int)/\(a_b.length:Int) <= (a_b.length:Int))) <| cal (zlK ((a_b.take ((a_b.length:Int)).toNat).drop (((1:Int) + y2.2.1)).toNat)) λy5=>br (!decide (y5.2.2=(0:Int))) (some ((Tag.mk (0:Int) (0:Int)),false,(0:Int),(0:Int),y5.2.2)) (cal (zq a_b (0:Int)) λy6=>asr (Nat.ble (6:UInt64).toNat 8) <| cal (zq a_b (0:Int)) λy8=>ck (((1:Int) + y2.2.1)) <| ck ((((1:Int) + y2.2.1) + y5.2.1)) <| some ((Tag.mk ((zf0 y6 (6:UInt64).toNat).toNat:Int) y2.1),(!decide ((y8 &&& (32:UInt8))=(0:UInt8))),y5.1,(((1:Int) + y2.2.1) + y5.2.1),(0:Int)))))

def znH (a_b:(List UInt8)):Option (Tag × Bool × (List UInt8) × Int × Int) :=
 cal (zkb a_b) λy2=>jp (ι:=Bool) (λJ5=>br (decide (y2.2.2.2.2=(0:Int))) (ck (((a_b.length:Int) - y2.2.2.2.1)) <| J5 ((decide (((a_b.length:Int) - y2.2.2.2.1) < y2.2.2.1)))) (J5 (false))) (λq4=>jp (ι:=Int) (λJ9=>br q4 (J9 ((3:Int))) (J9 (y2.2.2.2.2))) (λq8=>br (!decide (q8=(0:Int))) (some ((Tag.mk (0:Int) (0:Int)),false,([]:(List UInt8)),(0:Int),q8)) (ck ((y2.2.2.2.1 + y2.2.2.1)) <| asr (decide (0 <= y2.2.2.2.1/\y2.2.2.2.1 <= (y2.2.2.2.1 + y2.2.2.1)/\(y2.2.2.2.1 + y2.2.2.1) <= (a_b.length:Int))) <| ck ((y2.2.2.2.1 + y2.2.2.1)) <| asr (Nat.ble (([]:(List UInt8)).length + ((a_b.take ((y2.2.2.2.1 + y2.2.2.1)).toNat).drop (y2.2.2.2.1).toNat).length) 68719476736) <| some (y2.1,y2.2.1,(([]:(List UInt8)) ++ ((a_b.take ((y2.2.2.2.1 + y2.2.2.1)).toNat).drop (y2.2.2.2.1).toNat)),(y2.2.2.2.1 + y2.2.2.1),(0:Int)))))

def zgD (a_t:zg) (a_k:Int):Option (Bool) :=
 cal (zq a_t.fields a_k) λy1=>jp (ι:=Bool) (λJ3=>br y1.optional (J3 (true)) (cal (zq a_t.fields a_k) λy5=>J3 (y5.has))) (λq2=>jp (ι:=Bool) (λJ7=>br q2 (J7 (true)) (J7 ((decide (a_t.root <= a_k))))) (λq6=>some (q6)))

def zlL (a_t:zg):Option (Int) :=
 lp (ι:=Int) (λL2 q1=>jp (ι:=Bool) (λJ10=>br (decide ((0:Int) < q1)) (ck ((q1 - (1:Int))) <| cal (zgD a_t (q1 - (1:Int))) λy13=>J10 (y13)) (J10 (false))) (λq9=>br q9 (ck ((q1 - (1:Int))) <| L2 ((q1 - (1:Int)))) (some (q1)))) (((min (max a_t.root (0:Int)) (a_t.fields.length:Int))))

def zfo (a_x:zg) (a_a1:(List Tag)):Option ((List Tag)) :=
 br (decide ((0:Int) < (a_x.tags.length:Int))) (cal (zq a_x.tags (0:Int)) λy2=>asr (Nat.ble (a_a1.length + ([y2]:(List Tag)).length) 68719476736) <| some ((a_a1 ++ ([y2]:(List Tag))))) (some (a_a1))

def zf2 (zeh:zeZ->Int->Int->(List Tag)->Option (zeZ × Int × (List Tag))) (a_t:zeZ) (zfi:Int) (zep:Int) (zdX:(List Tag)):Option (zeZ × Int × (List Tag)) :=
 jp (ι:=Bool) (λJ3=>br (decide (zfi < (0:Int))) (J3 (true)) (J3 ((decide ((a_t.l.length:Int) <= zfi))))) (λq2=>jp (ι:=Bool) (λJ6=>br q2 (J6 (true)) (J6 ((decide (zep=(0:Int)))))) (λq5=>br q5 (some (a_t,zep,zdX)) (ck ((zep - (1:Int))) <| cal (zq a_t.l zfi) λy9=>cal (zfo y9 zdX) λy11=>br (decide ((0:Int) < (y9.tags.length:Int))) (some (a_t,(zep - (1:Int)),y11)) (lp (ι:=Int × (List Tag) × Int × zeZ) (λL14 q13=>br (decide (q13.1 < (y9.fields.length:Int))) (cal (zq y9.fields q13.1) λy20=>cal (zeh q13.2.2.2 y20.ty q13.2.2.1 q13.2.1) λy22=>ck ((q13.1 + (1:Int))) <| L14 ((q13.1 + (1:Int)),y22.2.2,y22.2.1,y22.1)) (some (q13.2.2.2,q13.2.2.1,q13.2.1))) (((0:Int),y11,(zep - (1:Int)),a_t))))))
def zho:Nat->(zeZ->Int->Int->(List Tag)->Option (zeZ × Int × (List Tag)))
 | 0=>(λ_ _ _ _=>none)
 | n + 1=>let p:=zho n;(zf2 p)
def zfs (n:Nat):zeZ->Int->Int->(List Tag)->Option (zeZ × Int × (List Tag)):=(zho n)

def zgw (a_t:zeZ) (zfi:Int):Option ((List Tag) × zeZ) :=
 cal (zfs fuel a_t zfi (300:Int) ([]:(List Tag))) λy4=>some (y4.2.2,y4.1)

def zjX (a_t:zZ) (a_i:Int):Option ((List Tag)) :=
 cal (zgw (zeZ.mk a_t.types) a_i) λy2=>some (y2.1)

def zdB (a_s:(List Tag)) (a_v:Tag):Option (Int) :=
 lp (ι:=Int) (λL2 q1=>br (decide (q1 < (a_s.length:Int))) (cal (zq a_s q1) λy5=>br (decide (a_v=y5)) (some (q1)) (ck ((q1 + (1:Int))) <| L2 ((q1 + (1:Int))))) (some ((-1:Int)))) (((0:Int)))

def zda (a_s:(List Tag)) (a_v:Tag):Option (Bool) :=
 cal (zdB a_s a_v) λy1=>some ((decide ((0:Int) <= y1)))

def zeG (a_f:zaF) (a_a1:zy) (a_a2:Tag):Option (Bool × zy) :=
 cal (zjX a_a1.tabled.t a_f.ty) λy1=>cal (zda y1 a_a2) λy2=>some (y2,a_a1)

def zcC (a_s:(List zaF)) (za9:zy) (zbd:Tag):Option (Int × zy) :=
 lp (ι:=Int × zy) (λL2 q1=>br (decide (q1.1 < (a_s.length:Int))) (cal (zq a_s q1.1) λy6=>cal (zeG y6 q1.2 zbd) λy7=>br y7.1 (some (q1.1,y7.2)) (ck ((q1.1 + (1:Int))) <| L2 ((q1.1 + (1:Int)),y7.2))) (some ((-1:Int),q1.2))) (((0:Int),za9))

def zcq (a_s:(List zaF)) (za9:zy) (zbd:Tag):Option (Bool × zy) :=
 cal (zcC a_s za9 zbd) λy1=>some ((decide ((0:Int) <= y1.1)),y1.2)

def zek (a_c:zy) (a_i:Int) (a_b:(List UInt8)):Option (Tag × Bool × zy) :=
 cal (znH a_b) λy2=>jp (ι:=Bool) (λJ5=>br (!decide (y2.2.2.2.2=(0:Int))) (J5 (true)) (J5 ((!decide (y2.2.2.2.1=(a_b.length:Int)))))) (λq4=>br q4 (some ((Tag.mk (0:Int) (0:Int)),false,a_c)) (cal (zq a_c.tabled.t.types a_i) λy7=>jp (ι:=Int) (λJ10=>br (decide (y7.kind=(7:Int))) (cal (zlL y7) λy11=>J10 (y11)) (J10 ((0:Int)))) (λq9=>asr (decide (0 <= q9/\q9 <= (y7.fields.length:Int)/\(y7.fields.length:Int) <= (y7.fields.length:Int))) <| cal (zcq ((y7.fields.take ((y7.fields.length:Int)).toNat).drop (q9).toNat) a_c y2.1) λy13=>some (y2.1,(!y13.1),y13.2))))

def zgk (a_y:zai) (a_a1:Int):Option (Bool) :=
 some ((decide (a_y.number=a_a1)))

def za7 (a_s:(List zai)) (za9:Int):Option (Int) :=
 lp (ι:=Int) (λL2 q1=>br (decide (q1 < (a_s.length:Int))) (cal (zq a_s q1) λy6=>cal (zgk y6 za9) λy7=>br y7 (some (q1)) (ck ((q1 + (1:Int))) <| L2 ((q1 + (1:Int))))) (some ((-1:Int)))) (((0:Int)))

def zeb (a_x:zg) (a_n_:Int):Option (Int) :=
 cal (za7 a_x.items a_n_) λy1=>some (y1)

def zjZ (a_b:(List UInt8)):Option (Bool) :=
 jp (ι:=Bool) (λJ2=>br (decide ((0:Int) < (a_b.length:Int))) (J2 ((decide ((a_b.length:Int) <= (70000:Int))))) (J2 (false))) (λq1=>some (q1))

def zei (a_c:zy) (a_i:Int) (a_v:Val):Option (Bool × zy) :=
 cal (zq a_c.tabled.t.types a_i) λy1=>jp (ι:=Bool) (λJ4=>br (!y1.more) (J4 (true)) (jp (ι:=Bool) (λJ7=>br (!(decide (y1.kind=(9:Int)))) (J7 ((!decide (y1.kind=(3:Int))))) (J7 (false))) (λq6=>J4 (q6)))) (λq3=>jp (ι:=Bool) (λJ10=>br q3 (J10 (true)) (ck (((a_v.l.length:Int) + (a_v.more.length:Int))) <| J10 ((decide ((0:Int) < ((a_v.l.length:Int) + (a_v.more.length:Int))))))) (λq9=>br q9 (some (false,a_c)) (br a_c.bare (jp (ι:=Bool) (λJ14=>br (decide (a_v.n=(0:Int))) (J14 ((decide ((a_v.b.length:Int)=(0:Int))))) (J14 (false))) (λq13=>jp (ι:=Bool) (λJ17=>br q13 (J17 ((decide (a_v.rule=(0:Int))))) (J17 (false))) (λq16=>some (q16,a_c)))) (ck (((y1.items.length:Int) + (y1.fields.length:Int))) <| ck ((((y1.items.length:Int) + (y1.fields.length:Int)) - y1.root)) <| jp (ι:=Bool) (λJ22=>br (decide (a_v.rule=(1:Int))) (J22 ((decide (y1.kind=(9:Int))))) (J22 (false))) (λq21=>br q21 (cal (zek a_c a_i a_v.b) λy24=>jp (ι:=Bool) (λJ27=>br y24.2.1 (J27 ((decide (a_v.n=(0:Int))))) (J27 (false))) (λq26=>some (q26,y24.2.2))) (br (decide (a_v.rule=(1:Int))) (jp (ι:=Bool) (λJ30=>br (decide ((a_v.b.length:Int)=(0:Int))) (cal (zeb y1 a_v.n) λy32=>J30 ((decide (y32 < (0:Int))))) (J30 (false))) (λq29=>some (q29,a_c))) (jp (ι:=Bool) (λJ34=>br (!decide (a_v.rule=(2:Int))) (J34 (true)) (J34 ((decide (a_v.n < (((y1.items.length:Int) + (y1.fields.length:Int)) - y1.root)))))) (λq33=>jp (ι:=Bool) (λJ37=>br q33 (J37 (true)) (J37 ((decide ((1000:Int) <= a_v.n))))) (λq36=>br q36 (some (false,a_c)) (br (decide (y1.kind=(9:Int))) (cal (zjZ a_v.b) λy39=>some (y39,a_c)) (some ((decide ((a_v.b.length:Int)=(0:Int))),a_c))))))))))))

def zcZ (a_v:Val) (zit:Int):Option (Bool) :=
 asr (decide (0 <= zit/\0 <= (1:Int))) <| jp (ι:=Bool) (λJ3=>br (!decide ((andI zit (1:Int))=(0:Int))) (J3 (true)) (J3 ((decide (a_v.n=(0:Int)))))) (λq2=>jp (ι:=Bool) (λJ6=>br q2 (asr (decide (0 <= zit/\0 <= (2:Int))) <| jp (ι:=Bool) (λJ10=>br (!decide ((andI zit (2:Int))=(0:Int))) (J10 (true)) (J10 ((decide ((a_v.b.length:Int)=(0:Int)))))) (λq9=>J6 (q9))) (J6 (false))) (λq5=>jp (ι:=Bool) (λJ13=>br q5 (asr (decide (0 <= zit/\0 <= (4:Int))) <| jp (ι:=Bool) (λJ17=>br (!decide ((andI zit (4:Int))=(0:Int))) (J17 (true)) (J17 ((decide ((a_v.l.length:Int)=(0:Int)))))) (λq16=>J13 (q16))) (J13 (false))) (λq12=>jp (ι:=Bool) (λJ20=>br q12 (asr (decide (0 <= zit/\0 <= (8:Int))) <| jp (ι:=Bool) (λJ24=>br (!decide ((andI zit (8:Int))=(0:Int))) (J24 (true)) (jp (ι:=Bool) (λJ27=>br (decide (a_v.rule=(0:Int))) (J27 ((decide ((a_v.more.length:Int)=(0:Int))))) (J27 (false))) (λq26=>J24 (q26)))) (λq23=>J20 (q23))) (J20 (false))) (λq19=>some (q19)))))

def zeD (a_c:zbx) (a_v:Int):Option (Bool) :=
 jp (ι:=Bool) (λJ2=>br (!a_c.has) (J2 (true)) (jp (ι:=Bool) (λJ5=>br (!a_c.hasLow) (J5 (true)) (J5 ((decide (a_c.low <= a_v))))) (λq4=>jp (ι:=Bool) (λJ8=>br q4 (jp (ι:=Bool) (λJ11=>br (!a_c.hasHigh) (J11 (true)) (J11 ((decide (a_v <= a_c.high))))) (λq10=>J8 (q10))) (J8 (false))) (λq7=>J2 (q7))))) (λq1=>some (q1))

def zdD (a_c:zy) (a_x:zg) (a_v:Val):Option (Bool × zy) :=
 cal (zcZ a_v (2:Int)) λy1=>jp (ι:=Bool) (λJ3=>br y1 (J3 ((decide ((a_v.b.length:Int) <= (70000:Int))))) (J3 (false))) (λq2=>jp (ι:=Bool) (λJ6=>br q2 (jp (ι:=Bool) (λJ9=>br a_x.con.more (J9 (true)) (cal (zeD a_x.con (a_v.b.length:Int)) λy11=>J9 (y11))) (λq8=>J6 (q8))) (J6 (false))) (λq5=>jp (ι:=Bool) (λJ13=>br q5 (jp (ι:=Bool) (λJ16=>br (decide (a_x.kind=(5:Int))) (J16 (true)) (cal (zcy a_v.b) λy18=>J16 (y18))) (λq15=>J13 (q15))) (J13 (false))) (λq12=>some (q12,a_c))))

def zhN (a_t:zZ) (a_i:Int):Option (zg) :=
 jp (ι:=Bool) (λJ3=>br (decide (a_i < (0:Int))) (J3 (true)) (J3 ((decide ((a_t.types.length:Int) <= a_i))))) (λq2=>br q2 (some ((zg.mk (0:Int) ([]:(List Tag)) (zbx.mk false false false false (0:Int) (0:Int)) ([]:(List zai)) ([]:(List zaF)) (0:Int) false (0:Int)))) (cal (zq a_t.types a_i) λy5=>some (y5)))

def zhk (zdh:Int) (a_to:Int):Option ((List Int)) :=
 lp (ι:=(List Int) × Int) (λL4 q3=>br (decide (q3.2 < a_to)) (asr (Nat.ble (q3.1.length + ([q3.2]:(List Int)).length) 68719476736) <| ck ((q3.2 + (1:Int))) <| L4 ((q3.1 ++ ([q3.2]:(List Int))),(q3.2 + (1:Int)))) (some (q3.1))) ((([]:(List Int)),zdh))

def zfD (a_t:zZ) (a_i:Int):Option ((List (List Int))) :=
 cal (zhN a_t a_i) λy3=>jp (ι:=Bool) (λJ6=>br (!decide (y3.kind=(7:Int))) (J6 ((!decide (y3.kind=(8:Int))))) (J6 (false))) (λq5=>jp (ι:=Bool) (λJ9=>br q5 (J9 ((!decide (y3.kind=(9:Int))))) (J9 (false))) (λq8=>br q8 (some (([]:(List (List Int))))) (cal (zhk (max y3.root (0:Int)) (y3.fields.length:Int)) λy15=>lp (ι:=(List (List Int)) × Int) (λL18 q17=>br (decide (q17.2 < ((y15.length:Nat):Int))) (jp (ι:=(List (List Int))) (λJ50=>asr (decide (0 <= q17.2/\q17.2 < ((y15.length:Nat):Int))) <| cal (y15[q17.2.toNat]?) λy52=>ck ((((q17.1.length:Nat):Int) - (1:Int))) <| cal (zq y3.fields y52) λy54=>jp (ι:=Bool) (λJ56=>br (!decide (y3.kind=(9:Int))) (J56 ((decide ((0:Int) < y54.group)))) (J56 (false))) (λq55=>jp (ι:=Bool) (λJ59=>br q55 (J59 ((decide ((0:Int) <= (((q17.1.length:Nat):Int) - (1:Int)))))) (J59 (false))) (λq58=>jp (ι:=Bool) (λJ62=>br q58 (ck ((y52 - (1:Int))) <| cal (zq y3.fields (y52 - (1:Int))) λy65=>J62 ((decide (y65.group=y54.group)))) (J62 (false))) (λq61=>br q61 (asr (decide (0 <= (((q17.1.length:Nat):Int) - (1:Int))/\(((q17.1.length:Nat):Int) - (1:Int)) < ((q17.1.length:Nat):Int))) <| asr (decide ((((q17.1.length:Nat):Int) - (1:Int)).toNat + 1=q17.1.length)) <| cal (q17.1[(((q17.1.length:Nat):Int) - (1:Int)).toNat]?) λy68=>asr (Nat.ble (y68.length + ([y52]:(List Int)).length) 68719476736) <| asr (decide (0 <= (((q17.1.length:Nat):Int) - (1:Int))/\(((q17.1.length:Nat):Int) - (1:Int)) < ((q17.1.length:Nat):Int))) <| asr (decide ((((q17.1.length:Nat):Int) - (1:Int)).toNat + 1=q17.1.length)) <| cal (q17.1[(((q17.1.length:Nat):Int) - (1:Int)).toNat]?) λy74=>J50 ((q17.1.set ((((q17.1.length:Nat):Int) - (1:Int)).toNat) (y68 ++ ([y52]:(List Int)))))) (asr (Nat.ble (q17.1.length + ([([y52]:(List Int))]:(List (List Int))).length) 68719476736) <| J50 ((q17.1 ++ [([y52]:(List Int))]))))))) (λq49=>ck ((q17.2 + (1:Int))) <| L18 (q49,(q17.2 + (1:Int))))) (some (q17.1))) ((([]:(List (List Int))),(0:Int))))))

def zmM (a_a:Tag) (a_b:Tag):Option (Bool) :=
 br (!decide (a_a.cls=a_b.cls)) (some ((decide (a_a.cls < a_b.cls)))) (some ((decide (a_a.num < a_b.num))))

def zdo (a_c:zy) (a_i:Int) (a_v:Val):Option (Bool × zy) :=
 cal (zq a_c.tabled.t.types a_i) λy1=>br (decide ((a_v.more.length:Int)=(0:Int))) (some ((decide (a_v.rule=(0:Int))),a_c)) (jp (ι:=Bool) (λJ4=>br (!y1.more) (J4 (true)) (jp (ι:=Bool) (λJ7=>br (!decide (a_v.rule=(1:Int))) (J7 ((!decide (a_v.rule=(2:Int))))) (J7 (false))) (λq6=>J4 (q6)))) (λq3=>br q3 (some (false,a_c)) (cal (zfD a_c.tabled.t a_i) λy9=>lp (ι:=Int × Int × Tag × zy) (λL12 q11=>br (decide (q11.2.1 < (a_v.more.length:Int))) (jp (ι:=Int × Tag × zy) (λJ42=>cal (zq a_v.more q11.2.1) λy43=>br (decide (a_v.rule=(2:Int))) (jp (ι:=Bool) (λJ46=>br (decide (y43.n < q11.1)) (J46 (true)) (J46 ((decide ((1000:Int) <= y43.n))))) (λq45=>jp (ι:=Bool) (λJ49=>br q45 (J49 (true)) (cal (zjZ y43.b) λy51=>J49 ((!y51)))) (λq48=>br q48 (some (false,q11.2.2.2)) (ck ((y43.n + (1:Int))) <| J42 ((y43.n + (1:Int)),q11.2.2.1,q11.2.2.2))))) (cal (zek q11.2.2.2 a_i y43.b) λy53=>jp (ι:=Bool) (λJ56=>br (!y53.2.1) (J56 (true)) (J56 ((!decide (y43.n=(0:Int)))))) (λq55=>jp (ι:=Bool) (λJ59=>br q55 (J59 (true)) (jp (ι:=Bool) (λJ62=>br (decide (y1.kind=(8:Int))) (J62 ((decide ((0:Int) < q11.2.1)))) (J62 (false))) (λq61=>jp (ι:=Bool) (λJ65=>br q61 (cal (zmM q11.2.2.1 y53.1) λy67=>J65 ((!y67))) (J65 (false))) (λq64=>J59 (q64))))) (λq58=>br q58 (some (false,y53.2.2)) (J42 (q11.1,y53.1,y53.2.2)))))) (λq41=>ck ((q11.2.1 + (1:Int))) <| L12 (q41.1,(q11.2.1 + (1:Int)),q41.2.1,q41.2.2))) (some (true,q11.2.2.2))) (((y9.length:Int),(0:Int),Tag.zero,a_c)))))

def ze5 (a_v:Val):Option (Bool) :=
 jp (ι:=Bool) (λJ2=>br (decide (a_v.kind=(0:Int))) (cal (zcZ a_v (0:Int)) λy4=>J2 (y4)) (J2 (false))) (λq1=>some (q1))

def ziZ (a_a:(List UInt8)) (a_b:(List UInt8)):Option (Bool) :=
 some ((decide ((Str.mk a_a)=(Str.mk a_b))))

def zf4 (a_a:Raw) (a_b:Raw):Option (Bool) :=
 jp (ι:=Bool) (λJ2=>br (decide (a_a.n=a_b.n)) (cal (ziZ a_a.b a_b.b) λy4=>J2 (y4)) (J2 (false))) (λq1=>some (q1))

def za1 (a_s1:(List Raw)) (a_s2:(List Raw)):Option (Bool) :=
 br (!decide ((a_s1.length:Int)=(a_s2.length:Int))) (some (false)) (lp (ι:=Int) (λL2 q1=>br (decide (q1 < (a_s1.length:Int))) (cal (zq a_s1 q1) λy9=>cal (zq a_s2 q1) λy11=>cal (zf4 y9 y11) λy13=>br (!y13) (some (false)) (ck ((q1 + (1:Int))) <| L2 ((q1 + (1:Int))))) (some (true))) (((0:Int))))

def zgT (zdZ:Val->Val->Option (Bool)) (zr:(List Val)->(List Val)->Option (Bool)) (a_a:Val) (a_b:Val):Option (Bool) :=
 jp (ι:=Bool) (λJ2=>br (decide (a_a.kind=a_b.kind)) (J2 ((decide (a_a.n=a_b.n)))) (J2 (false))) (λq1=>jp (ι:=Bool) (λJ5=>br q1 (cal (ziZ a_a.b a_b.b) λy7=>J5 (y7)) (J5 (false))) (λq4=>jp (ι:=Bool) (λJ9=>br q4 (cal (zr a_a.l a_b.l) λy11=>J9 (y11)) (J9 (false))) (λq8=>jp (ι:=Bool) (λJ13=>br q8 (J13 ((decide (a_a.rule=a_b.rule)))) (J13 (false))) (λq12=>jp (ι:=Bool) (λJ16=>br q12 (cal (za1 a_a.more a_b.more) λy18=>J16 (y18)) (J16 (false))) (λq15=>some (q15))))))
def zak (zdZ:Val->Val->Option (Bool)) (zr:(List Val)->(List Val)->Option (Bool)) (a_s1:(List Val)) (a_s2:(List Val)):Option (Bool) :=
 br (!decide ((a_s1.length:Int)=(a_s2.length:Int))) (some (false)) (lp (ι:=Int) (λL2 q1=>br (decide (q1 < (a_s1.length:Int))) (cal (zq a_s1 q1) λy9=>cal (zq a_s2 q1) λy11=>cal (zdZ y9 y11) λy13=>br (!y13) (some (false)) (ck ((q1 + (1:Int))) <| L2 ((q1 + (1:Int))))) (some (true))) (((0:Int))))
def zis:Nat->(Val->Val->Option (Bool)) × ((List Val)->(List Val)->Option (Bool))
 | 0=>(λ_ _=>none,λ_ _=>none)
 | n + 1=>let p:=zis n;(zgT p.1 p.2,zak p.1 p.2)
def ze1 (n:Nat):Val->Val->Option (Bool):=(zis n).1
def zan (n:Nat):(List Val)->(List Val)->Option (Bool):=(zis n).2

def zcv (a_c:zy) (a_i:Int) (a_v:Val):Option (Bool × zy) :=
 cal (zq a_c.tabled.t.types a_i) λy1=>cal (zfD a_c.tabled.t a_i) λy3=>lp (ι:=Int) (λL5 q4=>br (decide (q4 < (y3.length:Int))) (jp (ι:=Unit) (λJ49=>cal (zq y3 q4) λy50=>cal (zq y50 (0:Int)) λy51=>cal (zq y1.fields y51) λy52=>br (decide (y52.group=(0:Int))) (J49 ()) (lp (ι:=Bool × Bool × Int) (λL54 q53=>br (decide (q53.2.2 < (y50.length:Int))) (cal (zq y50 q53.2.2) λy67=>cal (zq a_v.l y67) λy68=>cal (ze5 y68) λy69=>jp (ι:=Bool) (λJ71=>br q53.1 (J71 (true)) (J71 ((!y69)))) (λq70=>jp (ι:=Bool) (λJ74=>br q53.2.1 (J74 (true)) (jp (ι:=Bool) (λJ77=>br (!(!y69)) (cal (zq y1.fields y67) λy79=>J77 ((!y79.optional))) (J77 (false))) (λq76=>jp (ι:=Bool) (λJ81=>br q76 (cal (zq y1.fields y67) λy83=>J81 ((!y83.has))) (J81 (false))) (λq80=>J74 (q80))))) (λq73=>ck ((q53.2.2 + (1:Int))) <| L54 (q70,q73,(q53.2.2 + (1:Int)))))) (jp (ι:=Bool) (λJ86=>br q53.1 (J86 (q53.2.1)) (J86 (false))) (λq85=>br q85 (some (false,a_c)) (J49 ())))) ((false,false,(0:Int))))) (λq48=>ck ((q4 + (1:Int))) <| L5 ((q4 + (1:Int))))) (some (true,a_c))) (((0:Int)))

def zb0 (zt:Val->zy->zg->Int->Option (Bool × zy)) (zC:zy->Int->Val->Int->Option (Bool × zy)) (zF:zy->zg->Val->Int->Option (Bool × zy)) (ze:(List Val)->zy->zg->Int->Option (Bool × zy)) (zf:(List Val)->zy->zg->Int->Option (Int × zy)) (zu:zy->Int->Val->Int->Option (Bool × zy)) (a_w_:Val) (a_a1:zy) (a_a2:zg) (a_a3:Int):Option (Bool × zy) :=
 ck ((a_a3 + (1:Int))) <| cal (zC a_a1 a_a2.of a_w_ (a_a3 + (1:Int))) λy2=>some ((!y2.1),y2.2)
def zbF (zt:Val->zy->zg->Int->Option (Bool × zy)) (zC:zy->Int->Val->Int->Option (Bool × zy)) (zF:zy->zg->Val->Int->Option (Bool × zy)) (ze:(List Val)->zy->zg->Int->Option (Bool × zy)) (zf:(List Val)->zy->zg->Int->Option (Int × zy)) (zu:zy->Int->Val->Int->Option (Bool × zy)) (a_c:zy) (a_i:Int) (a_v:Val) (za:Int):Option (Bool × zy) :=
 jp (ι:=Bool) (λJ2=>br (decide (a_i < (0:Int))) (J2 (true)) (J2 ((decide ((a_c.tabled.t.types.length:Int) <= a_i))))) (λq1=>jp (ι:=Bool) (λJ5=>br q1 (J5 (true)) (J5 ((decide ((17:Int) < za))))) (λq4=>br q4 (some (false,a_c)) (cal (zq a_c.tabled.t.types a_i) λy7=>br (decide (a_v.kind=(12:Int))) (cal (zei a_c a_i a_v) λy9=>some (y9.1,y9.2)) (br (!decide (a_v.kind=y7.kind)) (some (false,a_c)) (br (decide (y7.kind=(1:Int))) (cal (zcZ a_v (1:Int)) λy10=>jp (ι:=Bool) (λJ12=>br y10 (jp (ι:=Bool) (λJ15=>br (decide (a_v.n=(0:Int))) (J15 (true)) (J15 ((decide (a_v.n=(1:Int)))))) (λq14=>J12 (q14))) (J12 (false))) (λq11=>some (q11,a_c))) (br (decide (y7.kind=(2:Int))) (cal (zcZ a_v (1:Int)) λy17=>jp (ι:=Bool) (λJ19=>br y17 (jp (ι:=Bool) (λJ22=>br y7.con.more (J22 (true)) (cal (zeD y7.con a_v.n) λy24=>J22 (y24))) (λq21=>J19 (q21))) (J19 (false))) (λq18=>some (q18,a_c))) (br (decide (y7.kind=(3:Int))) (cal (zcZ a_v (1:Int)) λy25=>jp (ι:=Bool) (λJ27=>br y25 (cal (zeb y7 a_v.n) λy29=>J27 ((decide ((0:Int) <= y29)))) (J27 (false))) (λq26=>some (q26,a_c))) (br (decide (y7.kind=(4:Int))) (cal (zcZ a_v (0:Int)) λy30=>some (y30,a_c)) (jp (ι:=Bool) (λJ32=>br (decide (y7.kind=(5:Int))) (J32 ((decide (y7.kind=(5:Int))))) (J32 ((decide (y7.kind=(6:Int)))))) (λq31=>br q31 (cal (zdD a_c y7 a_v) λy33=>some (y33.1,y33.2)) (br (decide (y7.kind=(10:Int))) (cal (zF a_c y7 a_v za) λy34=>some (y34.1,y34.2)) (br (decide (y7.kind=(9:Int))) (cal (zcZ a_v (5:Int)) λy35=>jp (ι:=Bool) (λJ37=>br y35 (J37 ((decide ((0:Int) <= a_v.n)))) (J37 (false))) (λq36=>jp (ι:=Bool) (λJ40=>br q36 (J40 ((decide (a_v.n < (y7.fields.length:Int))))) (J40 (false))) (λq39=>jp (ι:=Bool) (λJ43=>br q39 (J43 ((decide ((a_v.l.length:Int)=(1:Int))))) (J43 (false))) (λq42=>jp (ι:=Bool × zy) (λJ46=>br q42 (cal (zq y7.fields a_v.n) λy48=>cal (zq a_v.l (0:Int)) λy49=>ck ((za + (1:Int))) <| cal (zC a_c y48.ty y49 (za + (1:Int))) λy51=>J46 (y51.1,y51.2)) (J46 (false,a_c))) (λq45=>some (q45.1,q45.2)))))) (jp (ι:=Bool) (λJ53=>br (decide (y7.kind=(7:Int))) (J53 ((decide (y7.kind=(7:Int))))) (J53 ((decide (y7.kind=(8:Int)))))) (λq52=>br q52 (cal (zu a_c a_i a_v za) λy54=>some (y54.1,y54.2)) (some (false,a_c))))))))))))))))
def zcA (zt:Val->zy->zg->Int->Option (Bool × zy)) (zC:zy->Int->Val->Int->Option (Bool × zy)) (zF:zy->zg->Val->Int->Option (Bool × zy)) (ze:(List Val)->zy->zg->Int->Option (Bool × zy)) (zf:(List Val)->zy->zg->Int->Option (Int × zy)) (zu:zy->Int->Val->Int->Option (Bool × zy)) (a_c:zy) (a_x:zg) (a_v:Val) (za:Int):Option (Bool × zy) :=
 cal (zcZ a_v (4:Int)) λy1=>jp (ι:=Bool) (λJ3=>br y1 (jp (ι:=Bool) (λJ6=>br a_x.con.more (J6 (true)) (cal (zeD a_x.con (a_v.l.length:Int)) λy8=>J6 (y8))) (λq5=>J3 (q5))) (J3 (false))) (λq2=>jp (ι:=Bool × zy) (λJ10=>br q2 (cal (ze a_v.l a_c a_x za) λy12=>J10 ((!y12.1),y12.2)) (J10 (false,a_c))) (λq9=>some (q9.1,q9.2)))
def zar (zt:Val->zy->zg->Int->Option (Bool × zy)) (zC:zy->Int->Val->Int->Option (Bool × zy)) (zF:zy->zg->Val->Int->Option (Bool × zy)) (ze:(List Val)->zy->zg->Int->Option (Bool × zy)) (zf:(List Val)->zy->zg->Int->Option (Int × zy)) (zu:zy->Int->Val->Int->Option (Bool × zy)) (a_s:(List Val)) (za9:zy) (zbd:zg) (zbE:Int):Option (Bool × zy) :=
 cal (zf a_s za9 zbd zbE) λy1=>some ((decide ((0:Int) <= y1.1)),y1.2)
def zav (zt:Val->zy->zg->Int->Option (Bool × zy)) (zC:zy->Int->Val->Int->Option (Bool × zy)) (zF:zy->zg->Val->Int->Option (Bool × zy)) (ze:(List Val)->zy->zg->Int->Option (Bool × zy)) (zf:(List Val)->zy->zg->Int->Option (Int × zy)) (zu:zy->Int->Val->Int->Option (Bool × zy)) (a_s:(List Val)) (za9:zy) (zbd:zg) (zbE:Int):Option (Int × zy) :=
 lp (ι:=Int × zy) (λL2 q1=>br (decide (q1.1 < (a_s.length:Int))) (cal (zq a_s q1.1) λy6=>cal (zt y6 q1.2 zbd zbE) λy7=>br y7.1 (some (q1.1,y7.2)) (ck ((q1.1 + (1:Int))) <| L2 ((q1.1 + (1:Int)),y7.2))) (some ((-1:Int),q1.2))) (((0:Int),za9))
def zch (zt:Val->zy->zg->Int->Option (Bool × zy)) (zC:zy->Int->Val->Int->Option (Bool × zy)) (zF:zy->zg->Val->Int->Option (Bool × zy)) (ze:(List Val)->zy->zg->Int->Option (Bool × zy)) (zf:(List Val)->zy->zg->Int->Option (Int × zy)) (zu:zy->Int->Val->Int->Option (Bool × zy)) (a_c:zy) (a_i:Int) (a_v:Val) (za:Int):Option (Bool × zy) :=
 cal (zq a_c.tabled.t.types a_i) λy1=>cal (zcZ a_v (12:Int)) λy3=>jp (ι:=Bool) (λJ5=>br (!y3) (J5 (true)) (J5 ((!decide ((a_v.l.length:Int)=(y1.fields.length:Int)))))) (λq4=>jp (ι:=Bool × zy) (λJ8=>br q4 (J8 (true,a_c)) (cal (zdo a_c a_i a_v) λy10=>J8 ((!y10.1),y10.2))) (λq7=>br q7.1 (some (false,q7.2)) (lp (ι:=Int × zy) (λL12 q11=>br (decide (q11.1 < (y1.fields.length:Int))) (jp (ι:=zy) (λJ36=>cal (zq y1.fields q11.1) λy37=>cal (zq a_v.l q11.1) λy39=>br (decide (y39.kind=(0:Int))) (cal (ze5 y39) λy41=>jp (ι:=Bool) (λJ43=>br (!y41) (J43 (true)) (cal (zgD y1 q11.1) λy45=>J43 ((!y45)))) (λq42=>br q42 (some (false,q11.2)) (J36 (q11.2)))) (ck ((za + (1:Int))) <| cal (zC q11.2 y37.ty y39 (za + (1:Int))) λy47=>jp (ι:=Bool) (λJ49=>br (!y47.1) (J49 (true)) (jp (ι:=Bool) (λJ52=>br y37.has (cal (ze1 fuel y39 y37.dflt) λy54=>J52 (y54)) (J52 (false))) (λq51=>J49 (q51)))) (λq48=>br q48 (some (false,y47.2)) (J36 (y47.2))))) (λq35=>ck ((q11.1 + (1:Int))) <| L12 ((q11.1 + (1:Int)),q35))) (cal (zcv q11.2 a_i a_v) λy56=>some (y56.1,y56.2))) (((0:Int),q7.2)))))
def zby:Nat->(Val->zy->zg->Int->Option (Bool × zy)) × (zy->Int->Val->Int->Option (Bool × zy)) × (zy->zg->Val->Int->Option (Bool × zy)) × ((List Val)->zy->zg->Int->Option (Bool × zy)) × ((List Val)->zy->zg->Int->Option (Int × zy)) × (zy->Int->Val->Int->Option (Bool × zy))
 | 0=>(λ_ _ _ _=>none,λ_ _ _ _=>none,λ_ _ _ _=>none,λ_ _ _ _=>none,λ_ _ _ _=>none,λ_ _ _ _=>none)
 | n + 1=>let p:=zby n;(zb0 p.1 p.2.1 p.2.2.1 p.2.2.2.1 p.2.2.2.2.1 p.2.2.2.2.2,zbF p.1 p.2.1 p.2.2.1 p.2.2.2.1 p.2.2.2.2.1 p.2.2.2.2.2,zcA p.1 p.2.1 p.2.2.1 p.2.2.2.1 p.2.2.2.2.1 p.2.2.2.2.2,zar p.1 p.2.1 p.2.2.1 p.2.2.2.1 p.2.2.2.2.1 p.2.2.2.2.2,zav p.1 p.2.1 p.2.2.1 p.2.2.2.1 p.2.2.2.2.1 p.2.2.2.2.2,zch p.1 p.2.1 p.2.2.1 p.2.2.2.1 p.2.2.2.2.1 p.2.2.2.2.2)
def zY (n:Nat):Val->zy->zg->Int->Option (Bool × zy):=(zby n).1
def zW (n:Nat):zy->Int->Val->Int->Option (Bool × zy):=(zby n).2.1
def zam (n:Nat):zy->zg->Val->Int->Option (Bool × zy):=(zby n).2.2.1
def zk (n:Nat):(List Val)->zy->zg->Int->Option (Bool × zy):=(zby n).2.2.2.1
def zo (n:Nat):(List Val)->zy->zg->Int->Option (Int × zy):=(zby n).2.2.2.2.1
def zac (n:Nat):zy->Int->Val->Int->Option (Bool × zy):=(zby n).2.2.2.2.2

def zgl (zgY:Val->Option (Int)) (a_v:Val):Option (Int) :=
 lp (ι:=Int × Int) (λL2 q1=>br (decide (q1.2 < (a_v.l.length:Int))) (cal (zq a_v.l q1.2) λy8=>cal (zgY y8) λy10=>ck ((q1.1 + y10)) <| ck ((q1.2 + (1:Int))) <| L2 ((q1.1 + y10),(q1.2 + (1:Int)))) (some (q1.1))) (((1:Int),(0:Int)))
def zkl:Nat->(Val->Option (Int))
 | 0=>(λ_=>none)
 | n + 1=>let p:=zkl n;(zgl p)
def zgL (n:Nat):Val->Option (Int):=(zkl n)

def zea (a_t:zZ) (a_i:Int) (a_v:Val):Option (Bool) :=
 cal (zW fuel (zy.mk (ziv.mk a_t) false) a_i a_v (1:Int)) λy2=>jp (ι:=Bool) (λJ4=>br y2.1 (cal (zgL fuel a_v) λy6=>J4 ((decide (y6 <= (5000:Int))))) (J4 (false))) (λq3=>some (q3))

def zfc (zaQ:Val->Option (Bool)) (zbs:Val->Option (Bool)) (zi:(List Val)->Option (Bool)) (zm:(List Val)->Option (Int)) (a_w_:Val):Option (Bool) :=
 cal (zbs a_w_) λy1=>some ((!y1))
def zgZ (zaQ:Val->Option (Bool)) (zbs:Val->Option (Bool)) (zi:(List Val)->Option (Bool)) (zm:(List Val)->Option (Int)) (a_v:Val):Option (Bool) :=
 jp (ι:=Bool) (λJ2=>br (!decide (a_v.kind=(12:Int))) (J2 ((decide ((a_v.more.length:Int)=(0:Int))))) (J2 (false))) (λq1=>jp (ι:=Bool) (λJ5=>br q1 (cal (zi a_v.l) λy7=>J5 ((!y7))) (J5 (false))) (λq4=>some (q4)))
def zaR (zaQ:Val->Option (Bool)) (zbs:Val->Option (Bool)) (zi:(List Val)->Option (Bool)) (zm:(List Val)->Option (Int)) (a_s:(List Val)):Option (Bool) :=
 cal (zm a_s) λy1=>some ((decide ((0:Int) <= y1)))
def za3 (zaQ:Val->Option (Bool)) (zbs:Val->Option (Bool)) (zi:(List Val)->Option (Bool)) (zm:(List Val)->Option (Int)) (a_s:(List Val)):Option (Int) :=
 lp (ι:=Int) (λL2 q1=>br (decide (q1 < (a_s.length:Int))) (cal (zq a_s q1) λy6=>cal (zaQ y6) λy7=>br y7 (some (q1)) (ck ((q1 + (1:Int))) <| L2 ((q1 + (1:Int))))) (some ((-1:Int)))) (((0:Int)))
def zeB:Nat->(Val->Option (Bool)) × (Val->Option (Bool)) × ((List Val)->Option (Bool)) × ((List Val)->Option (Int))
 | 0=>(λ_=>none,λ_=>none,λ_=>none,λ_=>none)
 | n + 1=>let p:=zeB n;(zfc p.1 p.2.1 p.2.2.1 p.2.2.2,zgZ p.1 p.2.1 p.2.2.1 p.2.2.2,zaR p.1 p.2.1 p.2.2.1 p.2.2.2,za3 p.1 p.2.1 p.2.2.1 p.2.2.2)
def zdu (n:Nat):Val->Option (Bool):=(zeB n).1
def zdS (n:Nat):Val->Option (Bool):=(zeB n).2.1
def zT (n:Nat):(List Val)->Option (Bool):=(zeB n).2.2.1
def zad (n:Nat):(List Val)->Option (Int):=(zeB n).2.2.2

def zaj (a_r_:zab) (a_k:Int):Option (UInt8 × zab) :=
 ck ((a_r_.reader.at_ + a_k)) <| br (decide ((a_r_.reader.s.b.length:Int) <= (a_r_.reader.at_ + a_k))) (some ((0:UInt8),a_r_)) (ck ((a_r_.reader.at_ + a_k)) <| cal (zq a_r_.reader.s.b (a_r_.reader.at_ + a_k)) λy7=>some (y7,a_r_))

def zbT (a_s:Str) (zd6:Str):Option (Bool) :=
 jp (ι:=Bool) (λJ2=>br (decide ((zd6.b.length:Int) <= (a_s.b.length:Int))) (asr (decide (0 <= (0:Int)/\(0:Int) <= (zd6.b.length:Int)/\(zd6.b.length:Int) <= (a_s.b.length:Int))) <| J2 ((decide ((Str.mk ((a_s.b.take ((zd6.b.length:Int)).toNat).drop (0:Int).toNat))=zd6)))) (J2 (false))) (λq1=>some (q1))

def zft (a_s:Str) (zd6:Str):Option (Bool) :=
 cal (zbT a_s zd6) λy1=>some (y1)

def zcn (a_r_:zab) (a_t:Str):Option (Bool × zab) :=
 asr (decide (0 <= a_r_.reader.at_/\a_r_.reader.at_ <= (a_r_.reader.s.b.length:Int)/\(a_r_.reader.s.b.length:Int) <= (a_r_.reader.s.b.length:Int))) <| cal (zft (Str.mk ((a_r_.reader.s.b.take ((a_r_.reader.s.b.length:Int)).toNat).drop (a_r_.reader.at_).toNat)) a_t) λy4=>some (y4,a_r_)

def zdT (a_r_:zab):Option (zab) :=
 lp (ι:=zab) (λL2 q1=>br (decide (q1.reader.at_ < (q1.reader.s.b.length:Int))) (cal (zaj q1 (0:Int)) λy65=>jp (ι:=Bool) (λJ67=>br (decide (y65.1=(32:UInt8))) (J67 (true)) (J67 ((decide (y65.1=(9:UInt8)))))) (λq66=>jp (ι:=Bool) (λJ70=>br q66 (J70 (true)) (J70 ((decide (y65.1=(10:UInt8)))))) (λq69=>jp (ι:=Bool) (λJ73=>br q69 (J73 (true)) (J73 ((decide (y65.1=(13:UInt8)))))) (λq72=>br q72 (ck ((y65.2.reader.at_ + (1:Int))) <| L2 ({ y65.2 with reader:={ y65.2.reader with at_:=(y65.2.reader.at_ + (1:Int)) } })) (cal (zcn y65.2 (Str.mk [45,45])) λy76=>br y76.1 (ck ((y76.2.reader.at_ + (2:Int))) <| lp (ι:=zab) (λL79 q78=>jp (ι:=Bool × zab) (λJ102=>jp (ι:=Bool × zab) (λJ104=>br (decide (q78.reader.at_ < (q78.reader.s.b.length:Int))) (cal (zaj q78 (0:Int)) λy106=>J104 ((!decide (y106.1=(10:UInt8))),y106.2)) (J104 (false,q78))) (λq103=>jp (ι:=Bool × zab) (λJ108=>br q103.1 (cal (zcn q103.2 (Str.mk [45,45])) λy110=>J108 ((!y110.1),y110.2)) (J108 (false,q103.2))) (λq107=>J102 (q107.1,q107.2)))) (λq101=>br q101.1 (ck ((q101.2.reader.at_ + (1:Int))) <| L79 ({ q101.2 with reader:={ q101.2.reader with at_:=(q101.2.reader.at_ + (1:Int)) } })) (cal (zcn q101.2 (Str.mk [45,45])) λy120=>br y120.1 (ck ((y120.2.reader.at_ + (2:Int))) <| L2 ({ y120.2 with reader:={ y120.2.reader with at_:=(y120.2.reader.at_ + (2:Int)) } })) (L2 (y120.2))))) (({ y76.2 with reader:={ y76.2.reader with at_:=(y76.2.reader.at_ + (2:Int)) } }))) (some (y76.2))))))) (some (q1))) ((a_r_))

def zgv (a_c:UInt8):Option (Bool) :=
 jp (ι:=Bool) (λJ2=>br (decide ((97:UInt8) <= a_c)) (J2 ((decide (a_c <= (122:UInt8))))) (J2 (false))) (λq1=>jp (ι:=Bool) (λJ5=>br q1 (J5 (true)) (jp (ι:=Bool) (λJ8=>br (decide ((65:UInt8) <= a_c)) (J8 ((decide (a_c <= (90:UInt8))))) (J8 (false))) (λq7=>J5 (q7)))) (λq4=>some (q4)))

def zfP (a_c:UInt8):Option (Bool) :=
 jp (ι:=Bool) (λJ2=>br (decide ((48:UInt8) <= a_c)) (J2 ((decide (a_c <= (57:UInt8))))) (J2 (false))) (λq1=>some (q1))

def zk5 (a_s:Str):Option (Bool) :=
 jp (ι:=Bool) (λJ2=>br (decide (a_s=(Str.mk [68,69,70,73,78,73,84,73,79,78,83]))) (J2 ((decide (a_s=(Str.mk [68,69,70,73,78,73,84,73,79,78,83]))))) (br (decide (a_s=(Str.mk [69,88,80,76,73,67,73,84]))) (J2 ((decide (a_s=(Str.mk [69,88,80,76,73,67,73,84]))))) (br (decide (a_s=(Str.mk [73,77,80,76,73,67,73,84]))) (J2 ((decide (a_s=(Str.mk [73,77,80,76,73,67,73,84]))))) (br (decide (a_s=(Str.mk [65,85,84,79,77,65,84,73,67]))) (J2 ((decide (a_s=(Str.mk [65,85,84,79,77,65,84,73,67]))))) (br (decide (a_s=(Str.mk [84,65,71,83]))) (J2 ((decide (a_s=(Str.mk [84,65,71,83]))))) (br (decide (a_s=(Str.mk [66,69,71,73,78]))) (J2 ((decide (a_s=(Str.mk [66,69,71,73,78]))))) (br (decide (a_s=(Str.mk [69,78,68]))) (J2 ((decide (a_s=(Str.mk [69,78,68]))))) (br (decide (a_s=(Str.mk [66,79,79,76,69,65,78]))) (J2 ((decide (a_s=(Str.mk [66,79,79,76,69,65,78]))))) (br (decide (a_s=(Str.mk [73,78,84,69,71,69,82]))) (J2 ((decide (a_s=(Str.mk [73,78,84,69,71,69,82]))))) (br (decide (a_s=(Str.mk [69,78,85,77,69,82,65,84,69,68]))) (J2 ((decide (a_s=(Str.mk [69,78,85,77,69,82,65,84,69,68]))))) (br (decide (a_s=(Str.mk [78,85,76,76]))) (J2 ((decide (a_s=(Str.mk [78,85,76,76]))))) (br (decide (a_s=(Str.mk [79,67,84,69,84]))) (J2 ((decide (a_s=(Str.mk [79,67,84,69,84]))))) (br (decide (a_s=(Str.mk [83,84,82,73,78,71]))) (J2 ((decide (a_s=(Str.mk [83,84,82,73,78,71]))))) (br (decide (a_s=(Str.mk [85,84,70,56,83,116,114,105,110,103]))) (J2 ((decide (a_s=(Str.mk [85,84,70,56,83,116,114,105,110,103]))))) (br (decide (a_s=(Str.mk [83,69,81,85,69,78,67,69]))) (J2 ((decide (a_s=(Str.mk [83,69,81,85,69,78,67,69]))))) (br (decide (a_s=(Str.mk [83,69,84]))) (J2 ((decide (a_s=(Str.mk [83,69,84]))))) (br (decide (a_s=(Str.mk [67,72,79,73,67,69]))) (J2 ((decide (a_s=(Str.mk [67,72,79,73,67,69]))))) (br (decide (a_s=(Str.mk [79,70]))) (J2 ((decide (a_s=(Str.mk [79,70]))))) (br (decide (a_s=(Str.mk [79,80,84,73,79,78,65,76]))) (J2 ((decide (a_s=(Str.mk [79,80,84,73,79,78,65,76]))))) (br (decide (a_s=(Str.mk [68,69,70,65,85,76,84]))) (J2 ((decide (a_s=(Str.mk [68,69,70,65,85,76,84]))))) (br (decide (a_s=(Str.mk [83,73,90,69]))) (J2 ((decide (a_s=(Str.mk [83,73,90,69]))))) (br (decide (a_s=(Str.mk [77,73,78]))) (J2 ((decide (a_s=(Str.mk [77,73,78]))))) (br (decide (a_s=(Str.mk [77,65,88]))) (J2 ((decide (a_s=(Str.mk [77,65,88]))))) (br (decide (a_s=(Str.mk [84,82,85,69]))) (J2 ((decide (a_s=(Str.mk [84,82,85,69]))))) (J2 ((decide (a_s=(Str.mk [70,65,76,83,69]))))))))))))))))))))))))))))) (λq1=>br q1 (some (true)) (some (false)))

def zfA (a_l:zab):Option (Int × Str × zab) :=
 cal (zaj a_l (0:Int)) λy1=>lp (ι:=UInt8 × zab) (λL3 q2=>cal (zgv q2.1) λy28=>jp (ι:=Bool) (λJ30=>br y28 (J30 (true)) (cal (zfP q2.1) λy32=>J30 (y32))) (λq29=>jp (ι:=Bool × zab) (λJ34=>br q29 (J34 (true,q2.2)) (jp (ι:=Bool × zab) (λJ37=>br (decide (q2.1=(45:UInt8))) (cal (zaj q2.2 (1:Int)) λy39=>J37 ((!decide (y39.1=(45:UInt8))),y39.2)) (J37 (false,q2.2))) (λq36=>J34 (q36.1,q36.2)))) (λq33=>br q33.1 (ck ((q33.2.reader.at_ + (1:Int))) <| cal (zaj ({ q33.2 with reader:={ q33.2.reader with at_:=(q33.2.reader.at_ + (1:Int)) } }) (0:Int)) λy41=>L3 (y41.1,y41.2)) (asr (decide (0 <= a_l.reader.at_/\a_l.reader.at_ <= q33.2.reader.at_/\q33.2.reader.at_ <= (q33.2.reader.s.b.length:Int))) <| jp (ι:=Bool) (λJ46=>br (decide ((60:Int) < ((Str.mk ((q33.2.reader.s.b.take (q33.2.reader.at_).toNat).drop (a_l.reader.at_).toNat)).b.length:Int))) (J46 (true)) (ck ((((Str.mk ((q33.2.reader.s.b.take (q33.2.reader.at_).toNat).drop (a_l.reader.at_).toNat)).b.length:Int) - (1:Int))) <| cal (zq (Str.mk ((q33.2.reader.s.b.take (q33.2.reader.at_).toNat).drop (a_l.reader.at_).toNat)).b (((Str.mk ((q33.2.reader.s.b.take (q33.2.reader.at_).toNat).drop (a_l.reader.at_).toNat)).b.length:Int) - (1:Int))) λy49=>J46 ((decide (y49=(45:UInt8)))))) (λq45=>br q45 (some ((0:Int),(Str.mk []),q33.2)) (cal (zk5 (Str.mk ((q33.2.reader.s.b.take (q33.2.reader.at_).toNat).drop (a_l.reader.at_).toNat))) λy50=>br y50 (some ((5:Int),(Str.mk ((q33.2.reader.s.b.take (q33.2.reader.at_).toNat).drop (a_l.reader.at_).toNat)),q33.2)) (cal (zq (Str.mk ((q33.2.reader.s.b.take (q33.2.reader.at_).toNat).drop (a_l.reader.at_).toNat)).b (0:Int)) λy51=>br (decide (y51 <= (90:UInt8))) (some ((1:Int),(Str.mk ((q33.2.reader.s.b.take (q33.2.reader.at_).toNat).drop (a_l.reader.at_).toNat)),q33.2)) (some ((2:Int),(Str.mk ((q33.2.reader.s.b.take (q33.2.reader.at_).toNat).drop (a_l.reader.at_).toNat)),q33.2))))))))) ((y1.1,y1.2))

def zeM (a_l:zab):Option (Int × Str × zab) :=
 cal (zaj a_l (0:Int)) λy1=>jp (ι:=zab) (λJ3=>br (decide (y1.1=(45:UInt8))) (ck ((y1.2.reader.at_ + (1:Int))) <| J3 ({ y1.2 with reader:={ y1.2.reader with at_:=(y1.2.reader.at_ + (1:Int)) } })) (J3 (y1.2))) (λq2=>lp (ι:=zab) (λL6 q5=>cal (zaj q5 (0:Int)) λy30=>cal (zfP y30.1) λy31=>br y31 (ck ((y30.2.reader.at_ + (1:Int))) <| L6 ({ y30.2 with reader:={ y30.2.reader with at_:=(y30.2.reader.at_ + (1:Int)) } })) (asr (decide (0 <= a_l.reader.at_/\a_l.reader.at_ <= y30.2.reader.at_/\y30.2.reader.at_ <= (y30.2.reader.s.b.length:Int))) <| cal (zq y30.2.reader.s.b q2.reader.at_) λy36=>cal (zba (Str.mk ((y30.2.reader.s.b.take (y30.2.reader.at_).toNat).drop (a_l.reader.at_).toNat)) (10:Int) (64:Int)) λy37=>jp (ι:=Bool) (λJ39=>br y37.2.bad (J39 (true)) (jp (ι:=Bool) (λJ42=>br (decide (y36=(48:UInt8))) (ck ((y30.2.reader.at_ - q2.reader.at_)) <| jp (ι:=Bool) (λJ46=>br (decide ((1:Int) < (y30.2.reader.at_ - q2.reader.at_))) (J46 (true)) (J46 ((decide (a_l.reader.at_ < q2.reader.at_))))) (λq45=>J42 (q45))) (J42 (false))) (λq41=>J39 (q41)))) (λq38=>jp (ι:=Bool × zab) (λJ49=>br q38 (J49 (true,y30.2)) (cal (zaj y30.2 (0:Int)) λy51=>cal (zgv y51.1) λy52=>J49 (y52,y51.2))) (λq48=>br q48.1 (some ((0:Int),(Str.mk []),q48.2)) (some ((3:Int),(Str.mk ((y30.2.reader.s.b.take (y30.2.reader.at_).toNat).drop (a_l.reader.at_).toNat)),q48.2)))))) ((q2)))

def zgg (a_l:zab):Option (Int × Str × zab) :=
 ck ((a_l.reader.at_ + (1:Int))) <| cal (zaj ({ a_l with reader:={ a_l.reader with at_:=(a_l.reader.at_ + (1:Int)) } }) (0:Int)) λy2=>lp (ι:=UInt8 × zab) (λL4 q3=>cal (zfP q3.1) λy23=>jp (ι:=Bool) (λJ25=>br y23 (J25 (true)) (jp (ι:=Bool) (λJ28=>br (decide ((65:UInt8) <= q3.1)) (J28 ((decide (q3.1 <= (70:UInt8))))) (J28 (false))) (λq27=>J25 (q27)))) (λq24=>br q24 (ck ((q3.2.reader.at_ + (1:Int))) <| cal (zaj ({ q3.2 with reader:={ q3.2.reader with at_:=(q3.2.reader.at_ + (1:Int)) } }) (0:Int)) λy31=>L4 (y31.1,y31.2)) (asr (decide (0 <= (a_l.reader.at_ + (1:Int))/\(a_l.reader.at_ + (1:Int)) <= q3.2.reader.at_/\q3.2.reader.at_ <= (q3.2.reader.s.b.length:Int))) <| asr (!decide ((2:Int)=0)) <| jp (ι:=Bool × zab) (λJ37=>br (!decide ((((Str.mk ((q3.2.reader.s.b.take (q3.2.reader.at_).toNat).drop ((a_l.reader.at_ + (1:Int))).toNat)).b.length:Int).tmod (2:Int))=(0:Int))) (J37 (true,q3.2)) (cal (zcn q3.2 (Str.mk [39,72])) λy39=>J37 ((!y39.1),y39.2))) (λq36=>br q36.1 (some ((0:Int),(Str.mk []),q36.2)) (ck ((q36.2.reader.at_ + (2:Int))) <| some ((4:Int),(Str.mk ((q3.2.reader.s.b.take (q3.2.reader.at_).toNat).drop ((a_l.reader.at_ + (1:Int))).toNat)),{ q36.2 with reader:={ q36.2.reader with at_:=(q36.2.reader.at_ + (2:Int)) } })))))) ((y2.1,y2.2))

def zfC (a_l:zab):Option (Int × Str × zab) :=
 ck ((a_l.reader.at_ + (1:Int))) <| lp (ι:=(List UInt8) × zab) (λL3 q2=>br (decide (q2.2.reader.at_ < (q2.2.reader.s.b.length:Int))) (cal (zaj q2.2 (0:Int)) λy19=>jp (ι:=zab) (λJ21=>br (decide (y19.1=(34:UInt8))) (ck ((y19.2.reader.at_ + (1:Int))) <| cal (zaj ({ y19.2 with reader:={ y19.2.reader with at_:=(y19.2.reader.at_ + (1:Int)) } }) (0:Int)) λy23=>br (!decide (y23.1=(34:UInt8))) (cal (zcy q2.1) λy24=>br (!y24) (some ((0:Int),(Str.mk []),y23.2)) (some ((7:Int),(Str.mk q2.1),y23.2))) (J21 (y23.2))) (J21 (y19.2))) (λq20=>cal (zaj q20 (0:Int)) λy25=>asr (Nat.ble (q2.1.length + ([y25.1]:(List UInt8)).length) 68719476736) <| ck ((y25.2.reader.at_ + (1:Int))) <| L3 ((q2.1 ++ ([y25.1]:(List UInt8))),{ y25.2 with reader:={ y25.2.reader with at_:=(y25.2.reader.at_ + (1:Int)) } }))) (some ((0:Int),(Str.mk []),q2.2))) ((([]:(List UInt8)),{ a_l with reader:={ a_l.reader with at_:=(a_l.reader.at_ + (1:Int)) } }))

def zfJ (a_l:zab):Option (Int × Str × zab) :=
 lp (ι:=Int × zab) (λL3 q2=>br (decide (q2.1 < (([(Str.mk [58,58,61]),(Str.mk [46,46,46]),(Str.mk [46,46]),(Str.mk [91,91]),(Str.mk [93,93]),(Str.mk [123]),(Str.mk [125]),(Str.mk [91]),(Str.mk [93]),(Str.mk [40]),(Str.mk [41]),(Str.mk [44]),(Str.mk [58])]:(List Str)).length:Int))) (cal (zq ([(Str.mk [58,58,61]),(Str.mk [46,46,46]),(Str.mk [46,46]),(Str.mk [91,91]),(Str.mk [93,93]),(Str.mk [123]),(Str.mk [125]),(Str.mk [91]),(Str.mk [93]),(Str.mk [40]),(Str.mk [41]),(Str.mk [44]),(Str.mk [58])]:(List Str)) q2.1) λy8=>cal (zcn q2.2 y8) λy9=>br y9.1 (ck ((y9.2.reader.at_ + (y8.b.length:Int))) <| some ((6:Int),y8,{ y9.2 with reader:={ y9.2.reader with at_:=(y9.2.reader.at_ + (y8.b.length:Int)) } })) (ck ((q2.1 + (1:Int))) <| L3 ((q2.1 + (1:Int)),y9.2))) (some ((0:Int),(Str.mk []),q2.2))) (((0:Int),a_l))

def zfg (a_l:zab):Option (Int × Str × zab) :=
 cal (zaj a_l (0:Int)) λy1=>cal (zgv y1.1) λy2=>br y2 (cal (zfA y1.2) λy3=>some (y3.1,y3.2.1,y3.2.2)) (cal (zfP y1.1) λy4=>jp (ι:=Bool × zab) (λJ6=>br y4 (J6 (true,y1.2)) (jp (ι:=Bool × zab) (λJ9=>br (decide (y1.1=(45:UInt8))) (cal (zaj y1.2 (1:Int)) λy11=>cal (zfP y11.1) λy12=>J9 (y12,y11.2)) (J9 (false,y1.2))) (λq8=>J6 (q8.1,q8.2)))) (λq5=>br q5.1 (cal (zeM q5.2) λy13=>some (y13.1,y13.2.1,y13.2.2)) (br (decide (y1.1=(39:UInt8))) (cal (zgg q5.2) λy14=>some (y14.1,y14.2.1,y14.2.2)) (br (decide (y1.1=(34:UInt8))) (cal (zfC q5.2) λy15=>some (y15.1,y15.2.1,y15.2.2)) (cal (zfJ q5.2) λy16=>some (y16.1,y16.2.1,y16.2.2))))))

def ziK (zaZ:Str):Option ((List zS) × Int × Int) :=
 br (decide ((8000:Int) < (zaZ.b.length:Int))) (some (([]:(List zS)),(0:Int),(5:Int))) (cal (zdT (zab.mk (zcl.mk zaZ (0:Int)))) λy2=>lp (ι:=(List zS) × zab) (λL4 q3=>br (decide (q3.2.reader.at_ < (zaZ.b.length:Int))) (cal (zfg q3.2) λy13=>br (decide (y13.1=(0:Int))) (some (([]:(List zS)),q3.2.reader.at_,(6:Int))) (asr (Nat.ble (q3.1.length + ([(zS.mk y13.1 y13.2.1 q3.2.reader.at_)]:(List zS)).length) 68719476736) <| cal (zdT y13.2.2) λy17=>L4 ((q3.1 ++ ([(zS.mk y13.1 y13.2.1 q3.2.reader.at_)]:(List zS))),y17))) (asr (Nat.ble (q3.1.length + ([(zS.mk (0:Int) (Str.mk []) (zaZ.b.length:Int))]:(List zS)).length) 68719476736) <| some ((q3.1 ++ ([(zS.mk (0:Int) (Str.mk []) (zaZ.b.length:Int))]:(List zS))),(0:Int),(0:Int)))) ((([]:(List zS)),y2)))
end Go.Proofs.Q
namespace Go.Sy
section tot
variable {α β ι:Type}
def T (R:β->Prop) (o:Option β):Prop:=∃ r,o=some r/\R r
theorem T.some {R:β->Prop} {r:β} (h:R r):T R (some r):=⟨r,rfl,h⟩
theorem T.mono {R R':β->Prop} {o:Option β} (h:T R o) (k:∀ r,R r->R' r):T R' o:=by
 obtain ⟨r,h1,h2⟩:=h;exact ⟨r,h1,k r h2⟩
theorem T.cal {Q:α->Prop} {R:β->Prop} {m:Option α} {k:α->Option β} (h:T Q m) (hk:∀ y,m=Option.some y->Q y->T R (k y)):T R (cal m k):=by
 obtain ⟨y,h1,h2⟩:=h
 subst h1
 exact hk y rfl h2
theorem T.eq {R:β->Prop} {m:Option α} {k:α->Option β} {y:α} (h:m=Option.some y) (hk:T R (k y)):T R (Sy.cal m k):=by subst h;exact hk
theorem zxZ {x:Int} (h:zc3 x):zt4 x=true:=by
 unfold zc3 at h
 cases x with
 | ofNat n =>
  simp only [Int.ofNat_eq_natCast] at h
  exact Nat.ble_eq_true_of_le (by omega)
 | negSucc n=>exact Nat.ble_eq_true_of_le (by omega)
theorem T.ck {R:β->Prop} {x:Int} {k:Option β} (hx:-9223372036854775808 <= x/\x <= 9223372036854775807) (h:T R k):T R (ck x k):=by
 unfold Sy.ck;rw [zxZ hx];exact h
theorem T.asr {R:β->Prop} {b:Bool} {k:Option β} (hb:b=true) (h:T R k):T R (asr b k):=by subst hb;exact h
theorem T.asd {R:β->Prop} {p:Prop} [Decidable p] {k:Option β} (hb:p) (h:T R k):T R (Sy.asr (decide p) k):=T.asr (zDT hb) h
theorem T.abl {R:β->Prop} {a b:Nat} {k:Option β} (hb:a <= b) (h:T R k):T R (Sy.asr (Nat.ble a b) k):=T.asr (Nat.ble_eq_true_of_le hb) h
theorem T.br {R:β->Prop} {b:Bool} {t e:Option β} (ht:b=true->T R t) (he:b=false->T R e):T R (br b t e):=by
 cases b with
 | true=>exact ht rfl
 | false=>exact he rfl
theorem T.brT {R:β->Prop} {b:Bool} {t e:Option β} (hb:b=true) (h:T R t):T R (Sy.br b t e):=by subst hb;exact h
theorem T.brF {R:β->Prop} {b:Bool} {t e:Option β} (hb:b=false) (h:T R e):T R (Sy.br b t e):=by subst hb;exact h
theorem T.jp (Q:ι->Prop) {R:β->Prop} {B:(ι->Option β)->Option β} {K:ι->Option β} (hB:∀ J,(∀ i,Q i->T R (J i))->T R (B J)) (hK:∀ i,Q i->T R (K i)):T R (jp B K):=hB K hK
theorem T.jp0 {R:β->Prop} {B:(ι->Option β)->Option β} {K:ι->Option β} (h:T R (B K)):T R (Sy.jp B K):=h
theorem T.lp (I:ι->Prop) (μ:ι->Nat) {R:β->Prop} {F:(ι->Option β)->ι->Option β} {i0:ι} (h0:I i0) (hμ:μ i0 < 1000000000000000000) (h:∀ (L:ι->Option β) i,I i->(∀ j,I j->μ j < μ i->T R (L j))->T R (F L i)):T R (lp F i0):=by
 have key:∀ n i,I i->μ i < n->T R (lpN F n i):=by
  intro n
  induction n with
  | zero=>intro i _ hn;omega
  | succ n ih=>intro i hi hn;exact h (lpN F n) i hi λj hj hl=>ih j hj (by omega)
 unfold Sy.lp fuel
 exact key _ _ h0 hμ
theorem zbm {l:List α} {i:Int} (h0:0 <= i) (h1:i < l.length):zq l i=some (l[i.toNat]'(by omega)):=by
 unfold zq
 cases i with
 | ofNat n=>simp only [Int.ofNat_eq_natCast] at h1;simp
 | negSucc n=>omega
theorem T.get {R:β->Prop} {l:List α} {i:Int} {k:α->Option β} (h0:0 <= i) (h1:i < l.length) (hk:∀ y,l[i.toNat]?=Option.some y->T R (k y)):T R (Sy.cal (zq l i) k) :=
 T.eq (zbm h0 h1) (hk _ (List.getElem?_eq_getElem (by omega)))
theorem T.fin {o:Option β} {x:β} (h:T (λr=>r=x) o):o=Option.some x:=by
 obtain ⟨r,h1,h2⟩:=h;rw [h1,h2]
theorem T.of {o:Option β} {R:β->Prop} {x:β} (h:o=Option.some x) (hx:R x):T R o:=⟨x,h,hx⟩
theorem T.get? {o:Option β} {R:β->Prop} (h:T R o) {r:β} (e:o=Option.some r):R r:=by
 obtain ⟨r',h1,h2⟩:=h;rw [h1] at e;cases e;exact h2
end tot
end Go.Sy
namespace Go.Proofs.Q
open Go.Sy
theorem zjT (s:Str) (i:Int):T (λr=>r=(if 0 <= i then (s.b[i.toNat]?).getD 0 else 0)) (zhi s i):=by
 unfold zhi
 refine T.jp (λq=>q=decide (¬ (0 <= i/\i < s.b.length))) (λJ h=>?_) (λq hq=>?_)
 ·refine T.br (λh1=>h _ ?_) (λh1=>h _ ?_)
  ·have:=zOT h1;simp;omega
  ·have:=zOF h1
   by_cases h2:(s.b.length:Int) <= i <;> simp [h2] <;> omega
 ·subst hq
  refine T.br (λh1=>T.some ?_) (λh1=>?_)
  ·have h2:=zOT h1
   split
   ·rename_i h3
    rw [List.getElem?_eq_none (by omega)];rfl
   ·rfl
  ·have h2:=zOF h1
   refine T.get (by omega) (by omega) λy hy=>T.some ?_
   rw [if_pos (by omega),hy];rfl

def zbv (c:UInt8):Bool:=(decide (97 <= c) && decide (c <= 122)) || (decide (65 <= c) && decide (c <= 90))
def za8 (c:UInt8):Bool:=decide (48 <= c) && decide (c <= 57)
theorem zif (c:UInt8):zgy c=some (zbv c):=by
 unfold zgy zbv jp br
 cases decide (97 <= c) <;> cases decide (c <= 122) <;> cases decide (65 <= c) <;> cases decide (c <= 90) <;> rfl
theorem zf6 (c:UInt8):zfQ c=some (za8 c):=by
 unfold zfQ za8 jp br
 cases decide (48 <= c) <;> cases decide (c <= 57) <;> rfl

theorem zux (s:Str) (i:Int) (h0:0 <= i) (h1:i <= s.b.length) (hl:s.b.length <= 1000000):T (λr=>i <= r/\r <= s.b.length) (zht s i):=by
 unfold zht
 refine T.lp (λk=>i <= k/\k <= s.b.length) (λk=>(s.b.length - k).toNat) ⟨zIl _,h1⟩ (by omega) λL k hk hL=>?_
 refine T.br (λhb=>?_) (λ_=>T.some hk)
 have hb:=zOT hb
 refine T.get (by omega) hb λy hy=>?_
 refine T.jp (λ_=>True) (λJ h=>T.br (λ_=>h _ trivial) λ_=>T.get (by omega) hb λ_ _=>h _ trivial) λq _=>?_
 refine T.jp (λ_=>True) (λJ h=>T.br (λ_=>h _ trivial) λ_=>T.get (by omega) hb λ_ _=>h _ trivial) λq _=>?_
 refine T.jp (λ_=>True) (λJ h=>T.br (λ_=>h _ trivial) λ_=>T.get (by omega) hb λ_ _=>h _ trivial) λq _=>?_
 refine T.br (λ_=>T.ck (by omega) (hL _ (by omega) (by omega))) λ_=>?_
 refine T.get (by omega) hb λy hy=>?_
 refine T.jp (λq=>q=true->k + 2 <= s.b.length) (λJ h=>T.br (λ_=>T.ck (by omega) (T.cal (zjT s (k + 1)) λy _ hy=>h _ λhq=>?_)) λ_=>h _ (λh=>by cases h)) λq hq=>?_
 ·have:=zOT hq
  subst this
  rw [if_pos (by omega)] at hy
  rcases Nat.lt_or_ge (k + 1).toNat s.b.length with h3 | h3
  ·omega
  ·rw [List.getElem?_eq_none h3] at hy;cases hy
 refine T.br (λhb2=>T.ck (by omega) ?_) (λ_=>T.some hk)
 have hq':=hq hb2
 refine T.lp (λj=>k + 2 <= j/\j <= s.b.length) (λj=>(s.b.length - j).toNat) ⟨zIl _,hq'⟩ (by omega) λL2 j hj hL2=>?_
 refine T.jp (λq=>q=true->j < s.b.length) (λJ h=>T.br (λh2=>?_) λ_=>h _ (λh=>by cases h)) λq hq2=>?_
 ·have h2:=zOT h2
  exact T.get (by omega) h2 λ_ _=>h _ λ_=>h2
 refine T.br (λh2=>?_) (λ_=>hL _ (by omega) (by omega))
 have h2:=hq2 h2
 refine T.get (by omega) h2 λy hy=>?_
 refine T.jp (λq=>q=true->j + 2 <= s.b.length) (λJ h=>T.br (λ_=>T.ck (by omega) (T.cal (zjT s (j + 1)) λy _ hy=>h _ λhq=>?_)) λ_=>h _ (λh=>by cases h)) λq hq3=>?_
 ·have:=zOT hq
  subst this
  rw [if_pos (by omega)] at hy
  rcases Nat.lt_or_ge (j + 1).toNat s.b.length with h3 | h3
  ·omega
  ·rw [List.getElem?_eq_none h3] at hy;cases hy
 refine T.br (λh3=>T.ck (by omega) ?_) (λ_=>T.ck (by omega) (hL2 _ (by omega) (by omega)))
 have h3:=hq3 h3
 exact hL _ (by omega) (by omega)

theorem zvY (s:Str) (i:Int) (h0:0 <= i) (h1:i < s.b.length) (hl:s.b.length <= 1000000) (hc:∀ y,s.b[i.toNat]?=some y->zbv y=true):T (λr=>r=-1 \/ (i < r/\r <= s.b.length)) (ziB s i):=by
 unfold ziB
 refine T.lp (λk=>i <= k/\k <= s.b.length) (λk=>(s.b.length - k).toNat) ⟨zIl _,by omega⟩ (by omega) λL k hk hL=>?_
 refine T.jp (λq=>(q=true->k < s.b.length)/\(q=false->i < k)) (λJ h=>?_) λq hq=>?_
 ·refine T.br (λhb=>?_) (λhb=>h _ ⟨(λh=>by cases h),λ_=>by have:=zOF hb;omega⟩)
  have hb:=zOT hb
  refine T.get (by omega) hb λy hy=>?_
  refine T.eq (zif y) ?_
  refine T.jp (λq=>zbv y=true->q=true) (λJ2 h2=>?_) λq hq=>?_
  ·exact T.br (λ_=>h2 _ λ_=>rfl) λhn=>T.get (by omega) hb λy2 _=>T.eq (zf6 y2) (h2 _ λhy=>by rw [hn] at hy;cases hy)
  refine T.jp (λq=>zbv y=true->q=true) (λJ2 h2=>?_) λq hq=>?_
  ·refine T.br (λ_=>h2 _ λ_=>rfl) λhn=>T.get (by omega) hb λy2 _=>?_
   have hno:¬ zbv y=true:=λhy=>by rw [hq hy] at hn;cases hn
   refine T.jp (λ_=>True) (λJ3 h3=>T.br (λ_=>T.ck (by omega) (T.cal (zjT s _) λ_ _ _=>h3 _ trivial)) λ_=>h3 _ trivial) λq _=>h2 _ λhy=>absurd hy hno
  ·refine h _ ⟨λ_=>hb,λhn=>?_⟩
   rcases Int.lt_or_eq_of_le hk.1 with h2 | h2
   ·exact h2
   ·subst h2
    have:=hq (hc y hy)
    rw [this] at hn;cases hn
 refine T.br (λhb=>T.ck (by have:=hq.1 hb;omega) (hL _ (by have:=hq.1 hb;omega) (by have:=hq.1 hb;omega))) λhb=>?_
 have hlt:=hq.2 hb
 refine T.ck (by omega) (T.get (by omega) (by omega) λy _=>?_)
 refine T.jp (λ_=>True) (λJ h=>T.br (λ_=>h _ trivial) λ_=>T.ck (by omega) (h _ trivial)) λq _=>?_
 exact T.br (λ_=>T.some (.inl rfl)) λ_=>T.some (.inr ⟨hlt,hk.2⟩)
theorem zpV {α:Type} {P:List α->Prop} (h0:P []) (h1:∀ l a,P l->P (l ++ [a])) (l:List α):P l:=by
 have:∀ m:List α,P m.reverse:=by
  intro m
  induction m with
  | nil=>exact h0
  | cons a m ih=>rw [List.reverse_cons];exact h1 _ _ ih
 have h:=this l.reverse
 rwa [List.reverse_reverse] at h

def zdH (l:List UInt8):Nat:=l.foldl (λv d=>10 * v + (d.toNat - 48)) 0
def zku (l:List UInt8):UInt64:=l.foldl (λv d=>10 * v + (d - 48).toUInt64) 0
theorem zd0 {d:UInt8} (h:za8 d=true):48 <= d.toNat/\d.toNat <= 57:=by
 unfold za8 at h
 simp only [zBa,decide_eq_true_eq] at h
 have h1:=UInt8.le_iff_toNat_le.1 h.1
 have h2:=UInt8.le_iff_toNat_le.1 h.2
 simp at h1 h2
 omega
theorem zxs {d:UInt8} (h:za8 d=true):(d - 48).toUInt64.toNat=d.toNat - 48:=by
 have h1:=zd0 h
 have h2:=d.toNat_lt
 have h3:(48:UInt8).toNat=48:=rfl
 rw [UInt8.toNat_toUInt64,UInt8.toNat_sub,h3]
 omega
theorem zlj (l:List UInt8) (d:UInt8):zdH (l ++ [d])=10 * zdH l + (d.toNat - 48):=by simp [zdH]
theorem zjE (l:List UInt8) (d:UInt8):zku (l ++ [d])=10 * zku l + (d - 48).toUInt64:=by simp [zku]
def zlq (l:List UInt8):Prop:=∀ d ∈ l,za8 d=true
theorem zmL {l:List UInt8} {d:UInt8} (h:zlq (l ++ [d])):zlq l/\za8 d=true :=
 ⟨λx hx=>h x (List.mem_append_left _ hx),h d (List.mem_append_right _ (zMo.2 rfl))⟩
theorem zx4 (l:List UInt8):zlq l->zdH l < 10 ^ l.length:=by
 refine zpV (P:=λl=>zlq l->zdH l < 10 ^ l.length) (λ_=>by simp [zdH]) (λl d ih h=>?_) l
 obtain ⟨h1,h2⟩:=zmL h
 have h3:=ih h1
 have h4:=zd0 h2
 rw [zlj,zLa,zLs,Nat.pow_succ]
 omega
theorem pow19 {n:Nat} (h:n <= 19):10 ^ n <= 10000000000000000000:=by
 have:=Nat.pow_le_pow_right (show 0 < 10 by omega) h
 simpa using this
theorem zlg (l:List UInt8):zlq l->l.length <= 19->(zku l).toNat=zdH l:=by
 refine zpV (P:=λl=>zlq l->l.length <= 19->(zku l).toNat=zdH l) (λ_ _=>by simp [zdH,zku]) (λl d ih h hl=>?_) l
 obtain ⟨h1,h2⟩:=zmL h
 rw [zLa,zLs] at hl
 have h3:=ih h1 (by omega)
 have h4:=zd0 h2
 have h5:=zx4 (l ++ [d]) h
 rw [zLa,zLs] at h5
 have h6:=pow19 hl
 rw [zlj] at h5
 rw [zjE,zlj,UInt64.toNat_add,UInt64.toNat_mul,h3,zxs h2]
 have h7:(10:UInt64).toNat=10:=rfl
 rw [h7]
 omega
theorem zwE {d:UInt8} {l:List UInt8} (h:zlq (d :: l)) (hd:d ≠ 48):1 <= zdH (d :: l):=by
 refine zpV (P:=λl=>zlq (d :: l)->1 <= zdH (d :: l)) (λh=>?_) (λl e ih h=>?_) l h
 ·have h1:=zd0 (h d (zMo.2 rfl))
  have h2:d.toNat ≠ 48:=λe=>hd (UInt8.toNat_inj.1 e)
  have e:zdH [d]=d.toNat - 48:=by simp [zdH]
  omega
 ·have h2:=ih (zmL (l:=d :: l) h).1
  have e1:=zlj (d :: l) e
  have e2:d :: (l ++ [e])=d :: l ++ [e]:=rfl
  rw [e2,e1];omega

def zpD (b:List UInt8):Prop:=∃ ds,zlq ds/\ds ≠ []/\ds.length <= 19/\((b=ds/\zdH ds < 9223372036854775808) \/ (b=45 :: ds/\1 <= zdH ds/\zdH ds <= 9223372036854775808))

theorem zu2 {l:List UInt8} {f k:Nat} {y:UInt8} (hf:f <= k) (hy:l[k]?=some y):(l.take (k + 1)).drop f=(l.take k).drop f ++ [y]:=by
 have hlt:=(List.getElem?_eq_some_iff.1 hy).1
 have h1:l.take (k + 1)=l.take k ++ [y]:=by
  rw [List.take_add_one,hy];rfl
 rw [h1,List.drop_append_of_le_length (by rw [zLt];omega)]
theorem znN {l:List UInt8} {f k:Nat} {y:UInt8} (hf:f < k) (hk:k <= l.length) (hy:l[f]?=some y):(l.take k).drop f=y :: (l.take k).drop (f + 1):=by
 have h1:(l.take k)[f]?=some y:=by rw [List.getElem?_take,if_pos hf,hy]
 obtain ⟨h2,h3⟩:=List.getElem?_eq_some_iff.1 h1
 rw [List.drop_eq_getElem_cons h2,h3]
theorem zw2 {l:List UInt8} {f k:Nat} (hk:k <= l.length):((l.take k).drop f).length=k - f:=by
 rw [zLd,zLt];omega

set_option maxHeartbeats 1000000 in
theorem zsx (s:Str) (i:Int) (h0:0 <= i) (h1:i < s.b.length) (hl:s.b.length <= 1000000) :
    T (λr=>r=-1 \/ (i < r/\r <= s.b.length/\zpD ((s.b.take r.toNat).drop i.toNat))) (zgq s i):=by
  unfold zgq
  refine T.get h0 h1 λy1 hy1=>?_
  refine T.jp (λf=>(y1=45/\f=i + 1) \/ (y1 ≠ 45/\f=i)) (λJ h=>T.br (λhb=>T.ck (by omega) (h _ (.inl ⟨zOT hb,rfl⟩))) λhb=>h _ (.inr ⟨zOF hb,rfl⟩)) λf hf=>?_
  have hf0:i <= f/\f <= i + 1:=by omega
  have hfl:f <= s.b.length:=by omega
  refine T.lp (ι:=Int × UInt64) (λq=>f <= q.1/\q.1 <= s.b.length/\zlq ((s.b.take q.1.toNat).drop f.toNat)/\(q.1 - f <= 19->q.2=zku ((s.b.take q.1.toNat).drop f.toNat))) (λq=>(s.b.length - q.1).toNat)
    (by
      have e:(s.b.take f.toNat).drop f.toNat=[]:=zDn (by rw [zLt];omega)
      refine ⟨zIl _,hfl,?_,?_⟩
      · rw [e];intro d hd;cases hd
      · intro _;rw [e];rfl) (by simp only;omega) λL q hq hL=>?_
  obtain ⟨k,v⟩:=q
  obtain ⟨hq1,hq2,hq3,hq4⟩:=hq
  simp only at hq1 hq2 hq3 hq4 ⊢
  refine T.jp (λb=>b=true->k < s.b.length/\∀ y,s.b[k.toNat]?=some y->za8 y=true) (λJ h=>?_) λb hb=>?_
  · refine T.br (λh2=>?_) λ_=>h _ (λh=>by cases h)
    have h2:=zOT h2
    exact T.get (by omega) h2 λy hy=>T.eq (zf6 y) (h _ λhd=>⟨h2,λy' hy'=>by rw [hy] at hy';cases hy';exact hd⟩)
  refine T.br (λh2=>?_) λ_=>?_
  · obtain ⟨hk,hd⟩:=hb h2
    obtain ⟨y,hy⟩:∃ y,s.b[k.toNat]?=some y:=⟨_,List.getElem?_eq_getElem (by omega)⟩
    have hsn:=zu2 (l:=s.b) (f:=f.toNat) (k:=k.toNat) (y:=y) (by omega) hy
    have hk1:(k + 1).toNat=k.toNat + 1:=by omega
    refine T.ck (by omega) (T.jp (λu=>k - f < 19->u=10 * v + (y - 48).toUInt64) (λJ h=>T.br (λ_=>?_) λh3=>h _ λh4=>by have:=zOF h3;omega) λu hu=>T.ck (by omega) (hL _ ?_ (by simp only;omega)))
    · exact T.get (by omega) hk λy' hy'=>h _ λ_=>by rw [hy] at hy';cases hy';rfl
    · refine ⟨by simp only;omega,by simp only;omega,?_,λh19=>?_⟩
      · simp only
        rw [hk1,hsn]
        intro d hd'
        rcases List.mem_append.1 hd' with h | h
        · exact hq3 d h
        · rw [zMo.1 h];exact hd y hy
      · simp only at h19 ⊢
        rw [hk1,hsn,zjE,hu (by omega),hq4 (by omega)]
  refine T.ck (by omega) ?_
  have hlen:=zw2 (l:=s.b) (f:=f.toNat) (k:=k.toNat) (by omega)
  refine T.jp (λb=>b=false->1 <= k - f/\k - f <= 19) (λJ h=>T.br (λ_=>h _ (λh=>by cases h)) λh2=>h _ λh3=>by have:=zOF h2;have:=zOF h3;omega) λb1 hb1=>?_
  refine T.jp (λb=>b=false->b1=false) (λJ h=>T.br (λ_=>h _ (λh=>by cases h)) λh2=>?_) λb2 hb2=>?_
  · refine T.jp (λ_=>True) (λJ3 h3=>T.br (λh4=>T.get (by omega) (by have:=zOT h4;omega) λ_ _=>h3 _ trivial) λ_=>h3 _ trivial) λb _=>h _ λ_=>h2
  refine T.jp (λb=>b=false->b2=false/\(y1=45->∀ y,s.b[f.toNat]?=some y->y ≠ 48)) (λJ h=>T.br (λ_=>h _ (λh=>by cases h)) λh2=>?_) λb3 hb3=>?_
  · have h5:=hb1 (hb2 h2)
    refine T.jp (λb=>b=false->(y1=45->∀ y,s.b[f.toNat]?=some y->y ≠ 48)) (λJ3 h3=>T.br (λh4=>T.get (by omega) (by omega) λy hy=>h3 _ λh6 _ y' hy'=>?_) λh4=>h3 _ λ_ h7=>absurd h7 (zOF h4)) λb hb=>h _ λh6=>⟨h2,hb h6⟩
    rw [hy] at hy';cases hy'
    exact zOF h6
  refine T.jp (λb=>b=false->b3=false) (λJ h=>T.br (λ_=>h _ (λh=>by cases h)) λh2=>T.cal (zjT s k) λy _ _=>T.eq (zif y) (h _ λ_=>h2)) λb4 hb4=>?_
  refine T.jp (λb=>b=false->b4=false/\¬ (9223372036854775808:UInt64) < v) (λJ h=>T.br (λ_=>h _ (λh=>by cases h)) λh2=>h _ λh3=>⟨h2,zOF h3⟩) λb5 hb5=>?_
  refine T.jp (λb=>b=false->b5=false/\(y1 ≠ 45->v ≠ 9223372036854775808)) (λJ h=>T.br (λ_=>h _ (λh=>by cases h)) λh2=>?_) λb6 hb6=>?_
  · refine T.jp (λb=>b=false->(y1 ≠ 45->v ≠ 9223372036854775808)) (λJ3 h3=>T.br (λh4=>h3 _ λh5 _=>zOF h5) λh4=>h3 _ λ_ h5=>absurd h4 (by simp [h5])) λb hb=>h _ λh6=>⟨h2,hb h6⟩
  refine T.br (λ_=>T.some (.inl rfl)) λh2=>T.some (.inr ?_)
  obtain ⟨e5,hv2⟩:=hb6 h2
  obtain ⟨e4,hv1⟩:=hb5 e5
  obtain ⟨e2,hz⟩:=hb3 (hb4 e4)
  obtain ⟨n1,n2⟩:=hb1 (hb2 e2)
  have hv:=hq4 n2
  have hvn:=zlg _ hq3 (by rw [hlen];omega)
  rw [<- hv] at hvn
  have hle:v.toNat <= 9223372036854775808:=by
    have:¬ (9223372036854775808:UInt64).toNat < v.toNat:=λh=>hv1 (UInt64.lt_iff_toNat_lt.2 h)
    have e:(9223372036854775808:UInt64).toNat=9223372036854775808:=rfl
    omega
  refine ⟨by omega,hq2,(s.b.take k.toNat).drop f.toNat,hq3,λh=>by rw [h] at hlen;simp at hlen;omega,by rw [hlen];omega,?_⟩
  rcases hf with ⟨h45,hfi⟩ | ⟨h45,hfi⟩
  · right
    have hs:=znN (l:=s.b) (f:=i.toNat) (k:=k.toNat) (y:=y1) (by omega) (by omega) hy1
    have e:i.toNat + 1=f.toNat:=by omega
    rw [e] at hs
    refine ⟨by rw [hs,h45],?_,by omega⟩
    obtain ⟨y,hy⟩:∃ y,s.b[f.toNat]?=some y:=⟨_,List.getElem?_eq_getElem (by omega)⟩
    have hs2:=znN (l:=s.b) (f:=f.toNat) (k:=k.toNat) (y:=y) (by omega) (by omega) hy
    rw [hs2] at hq3 ⊢
    exact zwE hq3 (hz h45 y hy)
  · left
    subst hfi
    refine ⟨rfl,?_⟩
    have h3:=hv2 h45
    have:v.toNat ≠ 9223372036854775808:=λe=>h3 (UInt64.toNat_inj.1 e)
    omega
end Go.Proofs.Q

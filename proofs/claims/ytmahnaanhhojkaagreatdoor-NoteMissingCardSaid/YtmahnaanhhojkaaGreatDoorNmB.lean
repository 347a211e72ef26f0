/- Values that are handed in: what can be read as one is one. No condition: general lemmas. -/
import Derived.Test.YtmahnaanhhojkaaGreatDoorNmA
import Derived.KernelRfl
import Derived.WideLaws
import Derived.Lib.ItoaNum
import Derived.Lib.ReplaceLaws
import Derived.Lib.ParseIntB
import Derived.Lib.ValidU
set_option linter.unusedVariables false
set_option linter.unusedSimpArgs false

namespace Go.Sy

theorem EqOk.u64 {P:Program} {T:TypeId}:EqOk P T UInt64:=by
 intro S v u x y hx hy X Y w
 have h1:=za7.1 hx
 have h2:=za7.1 hy
 subst h1;subst h2
 have hb:((x.toNat:Int) == (y.toNat:Int))=decide (x=y):=by
  by_cases h:x=y
  ·simp [h]
  ·have:x.toNat ≠ y.toNat:=λe=>h (UInt64.toNat_inj.1 e)
   simp [h];omega
 refine ⟨by simp [eqGuard],by simp [eqGuard],?_,?_⟩
 ·simp only [binOp,Op.intCmp,Sem.run_pure,hb,ne_eq,not_true,if_false]
 ·have hb':((x.toNat:Int) != (y.toNat:Int))=!decide (x=y):=by rw [bne,hb]
  simp only [binOp,Op.intCmp,Sem.run_pure,hb',ne_eq,not_true,if_false]
section bits
variable {c:Ctx} {ty:TypeId} {pos:String} {af:Array Edge} {g:Option (Nat × Bool)} {σ:St} {d:Option Nat} {x y:Operand} {t u:TypeId}
theorem zu4 {p q:UInt64} (hx:opnd σ.Γ x=some (isv p)) (hy:opnd σ.Γ y=some (isv q)):OpV c ⟨d,.binOp .geq t x y u,ty,pos,af,g⟩ σ (isv (decide (q <= p))):=λS a w m=>by
 have h1:=za7.1 (zk m hx)
 have h2:=za7.1 (zk m hy)
 have e:decide (q <= p)=decide ((q.toNat:Int) <= (p.toNat:Int)):=by rw [decide_eq_decide,UInt64.le_iff_toNat_le];omega
 exact ⟨.bool (decide (q <= p)),zbE.2 rfl,λw' _=>by rw [e];simp [execOp,binOp,eqGuard,h1,h2,Op.intCmp]⟩
theorem zsG {p q:UInt8} (hx:opnd σ.Γ x=some (isv p)) (hy:opnd σ.Γ y=some (isv q)):OpV c ⟨d,.binOp .andNot t x y u,ty,pos,af,g⟩ σ (isv (p &&& ~~~q)):=λS a w m=>by
 have h1:=zb4.1 (zk m hx)
 have h2:=zb4.1 (zk m hy)
 have h:=(p &&& ~~~q).toNat_lt
 have e:(((p &&& ~~~q).toNat:Nat):Int)=((BitVec.ofInt 8 (p.toNat:Int) &&& ~~~BitVec.ofInt 8 (q.toNat:Int)).toNat:Int) % 256:=by
  rw [bv8,bv8]
  have:(p.toBitVec &&& ~~~q.toBitVec).toNat=(p &&& ~~~q).toNat:=rfl
  rw [this];omega
 exact ⟨.int .u8 ((p &&& ~~~q).toNat:Int),zb4.2 rfl,λw' _=>by
  have hr:(Op.intBits .andNot .u8 (p.toNat:Int) (q.toNat:Int)).run c.P w'=.ok (.int .u8 ((p &&& ~~~q).toNat:Int)) w':=by
   rw [e];unfold Op.intBits;simp only [Sem.run_pure,zh9];rfl
  simp [execOp,binOp,eqGuard,h1,h2,hr]⟩
def andI (p q:Int):Int:=((p.toNat &&& q.toNat:Nat):Int)
theorem zpv {p q:Int} (hx:opnd σ.Γ x=some (isv p)) (hy:opnd σ.Γ y=some (isv q)) (hp:0 <= p) (hq:0 <= q):OpV c ⟨d,.binOp .and t x y u,ty,pos,af,g⟩ σ (isv (andI p q)):=λS a w m=>by
 obtain ⟨h1,i1⟩:=zax.1 (zk m hx)
 obtain ⟨h2,i2⟩:=zax.1 (zk m hy)
 obtain ⟨_,p2⟩:=i1
 obtain ⟨_,q2⟩:=i2
 have hn:p.toNat < 2 ^ 63:=by omega
 have hm:q.toNat < 2 ^ 63:=by omega
 have hle:p.toNat &&& q.toNat <= p.toNat:=Nat.and_le_left
 have e:andI p q=((BitVec.ofInt 64 p &&& BitVec.ofInt 64 q).toNat:Int):=by
  obtain ⟨p',rfl⟩:∃ n:Nat,p=(n:Int):=⟨p.toNat,by omega⟩
  obtain ⟨q',rfl⟩:∃ n:Nat,q=(n:Int):=⟨q.toNat,by omega⟩
  rw [Int.toNat_natCast] at hn hm
  unfold andI
  rw [BitVec.toNat_and,BitVec.ofInt_natCast,BitVec.ofInt_natCast,BitVec.toNat_ofNat,BitVec.toNat_ofNat,Nat.mod_eq_of_lt (by omega),Nat.mod_eq_of_lt (by omega),Int.toNat_natCast,Int.toNat_natCast]
 have hin:inI64 (andI p q):=zlc (by unfold andI;omega) (by unfold andI;omega)
 exact ⟨.int .i64 (andI p q),zax.2 ⟨rfl,hin⟩,λw' _=>by
  have hr:(Op.intBits .and .i64 p q).run c.P w'=.ok (.int .i64 (andI p q)) w':=by
   have e2:Value.int .i64 (andI p q)=.int .i64 (IntKind.i64.wrap ((BitVec.ofInt 64 p &&& BitVec.ofInt 64 q).toNat:Int)):=by rw [<- e,zhe hin]
   rw [e2];rfl
  simp [execOp,binOp,eqGuard,h1,h2,hr]⟩
end bits
structure PtrB where
 b:Nat
instance:Rep PtrB where
 n:=1
 agg:=false
 rd:=λ_ cs x=>cs=[.pointer (some ⟨x.b,0,none⟩)]
 len:=λh=>by rw [h];rfl
 mono:=λ_ h=>h
 cell:=λh v hv=>by rw [h] at hv;simp at hv;subst hv;rfl
 one:=λ_=>rfl
theorem zqA {S:Frz} {v:Value} {x:PtrB}:(isv x).p S v ↔ v=.pointer (some ⟨x.b,0,none⟩):=by
 constructor
 ·intro h
  obtain ⟨_,h2⟩:=zeB h rfl
  have h3:[v]=[Value.pointer (some ⟨x.b,0,none⟩)]:=h2
  exact (List.cons.inj h3).1
 ·intro h
  subst h
  exact ⟨rfl,rfl⟩
theorem zkz {α:Type} [Rep α] {b:Nat}:∀ (S:Frz) (v:Value),(ptrv b (Fld.id α)).p S v->(isv (PtrB.mk b)).p S v:=λ_ _ h=>zqA.2 h
theorem zvh {α:Type} [Rep α] {b:Nat}:∀ (S:Frz) (v:Value),(isv (PtrB.mk b)).p S v->(ptrv b (Fld.id α)).p S v:=λ_ _ h=>zqA.1 h
theorem zbb {α:Type} [Rep α] {c:Ctx} {ty:TypeId} {pos:String} {af:Array Edge} {g:Option (Nat × Bool)} {σ:St} {d:Option Nat} {b:Nat} {x:Operand} {T:TypeId} (ht:TyB c.P T (Rep.n PtrB) (Rep.agg PtrB)=true) (hx:opnd σ.Γ x=some (immv (PtrB.mk b))) :
    OpV c ⟨d,.load T x,ty,pos,af,g⟩ σ (ptrv b (Fld.id α)):=λS a w m=>by
  obtain ⟨v,h1,h2⟩:=zb (d:=d) (ty:=ty) (pos:=pos) (af:=af) (g:=g) ht hx S a w m
  exact ⟨v,zvh S v h1,h2⟩
/-! ### Lists of lists, the last one of which is appended to -/
structure NL (α:Type) where
 l:List α
 t:Option Tok
instance {α:Type} [Rep α]:Rep (NL α) where
 n:=1
 agg:=false
 rd:=λS cs x=>match x.t with
  | none=>Rep.rd S cs x.l
  | some t=>Rep.rd S cs (TList.mk t x.l)
 len:=λ{S cs x} h=>by
  cases hx:x.t with
  | none=>simp only [hx] at h;exact Rep.len h
  | some t=>simp only [hx] at h;exact Rep.len h
 mono:=λ{S S' cs x} hS h=>by
  cases hx:x.t with
  | none=>simp only [hx] at h ⊢;exact Rep.mono hS h
  | some t=>simp only [hx] at h ⊢;exact Rep.mono hS h
 cell:=λ{S cs x} h=>by
  cases hx:x.t with
  | none=>simp only [hx] at h;exact Rep.cell h
  | some t=>simp only [hx] at h;exact Rep.cell h
 one:=λ_=>rfl
section nest0
variable {α:Type}
def nestL (t:Tok):List (List α)->List (NL α)
 | []=>[]
 | [x]=>[⟨x,some t⟩]
 | x :: y :: r=>⟨x,none⟩ :: nestL t (y :: r)
@[simp] theorem zgD (t:Tok):∀ L:List (List α),(nestL t L).length=L.length
 | []=>rfl
 | [_]=>rfl
 | x :: y :: r=>by show (nestL t (y :: r)).length + 1=(y :: r).length + 1;rw [zgD t (y :: r)]
theorem zlu {t:Tok} {y:List α}:∀ {L:List (List α)} {i:Nat},i + 1=L.length->L[i]?=some y->(nestL t L)[i]?=some ⟨y,some t⟩
 | [],i,h,_=>by cases h
 | [x],i,h,hy=>by
  have:i=0:=by simpa using h
  subst this
  cases hy;rfl
 | x :: z :: r,i,h,hy=>by
  cases i with
  | zero=>simp at h
  | succ i =>
   show (nestL t (z :: r))[i]?=_
   exact zlu (by simpa using h) (by simpa using hy)
theorem zoI {t t':Tok} {y:List α}:∀ {L:List (List α)} {i:Nat},i + 1=L.length->(nestL t L).set i ⟨y,some t'⟩=nestL t' (L.set i y)
 | [],i,h=>by cases h
 | [x],i,h=>by
  have:i=0:=by simpa using h
  subst this;rfl
 | x :: z :: r,i,h=>by
  cases i with
  | zero=>simp at h
  | succ i =>
   have:=zoI (t:=t) (t':=t') (y:=y) (L:=z :: r) (i:=i) (by simpa using h)
   cases i with
   | zero=>show _ :: (nestL t (z :: r)).set 0 _=_;rw [this];rfl
   | succ i=>show _ :: (nestL t (z :: r)).set (i + 1) _=_;rw [this];rfl
end nest0
section nest
variable {α:Type} [Rep α] {S:Frz} {v:Value} {c:Ctx}
theorem zv6 {t:Tok} {l:List α} (S:Frz) (v:Value) (h:(isv (NL.mk l (some t))).p S v):(appv t l).p S v:=isvT1 S v h
theorem ztC {t:Tok} {l:List α} (S:Frz) (v:Value) (h:(appv t l).p S v):(isv (NL.mk l (some t))).p S v:=isvT2 S v h
theorem zvJ {x:NL α} {cs:List Value} (h:Rep.rd S cs x):Rep.rd S cs x.l:=by
 obtain ⟨l,t⟩:=x
 cases t with
 | none=>exact h
 | some t =>
  obtain ⟨v,e,k⟩:=(show Rep.rd S cs (TList.mk t l) from h)
  exact ⟨v,e,k.1⟩
theorem zux {t:Tok} {cs:List Value}:∀ {L:List (List α)},rdL (Rep.rd S) (nestL t L) cs->rdL (Rep.rd S) L cs:=by
 intro L
 induction L generalizing cs with
 | nil=>intro h;exact h
 | cons x r ih =>
  cases r with
  | nil=>intro ⟨c1,c2,e,h1,h2⟩;exact ⟨c1,c2,e,zvJ h1,h2⟩
  | cons y r=>intro ⟨c1,c2,e,h1,h2⟩;exact ⟨c1,c2,e,h1,ih h2⟩
theorem zon {t u:Tok} {x:List α} {cs:List Value}:∀ {L:List (List α)},rdL (Rep.rd S) (nestL t L ++ [NL.mk x (some u)]) cs->rdL (Rep.rd S) (nestL u (L ++ [x])) cs:=by
 intro L
 induction L generalizing cs with
 | nil=>intro h;exact h
 | cons z r ih =>
  cases r with
  | nil=>intro ⟨c1,c2,e,h1,h2⟩;exact ⟨c1,c2,e,(show Rep.rd S c1 (NL.mk z none) from (zvJ (x:=NL.mk z (some t)) h1:Rep.rd S c1 z)),h2⟩
  | cons y r=>intro ⟨c1,c2,e,h1,h2⟩;exact ⟨c1,c2,e,h1,ih h2⟩
theorem zqT {t:Tok} {L:List (List α)} (S:Frz) (v:Value) (h:(isv (nestL t L)).p S v):(isv L).p S v:=by
 have h:=zco.1 h
 refine zco.2 ?_
 obtain ⟨p,cap,e,h1,h2,h3⟩:=h
 rw [zgD] at e h1 h2
 refine ⟨p,cap,e,h1,h2,?_⟩
 rcases h3 with h3 | ⟨a,cs,h4,h5,h6,h7⟩
 ·left
  have:=zgD t L
  rw [h3] at this
  exact List.length_eq_zero_iff.1 this.symm
 ·rw [zgD] at h6
  exact .inr ⟨a,cs,h4,h5,h6,zux h7⟩
theorem ztS {Γ:Slots} {H Hr:List Ent} {v:Vt} {t u:Tok} {L:List (List α)} {x:List α} (hp:Pick (vecE v (nestL t L ++ [NL.mk x (some u)])) H Hr):Upd c ⟨Γ,H⟩ ⟨Γ,vecE v (nestL u (L ++ [x])) :: Hr⟩:=λS a w m=>by
 obtain ⟨S1,h1,m1⟩:=zhF (c:=c) (Γ:=Γ) hp S a w m
 have e:(nestL u (L ++ [x])).length=(nestL t L ++ [NL.mk x (some u)]).length:=by simp
 refine ⟨S1,h1,m1.ent rfl ?_⟩
 cases v with
 | none=>exact λh=>h
 | some v =>
  obtain ⟨b,cap⟩:=v
  intro ⟨o,ho,hn,cs,T,e1,e2,e3,e4⟩
  exact ⟨o,ho,hn,cs,T,e1,e2,by rw [e];exact e3,by rw [e];exact zon e4⟩
theorem ztF {β:Type} [Rep β] {Γ:Slots} {H Hr:List Ent} {v:Vt} {l l':List β} (hp:Pick (vecE v l) H Hr) (e:l=l'):Upd c ⟨Γ,H⟩ ⟨Γ,vecE v l' :: Hr⟩:=by
 subst e
 exact zhF hp
end nest
section nilq
variable {c:Ctx} {ty:TypeId} {pos:String} {af:Array Edge} {g:Option (Nat × Bool)} {σ:St} {d:Option Nat}
end nilq
/-! ### An owned list, as one that is appended to -/
section vapp
variable {c:Ctx}
def vtok (n:Nat) (t:Vt) (k:Nat):Tok:=t.map λx=>(x.1,k * n,x.2 * n)
theorem Models.vapp {α:Type} [Rep α] {σ:St} {S:Frz} {a:Act} {w:World} {t:Vt} {l:List α} {Hr:List Ent} (m:Models c σ S a w) (hp:Pick (vecE t l) σ.H Hr) :
    ∃ S':Frz,S.le S'/\Models c ⟨σ.Γ,tokE (vtok (Rep.n α) t l.length) :: Hr⟩ S' a w/\∀ v,(vecv t l.length).p S' v->(appv (vtok (Rep.n α) t l.length) l).p S' v:=by
  cases t with
  | none =>
    have m1:Models c ⟨σ.Γ,[tokE Option.none] ++ Hr⟩ S a w:=m.step (Hc:=[vecE Option.none l]) (H':=[tokE Option.none]) (Takes.cons hp .nil) ⟨Keep.refl _ _,Go.Sy.Grow.refl _ _ _,m.sub⟩ (zeg trivial λb hb=>by simp [tokE] at hb)
    refine ⟨S,S.le_refl,m1,λv hv=>?_⟩
    obtain ⟨_,rfl,h0⟩:=hv
    have:l=[]:=List.length_eq_zero_iff.1 h0
    subst this
    exact zcs _ _ rfl
  | some t =>
    obtain ⟨b,cap⟩:=t
    have hs:(vecE (Option.some (b,cap)) l).sat S w:=m.owns.get hp
    obtain ⟨o,ho,hnone,cs,T',e,hsz,hlc,hr⟩:=hs
    subst e
    have hlen:cs.toList.length=cs.size:=by simp
    have hle3:l.length * Rep.n α <= cap * Rep.n α:=Nat.mul_le_mul_right _ hlc
    have htl:(cs.toList.take (l.length * Rep.n α)).length=l.length * Rep.n α:=by rw [zLt];omega
    have hle:S.le (S.put b (cs.toList.take (l.length * Rep.n α))):=λj d hj=>by
      have hne:j ≠ b:=by rintro rfl;rw [hnone] at hj;cases hj
      exact ⟨d,by unfold Frz.put;rw [if_neg hne];exact hj,List.prefix_refl _⟩
    have hst:Step (keys [vecE (Option.some (b,cap)) l]) S (S.put b (cs.toList.take (l.length * Rep.n α))) w w:=by
      refine ⟨Keep.refl _ _,⟨hle,λj _ hj=>by unfold Frz.put;rw [if_neg (by simpa [keys,vecE] using hj)]⟩,λj d hj=>?_⟩
      unfold Frz.put at hj
      split at hj
      · cases hj
        rename_i ej;subst ej
        exact ⟨cs,T',(0,0),ho,List.take_prefix _ _⟩
      · exact m.sub j d hj
    have m1:=m.step (Hc:=[vecE (Option.some (b,cap)) l]) (H':=[tokE (Option.some (b,l.length * Rep.n α,cap * Rep.n α))]) (Takes.cons hp .nil) hst
      (zeg ⟨_,ho,_,cs,T',if_pos rfl,htl,rfl,by omega⟩ λb' hb'=>.inl (by
        have:b=b':=Option.some.inj hb'
        subst this
        simp [keys,vecE]))
    refine ⟨_,hle,m1,λv hv=>?_⟩
    obtain ⟨hm,e⟩:=hv
    simp only at e
    subst e
    refine ⟨⟨_,_,rfl,hlc,hm,.inr ⟨⟨b,0,Option.none⟩,cs.toList.take (l.length * Rep.n α),rfl,⟨rfl,cs.toList.take (l.length * Rep.n α),if_pos rfl,λj u hj=>by simpa using hj⟩,htl,zeY (λ_ _ h=>Rep.mono hle h) hr⟩⟩,0,cap,rfl,by simp,by simp⟩
end vapp
structure Wr (α:Type) where
 v:α
instance {α:Type} [Rep α]:Rep (Wr α):=Rep.iso Wr.v
@[reducible] def Fld.wr (α:Type) [Rep α]:Fld (Wr α) α:=Fld.of Wr.v (Fld.id α) (λx=>x.v) (λ_ y=>⟨y⟩) (λ_=>rfl) (λ_ _=>rfl)
theorem Cv.wr {α β:Type} [Rep α] [Rep β] {S:Frz} {y:α} {z:β} (h:Cv S y z):Cv S (Wr.mk y) (Wr.mk z):=h
/-! ### Shorter words for walks -/
theorem zuI {c:Ctx} {ty:TypeId} {pos:String} {af:Array Edge} {g:Option (Nat × Bool)} {Γ:Slots} {H:List Ent} {f:FuncId} {xs:Array Operand} {ats:Array TypeId} {args:List VP} {Hc Hr:List Ent} {R0:VP} {H0:List Ent} {dd:Nat} {K:St->Prop} (hs:Ctr c.P f args Hc (λR H=>R=R0/\H=H0)) (hT:TabsC c) (hx:Opnds Γ xs.toList args) (ht:Takes H Hc Hr)
    (k:K ⟨(dd,R0) :: Γ,H0 ++ Hr⟩) (hd:Nat.blt dd c.n=true:=by rfl) :
    OpT c ⟨some dd,.call ⟨.value (.func f),xs,ats⟩,ty,pos,af,g⟩ ⟨Γ,H⟩ K :=
  zmF hs hT hx ht (λR H' hR=>by obtain ⟨rfl,rfl⟩:=hR;exact k) hd
theorem j0 {Γ Γ':Slots} {H':List Ent} (n:Nat) (hd:Γ'.drop n=Γ) (ht:tailB (Γ'.take n) [] Γ=true):Imp ⟨Γ',H'⟩ ⟨[] ++ Γ,[] ++ []⟩ :=
 zfL (mod:=[]) (Hm:=[]) (Hr:=[]) n hd ht zay .nil
theorem hI {α β:Type} {p:α->β->Prop} (a:α) (b:β) (h:p a b):p a b:=h
theorem k1 {a:Ent} {H:List Ent}:Takes (a :: H) [a] H:=.cons .here .nil
theorem k2 {a b:Ent} {H:List Ent}:Takes (a :: b :: H) [a,b] H:=.cons .here k1
theorem k3 {a b c:Ent} {H:List Ent}:Takes (a :: b :: c :: H) [a,b,c] H:=.cons .here k2
theorem k4 {a b c d:Ent} {H:List Ent}:Takes (a :: b :: c :: d :: H) [a,b,c,d] H:=.cons .here k3
theorem s1 {Γ:Slots} {x:Operand} {R:VP} (h:opnd Γ x=some R):Opnds Γ [x] [R]:=.same h .nil
theorem s2 {Γ:Slots} {x y:Operand} {R Q:VP} (h:opnd Γ x=some R) (k:opnd Γ y=some Q):Opnds Γ [x,y] [R,Q]:=.same h (s1 k)
theorem s3 {Γ:Slots} {x y z:Operand} {R Q T:VP} (h:opnd Γ x=some R) (k:opnd Γ y=some Q) (l:opnd Γ z=some T):Opnds Γ [x,y,z] [R,Q,T]:=.same h (s2 k l)
theorem s4 {Γ:Slots} {x y z u:Operand} {R Q T U:VP} (h:opnd Γ x=some R) (k:opnd Γ y=some Q) (l:opnd Γ z=some T) (m:opnd Γ u=some U):Opnds Γ [x,y,z,u] [R,Q,T,U]:=.same h (s3 k l m)
theorem zi {P:Program} {f:FuncId} {fn:Func} {code:Code} {args:List VP} {H:List Ent} {post:VP->List Ent->Prop}
    (hf:P.funcs[f]?=some fn) (hb:fn.body=some code)
    (h:∀ w0 S0,TabsG P S0 w0 (keys H)->Wp ⟨P,fn.ntmps,w0,S0,keys H,[]⟩ code ⟨slotsOf 0 args,H⟩ (postQ P fn w0 S0 H post))
    (hn : (fn.name == "runtime.NumGoroutine") = false := by decide +kernel) (hl : Nat.ble args.length fn.ntmps = true := by rfl) : Ctr P f args H post := zrB hf hb hn hl h
end Go.Sy


namespace Go.Sy
open Go
section
variable {c:Ctx} {σ:St} {d:Nat} {ty:TypeId} {x y:Operand} {t u:TypeId} {p q:Int}
end
end Go.Sy


namespace Go.Sy
open Go
abbrev Pt (Rs:List VP) (Hs:List Ent):VP->List Ent->Prop:=λR H=>R=oneOf Rs/\H=Hs
abbrev Pt1 {τ0:Type} (Rs:τ0->List VP) (Hs:τ0->List Ent):VP->List Ent->Prop:=λR H=>∃ t0,R=oneOf (Rs t0)/\H=Hs t0
abbrev Pt2 {τ0 τ1:Type} (Rs:τ0->τ1->List VP) (Hs:τ0->τ1->List Ent):VP->List Ent->Prop:=λR H=>∃ t0 t1,R=oneOf (Rs t0 t1)/\H=Hs t0 t1
abbrev Pt3 {τ0 τ1 τ2:Type} (Rs:τ0->τ1->τ2->List VP) (Hs:τ0->τ1->τ2->List Ent):VP->List Ent->Prop:=λR H=>∃ t0 t1 t2,R=oneOf (Rs t0 t1 t2)/\H=Hs t0 t1 t2
abbrev Pt4 {τ0 τ1 τ2 τ3:Type} (Rs:τ0->τ1->τ2->τ3->List VP) (Hs:τ0->τ1->τ2->τ3->List Ent):VP->List Ent->Prop:=λR H=>∃ t0 t1 t2 t3,R=oneOf (Rs t0 t1 t2 t3)/\H=Hs t0 t1 t2 t3
abbrev Pt5 {τ0 τ1 τ2 τ3 τ4:Type} (Rs:τ0->τ1->τ2->τ3->τ4->List VP) (Hs:τ0->τ1->τ2->τ3->τ4->List Ent):VP->List Ent->Prop:=λR H=>∃ t0 t1 t2 t3 t4,R=oneOf (Rs t0 t1 t2 t3 t4)/\H=Hs t0 t1 t2 t3 t4
section
variable {c:Ctx} {ops:Array Oper} {Q:Exit->Act->World->Prop} {Γ:Slots} {H Hr Hc H0:List Ent} {d j i id:Nat} {want b:Bool} {op:Op} {o:Oper} {ty:TypeId} {pos:String} {af:Array Edge} {rest:List Oper} {π:Ord} {σ:St} {R:VP} {x y:Code} {u:Operand}
theorem ws (k:Rl c ops ops.toList σ (nxt c y Q)):Wp c (.seq (.region id ops false) y) σ Q:=zF (zj k)
theorem ss (k:Rl c ops ops.toList σ (nxt c x (nxt c y Q))):Wp c (.seq (.seq (.region id ops false) x) y) σ Q:=zF (ws k)
theorem rn (k:Wp c y σ Q):Rl c ops [] σ (nxt c y Q):=zN (zp k)
theorem wk (k:Wp c y σ Q):Wp c .skip σ (nxt c y Q):=zC (zp k)
theorem rb (k:Fin c σ Q):Rl c ops [] σ (Exit.inBlock id Q):=zN (zs k)
theorem bn (k:Ret c σ Q):Ret c σ (Exit.inBlock id (nxt c y Q)):=za8 (zD k)
theorem xn (k:Exi c id σ Q):Wp c (.exit id) σ (nxt c y Q):=zmo (zpZ k)
theorem om (hx:opnd Γ u=some R) (k:Rl c ops rest ⟨(d,R) :: Γ,H⟩ Q) (hd:Nat.blt d c.n=true:=by rfl):Rl c ops (⟨some d,.move u,ty,pos,af,none⟩ :: rest) ⟨Γ,H⟩ Q:=oV (zm hx) k hd
theorem oa (hx:opnd Γ u=some R) (k:Rl c ops rest ⟨(d,R) :: Γ,H⟩ Q) (hd:Nat.blt d c.n=true:=by rfl):Rl c ops (⟨some d,.assign u,ty,pos,af,none⟩ :: rest) ⟨Γ,H⟩ Q:=oV (zaD hx) k hd
theorem an (hx:opnd Γ u=some R) (k:Wp c y ⟨(d,R) :: Γ,H⟩ Q) (hd:Nat.blt d c.n=true:=by rfl):Rl c ops [⟨some d,.assign u,ty,pos,af,none⟩] ⟨Γ,H⟩ (nxt c y Q):=oa hx (rn k) hd
theorem ar (hx:opnd Γ u=some R) (k:Ret c ⟨(d,R) :: Γ,H⟩ Q) (hd:Nat.blt d c.n=true:=by rfl):Rl c ops [⟨some d,.assign u,ty,pos,af,none⟩] ⟨Γ,H⟩ (nxt c .ret Q):=an hx (zbK k) hd
def gl (ops:Array Oper) (j:Nat) (Γ:Slots):Option VP:=((ops[j]?).bind (·.dst)).bind (look Γ)
theorem zkj (h:gl ops j Γ=some R):∃ dj,(ops[j]?).bind (·.dst)=some dj/\look Γ dj=some R:=Option.bind_eq_some_iff.1 h
theorem oG (hb:b=want) (h:OpV c ⟨some d,op,ty,pos,af,some (j,want)⟩ ⟨Γ,H⟩ R) (k:Rl c ops rest ⟨(d,R) :: Γ,H⟩ Q) (hl:gl ops j Γ=some (isv b):=by exact rfl) (hd:Nat.blt d c.n=true:=by rfl):Rl c ops (⟨some d,op,ty,pos,af,some (j,want)⟩ :: rest) ⟨Γ,H⟩ Q:=by
 obtain ⟨dj,h1,h2⟩:=zkj hl;exact zrX rfl h1 h2 hb (OpV.t h k hd)
theorem oH {r:Option Nat} (hb:b=want) (h:OpT c ⟨r,op,ty,pos,af,some (j,want)⟩ σ λσ'=>Rl c ops rest σ' Q) (hl:gl ops j σ.Γ=some (isv b):=by exact rfl):Rl c ops (⟨r,op,ty,pos,af,some (j,want)⟩ :: rest) σ Q:=by
 obtain ⟨dj,h1,h2⟩:=zkj hl;exact zrX rfl h1 h2 hb h
theorem oN (hb:b=!want) (k:Rl c ops rest ⟨(d,undv) :: Γ,H⟩ Q) (hl:gl ops j Γ=some (isv b):=by exact rfl) (hd:Nat.blt d c.n=true:=by rfl):Rl c ops (⟨some d,op,ty,pos,af,some (j,want)⟩ :: rest) ⟨Γ,H⟩ Q:=by
 obtain ⟨dj,h1,h2⟩:=zkj hl;exact zuJ h1 h2 hb k hd
theorem oU (k:Rl c ops rest ⟨(d,undv) :: Γ,H⟩ Q) (hl:gl ops j Γ=some undv:=by exact rfl) (hd:Nat.blt d c.n=true:=by rfl):Rl c ops (⟨some d,op,ty,pos,af,some (j,want)⟩ :: rest) ⟨Γ,H⟩ Q:=by
 obtain ⟨dj,h1,h2⟩:=zkj hl;exact zti h1 h2 k hd
theorem rm (ho:ops[i]?=some ⟨some d,.move u,ty,pos,af,none⟩) (hx:opnd Γ u=some R) (k:Rd c ops π ⟨(d,R) :: Γ,H⟩ Q) (hd:Nat.blt d c.n=true:=by rfl):Rd c ops (.v i π) ⟨Γ,H⟩ Q:=zl ho (zm hx) k hd
theorem rG (ho:ops[i]?=some ⟨some d,op,ty,pos,af,some (j,want)⟩) (hb:b=want) (h:OpV c ⟨some d,op,ty,pos,af,some (j,want)⟩ ⟨Γ,H⟩ R) (k:Rd c ops π ⟨(d,R) :: Γ,H⟩ Q) (hl:gl ops j Γ=some (isv b):=by exact rfl) (hd:Nat.blt d c.n=true:=by rfl):Rd c ops (.v i π) ⟨Γ,H⟩ Q:=by
 obtain ⟨dj,h1,h2⟩:=zkj hl;exact zws ho h1 h2 hb h k hd
theorem rP (ho:ops[i]?=some ⟨some d,op,ty,pos,af,some (j,want)⟩) (hb:b=!want) (k:Rd c ops π ⟨(d,undv) :: Γ,H⟩ Q) (hl:gl ops j Γ=some (isv b):=by exact rfl) (hd:Nat.blt d c.n=true:=by rfl):Rd c ops (.v i π) ⟨Γ,H⟩ Q:=by
 obtain ⟨dj,h1,h2⟩:=zkj hl;exact zt9 ho h1 h2 hb k hd
theorem rU (ho:ops[i]?=some ⟨some d,op,ty,pos,af,some (j,want)⟩) (k:Rd c ops π ⟨(d,undv) :: Γ,H⟩ Q) (hl:gl ops j Γ=some undv:=by exact rfl) (hd:Nat.blt d c.n=true:=by rfl):Rd c ops (.v i π) ⟨Γ,H⟩ Q:=by
 obtain ⟨dj,h1,h2⟩:=zkj hl;exact zs0 ho h1 h2 k hd
theorem rT (ho:ops[i]?=some o) (h:OpT c o σ λσ'=>Rd c ops π σ' Q) (hg:o.guard=none:=by exact rfl):Rd c ops (.t i π) σ Q:=zwG ho hg h
theorem rH {r:Option Nat} (ho:ops[i]?=some ⟨r,op,ty,pos,af,some (j,want)⟩) (hb:b=want) (h:OpT c ⟨r,op,ty,pos,af,some (j,want)⟩ σ λσ'=>Rd c ops π σ' Q) (hl:gl ops j σ.Γ=some (isv b):=by exact rfl):Rd c ops (.t i π) σ Q:=by
 obtain ⟨dj,h1,h2⟩:=zkj hl;exact zwu ho rfl h1 h2 hb h
end
section
variable {c:Ctx} {d:Option Nat} {ty:TypeId} {pos:String} {af:Array Edge} {g:Option (Nat × Bool)} {σ:St} {x i:Operand} {T f:Nat}
theorem vI {β γ:Type} [Rep β] [Rep γ] {y:β} (hx:opnd σ.Γ x=some (immv y)) (M:Fld β γ) (hf:FldB c.P T f M.off (Rep.n γ) (Rep.agg γ)=true) (z:γ) (hz:M.get y=z:=by exact rfl):OpV c ⟨d,.fieldAddr T x f,ty,pos,af,g⟩ σ (immv z):=zwI hx M hf hz
theorem vN {α:Type} [Rep α] {l:List α} {n:Nat} {agg:Bool} (hx:opnd σ.Γ x=some (isv l)) (hT:SlB c.P T n agg=true):OpV c ⟨d,.call ⟨.builtin .len,#[x],#[T]⟩,ty,pos,af,g⟩ σ (isv (l.length:Int)):=zlX hx (λ_ _ h=>h) hT
theorem vX {α:Type} [Rep α] {l:List α} {k:Int} {y:α} (hx:opnd σ.Γ x=some (isv l)) (hi:opnd σ.Γ i=some (isv k)) (hT:SlB c.P T (Rep.n α) (Rep.agg α)=true) (hy:getI l k=some y):OpV c ⟨d,.indexAddr T x i,ty,pos,af,g⟩ σ (immv y):=zlj hx (λ_ _ h=>h) hi hT hy
theorem vP {α β:Type} [Rep α] [Rep β] {b:Nat} {L:Fld α β} {y:α} {T:TypeId} {o:Obj} (ht:TyB c.P T (Rep.n β) (Rep.agg β)=true) (hx:opnd σ.Γ x=some (pinv o b L y)) (hp:(b,o) ∈ c.pin) (z:β) (hz:L.get y=z:=by exact rfl):OpV c ⟨d,.load T x,ty,pos,af,g⟩ σ (isv z):=zse ht hx hp (by subst hz;exact λ_ _ h=>h)
end
/-! ### What turns the world -/
theorem p0 {e:Ent} {l:List Ent}:Pick e (e :: l) l:=.here
theorem p1 {e a:Ent} {l:List Ent}:Pick e (a :: e :: l) (a :: l):=.there .here
theorem p2 {e a b:Ent} {l:List Ent}:Pick e (a :: b :: e :: l) (a :: b :: l):=.there p1
theorem p3 {e a b c:Ent} {l:List Ent}:Pick e (a :: b :: c :: e :: l) (a :: b :: c :: l):=.there p2
theorem p4 {e a b c d:Ent} {l:List Ent}:Pick e (a :: b :: c :: d :: e :: l) (a :: b :: c :: d :: l):=.there p3
theorem a0 {e:Ent} {H Hc Hr:List Ent} (h:Takes H Hc Hr):Takes (e :: H) (e :: Hc) Hr:=.cons .here h
theorem a1 {e a:Ent} {H Hc Hr:List Ent} (h:Takes (a :: H) Hc Hr):Takes (a :: e :: H) (e :: Hc) Hr:=.cons p1 h
theorem a2 {e a b:Ent} {H Hc Hr:List Ent} (h:Takes (a :: b :: H) Hc Hr):Takes (a :: b :: e :: H) (e :: Hc) Hr:=.cons p2 h
theorem a3 {e a b c:Ent} {H Hc Hr:List Ent} (h:Takes (a :: b :: c :: H) Hc Hr):Takes (a :: b :: c :: e :: H) (e :: Hc) Hr:=.cons p3 h
theorem a4 {e a b c d:Ent} {H Hc Hr:List Ent} (h:Takes (a :: b :: c :: d :: H) Hc Hr):Takes (a :: b :: c :: d :: e :: H) (e :: Hc) Hr:=.cons p4 h
theorem k0 {H:List Ent}:Takes H [] H:=.nil
theorem k5 {e1 e2 e3 e4 e5:Ent} {H:List Ent}:Takes (e1 :: e2 :: e3 :: e4 :: e5 :: H) [e1,e2,e3,e4,e5] H:=a0 k4
theorem k6 {e1 e2 e3 e4 e5 e6:Ent} {H:List Ent}:Takes (e1 :: e2 :: e3 :: e4 :: e5 :: e6 :: H) [e1,e2,e3,e4,e5,e6] H:=a0 k5
theorem k7 {e1 e2 e3 e4 e5 e6 e7:Ent} {H:List Ent}:Takes (e1 :: e2 :: e3 :: e4 :: e5 :: e6 :: e7 :: H) [e1,e2,e3,e4,e5,e6,e7] H:=a0 k6
section
variable {c:Ctx} {ty:TypeId} {pos:String} {af:Array Edge} {g:Option (Nat × Bool)} {Γ:Slots} {H Hr Hc:List Ent} {K:St->Prop} {x u:Operand} {T dd:Nat}
theorem tL {α β:Type} [Rep α] [Rep β] {b:Nat} {L:Fld α β} {y:α} (ht:TyB c.P T (Rep.n β) (Rep.agg β)=true) (hx:opnd Γ x=some (ptrv b L)) (hp:Pick (boxE b y) H Hr) (z:β) (k:K ⟨(dd,isv z) :: Γ,H⟩) (hz:L.get y=z:=by exact rfl) (hd:Nat.blt dd c.n=true:=by rfl) :
    OpT c ⟨some dd,.load T x,ty,pos,af,g⟩ ⟨Γ,H⟩ K:=zaS ht hx hp (by subst hz;exact λ_ _ h=>h) k hd
theorem tS {α β:Type} [Rep α] [Rep β] {b:Nat} {L:Fld α β} {y:α} {z:β} (ht:TyB c.P T (Rep.n β) (Rep.agg β)=true) (hx:opnd Γ x=some (ptrv b L)) (hu:opnd Γ u=some (isv z)) (hp:Pick (boxE b y) H Hr) (y':α) (k:K ⟨Γ,boxE b y' :: Hr⟩) (hy:L.set y z=y':=by exact rfl) :
    OpT c ⟨none,.store T x u,ty,pos,af,g⟩ ⟨Γ,H⟩ K:=zqS ht hx hu (λ_ _ h=>h) hp hy k
theorem tR {α β:Type} [Rep α] [Rep β] {b:Nat} {L:Fld α β} {y:α} {z:β} {R:VP} (ht:TyB c.P T (Rep.n β) (Rep.agg β)=true) (hx:opnd Γ x=some (ptrv b L)) (hu:opnd Γ u=some R) (hc:∀ S v,R.p S v->(isv z).p S v) (hp:Pick (boxE b y) H Hr) (y':α) (hy:L.set y z=y') (k:K ⟨Γ,boxE b y' :: Hr⟩) :
    OpT c ⟨none,.store T x u,ty,pos,af,g⟩ ⟨Γ,H⟩ K:=zqS ht hx hu hc hp hy k
theorem tB {α:Type} [Rep α] {y:α} (hx:opnd Γ x=some (isv y)) (k:K ⟨(dd,immv y) :: Γ,H⟩) (hd:Nat.blt dd c.n=true:=by rfl):OpT c ⟨some dd,.box T x,ty,pos,af,g⟩ ⟨Γ,H⟩ K:=zi8 hx (λ_ _ h=>h) k hd
section
variable {f:FuncId} {xs:Array Operand} {ats:Array TypeId} {args:List VP} {τ0 τ1 τ2 τ3 τ4:Type}
theorem tC {R0:List VP} {H0:List Ent} (hs:Ctr c.P f args Hc (Pt R0 H0)) (hT:TabsC c) (hx:Opnds Γ xs.toList args) (ht:Takes H Hc Hr) (k:K ⟨(dd,oneOf R0) :: Γ,H0 ++ Hr⟩) (hd:Nat.blt dd c.n=true:=by rfl) :
    OpT c ⟨some dd,.call ⟨.value (.func f),xs,ats⟩,ty,pos,af,g⟩ ⟨Γ,H⟩ K:=zuI hs hT hx ht k hd
theorem tC1 {R0:τ0->List VP} {H0:τ0->List Ent} (hs:Ctr c.P f args Hc (Pt1 R0 H0)) (hT:TabsC c) (hx:Opnds Γ xs.toList args) (ht:Takes H Hc Hr) (k:∀ t0,K ⟨(dd,oneOf (R0 t0)) :: Γ,H0 t0 ++ Hr⟩) (hd:Nat.blt dd c.n=true:=by rfl) :
    OpT c ⟨some dd,.call ⟨.value (.func f),xs,ats⟩,ty,pos,af,g⟩ ⟨Γ,H⟩ K:=zmF hs hT hx ht (λR H' hR=>by obtain ⟨t0,rfl,rfl⟩:=hR;exact k t0) hd
theorem tC2 {R0:τ0->τ1->List VP} {H0:τ0->τ1->List Ent} (hs:Ctr c.P f args Hc (Pt2 R0 H0)) (hT:TabsC c) (hx:Opnds Γ xs.toList args) (ht:Takes H Hc Hr) (k:∀ t0 t1,K ⟨(dd,oneOf (R0 t0 t1)) :: Γ,H0 t0 t1 ++ Hr⟩) (hd:Nat.blt dd c.n=true:=by rfl) :
    OpT c ⟨some dd,.call ⟨.value (.func f),xs,ats⟩,ty,pos,af,g⟩ ⟨Γ,H⟩ K:=zmF hs hT hx ht (λR H' hR=>by obtain ⟨t0,t1,rfl,rfl⟩:=hR;exact k t0 t1) hd
theorem tC3 {R0:τ0->τ1->τ2->List VP} {H0:τ0->τ1->τ2->List Ent} (hs:Ctr c.P f args Hc (Pt3 R0 H0)) (hT:TabsC c) (hx:Opnds Γ xs.toList args) (ht:Takes H Hc Hr) (k:∀ t0 t1 t2,K ⟨(dd,oneOf (R0 t0 t1 t2)) :: Γ,H0 t0 t1 t2 ++ Hr⟩) (hd:Nat.blt dd c.n=true:=by rfl) :
    OpT c ⟨some dd,.call ⟨.value (.func f),xs,ats⟩,ty,pos,af,g⟩ ⟨Γ,H⟩ K:=zmF hs hT hx ht (λR H' hR=>by obtain ⟨t0,t1,t2,rfl,rfl⟩:=hR;exact k t0 t1 t2) hd
theorem tC4 {R0:τ0->τ1->τ2->τ3->List VP} {H0:τ0->τ1->τ2->τ3->List Ent} (hs:Ctr c.P f args Hc (Pt4 R0 H0)) (hT:TabsC c) (hx:Opnds Γ xs.toList args) (ht:Takes H Hc Hr) (k:∀ t0 t1 t2 t3,K ⟨(dd,oneOf (R0 t0 t1 t2 t3)) :: Γ,H0 t0 t1 t2 t3 ++ Hr⟩) (hd:Nat.blt dd c.n=true:=by rfl) :
    OpT c ⟨some dd,.call ⟨.value (.func f),xs,ats⟩,ty,pos,af,g⟩ ⟨Γ,H⟩ K:=zmF hs hT hx ht (λR H' hR=>by obtain ⟨t0,t1,t2,t3,rfl,rfl⟩:=hR;exact k t0 t1 t2 t3) hd
theorem tC5 {R0:τ0->τ1->τ2->τ3->τ4->List VP} {H0:τ0->τ1->τ2->τ3->τ4->List Ent} (hs:Ctr c.P f args Hc (Pt5 R0 H0)) (hT:TabsC c) (hx:Opnds Γ xs.toList args) (ht:Takes H Hc Hr) (k:∀ t0 t1 t2 t3 t4,K ⟨(dd,oneOf (R0 t0 t1 t2 t3 t4)) :: Γ,H0 t0 t1 t2 t3 t4 ++ Hr⟩) (hd:Nat.blt dd c.n=true:=by rfl) :
    OpT c ⟨some dd,.call ⟨.value (.func f),xs,ats⟩,ty,pos,af,g⟩ ⟨Γ,H⟩ K:=zmF hs hT hx ht (λR H' hR=>by obtain ⟨t0,t1,t2,t3,t4,rfl,rfl⟩:=hR;exact k t0 t1 t2 t3 t4) hd
end
end
theorem m0 {α:Type} {a:α} {l:List α}:a ∈ a :: l:=List.Mem.head _
theorem m1 {α:Type} {a b:α} {l:List α}:a ∈ b :: a :: l:=List.Mem.tail _ (List.Mem.head _)
theorem r1 {P:Program} {σ:St} {t:Nat} {R:VP} (h:look σ.Γ t=some R):Results P σ [.tmp t] [R]:=.tmp h .nil
theorem r2 {P:Program} {σ:St} {t u:Nat} {R S:VP} (h:look σ.Γ t=some R) (k:look σ.Γ u=some S):Results P σ [.tmp t,.tmp u] [R,S]:=.tmp h (.tmp k .nil)
/-! ### Joins, loops, what is returned -/
section
variable {c:Ctx} {ops:Array Oper} {Q:Exit->Act->World->Prop} {ι β γ:Type} {r:β} {Γ:Slots} {H Hc Hr:List Ent} {l:List Oper} {π:Ord} {σ:St} {B:(ι->Option β)->Option β} {R:ι->Option β} {x y:Code}
theorem MD {mod:Slots} (h:mods Γ mod:=by
 repeat first
 | exact zay
 | refine zB rfl (λ_ _ h=>h) ?_
 | refine zB rfl (by first | exact zx | exact zcs | exact zeZ | exact isvT1 | exact λ_ _ _=>trivial | exact vecvE (by first | rfl | simp)) ?_):mods Γ mod:=h
theorem tk0:∃ Hx,Takes H [] Hx:=⟨_,.nil⟩
theorem tkC {e:Ent} {H1:List Ent} (h:Pick e H H1) (k:∃ Hx,Takes H1 Hc Hx):∃ Hx,Takes H (e :: Hc) Hx:=k.elim λ_ k=>⟨_,.cons h k⟩
theorem TK (h:∃ Hx,Takes H Hc Hx:=by
 repeat first
 | exact tk0
 | refine tkC .here ?_
 | refine tkC p1 ?_
 | refine tkC p2 ?_
 | refine tkC p3 ?_
 | refine tkC p4 ?_
 | refine tkC (.there p4) ?_
 | refine tkC (.there (.there p4)) ?_
 | refine tkC (.there (.there (.there p4))) ?_
 | refine tkC (.there (.there (.there (.there p4)))) ?_):∃ Hx,Takes H Hc Hx:=h
theorem oI {b:Bool} {T E:Option β} (h:br b T E=some r) (ht:b=true->T=some r->Rl c ops l σ Q) (hf:b=false->E=some r->Rl c ops l σ Q):Rl c ops l σ Q:=by
 cases b with
 | true=>exact ht rfl h
 | false=>exact hf rfl h
theorem rJ {b:Bool} {T E:Option β} (h:br b T E=some r) (ht:b=true->T=some r->Rd c ops π σ Q) (hf:b=false->E=some r->Rd c ops π σ Q):Rd c ops π σ Q:=by
 cases b with
 | true=>exact ht rfl h
 | false=>exact hf rfl h
def Jo (J:ι->Option β) (r:β) (P:St->Prop) (mod:ι->Slots) (ds:List Nat) (Γ:Slots) (Hr:List Ent):Prop :=
 ∀ {i},J i=some r->∀ (k:Nat) {Γ':Slots} {H':List Ent} (_:Γ'.drop k=Γ:=by exact rfl) (_:tailB (Γ'.take k) ds Γ=true:=by exact rfl) (_:mods Γ' (mod i):=by exact MD) (_:∃ Hx,Takes H' Hr Hx:=by exact TK),P ⟨Γ',H'⟩
def Jn (J:ι->Option β) (r:β) (P:St->Prop) (mod:ι->γ->Slots) (Hm:ι->γ->List Ent) (Γ:Slots) (Hr:List Ent):Prop :=
 ∀ {i},J i=some r->∀ (g:γ) (k:Nat) {Γ':Slots} {H':List Ent} (_:Γ'.drop k=Γ:=by exact rfl) (_:tailB (Γ'.take k) ((mod i g).map (·.1)) Γ=true:=by exact rfl) (_:mods Γ' (mod i g):=by exact MD) (_:∃ Hx,Takes H' (Hm i g ++ Hr) Hx:=by exact TK),P ⟨Γ',H'⟩
theorem jO [Rep ι] (n d:Nat) (h:jp B R=some r) (hk:∀ i,R i=some r->Rl c ops (l.drop n) ⟨(d,isv i) :: Γ,H⟩ Q)
    (hx:∀ J:ι->Option β,B J=some r->Jo J r (λσ'=>Rl c ops (l.drop n) σ' Q) (λi=>[(d,isv i)]) [d] Γ H->Rl c ops l ⟨Γ,H⟩ Q):Rl c ops l ⟨Γ,H⟩ Q :=
  zww (γ:=Unit) (λi _=>[(d,isv i)]) (λ_ _=>[]) .nil h n rfl (λi _=>hk i) λJ h hJ=>hx J h (by intro i hi k Γ' H' h1 h2 h3 ⟨Hx,h4⟩;exact hJ i () hi _ (zfL (mod:=[(d,isv i)]) (Hm:=[]) k h1 h2 h3 h4))
theorem jD [Rep ι] (n d:Nat) (h:jp B R=some r) (hk:∀ i,R i=some r->Rd c ops (π.drop n) ⟨(d,isv i) :: Γ,H⟩ Q)
    (hx:∀ J:ι->Option β,B J=some r->Jo J r (λσ'=>Rd c ops (π.drop n) σ' Q) (λi=>[(d,isv i)]) [d] Γ H->Rd c ops π ⟨Γ,H⟩ Q):Rd c ops π ⟨Γ,H⟩ Q :=
  hx R h (by intro i hi k Γ' H' h1 h2 h3 ⟨Hx,h4⟩;exact λS a w m=>hk i hi S a w (m.weak (zfL (mod:=[(d,isv i)]) (Hm:=[]) k h1 h2 h3 h4)))
theorem jW [Rep ι] (d:Nat) (h:jp B R=some r) (hk:∀ i,R i=some r->Wp c y ⟨(d,isv i) :: Γ,H⟩ Q)
    (hx:∀ J:ι->Option β,B J=some r->Jo J r (λσ'=>Fin c σ' (nxt c y Q)) (λi=>[(d,isv i)]) [d] Γ H->Wp c x ⟨Γ,H⟩ (nxt c y Q)):Wp c x ⟨Γ,H⟩ (nxt c y Q) :=
  hx R h (by intro i hi k Γ' H' h1 h2 h3 ⟨Hx,h4⟩;exact zp (zvK (zfL (mod:=[(d,isv i)]) (Hm:=[]) k h1 h2 h3 h4) (hk i hi)))
theorem jo (n:Nat) (h:jp B R=some r) (γ:Type) (mod:ι->γ->Slots) (Hm:ι->γ->List Ent) (hT:Takes H Hc Hr) (hk:∀ i g,R i=some r->Rl c ops (l.drop n) ⟨mod i g ++ Γ,Hm i g ++ Hr⟩ Q)
    (hx:∀ J:ι->Option β,B J=some r->Jn J r (λσ'=>Rl c ops (l.drop n) σ' Q) mod Hm Γ Hr->Rl c ops l ⟨Γ,H⟩ Q):Rl c ops l ⟨Γ,H⟩ Q :=
  zww mod Hm hT h n rfl hk λJ h hJ=>hx J h (by intro i hi g k Γ' H' h1 h2 h3 ⟨Hx,h4⟩;exact hJ i g hi _ (zfL k h1 h2 h3 h4))
theorem jd (n:Nat) (h:jp B R=some r) (γ:Type) (mod:ι->γ->Slots) (Hm:ι->γ->List Ent) (hT:Takes H Hc Hr) (hk:∀ i g,R i=some r->Rd c ops (π.drop n) ⟨mod i g ++ Γ,Hm i g ++ Hr⟩ Q)
    (hx:∀ J:ι->Option β,B J=some r->Jn J r (λσ'=>Rd c ops (π.drop n) σ' Q) mod Hm Γ Hr->Rd c ops π ⟨Γ,H⟩ Q):Rd c ops π ⟨Γ,H⟩ Q :=
  zwB mod Hm hT h n rfl hk λJ h hJ=>hx J h (by intro i hi g k Γ' H' h1 h2 h3 ⟨Hx,h4⟩;exact hJ i g hi _ (zfL k h1 h2 h3 h4))
theorem jw (h:jp B R=some r) (γ:Type) (mod:ι->γ->Slots) (Hm:ι->γ->List Ent) (hT:Takes H Hc Hr) (hk:∀ i g,R i=some r->Wp c y ⟨mod i g ++ Γ,Hm i g ++ Hr⟩ Q)
    (hx:∀ J:ι->Option β,B J=some r->Jn J r (λσ'=>Fin c σ' (nxt c y Q)) mod Hm Γ Hr->Wp c x ⟨Γ,H⟩ (nxt c y Q)):Wp c x ⟨Γ,H⟩ (nxt c y Q) :=
  zwL mod Hm hT h hk λJ h hJ=>hx J h (by intro i hi g k Γ' H' h1 h2 h3 ⟨Hx,h4⟩;exact hJ i g hi _ (zfL k h1 h2 h3 h4))
theorem lP {F:(ι->Option β)->ι->Option β} {i0:ι} (h:lp F i0=some r) (γ:Type) (g0:γ) (mod:ι->γ->Slots) (Hm:ι->γ->List Ent) (hm:mods Γ (mod i0 g0)) (hT:Takes H (Hm i0 g0) Hr)
    (hx:∀ (L:ι->Option β) (i:ι) (g:γ) (Q':Exit->Act->World->Prop),F L i=some r->Jn L r (λσ'=>Fin c σ' Q') mod Hm Γ Hr->(∀ id σ',Exi c id σ' Q->Exi c id σ' Q')->(∀ σ',Ret c σ' Q->Ret c σ' Q')->Wp c x ⟨mod i g ++ Γ,Hm i g ++ Hr⟩ Q'):Wp c (.loop x) ⟨Γ,H⟩ Q :=
  zwr mod Hm h g0 hm hT λL i g Q' h hL hE hR=>hx L i g Q' h (by intro i hi g k Γ' H' h1 h2 h3 ⟨Hx,h4⟩;exact hL i g hi _ (zfL k h1 h2 h3 h4)) hE hR
theorem lO [Rep ι] {F:(ι->Option β)->ι->Option β} {i0:ι} (d:Nat) (h:lp F i0=some r) (hm:look Γ d=some (isv i0))
    (hx:∀ (L:ι->Option β) (i:ι) (Q':Exit->Act->World->Prop),F L i=some r->Jo L r (λσ'=>Fin c σ' Q') (λi=>[(d,isv i)]) [d] Γ H->(∀ id σ',Exi c id σ' Q->Exi c id σ' Q')->(∀ σ',Ret c σ' Q->Ret c σ' Q')->Wp c x ⟨(d,isv i) :: Γ,H⟩ Q'):Wp c (.loop x) ⟨Γ,H⟩ Q :=
  zwr (γ:=Unit) (λi _=>[(d,isv i)]) (λ_ _=>[]) h () (zB hm (λ_ _ h=>h) zay) .nil λL i _ Q' h hL hE hR=>hx L i Q' h (by intro i hi k Γ' H' h1 h2 h3 ⟨Hx,h4⟩;exact hL i () hi _ (zfL (mod:=[(d,isv i)]) (Hm:=[]) k h1 h2 h3 h4)) hE hR
theorem iS {s:β} (h:some s=some r):s=r:=Option.some.inj h
end
end Go.Sy


namespace Go.Sy
structure Er where
 bad:Bool
instance:Rep Er where
 n:=1
 agg:=false
 rd:=λ_ cs x=>match x.bad with
  | false=>cs=[.nilIface]
  | true=>∃ t v,cs=[.iface t v]
 len:=λ{_ _ x} h=>by
  obtain ⟨b⟩:=x
  cases b with
  | false=>rw [show _=[Value.nilIface] from h];rfl
  | true=>obtain ⟨t,v,h⟩:=h;rw [h];rfl
 mono:=λ{_ _ _ x} _ h=>h
 cell:=λ{_ _ x} h u hu=>by
  obtain ⟨b⟩:=x
  cases b with
  | false=>rw [show _=[Value.nilIface] from h] at hu;simp at hu;subst hu;rfl
  | true=>obtain ⟨t,v,h⟩:=h;rw [h] at hu;simp at hu;subst hu;rfl
 one:=λ_=>rfl
section ops
variable {c:Ctx} {ty:TypeId} {pos:String} {af:Array Edge} {g:Option (Nat × Bool)} {σ:St} {d:Option Nat}
theorem zv9 {S:Frz} {v:Value} {x:Er} (h:(isv x).p S v):(x.bad=false/\v=.nilIface) \/ (x.bad=true/\∃ t u,v=.iface t u):=by
 have h2:=(zeB h rfl).2
 obtain ⟨b⟩:=x
 cases b with
 | false =>
  have h3:[v]=[Value.nilIface]:=h2
  exact .inl ⟨rfl,by simpa using h3⟩
 | true =>
  obtain ⟨t,u,h3⟩:∃ t u,[v]=[Value.iface t u]:=h2
  exact .inr ⟨rfl,t,u,by simpa using h3⟩
theorem zuj {x:Operand} {y:Er} {T U:TypeId} (ht:c.P.underlying T=some (.interface (c.P.methodsAt T))) (hx:opnd σ.Γ x=some (isv y)):OpV c ⟨d,.binOp .neq T x (.const .nilIface) U,ty,pos,af,g⟩ σ (isv y.bad):=λS a w m=>by
 rcases zv9 (zk m hx) with ⟨h1,h2⟩ | ⟨h1,t,u,h2⟩
 ·refine ⟨.bool false,zbE.2 (by rw [h1]),λw' _=>?_⟩
  have e:=run_equal_nil_nil (P:=c.P) w' T ht
  have hc:a.eval (.const .nilIface)=.nilIface:=rfl
  simp [execOp,binOp,eqGuard,h2,hc,e]
 ·refine ⟨.bool true,zbE.2 (by rw [h1]),λw' _=>?_⟩
  have e:=run_equal_held_nil (P:=c.P) w' T t u ht
  have hc:a.eval (.const .nilIface)=.nilIface:=rfl
  simp [execOp,binOp,eqGuard,h2,hc,e]
end ops
end Go.Sy


namespace Go.Sy
section val
variable (a n r:Int) (b:List UInt8) (l:List Val) (m:List Raw)
@[simp] theorem Val.kind_mk:(Val.mk a n b l r m).kind=a:=rfl
@[simp] theorem Val.n_mk:(Val.mk a n b l r m).n=n:=rfl
@[simp] theorem Val.b_mk:(Val.mk a n b l r m).b=b:=rfl
@[simp] theorem Val.l_mk:(Val.mk a n b l r m).l=l:=rfl
@[simp] theorem Val.rule_mk:(Val.mk a n b l r m).rule=r:=rfl
@[simp] theorem Val.more_mk:(Val.mk a n b l r m).more=m:=rfl
end val
section cut
variable {c:Ctx} {ty:TypeId} {pos:String} {af:Array Edge} {g:Option (Nat × Bool)} {σ:St} {d:Option Nat}
theorem zvC {S:Frz}:(isv (Er.mk false)).p S .nilIface:=zeN rfl rfl
theorem zkK:OpV c ⟨d,.assign (.const .nilIface),ty,pos,af,g⟩ σ (isv (Er.mk false)):=λS a w m =>
 ⟨.nilIface,zvC,λw' _=>by simp [execOp];rfl⟩
theorem zqP {α:Type} [Rep α] {x:α} {cs:List Value} (ha:Rep.agg α=true) (hz:Zr cs x) (S:Frz) (v:Value) (h:(aggv cs.toArray).p S v):(isv x).p S v:=by
 obtain rfl:=h
 exact zhV ha (by simpa using hz S)
theorem zsU {α β:Type} [Rep α] [Rep β] {b:Nat} {L:Fld α β} {y:α} {x:Operand} {T:TypeId} {o:Obj} (ht:TyB c.P T (Rep.n PtrB) (Rep.agg PtrB)=true) (hx:opnd σ.Γ x=some (immv (PtrB.mk b))) {i:Nat} (hi:look σ.Γ i=some (pinv o b L y)) :
    OpV c ⟨d,.load T x,ty,pos,af,g⟩ σ (pinv o b (Fld.id α) y):=λS a w m=>by
  obtain ⟨v,h1,h2⟩:=zbb (α:=α) (d:=d) (ty:=ty) (pos:=pos) (af:=af) (g:=g) ht hx S a w m
  obtain ⟨u,_,_,h3⟩:=m.env _ _ hi
  exact ⟨v,⟨h1,h3⟩,h2⟩
theorem zsH (a:Addr):a.add 0=a:=by unfold Addr.add;simp
theorem zuo {α:Type} [Rep α] {x o:Operand} {t:Vt} {n:Nat} {l:List α} {k:Int} {T:Nat} {Hr:List Ent} (hx:opnd σ.Γ x=some (vecv t n)) (hT:SlB c.P T (Rep.n α) (Rep.agg α)=true) (hp:Pick (vecE t l) σ.H Hr) (he:n=l.length)
    (ho:opnd σ.Γ o=some (isv k)) (hk:0 <= k) (hq:k <= (l.length:Int)):OpV c ⟨d,.slice T x none (some o) none,ty,pos,af,g⟩ σ (vecv t (l.take k.toNat).length):=λS a w m=>by
  obtain ⟨hn,h1⟩:=zk m hx
  obtain ⟨h5,_⟩:=zax.1 (zk m ho)
  obtain ⟨e,hu,hte⟩:=SlB.spec hT
  have hlen:(l.take k.toNat).length=k.toNat:=by rw [zLt];omega
  have hs:=m.owns.sat _ ((hp.perm).mem_iff.2 (zMs ..))
  rw [hlen]
  cases t with
  | none =>
    obtain ⟨h1,h2⟩:=h1
    have hk0:k=0:=by omega
    subst hk0
    refine ⟨.slice none 0 0,⟨by simp,rfl,rfl⟩,λw' _=>?_⟩
    have e2:(Instr.sliceBound (a.eval o) 0 .sliceAcap).run c.P w'=.ok 0 w':=by rw [h5];exact zdU (by omega) (by omega)
    simp [execOp,h1,Instr.sliceAt,Instr.slice,Instr.sliceBounds,underlying,hu,TyB.size hte,e2]
  | some t =>
    obtain ⟨b,cap⟩:=t
    obtain ⟨ob,_,_,cs,T',_,_,hc,_⟩:=hs
    have hc:l.length <= cap:=hc
    simp only at h1
    refine ⟨.slice (some ⟨b,0,none⟩) k.toNat cap,⟨by omega,rfl⟩,λw' _=>?_⟩
    have e2:(Instr.sliceBound (a.eval o) cap .sliceAcap).run c.P w'=.ok k.toNat w':=by rw [h5];exact zdU (by omega) (by omega)
    simp [execOp,h1,Instr.sliceAt,Instr.slice,Instr.sliceBounds,underlying,hu,TyB.size hte,e2,zsH]
theorem zp1 {α:Type} [Rep α] {Γ:Slots} {H Hr:List Ent} {t:Vt} {l:List α} (k:Nat) (hp:Pick (vecE t l) H Hr):Upd c ⟨Γ,H⟩ ⟨Γ,vecE t (l.take k) :: Hr⟩:=(zhF hp).trans λS a w m =>
 ⟨S, S.le_refl,m.ent rfl λhs=>by
  unfold Ent.sat vecE at *
  cases t with
  | none=>trivial
  | some t =>
   obtain ⟨b,cap⟩:=t
   obtain ⟨o,h1,h2,cs,T,h3,h4,h5,h6⟩:=hs
   refine ⟨o,h1,h2,cs,T,h3,h4,by rw [zLt];omega,?_⟩
   have:=zhW (r:=Rep.rd S) (λ_ _ h=>Rep.len h) k h6
   rw [List.take_take] at this
   rw [zLt]
   rcases Nat.le_total k l.length with hk | hk
   ·rw [Nat.min_eq_left hk]
    rwa [Nat.min_eq_left (Nat.mul_le_mul_right _ hk)] at this
   ·rw [Nat.min_eq_right hk]
    rwa [Nat.min_eq_right (Nat.mul_le_mul_right _ hk)] at this⟩
theorem zle {Γ:Slots} {H:List Ent} {α:Type} [Rep α] {T:TypeId} {len:Nat} {parts:Array (Nat × Operand)} {l:List α} {dd:Nat} {K:St->Prop} (hT:elB c.P T (Rep.n α)=true) (he:Elems Γ 0 parts.toList l) (hl:l.length=len) (hmax:(Nat.ble (len * Rep.n α) 16777216 && Nat.ble len 16777216)=true)
    (k:∀ t,K ⟨(dd,vecv t l.length) :: Γ,vecE t l :: H⟩) (hd:Nat.blt dd c.n=true:=by rfl):OpT c ⟨some dd,.buildSlice T len parts,ty,pos,af,g⟩ ⟨Γ,H⟩ K:=by
  intro S a w next Q m hn
  obtain ⟨e,i,z,hu,hi,hsz,hby,hz,hzn⟩:=(ElB.of hT).sl
  rw [zBa] at hmax
  have hmax':=Nat.le_of_ble_eq_true hmax.1
  have hmax2:=Nat.le_of_ble_eq_true hmax.2
  subst hl
  obtain ⟨out,cs,h1,h2,h3,h4⟩:=he.fill m (cells:=(Array.range (l.length * Rep.n α)).map (z.cells[· % z.cells.size]!)) (pre:=[]) (by simp) (by simp)
  rw [List.nil_append] at h2
  have hrun:(execOp a.eval ⟨some dd,.buildSlice T l.length parts,ty,pos,af,g⟩).run c.P w=.ok (.value (.slice (some ⟨w.heap.size,0,none⟩) l.length l.length)) { w with heap:=w.heap.push (.cells out e (0,0)) }:=by
    have e1:(parts.map λx=>match x with | (i,x)=>(i,a.eval x)).toList=parts.toList.map λp=>(p.1,a.eval p.2):=by cases parts;simp
    have hnb:¬ 2 ^ 24 < l.length * Rep.n α:=by omega
    by_cases h0:l.length * Rep.n α=0
    · have hz0:(Array.range 0).map (z.cells[· % z.cells.size]!)=#[]:=by simp
      rw [h0,hz0] at h1
      simp only [execOp,Instr.buildSlice,underlying,run_program,Sem.run_bind,hu,Sem.run_pure,Result.andThen_ok,sizeOf,typeInfo,hi,hsz,h0,e1]
      rw [if_neg (by omega)]
      have hz2:(Array.map (λ_=>(default:Value)) (Array.range 0))=#[]:=by simp
      simp [hz2,h1,newRow,newObj,Sem.run]
    · simp only [execOp,Instr.buildSlice,underlying,run_program,Sem.run_bind,hu,Sem.run_pure,Result.andThen_ok,sizeOf,typeInfo,hi,hsz,Sem.run_ite,gt_iff_lt,hnb,if_false,h0,e1]
      simp [zeroValue,typeInfo,hi,hz,h1,newRow,newObj,Sem.run]
  unfold Oper.wp
  rw [hrun]
  have hst:=zhH (w:=w) m.sub (.cells out e (0,0))
  have m1:=m.step (Hc:=[]) (H':=[vecE (some (w.heap.size,l.length)) l]) .nil hst
    (zeg ⟨.cells out e (0,0),by simp,zf8 m.sub,out,e,rfl,by rw [<- Array.length_toList,h2,h3],zNl _,by
      rw [h2,<- h3,List.take_length];exact h4⟩ λb hb=>by
        have hb:some w.heap.size=some b:=hb
        cases hb;exact .inr (zNl _))
  refine hn _ _ _ _ hst.grow.le (k (some (w.heap.size,l.length))) (m1.put hd ⟨?_,rfl⟩)
  have hml:maxList=281474976710656:=rfl
  omega
def appSB (P:Program) (T U:TypeId):Bool :=
  (match P.underlying T with
   | some (.slice e)=>(match P.info? e with
     | some i=>i.size == 1 && Nat.ble i.bytes 1024 && i.bytes != 0 && i.zero.any (·.cells.size == 1)
     | none=>false)
   | _=>false) && (match P.underlying U with | some .string=>true | _=>false)
theorem AppSB.of {P:Program} {T U:TypeId} (h:appSB P T U=true):(∃ e i z,P.underlying T=some (.slice e)/\P.info? e=some i/\i.size=Rep.n UInt8/\i.bytes <= 1024/\i.bytes ≠ 0/\i.zero=some z/\z.cells.size=Rep.n UInt8)/\P.underlying U=some .string:=by
 unfold appSB at h
 simp only [zBa] at h
 obtain ⟨h1,h2⟩:=h
 constructor
 ·split at h1
  ·rename_i e hu
   split at h1
   ·rename_i i hi
    simp only [zBa,beq_iff_eq,bne_iff_ne] at h1
    obtain ⟨z,hz,hz'⟩:=(Option.any_eq_true _ _).1 h1.2
    exact ⟨e,i,z,hu,hi,h1.1.1.1,Nat.le_of_ble_eq_true h1.1.1.2,h1.1.2,hz,(by simpa using hz':z.cells.size=1)⟩
   ·cases h1
  ·cases h1
 ·split at h2
  ·rename_i hu;exact hu
  ·cases h2
theorem zrs {P:Program} (s:Str) (w:World):(Builtin.firstCells (Rep.n UInt8) s.b.length (.string s.ba)).run P w=.ok (s.b.map λx=>Value.int .u8 (x.toNat:Int)).toArray w:=by
 have h:(s.ba.extract 0 s.b.length)=s.ba:=by
  have:=zjo s 0 s.b.length
  rw [List.take_length,List.drop_zero] at this
  exact this
 simp [Builtin.firstCells,h,Str.ba]
theorem zmz {P:Program} {T U e:TypeId} {i:TypeInfo} {z:Value} {p:Option Addr} {s:ByteArray} {ln mn cap n:Nat} {ty:TypeId} {cl cm:Array Value} {w:World}
    (hu:P.underlying T=some (.slice e)) (hu':P.underlying U=some .string) (hsn:s.size=mn) (hi:P.info? e=some i) (hsz:i.size=n) (hz:i.zero=some z) (hby0:i.bytes ≠ 0)
    (hneed:¬ ln + mn <= cap) (hbig:¬ 2 ^ 48 < Builtin.nextslicecap (ln + mn) cap * i.bytes)
    (h1:(Builtin.firstCells n ln (.slice p ln cap)).run P { w with drawn:=w.drawn + 1 }=.ok cl { w with drawn:=w.drawn + 1 })
    (h2:(Builtin.firstCells n mn (.string s)).run P { w with drawn:=w.drawn + 1 }=.ok cm { w with drawn:=w.drawn + 1 }) :
    (Builtin.append_ #[T,U] ty #[.slice p ln cap,.string s]).run P w =
      .ok (.slice (some ⟨w.heap.size,0,none⟩) (ln + mn) ((Question.appendCap (ln + mn) cap e).cut (w.tape w.drawn (.appendCap (ln + mn) cap e))))
        { w with drawn:=w.drawn + 1,heap:=w.heap.push (.cells (cl ++ cm ++ Builtin.zeroCells z.cells ((Question.appendCap (ln + mn) cap e).cut (w.tape w.drawn (.appendCap (ln + mn) cap e)) - (ln + mn))) e (0,0)) }:=by
  have hroom:∀ (k:Nat) (w:World),(askRoom k).run P w=.ok () w:=λk w=>by unfold askRoom;split <;> rfl
  have hch:(choose (.appendCap (ln + mn) cap e)).run P w=.ok ((Question.appendCap (ln + mn) cap e).cut (w.tape w.drawn (.appendCap (ln + mn) cap e))) { w with drawn:=w.drawn + 1 }:=by
    simp [choose,Sem.run,Question.forced]
  generalize (Question.appendCap (ln + mn) cap e).cut (w.tape w.drawn (.appendCap (ln + mn) cap e))=nc at *
  have hu1:∀ w:World,(underlying T).run P w=.ok (.slice e) w:=λw=>by simp [underlying,hu]
  have hu2:∀ w:World,(underlying U).run P w=.ok .string w:=λw=>by simp [underlying,hu']
  have hs1:∀ w:World,(sizeOf e).run P w=.ok n w:=λw=>by simp [sizeOf,typeInfo,hi,hsz]
  have ht1:∀ w:World,(typeInfo e).run P w=.ok i w:=λw=>by simp [typeInfo,hi]
  have hz1:∀ w:World,(zeroValue e).run P w=.ok z w:=λw=>by simp [zeroValue,typeInfo,hi,hz]
  have hl:∀ w:World,(Builtin.lenOf (.string s)).run P w=.ok mn w:=λw=>by subst hsn;rfl
  have hnr:∀ (cs:Array Value) (w:World),(newRow e cs).run P w=.ok ⟨w.heap.size,0,none⟩ { w with heap:=w.heap.push (.cells cs e (0,0)) }:=λcs w=>by simp [newRow,newObj,Sem.run]
  unfold Builtin.append_
  simp only [List.getElem?_toArray,List.getElem?_cons_zero,List.getElem?_cons_succ,Sem.run_bind,hu1,hu2,hs1,Result.andThen_ok,Sem.run_pure,hl,Bool.false_eq_true,if_false,Sem.run_ite,hneed,ht1,gt_iff_lt,hbig,hch,hroom,h1,h2,hz1,hnr,Bool.not_false,if_true]
  rw [if_neg (λh=>by rcases h.2 with h | h;exact h;exact hby0 h)]
theorem zum {Γ:Slots} {H:List Ent} {x y:Operand} {t:Vt} {n:Nat} {l:List UInt8} {s:Str} {T U:TypeId} {dd:Nat} {K:St->Prop} {Hr:List Ent} (hT:appSB c.P T U=true)
    (hx:opnd Γ x=some (vecv t n)) (hy:opnd Γ y=some (isv s)) (hp:Pick (vecE t l) H Hr) (hnl:n <= l.length)
    (hb:Nat.ble (n + s.b.length) 68719476736=true)
    (k:∀ t',K ⟨(dd,vecv t' (l.take n ++ s.b).length) :: Γ,vecE t' (l.take n ++ s.b) :: Hr⟩) (hd:Nat.blt dd c.n=true:=by rfl) :
    OpT c ⟨some dd,.call ⟨.builtin .append,#[x,y],#[T,U]⟩,ty,pos,af,g⟩ ⟨Γ,H⟩ K:=by
  intro S a w next Q mm hn
  replace hb:=Nat.le_of_ble_eq_true hb
  have hll:(l.take n ++ s.b).length=n + s.b.length:=by rw [zLa,zLt];omega
  obtain ⟨⟨e,i,z,hu,hi,hsz,hby,hby0,hz,hzn⟩,hu'⟩:=AppSB.of hT
  obtain ⟨hnm,htk⟩:=zk mm hx
  have ev':a.eval y=.string s.ba:=(zdr.1 (zk mm hy)).1
  obtain ⟨cm,hcme⟩:∃ cm,cm=s.b.map λx=>Value.int .u8 (x.toNat:Int):=⟨_,rfl⟩
  have hcm1:cm.length=s.b.length * Rep.n UInt8:=by rw [hcme,List.length_map];exact (Nat.mul_one _).symm
  have hcm2:rdL (Rep.rd S) s.b cm:=by rw [hcme];exact znt _
  have hcm4:∀ w',(Builtin.firstCells (Rep.n UInt8) s.b.length (a.eval y)).run c.P w'=.ok cm.toArray w':=λw'=>by rw [ev',hcme];exact zrs s w'
  have hcmo:∀ v ∈ cm,v.oneCell'=true:=ziO (λ_ _ h=>Rep.cell h) hcm2
  have hml:maxList=281474976710656:=rfl
  have hs:(vecE t l).sat S w:=mm.owns.get hp
  have hrun:∀ w',(execOp a.eval ⟨some dd,.call ⟨.builtin .append,#[x,y],#[T,U]⟩,ty,pos,af,g⟩).run c.P w' =
      ((Builtin.append_ #[T,U] ty #[a.eval x,a.eval y]).run c.P w').andThen λv w'=>.ok (.value v) w':=by
    intro w'
    simp [execOp,resolve,invoke,builtin]
  unfold Oper.wp
  rw [hrun]
  -- a new block
  have grown:∀ (p:Option Addr) (cap:Nat) (cl:List Value),a.eval x=.slice p n cap->¬ n + s.b.length <= cap->cl.length=n * Rep.n UInt8->rdL (Rep.rd S) (l.take n) cl->(∀ v ∈ cl,v.oneCell'=true) ->
      ((Builtin.firstCells (Rep.n UInt8) n (.slice p n cap)).run c.P { w with drawn:=w.drawn + 1 }=.ok cl.toArray { w with drawn:=w.drawn + 1 }) ->
      (∃ v w',(Builtin.append_ #[T,U] ty #[a.eval x,a.eval y]).run c.P w=.ok v w'/\next (a.put (some dd) v) w'):=by
    intro p cap cl ev hneed hcl1 hcl2 _ hf1
    have hgrow:=zhq (need:=n + s.b.length) (cap:=cap) (by omega)
    have hbig:¬ 281474976710656 < Builtin.nextslicecap (n + s.b.length) cap * i.bytes:=by
      have h1:Builtin.nextslicecap (n + s.b.length) cap * i.bytes <= (2 * (n + s.b.length) + 1024) * 1024:=Nat.mul_le_mul hgrow hby
      omega
    let q0:Question:=.appendCap (n + s.b.length) cap e
    let nc:=q0.cut (w.tape w.drawn q0)
    have hnc:n + s.b.length <= nc:=Nat.le_add_right _ _
    let w1:World:={ w with drawn:=w.drawn + 1 }
    have hs1:S.sub w1:=mm.sub
    have hrun2:(Builtin.append_ #[T,U] ty #[a.eval x,a.eval y]).run c.P w=.ok (.slice (some ⟨w.heap.size,0,none⟩) (n + s.b.length) nc) { w1 with heap:=w.heap.push (.cells (cl.toArray ++ cm.toArray ++ Builtin.zeroCells z.cells (nc - (n + s.b.length))) e (0,0)) }:=by
      have hf2:=hcm4 w1
      rw [ev'] at hf2
      rw [ev,ev']
      exact zmz hu hu' (Str.ba_size s) hi hsz hz hby0 hneed (by simpa using hbig) hf1 hf2
    have hzs:(Builtin.zeroCells z.cells (nc - (n + s.b.length))).size=(nc - (n + s.b.length)) * z.cells.size:=by simp [Builtin.zeroCells]
    have hsp:=zhH (w:=w1) hs1 (.cells (cl.toArray ++ cm.toArray ++ Builtin.zeroCells z.cells (nc - (n + s.b.length))) e (0,0))
    have hstep':Step (keys [vecE t l]) S S w { w1 with heap:=w.heap.push (.cells (cl.toArray ++ cm.toArray ++ Builtin.zeroCells z.cells (nc - (n + s.b.length))) e (0,0)) } :=
      ⟨⟨rfl,rfl,rfl,hsp.keep.size,λk hk _=>hsp.keep.block k hk (by simp)⟩,Grow.refl _ _ _,hsp.sub⟩
    have hlc:(cl ++ cm).length=(n + s.b.length) * Rep.n UInt8:=by rw [zLa,hcl1,hcm1,Nat.add_mul]
    have m1:=mm.step (H':=[vecE (some (w.heap.size,nc)) (l.take n ++ s.b)]) (Takes.cons hp .nil) hstep'
      (zeg ⟨.cells (cl.toArray ++ cm.toArray ++ Builtin.zeroCells z.cells (nc - (n + s.b.length))) e (0,0),by simp,zf8 mm.sub,_,e,rfl,by
        rw [Array.size_append,Array.size_append,List.size_toArray,List.size_toArray,hzs,hzn,<- zLa,hlc,<- Nat.add_mul]
        congr 1;omega,by rw [hll];exact hnc,by
        rw [hll,<- hlc]
        simp only [Array.toList_append,List.toList_toArray]
        rw [List.take_left' rfl]
        exact zf2 hcl2 hcm2⟩ λb' hb'=>by simp [vecE] at hb';subst hb';exact .inr (zNl _))
    exact ⟨_,_,hrun2,hn _ _ _ _ (Frz.le_refl _) (k (some (w.heap.size,nc))) (m1.put hd ⟨by rw [hll];omega,by rw [hll]⟩)⟩
  have fin : (∃ v w',(Builtin.append_ #[T,U] ty #[a.eval x,a.eval y]).run c.P w=.ok v w'/\next (a.put (some dd) v) w'):=by
    cases t with
    | none =>
      obtain ⟨ev,rfl⟩:=htk
      by_cases hneed:0 + s.b.length <= 0
      · have hm0:s.b=[]:=by cases hsb:s.b with | nil=>rfl | cons _ _=>rw [hsb] at hneed;exact absurd hneed (by simp)
        refine ⟨.slice none 0 0,w,?_,?_⟩
        · have hf:=hcm4 w
          have hcm0:cm=[]:=List.length_eq_zero_iff.1 (by rw [hcm1,hm0];simp)
          rw [hcm0,ev',hm0] at hf
          simp only [zLn] at hf
          simp [Builtin.append_,underlying,hu,hu',ev,ev',sizeOf,typeInfo,hi,hsz,Builtin.lenOf,Str.ba_size,hm0,hf]
        · have m1:=mm.step (H':=[vecE none (l.take 0 ++ ([]:List UInt8))]) (Takes.cons hp .nil) (S':=S) (w':=w) ⟨Keep.refl _ _,Grow.refl _ _ _,mm.sub⟩
            ⟨λx hx=>by simp at hx;subst hx;trivial,by simp [keys,vecE],λb hb=>by simp [keys,vecE] at hb⟩
          have k':=k none
          rw [hm0] at k'
          exact hn _ _ _ _ (Frz.le_refl _) k' (m1.put hd ⟨by simp,rfl,by simp⟩)
      · refine grown none 0 [] ev hneed (by simp) (by simp [rdL]) (by simp) (by simp [Builtin.firstCells])
    | some t =>
      obtain ⟨b,cap⟩:=t
      simp only at htk
      obtain ⟨o,ho,hnone,cs,T0,e1,hcsz,hlc,hr⟩:=hs
      subst e1
      have hle:n * Rep.n UInt8 <= l.length * Rep.n UInt8:=Nat.mul_le_mul_right _ hnl
      have hle2:l.length * Rep.n UInt8 <= cap * Rep.n UInt8:=Nat.mul_le_mul_right _ hlc
      have htk2:(cs.toList.take (l.length * Rep.n UInt8)).take (n * Rep.n UInt8)=cs.toList.take (n * Rep.n UInt8):=by rw [List.take_take,Nat.min_eq_left hle]
      have hrn:rdL (Rep.rd S) (l.take n) (cs.toList.take (n * Rep.n UInt8)):=by rw [<- htk2];exact zhW (λ_ _ h=>Rep.len h) n hr
      have hcln:(cs.toList.take (n * Rep.n UInt8)).length=n * Rep.n UInt8:=by
        have:cs.toList.length=cs.size:=by simp
        rw [zLt];omega
      by_cases hneed:n + s.b.length <= cap
      · have hfit:n * Rep.n UInt8 + cm.length <= cs.size:=by
          have h2:(n + s.b.length) * Rep.n UInt8 <= cap * Rep.n UInt8:=Nat.mul_le_mul_right _ hneed
          rw [Nat.add_mul] at h2
          rw [hcm1];omega
        have hst:=run_storeCells_at (P:=c.P) b (n * Rep.n UInt8) T0 cm 0 cs w ho (by omega) hcmo
        have hadd:(⟨b,0,none⟩:Addr).add (n * Rep.n UInt8)=⟨b,n * Rep.n UInt8,none⟩:=by rw [zc2,Nat.zero_add]
        have hrun2:(Builtin.append_ #[T,U] ty #[a.eval x,a.eval y]).run c.P w=.ok (.slice (some ⟨b,0,none⟩) (n + s.b.length) cap) (w.setRow b (cs.toList.take (n * Rep.n UInt8 + 0) ++ cm ++ cs.toList.drop (n * Rep.n UInt8 + 0 + cm.length)).toArray):=by
          have hf:=hcm4 w
          rw [ev'] at hf
          simp [Builtin.append_,underlying,hu,hu',htk,ev',sizeOf,typeInfo,hi,hsz,Builtin.lenOf,Str.ba_size,hf,hneed,hadd,hst]
        obtain ⟨hstep,hh⟩:=zif (cs:=(cs.toList.take (n * Rep.n UInt8 + 0) ++ cm ++ cs.toList.drop (n * Rep.n UInt8 + 0 + cm.length)).toArray) mm.sub hnone ho
        have m1:=mm.step (Hc:=[vecE (some (b,cap)) l]) (H':=[vecE (some (b,cap)) (l.take n ++ s.b)]) (Takes.cons hp .nil) hstep
          (zeg ⟨_,hh,hnone,_,_,rfl,by
            have hcl:cs.toList.length=cs.size:=by simp
            simp only [List.size_toArray,zLa,zLt,zLd,hcl]
            omega,by rw [hll];exact hneed,by
            rw [hll,Nat.add_mul,<- hcm1,Nat.add_zero]
            simp only
            have:(cs.toList.take (n * Rep.n UInt8) ++ cm ++ cs.toList.drop (n * Rep.n UInt8 + cm.length)).take (n * Rep.n UInt8 + cm.length)=cs.toList.take (n * Rep.n UInt8) ++ cm:=List.take_left' (by rw [zLa,hcln])
            rw [this]
            exact zf2 hrn hcm2⟩ λb' hb=>by simp [vecE] at hb;subst hb;exact .inl (by simp [keys,vecE]))
        exact ⟨_,_,hrun2,hn _ _ _ _ (Frz.le_refl _) (k (some (b,cap))) (m1.put hd ⟨by rw [hll];omega,by rw [hll]⟩)⟩
      · refine grown (some ⟨b,0,none⟩) cap (cs.toList.take (n * Rep.n UInt8)) htk hneed hcln hrn (λv hv=>ziO (λ_ _ h=>Rep.cell h) hrn v hv) ?_
        have:=run_loadCells_list (P:=c.P) { w with drawn:=w.drawn + 1 } ⟨b,0,none⟩ (cs.toList.take (n * Rep.n UInt8)) (λj u hj=>by
          rw [zc2]
          unfold World.cell?
          show (match w.heap[b]? with | _=>_)=_
          rw [ho]
          simp only
          rw [List.getElem?_take] at hj
          split at hj
          · simpa using hj
          · cases hj)
        rw [hcln] at this
        simpa [Builtin.firstCells] using this
  obtain ⟨v,w',h1,h2⟩:=fin
  rw [h1]
  exact h2
theorem zuY {Γ:Slots} {H:List Ent} {x y:Operand} {t:Vt} {n:Nat} {l:List UInt8} {s:Str} {T U:TypeId} {dd:Nat} {K:St->Prop} {Hr:List Ent} (hT:appSB c.P T U=true)
    (hx:opnd Γ x=some (vecv t n)) (hy:opnd Γ y=some (isv s)) (hp:Pick (vecE t l) H Hr) (hnl:n=l.length)
    (hb:Nat.ble (l.length + s.b.length) 68719476736=true)
    (k:∀ t',K ⟨(dd,vecv t' (l ++ s.b).length) :: Γ,vecE t' (l ++ s.b) :: Hr⟩) (hd:Nat.blt dd c.n=true:=by rfl) :
    OpT c ⟨some dd,.call ⟨.builtin .append,#[x,y],#[T,U]⟩,ty,pos,af,g⟩ ⟨Γ,H⟩ K:=by
  subst hnl
  exact zum hT hx hy hp (zNl _) hb (λt'=>by rw [List.take_length];exact k t') hd
theorem zsf {x i:Operand} {s:Str} {k:UInt8} (y:UInt8) {T:Nat} (hT:StrB c.P T=true) (hx:opnd σ.Γ x=some (isv s)) (hi:opnd σ.Γ i=some (isv k))
    (hy:getI s.b (k.toNat:Int)=some y):OpV c ⟨d,.index T x i,ty,pos,af,g⟩ σ (isv y):=λS a w m=>by
  obtain ⟨h1,h2⟩:=zdr.1 (zk m hx)
  have h5:=zb4.1 (zk m hi)
  obtain ⟨hk,hy⟩:=znv hy
  refine ⟨.int .u8 y.toNat,zb4.2 rfl,λw' _=>?_⟩
  have h3:s.ba[k.toNat]?=some y:=by
    rw [Int.toNat_natCast] at hy
    have hlt:=(List.getElem?_eq_some_iff.1 hy).1
    have hlt2:k.toNat < s.ba.size:=by rw [Str.ba_size];exact hlt
    rw [getElem?_pos s.ba k.toNat hlt2]
    have:s.ba[k.toNat]=s.b[k.toNat]:=rfl
    rw [this];exact congrArg some (List.getElem?_eq_some_iff.1 hy).2
  simp [execOp,h1,h5,Instr.index,asIntOf,underlying,StrB.spec hT,h3]
end cut
end Go.Sy


namespace Go.Proofs.Q
open Go.Sy
def zeh (n b:Int):Option Str:=bif decide (b=10) && Nat.ble (Lib.itoa n).length 100 then some ⟨Lib.itoa n⟩ else none
def strings_ReplaceAll (s o n:Str):Option Str:=bif Nat.ble s.b.length 1000000 && Nat.ble 1 o.b.length && Nat.ble (s.b.length + Lib.count s.b o.b * n.b.length) 140737488355328 && Nat.ble (Lib.replaceAll s.b o.b n.b).length 4294967296 then some ⟨Lib.replaceAll s.b o.b n.b⟩ else none
end Go.Proofs.Q


namespace Go.Proofs.Q
open Go.Sy
def zbj (s:Str) (b z:Int):Option (Int × Er):=bif decide (b=10) && decide (z=64) && Nat.ble s.b.length 281474976710656 then (match Lib.parseIntB 64 s.b with
 | .ok v=>some (v,⟨false⟩)
 | .range=>some (Lib.intSat 64 s.b,⟨true⟩)
 | _=>some (0,⟨true⟩)) else none
theorem sat64 (l:List UInt8):inI64 (Lib.intSat 64 l):=by
 unfold Lib.intSat
 split <;> exact zlc (by decide) (by decide)
theorem zuf {l:List UInt8} {v:Int} (h:Lib.parseIntB 64 l=.ok v):inI64 v:=by
 unfold Lib.parseIntB at h
 split at h
 ·cases h
 ·dsimp only at h
  split at h
  ·cases h
  ·cases h
  ·rename_i u _
   split at h
   ·cases h
   ·split at h
    ·cases h
    ·rename_i h1 h2
     injection h with h
     subst h
     split
     ·rename_i h3
      have:¬ 2 ^ 63 < u:=λh4=>h2 ⟨h3,h4⟩
      exact zlc (by omega) (by omega)
     ·rename_i h3
      have:¬ 2 ^ 63 <= u:=λh4=>h1 ⟨h3,h4⟩
      exact zlc (by omega) (by omega)
end Go.Proofs.Q


namespace Go.Proofs.Q
open Go.Sy
def utf8_ValidString (s:Str):Option Bool:=some (Lib.validD s.b)
end Go.Proofs.Q


namespace Go.Proofs.Q
open Go.Sy
set_option maxRecDepth 4000
def zgx (a_s:Str) (a_i:Int):Option (UInt8) :=
 jp (ι:=Bool) (λJ2=>br (decide (a_i < (0:Int))) (J2 (true)) (J2 ((decide ((a_s.b.length:Int) <= a_i))))) (λq1=>br q1 (some ((0:UInt8))) (cal (getI a_s.b a_i) λy4=>some (y4)))

def ziX (a_s:Str) (a_i:Int):Option (Int) :=
 lp (ι:=Int) (λL2 q1=>br (decide (q1 < (a_s.b.length:Int))) (cal (getI a_s.b q1) λy51=>jp (ι:=Bool) (λJ53=>br (decide (y51=(32:UInt8))) (J53 (true)) (cal (getI a_s.b q1) λy55=>J53 ((decide (y55=(9:UInt8)))))) (λq52=>jp (ι:=Bool) (λJ57=>br q52 (J57 (true)) (cal (getI a_s.b q1) λy59=>J57 ((decide (y59=(10:UInt8)))))) (λq56=>jp (ι:=Bool) (λJ61=>br q56 (J61 (true)) (cal (getI a_s.b q1) λy63=>J61 ((decide (y63=(13:UInt8)))))) (λq60=>br q60 (ck ((q1 + (1:Int))) <| L2 ((q1 + (1:Int)))) (cal (getI a_s.b q1) λy65=>jp (ι:=Bool) (λJ67=>br (decide (y65=(45:UInt8))) (ck ((q1 + (1:Int))) <| cal (zgx a_s (q1 + (1:Int))) λy70=>J67 ((decide (y70=(45:UInt8))))) (J67 (false))) (λq66=>br q66 (ck ((q1 + (2:Int))) <| lp (ι:=Int) (λL73 q72=>jp (ι:=Bool) (λJ87=>br (decide (q72 < (a_s.b.length:Int))) (cal (getI a_s.b q72) λy89=>J87 ((!decide (y89=(10:UInt8))))) (J87 (false))) (λq86=>br q86 (cal (getI a_s.b q72) λy90=>jp (ι:=Bool) (λJ92=>br (decide (y90=(45:UInt8))) (ck ((q72 + (1:Int))) <| cal (zgx a_s (q72 + (1:Int))) λy95=>J92 ((decide (y95=(45:UInt8))))) (J92 (false))) (λq91=>br q91 (ck ((q72 + (2:Int))) <| L2 ((q72 + (2:Int)))) (ck ((q72 + (1:Int))) <| L73 ((q72 + (1:Int)))))) (L2 (q72)))) (((q1 + (2:Int))))) (some (q1)))))))) (some (q1))) ((a_i))

def zf1 (a_c:UInt8):Option (Bool) :=
 jp (ι:=Bool) (λJ2=>br (decide ((97:UInt8) <= a_c)) (J2 ((decide (a_c <= (122:UInt8))))) (J2 (false))) (λq1=>jp (ι:=Bool) (λJ5=>br q1 (J5 (true)) (jp (ι:=Bool) (λJ8=>br (decide ((65:UInt8) <= a_c)) (J8 ((decide (a_c <= (90:UInt8))))) (J8 (false))) (λq7=>J5 (q7)))) (λq4=>some (q4)))

def zfx (a_c:UInt8):Option (Bool) :=
 jp (ι:=Bool) (λJ2=>br (decide ((48:UInt8) <= a_c)) (J2 ((decide (a_c <= (57:UInt8))))) (J2 (false))) (λq1=>some (q1))

def zj2 (a_s:Str) (a_i:Int):Option (Int) :=
 lp (ι:=Int) (λL2 q1=>jp (ι:=Bool) (λJ30=>br (decide (q1 < (a_s.b.length:Int))) (cal (getI a_s.b q1) λy32=>cal (zf1 y32) λy33=>jp (ι:=Bool) (λJ35=>br y33 (J35 (true)) (cal (getI a_s.b q1) λy37=>cal (zfx y37) λy38=>J35 (y38))) (λq34=>jp (ι:=Bool) (λJ40=>br q34 (J40 (true)) (cal (getI a_s.b q1) λy42=>jp (ι:=Bool) (λJ44=>br (decide (y42=(45:UInt8))) (ck ((q1 + (1:Int))) <| cal (zgx a_s (q1 + (1:Int))) λy47=>J44 ((!decide (y47=(45:UInt8))))) (J44 (false))) (λq43=>J40 (q43)))) (λq39=>J30 (q39)))) (J30 (false))) (λq29=>br q29 (ck ((q1 + (1:Int))) <| L2 ((q1 + (1:Int)))) (ck ((q1 - (1:Int))) <| cal (getI a_s.b (q1 - (1:Int))) λy50=>jp (ι:=Bool) (λJ52=>br (decide (y50=(45:UInt8))) (J52 (true)) (ck ((q1 - a_i)) <| J52 ((decide ((60:Int) < (q1 - a_i)))))) (λq51=>br q51 (some ((-1:Int))) (some (q1)))))) ((a_i))

def zmB :Option ((List Str)) :=
 some (([(Str.mk [68,69,70,73,78,73,84,73,79,78,83]),(Str.mk [69,88,80,76,73,67,73,84]),(Str.mk [73,77,80,76,73,67,73,84]),(Str.mk [65,85,84,79,77,65,84,73,67]),(Str.mk [84,65,71,83]),(Str.mk [66,69,71,73,78]),(Str.mk [69,78,68]),(Str.mk [66,79,79,76,69,65,78]),(Str.mk [73,78,84,69,71,69,82]),(Str.mk [69,78,85,77,69,82,65,84,69,68]),(Str.mk [78,85,76,76]),(Str.mk [79,67,84,69,84]),(Str.mk [83,84,82,73,78,71]),(Str.mk [85,84,70,56,83,116,114,105,110,103]),(Str.mk [83,69,81,85,69,78,67,69]),(Str.mk [83,69,84]),(Str.mk [67,72,79,73,67,69]),(Str.mk [79,70]),(Str.mk [79,80,84,73,79,78,65,76]),(Str.mk [68,69,70,65,85,76,84]),(Str.mk [83,73,90,69]),(Str.mk [77,73,78]),(Str.mk [77,65,88]),(Str.mk [84,82,85,69]),(Str.mk [70,65,76,83,69])]:(List Str)))

def zf9 (a_l:(List Str)) (a_x:Str):Option (Bool) :=
 lp (ι:=Int) (λL2 q1=>br (decide (q1 < (a_l.length:Int))) (cal (getI a_l q1) λy5=>br (decide (y5=a_x)) (some (true)) (ck ((q1 + (1:Int))) <| L2 ((q1 + (1:Int))))) (some (false))) (((0:Int)))

def zkb (a_s:Str):Option (Bool) :=
 cal (zmB ) λy1=>cal (zf9 y1 a_s) λy2=>some (y2)

def zh0 (a_s:Str) (a_i:Int):Option (Int) :=
 cal (getI a_s.b a_i) λy1=>jp (ι:=Int) (λJ3=>br (decide (y1=(45:UInt8))) (ck ((a_i + (1:Int))) <| J3 ((a_i + (1:Int)))) (J3 (a_i))) (λq2=>lp (ι:=Int × UInt64) (λL6 q5=>jp (ι:=Bool) (λJ50=>br (decide (q5.1 < (a_s.b.length:Int))) (cal (getI a_s.b q5.1) λy52=>cal (zfx y52) λy53=>J50 (y53)) (J50 (false))) (λq49=>br q49 (ck ((q5.1 - q2)) <| jp (ι:=UInt64) (λJ56=>br (decide ((q5.1 - q2) < (19:Int))) (cal (getI a_s.b q5.1) λy57=>J56 ((((10:UInt64) * q5.2) + (y57 - (48:UInt8)).toUInt64))) (J56 (q5.2))) (λq55=>ck ((q5.1 + (1:Int))) <| L6 ((q5.1 + (1:Int)),q55))) (ck ((q5.1 - q2)) <| jp (ι:=Bool) (λJ61=>br (decide ((q5.1 - q2) < (1:Int))) (J61 (true)) (J61 ((decide ((19:Int) < (q5.1 - q2)))))) (λq60=>jp (ι:=Bool) (λJ64=>br q60 (J64 (true)) (jp (ι:=Bool) (λJ67=>br (decide ((1:Int) < (q5.1 - q2))) (cal (getI a_s.b q2) λy69=>J67 ((decide (y69=(48:UInt8))))) (J67 (false))) (λq66=>J64 (q66)))) (λq63=>jp (ι:=Bool) (λJ71=>br q63 (J71 (true)) (jp (ι:=Bool) (λJ74=>br (decide (y1=(45:UInt8))) (cal (getI a_s.b q2) λy76=>J74 ((decide (y76=(48:UInt8))))) (J74 (false))) (λq73=>J71 (q73)))) (λq70=>jp (ι:=Bool) (λJ78=>br q70 (J78 (true)) (cal (zgx a_s q5.1) λy80=>cal (zf1 y80) λy81=>J78 (y81))) (λq77=>jp (ι:=Bool) (λJ83=>br q77 (J83 (true)) (J83 ((decide ((9223372036854775808:UInt64) < q5.2))))) (λq82=>jp (ι:=Bool) (λJ86=>br q82 (J86 (true)) (jp (ι:=Bool) (λJ89=>br (!(decide (y1=(45:UInt8)))) (J89 ((decide (q5.2=(9223372036854775808:UInt64))))) (J89 (false))) (λq88=>J86 (q88)))) (λq85=>br q85 (some ((-1:Int))) (some (q5.1))))))))))) ((q2,(0:UInt64))))

def zlV (a_s:Str) (a_i:Int):Option (Int × Str) :=
 ck ((a_i + (1:Int))) <| lp (ι:=Int) (λL3 q2=>jp (ι:=Bool) (λJ32=>br (decide (q2 < (a_s.b.length:Int))) (cal (getI a_s.b q2) λy34=>cal (zfx y34) λy35=>jp (ι:=Bool) (λJ37=>br y35 (J37 (true)) (cal (getI a_s.b q2) λy39=>jp (ι:=Bool) (λJ41=>br (decide ((65:UInt8) <= y39)) (cal (getI a_s.b q2) λy43=>J41 ((decide (y43 <= (70:UInt8))))) (J41 (false))) (λq40=>J37 (q40)))) (λq36=>J32 (q36))) (J32 (false))) (λq31=>br q31 (ck ((q2 + (1:Int))) <| L3 ((q2 + (1:Int)))) (ck ((q2 - (a_i + (1:Int)))) <| asr (!decide ((2:Int)=0)) <| jp (ι:=Bool) (λJ48=>br (!decide (((q2 - (a_i + (1:Int))).tmod (2:Int))=(0:Int))) (J48 (true)) (cal (zgx a_s q2) λy50=>J48 ((!decide (y50=(39:UInt8)))))) (λq47=>jp (ι:=Bool) (λJ52=>br q47 (J52 (true)) (ck ((q2 + (1:Int))) <| cal (zgx a_s (q2 + (1:Int))) λy55=>J52 ((!decide (y55=(72:UInt8)))))) (λq51=>br q51 (some ((-1:Int),(Str.mk []))) (ck ((q2 + (2:Int))) <| asr (decide (0 <= (a_i + (1:Int))/\(a_i + (1:Int)) <= q2/\q2 <= (a_s.b.length:Int))) <| some ((q2 + (2:Int)),(Str.mk ((a_s.b.take (q2).toNat).drop ((a_i + (1:Int))).toNat))))))))) (((a_i + (1:Int))))

def zh1 (a_s:Str) (a_i:Int):Option (Int × Str) :=
 ck ((a_i + (1:Int))) <| lp (ι:=Int × Str) (λL3 q2=>br (decide (q2.1 < (a_s.b.length:Int))) (jp (ι:=Int × Str) (λJ18=>cal (getI a_s.b q2.1) λy19=>br (!decide (y19=(34:UInt8))) (ck ((q2.1 + (1:Int))) <| asr (decide (0 <= q2.1/\q2.1 <= (q2.1 + (1:Int))/\(q2.1 + (1:Int)) <= (a_s.b.length:Int))) <| asr (Nat.ble (q2.2.b.length + (Str.mk ((a_s.b.take ((q2.1 + (1:Int))).toNat).drop (q2.1).toNat)).b.length) 4611686018427387904) <| J18 (q2.1,(Str.mk (q2.2.b ++ (Str.mk ((a_s.b.take ((q2.1 + (1:Int))).toNat).drop (q2.1).toNat)).b)))) (ck ((q2.1 + (1:Int))) <| cal (zgx a_s (q2.1 + (1:Int))) λy24=>br (!decide (y24=(34:UInt8))) (cal (utf8_ValidString q2.2) λy25=>br (!y25) (some ((-1:Int),(Str.mk []))) (ck ((q2.1 + (1:Int))) <| some ((q2.1 + (1:Int)),q2.2))) (asr (Nat.ble (q2.2.b.length + (Str.mk [34]).b.length) 4611686018427387904) <| ck ((q2.1 + (1:Int))) <| J18 ((q2.1 + (1:Int)),(Str.mk (q2.2.b ++ (Str.mk [34]).b)))))) (λq17=>ck ((q17.1 + (1:Int))) <| L3 ((q17.1 + (1:Int)),q17.2))) (some ((-1:Int),(Str.mk [])))) (((a_i + (1:Int)),(Str.mk [])))

def zkc (a_s:Str) (a_i:Int):Option (Int) :=
 asr (decide (0 <= a_i/\a_i <= (a_s.b.length:Int)/\(a_s.b.length:Int) <= (a_s.b.length:Int))) <| lp (ι:=Int) (λL4 q3=>br (decide (q3 < (([(Str.mk [58,58,61]),(Str.mk [46,46,46]),(Str.mk [46,46]),(Str.mk [91,91]),(Str.mk [93,93]),(Str.mk [123]),(Str.mk [125]),(Str.mk [91]),(Str.mk [93]),(Str.mk [40]),(Str.mk [41]),(Str.mk [44]),(Str.mk [58])]:(List Str)).length:Int))) (cal (getI ([(Str.mk [58,58,61]),(Str.mk [46,46,46]),(Str.mk [46,46]),(Str.mk [91,91]),(Str.mk [93,93]),(Str.mk [123]),(Str.mk [125]),(Str.mk [91]),(Str.mk [93]),(Str.mk [40]),(Str.mk [41]),(Str.mk [44]),(Str.mk [58])]:(List Str)) q3) λy12=>jp (ι:=Bool) (λJ14=>br (decide ((y12.b.length:Int) <= ((Str.mk ((a_s.b.take ((a_s.b.length:Int)).toNat).drop (a_i).toNat)).b.length:Int))) (asr (decide (0 <= (0:Int)/\(0:Int) <= (y12.b.length:Int)/\(y12.b.length:Int) <= ((Str.mk ((a_s.b.take ((a_s.b.length:Int)).toNat).drop (a_i).toNat)).b.length:Int))) <| cal (getI ([(Str.mk [58,58,61]),(Str.mk [46,46,46]),(Str.mk [46,46]),(Str.mk [91,91]),(Str.mk [93,93]),(Str.mk [123]),(Str.mk [125]),(Str.mk [91]),(Str.mk [93]),(Str.mk [40]),(Str.mk [41]),(Str.mk [44]),(Str.mk [58])]:(List Str)) q3) λy17=>J14 ((decide ((Str.mk (((Str.mk ((a_s.b.take ((a_s.b.length:Int)).toNat).drop (a_i).toNat)).b.take ((y12.b.length:Int)).toNat).drop (0:Int).toNat))=y17)))) (J14 (false))) (λq13=>br q13 (some ((y12.b.length:Int))) (ck ((q3 + (1:Int))) <| L4 ((q3 + (1:Int)))))) (some ((0:Int)))) (((0:Int)))

def zlZ (a_s:Str) (a_i:Int):Option (GTok × Int) :=
 cal (getI a_s.b a_i) λy3=>jp (ι:=Int × GTok) (λJ5=>cal (zf1 y3) λy6=>br y6 (cal (zj2 a_s a_i) λy7=>br (decide (y7 < (0:Int))) (some ((GTok.mk (0:Int) (Str.mk []) a_i),(-1:Int))) (asr (decide (0 <= a_i/\a_i <= y7/\y7 <= (a_s.b.length:Int))) <| jp (ι:=GTok) (λJ10=>br (decide (y3 <= (90:UInt8))) (J10 ((GTok.mk (1:Int) (Str.mk ((a_s.b.take (y7).toNat).drop (a_i).toNat)) a_i))) (J10 ((GTok.mk (2:Int) (Str.mk ((a_s.b.take (y7).toNat).drop (a_i).toNat)) a_i)))) (λq9=>cal (zkb q9.text) λy11=>br y11 (J5 (y7,{ q9 with kind:=(5:Int) })) (J5 (y7,q9))))) (cal (zfx y3) λy12=>jp (ι:=Bool) (λJ14=>br y12 (J14 (true)) (jp (ι:=Bool) (λJ17=>br (decide (y3=(45:UInt8))) (ck ((a_i + (1:Int))) <| cal (zgx a_s (a_i + (1:Int))) λy20=>cal (zfx y20) λy21=>J17 (y21)) (J17 (false))) (λq16=>J14 (q16)))) (λq13=>br q13 (cal (zh0 a_s a_i) λy22=>br (decide (y22 < (0:Int))) (some ((GTok.mk (0:Int) (Str.mk []) a_i),(-1:Int))) (asr (decide (0 <= a_i/\a_i <= y22/\y22 <= (a_s.b.length:Int))) <| J5 (y22,(GTok.mk (3:Int) (Str.mk ((a_s.b.take (y22).toNat).drop (a_i).toNat)) a_i)))) (br (decide (y3=(39:UInt8))) (cal (zlV a_s a_i) λy24=>J5 (y24.1,(GTok.mk (4:Int) y24.2 a_i))) (br (decide (y3=(34:UInt8))) (cal (zh1 a_s a_i) λy25=>J5 (y25.1,(GTok.mk (7:Int) y25.2 a_i))) (cal (zkc a_s a_i) λy26=>br (decide ((0:Int) < y26)) (ck ((a_i + y26)) <| asr (decide (0 <= a_i/\a_i <= (a_i + y26)/\(a_i + y26) <= (a_s.b.length:Int))) <| ck ((a_i + y26)) <| J5 ((a_i + y26),(GTok.mk (6:Int) (Str.mk ((a_s.b.take ((a_i + y26)).toNat).drop (a_i).toNat)) a_i))) (J5 ((-1:Int),(GTok.mk (0:Int) (Str.mk []) a_i))))))))) (λq4=>some (q4.2,q4.1))

def zg0 (zaV:Str):Option ((List GTok) × Int × Int) :=
 br (decide ((8000:Int) < (zaV.b.length:Int))) (some (([]:(List GTok)),(0:Int),(5:Int))) (lp (ι:=(List GTok) × Int) (λL2 q1=>cal (ziX zaV q1.2) λy12=>br (decide ((zaV.b.length:Int) <= y12)) (asr (Nat.ble (q1.1.length + ([(GTok.mk (0:Int) (Str.mk []) (zaV.b.length:Int))]:(List GTok)).length) 68719476736) <| some ((q1.1 ++ ([(GTok.mk (0:Int) (Str.mk []) (zaV.b.length:Int))]:(List GTok))),(0:Int),(0:Int))) (cal (zlZ zaV y12) λy16=>br (decide (y16.2 < (0:Int))) (some (([]:(List GTok)),y12,(6:Int))) (asr (Nat.ble (q1.1.length + ([y16.1]:(List GTok)).length) 68719476736) <| L2 ((q1.1 ++ ([y16.1]:(List GTok))),y16.2)))) ((([]:(List GTok)),(0:Int))))

def zaX (a_x:GPar):Option (GTok × GPar) :=
 cal (getI a_x.l a_x.at_) λy7=>some (y7,a_x)

def zbf (a_x:GPar) (a_e:Int) (a_t:GTok):Option (GPar) :=
 br (decide (a_x.e=(0:Int))) (some ((GPar.mk a_x.l a_x.at_ a_x.m a_e a_t.at_))) (some (a_x))

def zb7 (a_x:GPar):Option (GTok × GPar) :=
 cal (getI a_x.l a_x.at_) λy7=>ck ((a_x.at_ + (1:Int))) <| jp (ι:=GPar) (λJ13=>br (decide ((a_x.at_ + (1:Int)) < (a_x.l.length:Int))) (ck ((a_x.at_ + (1:Int))) <| J13 ((GPar.mk a_x.l (a_x.at_ + (1:Int)) a_x.m a_x.e a_x.p))) (J13 (a_x))) (λq12=>some (y7,q12))

def zb6 (a_x:GPar) (a_k:Int):Option (Str × GPar) :=
 cal (zaX a_x) λy4=>jp (ι:=Bool) (λJ9=>br (!decide (y4.2.e=(0:Int))) (J9 (true)) (J9 ((!decide (y4.1.kind=a_k))))) (λq8=>br q8 (cal (zbf y4.2 (7:Int) y4.1) λy11=>some ((Str.mk []),y11)) (cal (zb7 y4.2) λy14=>some (y14.1.text,y14.2)))

def zL (a_x:GPar) (a_s:Str):Option (Bool × GPar) :=
 cal (zaX a_x) λy4=>jp (ι:=Bool) (λJ9=>br (decide (y4.2.e=(0:Int))) (jp (ι:=Bool) (λJ12=>br (decide (y4.1.kind=(5:Int))) (J12 (true)) (J12 ((decide (y4.1.kind=(6:Int)))))) (λq11=>J9 (q11))) (J9 (false))) (λq8=>jp (ι:=Bool) (λJ15=>br q8 (J15 ((decide (y4.1.text=a_s)))) (J15 (false))) (λq14=>br q14 (cal (zb7 y4.2) λy17=>some (true,y17.2)) (some (false,y4.2))))

def zW (a_x:GPar) (a_s:Str):Option (GPar) :=
 jp (ι:=Bool × GPar) (λJ5=>br (decide (a_x.e=(0:Int))) (cal (zL a_x a_s) λy7=>J5 ((!y7.1),y7.2)) (J5 (false,a_x))) (λq4=>br q4.1 (cal (zaX q4.2) λy10=>cal (zbf y10.2 (7:Int) y10.1) λy13=>some (y13)) (some (q4.2)))

def zhT (a_t:GTok):Option (Bool) :=
 lp (ι:=Int) (λL3 q2=>br (decide (q2 < (([(Str.mk [91]),(Str.mk [66,79,79,76,69,65,78]),(Str.mk [78,85,76,76]),(Str.mk [85,84,70,56,83,116,114,105,110,103]),(Str.mk [73,78,84,69,71,69,82]),(Str.mk [79,67,84,69,84]),(Str.mk [69,78,85,77,69,82,65,84,69,68]),(Str.mk [83,69,84]),(Str.mk [67,72,79,73,67,69]),(Str.mk [83,69,81,85,69,78,67,69])]:(List Str)).length:Int))) (cal (getI ([(Str.mk [91]),(Str.mk [66,79,79,76,69,65,78]),(Str.mk [78,85,76,76]),(Str.mk [85,84,70,56,83,116,114,105,110,103]),(Str.mk [73,78,84,69,71,69,82]),(Str.mk [79,67,84,69,84]),(Str.mk [69,78,85,77,69,82,65,84,69,68]),(Str.mk [83,69,84]),(Str.mk [67,72,79,73,67,69]),(Str.mk [83,69,81,85,69,78,67,69])]:(List Str)) q2) λy12=>jp (ι:=Bool) (λJ14=>br (decide (y12=a_t.text)) (jp (ι:=Bool) (λJ17=>br (decide (a_t.kind=(5:Int))) (J17 (true)) (J17 ((decide (a_t.kind=(6:Int)))))) (λq16=>J14 (q16))) (J14 (false))) (λq13=>br q13 (some (true)) (ck ((q2 + (1:Int))) <| L3 ((q2 + (1:Int)))))) (some ((decide (a_t.kind=(1:Int)))))) (((0:Int)))

def zhE (a_s:Str):Option (Int) :=
 cal (getI a_s.b (0:Int)) λy1=>jp (ι:=Str) (λJ3=>br (decide (y1=(45:UInt8))) (asr (decide (0 <= (1:Int)/\(1:Int) <= (a_s.b.length:Int)/\(a_s.b.length:Int) <= (a_s.b.length:Int))) <| J3 ((Str.mk ((a_s.b.take ((a_s.b.length:Int)).toNat).drop ((1:Int)).toNat)))) (J3 (a_s))) (λq2=>lp (ι:=UInt64 × Int) (λL6 q5=>br (decide (q5.2 < (q2.b.length:Int))) (cal (getI q2.b q5.2) λy13=>ck ((q5.2 + (1:Int))) <| L6 ((((10:UInt64) * q5.1) + (y13 - (48:UInt8)).toUInt64),(q5.2 + (1:Int)))) (br (decide (y1=(45:UInt8))) (ck (((q5.1 - (1:UInt64)).toNat:Int)) <| ck ((-((q5.1 - (1:UInt64)).toNat:Int))) <| ck (((-((q5.1 - (1:UInt64)).toNat:Int)) - (1:Int))) <| some (((-((q5.1 - (1:UInt64)).toNat:Int)) - (1:Int)))) (ck ((q5.1.toNat:Int)) <| some ((q5.1.toNat:Int))))) (((0:UInt64),(0:Int))))

def zcC (a_x:GPar):Option (Int × GPar) :=
 cal (zb6 a_x (3:Int)) λy4=>br (decide (y4.1=(Str.mk []))) (some ((0:Int),y4.2)) (cal (zhE y4.1) λy7=>some (y7,y4.2))

def zdD (a_x:GPar):Option (GCon × GPar) :=
 cal (zL a_x (Str.mk [77,73,78])) λy6=>jp (ι:=GPar × GCon) (λJ10=>br (!y6.1) (cal (zcC y6.2) λy11=>J10 (y11.2,(GCon.mk true true false false y11.1 (0:Int)))) (J10 (y6.2,(GCon.mk true false false false (0:Int) (0:Int))))) (λq9=>jp (ι:=GPar × GCon) (λJ15=>cal (zL q9.1 (Str.mk [46,46])) λy16=>br y16.1 (cal (zL y16.2 (Str.mk [77,65,88])) λy19=>br (!y19.1) (cal (zcC y19.2) λy22=>J15 (y22.2,{ { q9.2 with hasHigh:=true } with high:=y22.1 })) (J15 (y19.2,q9.2))) (br q9.2.hasLow (J15 (y16.2,{ { q9.2 with hasHigh:=true } with high:=q9.2.low })) (J15 (y16.2,q9.2)))) (λq14=>cal (zL q14.1 (Str.mk [44])) λy25=>jp (ι:=GPar × GCon) (λJ29=>br y25.1 (cal (zW y25.2 (Str.mk [46,46,46])) λy30=>J29 (y30,{ q14.2 with more:=true })) (J29 (y25.2,q14.2))) (λq28=>some (q28.2,q28.1))))

def zdL (a_x:GPar):Option (GCon × GPar) :=
 cal (zL a_x (Str.mk [40])) λy5=>br (!y5.1) (some ((GCon.mk false false false false (0:Int) (0:Int)),y5.2)) (cal (zW y5.2 (Str.mk [83,73,90,69])) λy8=>cal (zW y8 (Str.mk [40])) λy11=>cal (zdD y11) λy14=>cal (zW y14.2 (Str.mk [41])) λy18=>cal (zW y18 (Str.mk [41])) λy21=>some (y14.1,y21))

def zeA (a_x:GPar) (a_n_:GNode):Option (GPar × GNode) :=
 jp (ι:=GPar × GNode) (λJ7=>lp (ι:=GPar × GNode) (λL9 q8=>br (decide (q8.1.e=(0:Int))) (jp (ι:=Bool) (λJ47=>br (decide ((0:Int) < (q8.2.items.length:Int))) (J47 ((!q8.2.more))) (J47 (false))) (λq46=>jp (ι:=Bool × GPar) (λJ50=>br q46 (cal (zL q8.1 (Str.mk [46,46,46])) λy52=>J50 (y52.1,y52.2)) (J50 (false,q8.1))) (λq49=>jp (ι:=GPar × GNode) (λJ56=>br q49.1 (J56 (q49.2,(GNode.mk q8.2.kind q8.2.name q8.2.mark q8.2.con q8.2.items q8.2.fields (q8.2.items.length:Int) true q8.2.of))) (cal (zb6 q49.2 (2:Int)) λy57=>cal (zL y57.2 (Str.mk [40])) λy61=>jp (ι:=GPar × GItem) (λJ65=>br y61.1 (cal (zcC y61.2) λy66=>cal (zW y66.2 (Str.mk [41])) λy69=>J65 (y69,(GItem.mk y57.1 y66.1 true))) (J65 (y61.2,(GItem.mk y57.1 (0:Int) false)))) (λq64=>asr (Nat.ble (q8.2.items.length + ([q64.2]:(List GItem)).length) 68719476736) <| J56 (q64.1,(GNode.mk q8.2.kind q8.2.name q8.2.mark q8.2.con (q8.2.items ++ ([q64.2]:(List GItem))) q8.2.fields q8.2.root q8.2.more q8.2.of))))) (λq55=>cal (zL q55.1 (Str.mk [44])) λy79=>br (!y79.1) (J7 (y79.2,q55.2)) (L9 (y79.2,q55.2)))))) (J7 (q8.1,q8.2))) ((a_x,a_n_))) (λq6=>br (!q6.2.more) (some (q6.1,(GNode.mk q6.2.kind q6.2.name q6.2.mark q6.2.con q6.2.items q6.2.fields (q6.2.items.length:Int) q6.2.more q6.2.of))) (some (q6.1,q6.2)))

def zlS (a_s:Str):Option ((List UInt8)) :=
 lp (ι:=(List UInt8) × Int) (λL2 q1=>ck ((q1.2 + (1:Int))) <| br (decide ((q1.2 + (1:Int)) < (a_s.b.length:Int))) (lp (ι:=UInt8 × Int) (λL33 q32=>ck ((q1.2 + (2:Int))) <| br (decide (q32.2 < (q1.2 + (2:Int)))) (cal (getI a_s.b q32.2) λy47=>cal (getI a_s.b q32.2) λy48=>jp (ι:=UInt8) (λJ50=>br (decide ((65:UInt8) <= y48)) (cal (getI a_s.b q32.2) λy51=>J50 (((y51 - (65:UInt8)) + (10:UInt8)))) (J50 ((y47 - (48:UInt8))))) (λq49=>asr (Nat.ble (4:UInt64).toNat 8) <| ck ((q32.2 + (1:Int))) <| L33 (((shl8 q32.1 (4:UInt64).toNat) ||| q49),(q32.2 + (1:Int))))) (asr (Nat.ble (q1.1.length + ([q32.1]:(List UInt8)).length) 68719476736) <| ck ((q1.2 + (2:Int))) <| L2 ((q1.1 ++ ([q32.1]:(List UInt8))),(q1.2 + (2:Int))))) (((0:UInt8),q1.2))) (some (q1.1))) ((([]:(List UInt8)),(0:Int)))

def zew (a_x:GPar):Option (Val × GPar) :=
 cal (zaX a_x) λy5=>jp (ι:=GPar) (λJ10=>br (!decide (y5.2.e=(0:Int))) (J10 (y5.2)) (cal (zL y5.2 (Str.mk [84,82,85,69])) λy11=>br y11.1 (some ((Val.mk (1:Int) (1:Int) ([]:(List UInt8)) ([]:(List Val)) (0:Int) ([]:(List Raw))),y11.2)) (cal (zL y11.2 (Str.mk [70,65,76,83,69])) λy14=>br y14.1 (some ((Val.mk (1:Int) (0:Int) ([]:(List UInt8)) ([]:(List Val)) (0:Int) ([]:(List Raw))),y14.2)) (cal (zL y14.2 (Str.mk [78,85,76,76])) λy17=>br y17.1 (some ((Val.mk (4:Int) (0:Int) ([]:(List UInt8)) ([]:(List Val)) (0:Int) ([]:(List Raw))),y17.2)) (br (decide (y5.1.kind=(3:Int))) (cal (zb7 y17.2) λy20=>cal (zhE y20.1.text) λy23=>some ((Val.mk (2:Int) y23 ([]:(List UInt8)) ([]:(List Val)) (0:Int) ([]:(List Raw))),y20.2)) (br (decide (y5.1.kind=(2:Int))) (cal (zb7 y17.2) λy24=>asr (Nat.ble y24.1.text.b.length 68719476736) <| some ((Val.mk (3:Int) (0:Int) y24.1.text.b ([]:(List Val)) (0:Int) ([]:(List Raw))),y24.2)) (br (decide (y5.1.kind=(4:Int))) (cal (zb7 y17.2) λy28=>cal (zlS y28.1.text) λy31=>some ((Val.mk (5:Int) (0:Int) y31 ([]:(List Val)) (0:Int) ([]:(List Raw))),y28.2)) (br (decide (y5.1.kind=(7:Int))) (cal (zb7 y17.2) λy32=>asr (Nat.ble y32.1.text.b.length 68719476736) <| some ((Val.mk (6:Int) (0:Int) y32.1.text.b ([]:(List Val)) (0:Int) ([]:(List Raw))),y32.2)) (cal (zbf y17.2 (7:Int) y5.1) λy36=>J10 (y36)))))))))) (λq9=>some ((Val.mk (0:Int) (0:Int) ([]:(List UInt8)) ([]:(List Val)) (0:Int) ([]:(List Raw))),q9))

def zd5 (zaN:GPar->GNode->Int->Int->Option (GPar × GNode)) (za3:GPar->Int->Option (Int × GPar)) (za0:GPar->GNode->Int->Option (GPar × GNode)) (zaz:GPar->GNode->Int->Option (GPar × GNode)) (a_x:GPar) (a_n_:GNode) (zJ:Int) (ze9:Int):Option (GPar × GNode) :=
 cal (zb6 a_x (2:Int)) λy6=>ck ((zJ + (1:Int))) <| cal (za3 y6.2 (zJ + (1:Int))) λy11=>jp (ι:=GFld × GPar) (λJ16=>br (decide (a_n_.kind=(9:Int))) (J16 ((GFld.mk y6.1 y11.1 false false (Val.mk (0:Int) (0:Int) ([]:(List UInt8)) ([]:(List Val)) (0:Int) ([]:(List Raw))) ze9),y11.2)) (cal (zL y11.2 (Str.mk [79,80,84,73,79,78,65,76])) λy17=>br y17.1 (J16 ((GFld.mk y6.1 y11.1 true false (Val.mk (0:Int) (0:Int) ([]:(List UInt8)) ([]:(List Val)) (0:Int) ([]:(List Raw))) ze9),y17.2)) (cal (zL y17.2 (Str.mk [68,69,70,65,85,76,84])) λy20=>br y20.1 (cal (zew y20.2) λy23=>J16 ((GFld.mk y6.1 y11.1 false true y23.1 ze9),y23.2)) (J16 ((GFld.mk y6.1 y11.1 false false (Val.mk (0:Int) (0:Int) ([]:(List UInt8)) ([]:(List Val)) (0:Int) ([]:(List Raw))) ze9),y20.2))))) (λq15=>asr (Nat.ble (a_n_.fields.length + ([q15.1]:(List GFld)).length) 68719476736) <| some (q15.2,(GNode.mk a_n_.kind a_n_.name a_n_.mark a_n_.con a_n_.items (a_n_.fields ++ ([q15.1]:(List GFld))) a_n_.root a_n_.more a_n_.of)))
def zev (zaN:GPar->GNode->Int->Int->Option (GPar × GNode)) (za3:GPar->Int->Option (Int × GPar)) (za0:GPar->GNode->Int->Option (GPar × GNode)) (zaz:GPar->GNode->Int->Option (GPar × GNode)) (a_x:GPar) (zJ:Int):Option (Int × GPar) :=
 br (!decide (a_x.e=(0:Int))) (some ((0:Int),a_x)) (cal (zaX a_x) λy4=>cal (zhT y4.1) λy7=>br (!y7) (cal (zaX y4.2) λy8=>cal (zbf y8.2 (7:Int) y8.1) λy11=>some ((0:Int),y11)) (jp (ι:=Bool) (λJ15=>br (decide ((16:Int) < zJ)) (J15 (true)) (J15 ((decide ((300:Int) <= ((y4.2.m.nodes.length:Nat):Int)))))) (λq14=>br q14 (cal (zaX y4.2) λy17=>cal (zbf y17.2 (5:Int) y17.1) λy20=>some ((0:Int),y20)) (asr (Nat.ble (y4.2.m.nodes.length + ([(GNode.mk (0:Int) (Str.mk []) (GMark.mk false (0:Int) (0:Int)) (GCon.mk false false false false (0:Int) (0:Int)) ([]:(List GItem)) ([]:(List GFld)) (0:Int) false (0:Int))]:(List GNode)).length) 68719476736) <| cal (zL (GPar.mk y4.2.l y4.2.at_ (GMod.mk y4.2.m.name y4.2.m.tagging y4.2.m.names y4.2.m.types (y4.2.m.nodes ++ ([(GNode.mk (0:Int) (Str.mk []) (GMark.mk false (0:Int) (0:Int)) (GCon.mk false false false false (0:Int) (0:Int)) ([]:(List GItem)) ([]:(List GFld)) (0:Int) false (0:Int))]:(List GNode)))) y4.2.e y4.2.p) (Str.mk [91])) λy31=>jp (ι:=GPar × GNode) (λJ35=>br y31.1 (cal (zaX y31.2) λy36=>cal (zcC y36.2) λy40=>jp (ι:=Bool) (λJ44=>br (decide (y40.2.e=(0:Int))) (jp (ι:=Bool) (λJ47=>br (decide (y40.1 < (0:Int))) (J47 (true)) (J47 ((decide ((268435456:Int) < y40.1))))) (λq46=>J44 (q46))) (J44 (false))) (λq43=>jp (ι:=GPar) (λJ50=>br q43 (cal (zbf y40.2 (12:Int) y36.1) λy51=>J50 (y51)) (J50 (y40.2))) (λq49=>cal (zW q49 (Str.mk [93])) λy54=>cal (zL y54 (Str.mk [69,88,80,76,73,67,73,84])) λy57=>br y57.1 (J35 (y57.2,(GNode.mk (0:Int) (Str.mk []) (GMark.mk true y40.1 (1:Int)) (GCon.mk false false false false (0:Int) (0:Int)) ([]:(List GItem)) ([]:(List GFld)) (0:Int) false (0:Int)))) (cal (zL y57.2 (Str.mk [73,77,80,76,73,67,73,84])) λy60=>br y60.1 (J35 (y60.2,(GNode.mk (0:Int) (Str.mk []) (GMark.mk true y40.1 (2:Int)) (GCon.mk false false false false (0:Int) (0:Int)) ([]:(List GItem)) ([]:(List GFld)) (0:Int) false (0:Int)))) (J35 (y60.2,(GNode.mk (0:Int) (Str.mk []) (GMark.mk true y40.1 (0:Int)) (GCon.mk false false false false (0:Int) (0:Int)) ([]:(List GItem)) ([]:(List GFld)) (0:Int) false (0:Int)))))))) (J35 (y31.2,(GNode.mk (0:Int) (Str.mk []) (GMark.mk false (0:Int) (0:Int)) (GCon.mk false false false false (0:Int) (0:Int)) ([]:(List GItem)) ([]:(List GFld)) (0:Int) false (0:Int))))) (λq34=>cal (za0 q34.1 q34.2 zJ) λy63=>br (!decide (y63.1.e=(0:Int))) (some ((0:Int),y63.1)) (asr (decide (0 <= ((y4.2.m.nodes.length:Nat):Int)/\((y4.2.m.nodes.length:Nat):Int) < ((y63.1.m.nodes.length:Nat):Int))) <| cal (y63.1.m.nodes[((y4.2.m.nodes.length:Nat):Int).toNat]?) λy74=>some (((y4.2.m.nodes.length:Nat):Int),(GPar.mk y63.1.l y63.1.at_ (GMod.mk y63.1.m.name y63.1.m.tagging y63.1.m.names y63.1.m.types (y63.1.m.nodes.set (((y4.2.m.nodes.length:Nat):Int).toNat) y63.2)) y63.1.e y63.1.p))))))))
def zei (zaN:GPar->GNode->Int->Int->Option (GPar × GNode)) (za3:GPar->Int->Option (Int × GPar)) (za0:GPar->GNode->Int->Option (GPar × GNode)) (zaz:GPar->GNode->Int->Option (GPar × GNode)) (a_x:GPar) (a_n_:GNode) (zJ:Int):Option (GPar × GNode) :=
 cal (zaX a_x) λy6=>br (!decide (y6.2.e=(0:Int))) (some (y6.2,a_n_)) (cal (zL y6.2 (Str.mk [66,79,79,76,69,65,78])) λy10=>br y10.1 (some (y10.2,(GNode.mk (1:Int) a_n_.name a_n_.mark a_n_.con a_n_.items a_n_.fields a_n_.root a_n_.more a_n_.of))) (cal (zL y10.2 (Str.mk [78,85,76,76])) λy13=>br y13.1 (some (y13.2,(GNode.mk (4:Int) a_n_.name a_n_.mark a_n_.con a_n_.items a_n_.fields a_n_.root a_n_.more a_n_.of))) (cal (zL y13.2 (Str.mk [85,84,70,56,83,116,114,105,110,103])) λy16=>br y16.1 (cal (zdL y16.2) λy19=>some (y19.2,(GNode.mk (6:Int) a_n_.name a_n_.mark y19.1 a_n_.items a_n_.fields a_n_.root a_n_.more a_n_.of))) (cal (zL y16.2 (Str.mk [73,78,84,69,71,69,82])) λy22=>br y22.1 (cal (zL y22.2 (Str.mk [40])) λy25=>br y25.1 (cal (zdD y25.2) λy28=>cal (zW y28.2 (Str.mk [41])) λy31=>some (y31,(GNode.mk (2:Int) a_n_.name a_n_.mark y28.1 a_n_.items a_n_.fields a_n_.root a_n_.more a_n_.of))) (some (y25.2,(GNode.mk (2:Int) a_n_.name a_n_.mark a_n_.con a_n_.items a_n_.fields a_n_.root a_n_.more a_n_.of)))) (cal (zL y22.2 (Str.mk [79,67,84,69,84])) λy34=>br y34.1 (cal (zW y34.2 (Str.mk [83,84,82,73,78,71])) λy37=>cal (zdL y37) λy40=>some (y40.2,(GNode.mk (5:Int) a_n_.name a_n_.mark y40.1 a_n_.items a_n_.fields a_n_.root a_n_.more a_n_.of))) (cal (zL y34.2 (Str.mk [69,78,85,77,69,82,65,84,69,68])) λy43=>br y43.1 (cal (zW y43.2 (Str.mk [123])) λy46=>cal (zeA y46 (GNode.mk (3:Int) a_n_.name a_n_.mark a_n_.con a_n_.items a_n_.fields a_n_.root a_n_.more a_n_.of)) λy49=>cal (zW y49.1 (Str.mk [125])) λy54=>some (y54,y49.2)) (cal (zL y43.2 (Str.mk [83,69,84])) λy57=>br y57.1 (cal (zW y57.2 (Str.mk [123])) λy60=>cal (zaz y60 (GNode.mk (8:Int) a_n_.name a_n_.mark a_n_.con a_n_.items a_n_.fields a_n_.root a_n_.more a_n_.of) zJ) λy63=>some (y63.1,y63.2)) (cal (zL y57.2 (Str.mk [67,72,79,73,67,69])) λy69=>br y69.1 (cal (zW y69.2 (Str.mk [123])) λy72=>cal (zaz y72 (GNode.mk (9:Int) a_n_.name a_n_.mark a_n_.con a_n_.items a_n_.fields a_n_.root a_n_.more a_n_.of) zJ) λy75=>some (y75.1,y75.2)) (cal (zL y69.2 (Str.mk [83,69,81,85,69,78,67,69])) λy81=>br y81.1 (cal (zL y81.2 (Str.mk [123])) λy84=>br y84.1 (cal (zaz y84.2 (GNode.mk (7:Int) a_n_.name a_n_.mark a_n_.con a_n_.items a_n_.fields a_n_.root a_n_.more a_n_.of) zJ) λy87=>some (y87.1,y87.2)) (cal (zdL y84.2) λy93=>cal (zW y93.2 (Str.mk [79,70])) λy96=>ck ((zJ + (1:Int))) <| cal (za3 y96 (zJ + (1:Int))) λy100=>some (y100.2,(GNode.mk (10:Int) a_n_.name a_n_.mark y93.1 a_n_.items a_n_.fields a_n_.root a_n_.more y100.1)))) (br (decide (y6.1.kind=(1:Int))) (cal (zb7 y81.2) λy104=>some (y104.2,(GNode.mk (11:Int) y6.1.text a_n_.mark a_n_.con a_n_.items a_n_.fields a_n_.root a_n_.more a_n_.of))) (cal (zbf y81.2 (7:Int) y6.1) λy107=>some (y107,a_n_))))))))))))
def zdP (zaN:GPar->GNode->Int->Int->Option (GPar × GNode)) (za3:GPar->Int->Option (Int × GPar)) (za0:GPar->GNode->Int->Option (GPar × GNode)) (zaz:GPar->GNode->Int->Option (GPar × GNode)) (a_x:GPar) (a_n_:GNode) (zJ:Int):Option (GPar × GNode) :=
 cal (zL a_x (Str.mk [125])) λy6=>br y6.1 (some (y6.2,a_n_)) (jp (ι:=GPar × GNode) (λJ10=>lp (ι:=Int × GPar × GNode) (λL12 q11=>br (decide (q11.2.1.e=(0:Int))) (jp (ι:=Int × GPar × GNode) (λJ64=>jp (ι:=Bool × GPar) (λJ66=>br (!q11.2.2.more) (cal (zL q11.2.1 (Str.mk [46,46,46])) λy68=>J66 (y68.1,y68.2)) (J66 (false,q11.2.1))) (λq65=>br q65.1 (J64 (q11.1,q65.2,(GNode.mk q11.2.2.kind q11.2.2.name q11.2.2.mark q11.2.2.con q11.2.2.items q11.2.2.fields (q11.2.2.fields.length:Int) true q11.2.2.of))) (jp (ι:=Bool × GPar) (λJ72=>br q11.2.2.more (cal (zL q65.2 (Str.mk [91,91])) λy74=>J72 (y74.1,y74.2)) (J72 (false,q65.2))) (λq71=>br q71.1 (ck ((q11.1 + (1:Int))) <| jp (ι:=GPar × GNode) (λJ79=>lp (ι:=GPar × GNode) (λL81 q80=>br (decide (q80.1.e=(0:Int))) (cal (zaN q80.1 q80.2 zJ (q11.1 + (1:Int))) λy91=>cal (zL y91.1 (Str.mk [44])) λy97=>br (!y97.1) (J79 (y97.2,y91.2)) (L81 (y97.2,y91.2))) (J79 (q80.1,q80.2))) ((q71.2,q11.2.2))) (λq78=>cal (zW q78.1 (Str.mk [93,93])) λy101=>J64 ((q11.1 + (1:Int)),y101,q78.2))) (cal (zaN q71.2 q11.2.2 zJ (0:Int)) λy104=>J64 (q11.1,y104.1,y104.2)))))) (λq63=>cal (zL q63.2.1 (Str.mk [44])) λy110=>br (!y110.1) (J10 (y110.2,q63.2.2)) (L12 (q63.1,y110.2,q63.2.2)))) (J10 (q11.2.1,q11.2.2))) (((0:Int),y6.2,a_n_))) (λq9=>cal (zW q9.1 (Str.mk [125])) λy114=>br (!q9.2.more) (some (y114,(GNode.mk q9.2.kind q9.2.name q9.2.mark q9.2.con q9.2.items q9.2.fields (q9.2.fields.length:Int) q9.2.more q9.2.of))) (some (y114,q9.2))))
def zdu:Nat->(GPar->GNode->Int->Int->Option (GPar × GNode)) × (GPar->Int->Option (Int × GPar)) × (GPar->GNode->Int->Option (GPar × GNode)) × (GPar->GNode->Int->Option (GPar × GNode))
 | 0=>(λ_ _ _ _=>none,λ_ _=>none,λ_ _ _=>none,λ_ _ _=>none)
 | n + 1=>let p:=zdu n;(zd5 p.1 p.2.1 p.2.2.1 p.2.2.2,zev p.1 p.2.1 p.2.2.1 p.2.2.2,zei p.1 p.2.1 p.2.2.1 p.2.2.2,zdP p.1 p.2.1 p.2.2.1 p.2.2.2)
def zdY (n:Nat):GPar->GNode->Int->Int->Option (GPar × GNode):=(zdu n).1
def zc5 (n:Nat):GPar->Int->Option (Int × GPar):=(zdu n).2.1
def zed (n:Nat):GPar->GNode->Int->Option (GPar × GNode):=(zdu n).2.2.1
def zdG (n:Nat):GPar->GNode->Int->Option (GPar × GNode):=(zdu n).2.2.2

def ziJ (zaV:Str):Option (GMod × Int × Int) :=
 cal (zg0 zaV) λy2=>br (!decide (y2.2.2=(0:Int))) (some ((GMod.mk (Str.mk []) (0:Int) ([]:(List Str)) ([]:(List Int)) ([]:(List GNode))),y2.2.1,y2.2.2)) (cal (zb6 (GPar.mk y2.1 (0:Int) (GMod.mk (Str.mk []) (0:Int) ([]:(List Str)) ([]:(List Int)) ([]:(List GNode))) (0:Int) (0:Int)) (1:Int)) λy7=>cal (zW (GPar.mk y7.2.l y7.2.at_ (GMod.mk y7.1 y7.2.m.tagging y7.2.m.names y7.2.m.types y7.2.m.nodes) y7.2.e y7.2.p) (Str.mk [68,69,70,73,78,73,84,73,79,78,83])) λy10=>jp (ι:=GPar) (λJ14=>cal (zL y10 (Str.mk [69,88,80,76,73,67,73,84])) λy15=>br y15.1 (cal (zW y15.2 (Str.mk [84,65,71,83])) λy18=>J14 (y18)) (cal (zL y15.2 (Str.mk [73,77,80,76,73,67,73,84])) λy21=>br y21.1 (cal (zW (GPar.mk y21.2.l y21.2.at_ (GMod.mk y21.2.m.name (1:Int) y21.2.m.names y21.2.m.types y21.2.m.nodes) y21.2.e y21.2.p) (Str.mk [84,65,71,83])) λy24=>J14 (y24)) (cal (zL y21.2 (Str.mk [65,85,84,79,77,65,84,73,67])) λy27=>br y27.1 (cal (zW (GPar.mk y27.2.l y27.2.at_ (GMod.mk y27.2.m.name (2:Int) y27.2.m.names y27.2.m.types y27.2.m.nodes) y27.2.e y27.2.p) (Str.mk [84,65,71,83])) λy30=>J14 (y30)) (J14 (y27.2))))) (λq13=>cal (zW q13 (Str.mk [58,58,61])) λy33=>cal (zW y33 (Str.mk [66,69,71,73,78])) λy36=>lp (ι:=GPar) (λL40 q39=>jp (ι:=Bool × GPar) (λJ92=>br (decide (q39.e=(0:Int))) (cal (zL q39 (Str.mk [69,78,68])) λy94=>J92 ((!y94.1),y94.2)) (J92 (false,q39))) (λq91=>br q91.1 (cal (zaX q91.2) λy97=>cal (zb6 y97.2 (1:Int)) λy101=>jp (ι:=Bool) (λJ105=>br (decide (y101.2.e=(0:Int))) (J105 ((decide ((40:Int) <= (y101.2.m.names.length:Int))))) (J105 (false))) (λq104=>jp (ι:=GPar) (λJ108=>br q104 (cal (zbf y101.2 (5:Int) y97.1) λy109=>J108 (y109)) (J108 (y101.2))) (λq107=>cal (zW q107 (Str.mk [58,58,61])) λy112=>cal (zc5 fuel y112 (0:Int)) λy115=>asr (Nat.ble (y115.2.m.names.length + ([y101.1]:(List Str)).length) 68719476736) <| asr (Nat.ble (y115.2.m.types.length + ([y115.1]:(List Int)).length) 68719476736) <| L40 ((GPar.mk y115.2.l y115.2.at_ (GMod.mk y115.2.m.name y115.2.m.tagging (y115.2.m.names ++ ([y101.1]:(List Str))) (y115.2.m.types ++ ([y115.1]:(List Int))) y115.2.m.nodes) y115.2.e y115.2.p))))) (jp (ι:=Bool × GPar) (λJ126=>br (decide (q91.2.e=(0:Int))) (cal (zaX q91.2) λy128=>J126 ((!decide (y128.1.kind=(0:Int))),y128.2)) (J126 (false,q91.2))) (λq125=>jp (ι:=GPar) (λJ132=>br q125.1 (cal (zaX q125.2) λy133=>cal (zbf y133.2 (7:Int) y133.1) λy136=>J132 (y136)) (J132 (q125.2))) (λq131=>br (!decide (q131.e=(0:Int))) (some ((GMod.mk (Str.mk []) (0:Int) ([]:(List Str)) ([]:(List Int)) ([]:(List GNode))),q131.p,q131.e)) (some (q131.m,(0:Int),(0:Int)))))))) ((y36))))
end Go.Proofs.Q


namespace Go.Sy
section tot
variable {α β ι:Type}
def T (R:β->Prop) (o:Option β):Prop:=∃ r,o=some r/\R r
theorem T.some {R:β->Prop} {r:β} (h:R r):T R (some r):=⟨r,rfl,h⟩
theorem T.mono {R R':β->Prop} {o:Option β} (h:T R o) (k:∀ r,R r->R' r):T R' o:=by
 obtain ⟨r,h1,h2⟩:=h;exact ⟨r,h1,k r h2⟩
theorem T.cal {Q:α->Prop} {R:β->Prop} {m:Option α} {k:α->Option β} (h:T Q m) (hk:∀ y,m=Option.some y->Q y->T R (k y)):T R (cal m k):=by
 obtain ⟨y,h1,h2⟩:=h
 subst h1
 exact hk y rfl h2
theorem T.eq {R:β->Prop} {m:Option α} {k:α->Option β} {y:α} (h:m=Option.some y) (hk:T R (k y)):T R (Sy.cal m k):=by subst h;exact hk
theorem zvk {x:Int} (h:inI64 x):bI64 x=true:=by
 unfold inI64 at h
 cases x with
 | ofNat n =>
  simp only [Int.ofNat_eq_natCast] at h
  exact Nat.ble_eq_true_of_le (by omega)
 | negSucc n=>exact Nat.ble_eq_true_of_le (by omega)
theorem T.ck {R:β->Prop} {x:Int} {k:Option β} (hx:-9223372036854775808 <= x/\x <= 9223372036854775807) (h:T R k):T R (ck x k):=by
 unfold Sy.ck;rw [zvk hx];exact h
theorem T.asr {R:β->Prop} {b:Bool} {k:Option β} (hb:b=true) (h:T R k):T R (asr b k):=by subst hb;exact h
theorem T.asd {R:β->Prop} {p:Prop} [Decidable p] {k:Option β} (hb:p) (h:T R k):T R (Sy.asr (decide p) k):=T.asr (zDT hb) h
theorem T.abl {R:β->Prop} {a b:Nat} {k:Option β} (hb:a <= b) (h:T R k):T R (Sy.asr (Nat.ble a b) k):=T.asr (Nat.ble_eq_true_of_le hb) h
theorem T.br {R:β->Prop} {b:Bool} {t e:Option β} (ht:b=true->T R t) (he:b=false->T R e):T R (br b t e):=by
 cases b with
 | true=>exact ht rfl
 | false=>exact he rfl
theorem T.jp (Q:ι->Prop) {R:β->Prop} {B:(ι->Option β)->Option β} {K:ι->Option β} (hB:∀ J,(∀ i,Q i->T R (J i))->T R (B J)) (hK:∀ i,Q i->T R (K i)):T R (jp B K):=hB K hK
theorem T.jp0 {R:β->Prop} {B:(ι->Option β)->Option β} {K:ι->Option β} (h:T R (B K)):T R (Sy.jp B K):=h
theorem T.lp (I:ι->Prop) (μ:ι->Nat) {R:β->Prop} {F:(ι->Option β)->ι->Option β} {i0:ι} (h0:I i0) (hμ:μ i0 < 1000000000000000000) (h:∀ (L:ι->Option β) i,I i->(∀ j,I j->μ j < μ i->T R (L j))->T R (F L i)):T R (lp F i0):=by
 have key:∀ n i,I i->μ i < n->T R (lpN F n i):=by
  intro n
  induction n with
  | zero=>intro i _ hn;omega
  | succ n ih=>intro i hi hn;exact h (lpN F n) i hi λj hj hl=>ih j hj (by omega)
 unfold Sy.lp fuel
 exact key _ _ h0 hμ
theorem zcQ {l:List α} {i:Int} (h0:0 <= i) (h1:i < l.length):getI l i=some (l[i.toNat]'(by omega)):=by
 unfold getI
 cases i with
 | ofNat n=>simp only [Int.ofNat_eq_natCast] at h1;simp
 | negSucc n=>omega
theorem T.get {R:β->Prop} {l:List α} {i:Int} {k:α->Option β} (h0:0 <= i) (h1:i < l.length) (hk:∀ y,l[i.toNat]?=Option.some y->T R (k y)):T R (Sy.cal (getI l i) k) :=
 T.eq (zcQ h0 h1) (hk _ (List.getElem?_eq_getElem (by omega)))
theorem T.fin {o:Option β} {x:β} (h:T (λr=>r=x) o):o=Option.some x:=by
 obtain ⟨r,h1,h2⟩:=h;rw [h1,h2]
theorem T.of {o:Option β} {R:β->Prop} {x:β} (h:o=Option.some x) (hx:R x):T R o:=⟨x,h,hx⟩
end tot
end Go.Sy


namespace Go.Proofs.Q
open Go.Sy
set_option linter.unusedVariables false

theorem zwe (s:Str) (i:Int):T (λr=>r=(if 0 <= i then (s.b[i.toNat]?).getD 0 else 0)) (zgx s i):=by
 unfold zgx
 refine T.jp (λq=>q=decide (¬ (0 <= i/\i < s.b.length))) (λJ h=>?_) (λq hq=>?_)
 ·refine T.br (λh1=>h _ ?_) (λh1=>h _ ?_)
  ·have:=zOT h1;simp;omega
  ·have:=zOF h1
   by_cases h2:(s.b.length:Int) <= i <;> simp [h2] <;> omega
 ·subst hq
  refine T.br (λh1=>T.some ?_) (λh1=>?_)
  ·have h2:=zOT h1
   split
   ·rename_i h3
    rw [List.getElem?_eq_none (by omega)];rfl
   ·rfl
  ·have h2:=zOF h1
   refine T.get (by omega) (by omega) λy hy=>T.some ?_
   rw [if_pos (by omega),hy];rfl

def zaU (c:UInt8):Bool:=(decide (97 <= c) && decide (c <= 122)) || (decide (65 <= c) && decide (c <= 90))
def isDigit (c:UInt8):Bool:=decide (48 <= c) && decide (c <= 57)
theorem zmP (c:UInt8):zf1 c=some (zaU c):=by
 unfold zf1 zaU jp br
 cases decide (97 <= c) <;> cases decide (c <= 122) <;> cases decide (65 <= c) <;> cases decide (c <= 90) <;> rfl
theorem zkr (c:UInt8):zfx c=some (isDigit c):=by
 unfold zfx isDigit jp br
 cases decide (48 <= c) <;> cases decide (c <= 57) <;> rfl

end Go.Proofs.Q


namespace Go.Proofs.Q
open Go.Sy
set_option linter.unusedVariables false

theorem snocInd {α:Type} {P:List α->Prop} (h0:P []) (h1:∀ l a,P l->P (l ++ [a])) (l:List α):P l:=by
 have:∀ m:List α,P m.reverse:=by
  intro m
  induction m with
  | nil=>exact h0
  | cons a m ih=>rw [List.reverse_cons];exact h1 _ _ ih
 have h:=this l.reverse
 rwa [List.reverse_reverse] at h

def dval (l:List UInt8):Nat:=l.foldl (λv d=>10 * v + (d.toNat - 48)) 0
def uval (l:List UInt8):UInt64:=l.foldl (λv d=>10 * v + (d - 48).toUInt64) 0
theorem zeH {d:UInt8} (h:isDigit d=true):48 <= d.toNat/\d.toNat <= 57:=by
 unfold isDigit at h
 simp only [zBa,decide_eq_true_eq] at h
 have h1:=UInt8.le_iff_toNat_le.1 h.1
 have h2:=UInt8.le_iff_toNat_le.1 h.2
 simp at h1 h2
 omega
theorem zvs {d:UInt8} (h:isDigit d=true):(d - 48).toUInt64.toNat=d.toNat - 48:=by
 have h1:=zeH h
 have h2:=d.toNat_lt
 have h3:(48:UInt8).toNat=48:=rfl
 rw [UInt8.toNat_toUInt64,UInt8.toNat_sub,h3]
 omega
theorem zi0 (l:List UInt8) (d:UInt8):dval (l ++ [d])=10 * dval l + (d.toNat - 48):=by simp [dval]
theorem zmk (l:List UInt8) (d:UInt8):uval (l ++ [d])=10 * uval l + (d - 48).toUInt64:=by simp [uval]
def digs (l:List UInt8):Prop:=∀ d ∈ l,isDigit d=true
theorem zoT {l:List UInt8} {d:UInt8} (h:digs (l ++ [d])):digs l/\isDigit d=true :=
 ⟨λx hx=>h x (List.mem_append_left _ hx),h d (List.mem_append_right _ (zMo.2 rfl))⟩
theorem zvn (l:List UInt8):digs l->dval l < 10 ^ l.length:=by
 refine snocInd (P:=λl=>digs l->dval l < 10 ^ l.length) (λ_=>by simp [dval]) (λl d ih h=>?_) l
 obtain ⟨h1,h2⟩:=zoT h
 have h3:=ih h1
 have h4:=zeH h2
 rw [zi0,zLa,zLs,Nat.pow_succ]
 omega
theorem pow19 {n:Nat} (h:n <= 19):10 ^ n <= 10000000000000000000:=by
 have:=Nat.pow_le_pow_right (show 0 < 10 by omega) h
 simpa using this
theorem zmC (l:List UInt8):digs l->l.length <= 19->(uval l).toNat=dval l:=by
 refine snocInd (P:=λl=>digs l->l.length <= 19->(uval l).toNat=dval l) (λ_ _=>by simp [dval,uval]) (λl d ih h hl=>?_) l
 obtain ⟨h1,h2⟩:=zoT h
 rw [zLa,zLs] at hl
 have h3:=ih h1 (by omega)
 have h4:=zeH h2
 have h5:=zvn (l ++ [d]) h
 rw [zLa,zLs] at h5
 have h6:=pow19 hl
 rw [zi0] at h5
 rw [zmk,zi0,UInt64.toNat_add,UInt64.toNat_mul,h3,zvs h2]
 have h7:(10:UInt64).toNat=10:=rfl
 rw [h7]
 omega
def NumOk (b:List UInt8):Prop:=∃ ds,digs ds/\ds ≠ []/\ds.length <= 19/\((b=ds/\dval ds < 9223372036854775808) \/ (b=45 :: ds/\1 <= dval ds/\dval ds <= 9223372036854775808))

theorem zub {l:List UInt8} {f k:Nat} {y:UInt8} (hf:f < k) (hk:k <= l.length) (hy:l[f]?=some y):(l.take k).drop f=y :: (l.take k).drop (f + 1):=by
 have h1:(l.take k)[f]?=some y:=by rw [List.getElem?_take,if_pos hf,hy]
 obtain ⟨h2,h3⟩:=List.getElem?_eq_some_iff.1 h1
 rw [List.drop_eq_getElem_cons h2,h3]
end Go.Proofs.Q


namespace Go.Proofs.Q
open Go.Sy
set_option linter.unusedVariables false

theorem zoo (l:List Str) (x:Str) (hl:l.length <= 1000000):T (λr=>r=decide (x ∈ l)) (zf9 l x):=by
 unfold zf9
 refine T.lp (λ(k:Int)=>0 <= k/\k <= (l.length:Int)/\x ∉ l.take k.toNat) (λ(k:Int)=>((l.length:Int) - k).toNat) ⟨zIl _,by omega,by simp⟩ (by omega) λL k hk hL=>?_
 refine T.br (λh2=>?_) λh2=>T.some ?_
 ·have h2:=zOT h2
  refine T.get hk.1 h2 λy hy=>T.br (λh3=>T.some ?_) λh3=>T.ck (by omega) (hL _ ⟨by omega,by omega,?_⟩ (by omega))
  ·have h3:=zOT h3
   subst h3
   exact (zDT (List.mem_of_getElem? hy)).symm
  ·have h3:=zOF h3
   have e:(k + 1).toNat=k.toNat + 1:=by omega
   rw [e,List.take_add_one,hy]
   simp only [Option.toList_some,List.mem_append,zMo,not_or]
   exact ⟨hk.2.2,λh=>h3 h.symm⟩
 ·have h2:=zOF h2
  have h4:=hk.2.2
  rw [zTl (by omega)] at h4
  exact (zDF h4).symm

structure TokOk (n:Nat) (t:GTok):Prop where
 num:t.kind=3->NumOk t.text.b
 len:t.text.b.length <= n
 at0:0 <= t.at_/\t.at_ <= n
structure ToksOk (l:List GTok):Prop where
 len:l.length <= 8001
 ok:∀ t ∈ l,TokOk 8000 t
 last:∃ m e,l=m ++ [e]/\e.kind=0/\∀ t ∈ m,1 <= t.kind/\t.kind <= 7

end Go.Proofs.Q


namespace Go.Proofs.Q
open Go.Sy
set_option linter.unusedVariables false

structure Ok (l:List GTok) (m:GMod) (a:Int) (P:Prop) (y:GPar):Prop where
 toks:ToksOk l
 yl:y.l=l
 ym:y.m=m
 a0:0 <= y.at_
 a1:y.at_ < l.length
 ok:y.e=0->P/\a <= y.at_
theorem Ok.to {l m a P y} {a':Int} {P':Prop} (h:Ok l m a P y) (k:y.e=0->P->a <= y.at_->P'/\a' <= y.at_):Ok l m a' P' y:=⟨h.toks,h.yl,h.ym,h.a0,h.a1,λe=>k e (h.ok e).1 (h.ok e).2⟩
theorem Ok.err {l m a P y} {a':Int} {P':Prop} (h:Ok l m a P y) (k:¬ y.e=0):Ok l m a' P' y:=h.to λe=>absurd e k

def Tk (x:GPar) (t:GTok):Prop:=x.l[x.at_.toNat]?=some t
theorem Tk.ok {l m a P x t} (h:Ok l m a P x) (ht:Tk x t):TokOk 8000 t:=by
 unfold Tk at ht
 rw [h.yl] at ht
 exact h.toks.ok t (List.mem_of_getElem? ht)
theorem Tk.last {l m a P x t} (h:Ok l m a P x) (ht:Tk x t) (hk:t.kind ≠ 0):x.at_ + 1 < l.length:=by
 unfold Tk at ht
 rw [h.yl] at ht
 obtain ⟨m',e,h1,h2,h3⟩:=h.toks.last
 rcases Nat.lt_or_ge (x.at_.toNat + 1) l.length with h4 | h4
 ·have:=h.a0;omega
 ·exfalso
  have h5:=h.a1
  have h6:=h.a0
  have h7:x.at_.toNat=m'.length:=by rw [h1] at h4 h5;simp only [zLa,zLs] at h4 h5;omega
  rw [h1,h7,List.getElem?_append_right (zNl _)] at ht
  simp at ht
  subst ht
  exact hk h2

theorem zhB {l m a P x} (h:Ok l m a P x):T (λr=>Tk x r.1/\r.2=x) (zaX x):=by
 unfold zaX
 refine T.get h.a0 (by rw [h.yl];exact h.a1) λy hy=>T.some ⟨hy,rfl⟩
theorem zhQ {l m a P x} (e:Int) (t:GTok) (h:Ok l m a P x) (he:e ≠ 0):T (λr=>Ok l m a P r/\r.e ≠ 0) (zbf x e t):=by
 unfold zbf
 refine T.br (λh1=>T.some ⟨⟨h.toks,h.yl,h.ym,h.a0,h.a1,λh2=>absurd h2 he⟩,he⟩) λh1=>T.some ⟨h,zOF h1⟩
theorem zlW {l m a P x} (h:Ok l m a P x):T (λr=>Tk x r.1/\Ok l m a P r.2/\(r.1.kind ≠ 0->r.2.at_=x.at_ + 1)/\r.2.e=x.e) (zb7 x):=by
 unfold zb7
 have hl:=h.toks.len
 have h1:=h.a0
 have h2:=h.a1
 refine T.get h.a0 (by rw [h.yl];exact h.a1) λy hy=>T.ck (by omega) (T.jp (λr=>Ok l m a P r/\(y.kind ≠ 0->r.at_=x.at_ + 1)/\r.e=x.e) (λJ k=>T.br (λh3=>?_) λh3=>k _ ?_) λq hq=>T.some ⟨hy,hq⟩)
 ·have h3:=zOT h3
  rw [h.yl] at h3
  refine T.ck (by omega) (k _ ⟨⟨h.toks,h.yl,h.ym,by dsimp only;omega,h3,λe=>?_⟩,λ_=>rfl,rfl⟩)
  have:=h.ok e
  exact ⟨this.1,by dsimp only;omega⟩
 ·have h3:=zOF h3
  rw [h.yl] at h3
  exact ⟨h,λhk=>absurd (Tk.last h hy hk) h3,rfl⟩
theorem znp {l m a P x} (k:Int) (hk:1 <= k) (h:Ok l m a P x):T (λr=>Ok l m a P r.2/\(r.2.e=0->x.e=0/\r.2.at_=x.at_ + 1/\∃ t,Tk x t/\t.kind=k/\r.1=t.text)/\(r.2.e ≠ 0->r.1=⟨[]⟩)) (zb6 x k):=by
 unfold zb6
 refine T.cal (zhB h) λ⟨t,x'⟩ _ ⟨ht,hx⟩=>?_
 subst hx
 dsimp only at ht ⊢
 refine T.jp (λb=>b=false->x'.e=0/\t.kind=k) (λJ h1=>T.br (λ_=>h1 _ λh=>by cases h) λh2=>h1 _ λh3=>⟨by simpa using h2,by simpa using h3⟩) λb hb=>T.br (λ_=>?_) λh2=>?_
 ·exact T.cal (zhQ _ _ h (by decide)) λy _ hy=>T.some ⟨hy.1,λe=>absurd e hy.2,λ_=>rfl⟩
 ·obtain ⟨h3,h4⟩:=hb h2
  refine T.cal (zlW h) λy _ hy=>T.some ⟨hy.2.1,λe=>⟨h3,?_,t,ht,h4,?_⟩,λe=>absurd (hy.2.2.2.trans h3) e⟩
  ·have:y.1=t:=by have:=hy.1;unfold Tk at this ht;rw [ht] at this;cases this;rfl
   exact hy.2.2.1 (by rw [this];omega)
  ·have:y.1=t:=by have:=hy.1;unfold Tk at this ht;rw [ht] at this;cases this;rfl
   rw [this]
theorem zcz {l m a P x} (s:Str) (h:Ok l m a P x):T (λr=>Ok l m a P r.2/\r.2.e=x.e/\(r.1=true->x.e=0/\r.2.at_=x.at_ + 1)/\(r.1=false->r.2=x)) (zL x s):=by
 unfold zL
 refine T.cal (zhB h) λ⟨t,x'⟩ _ ⟨ht,hx⟩=>?_
 subst hx
 dsimp only at ht ⊢
 refine T.jp (λb=>b=true->x'.e=0/\t.kind ≠ 0) (λJ h1=>T.br (λh2=>?_) λ_=>h1 _ λh=>by cases h) λb hb=>?_
 ·have h2:=zOT h2
  refine T.jp (λb=>b=true->t.kind ≠ 0) (λJ h3=>T.br (λh4=>h3 _ λ_=>by have:=zOT h4;omega) λ_=>h3 _ λh=>by have:=zOT h;omega) λb hb=>h1 _ λh=>⟨h2,hb h⟩
 ·refine T.jp (λb=>b=true->x'.e=0/\t.kind ≠ 0) (λJ h1=>T.br (λh2=>h1 _ λ_=>hb h2) λ_=>h1 _ λh=>by cases h) λb2 hb2=>T.br (λh2=>?_) λ_=>T.some ⟨h,rfl,(λh=>by cases h),λ_=>rfl⟩
  obtain ⟨h3,h4⟩:=hb2 h2
  refine T.cal (zlW h) λy _ hy=>T.some ⟨hy.2.1,hy.2.2.2,λ_=>⟨h3,?_⟩,λh=>by cases h⟩
  have:y.1=t:=by have:=hy.1;unfold Tk at this ht;rw [ht] at this;cases this;rfl
  exact hy.2.2.1 (by rw [this];exact h4)
theorem zdO {l m a P x} (s:Str) (h:Ok l m a P x):T (λr=>Ok l m a P r/\(r.e=0->x.e=0/\r.at_=x.at_ + 1)) (zW x s):=by
 unfold zW
 refine T.jp (λq=>Ok l m a P q.2/\(q.2.e=0->x.e=0)/\(q.1=false->q.2.e=0->q.2.at_=x.at_ + 1)) (λJ h1=>T.br (λh2=>T.cal (zcz s h) λy _ hy=>h1 _ ⟨hy.1,λ_=>zOT h2,λh3 _=>(hy.2.2.1 (by simpa using h3)).2⟩) λh2=>h1 _ ⟨h,λh=>h,λ_ h3=>absurd h3 (zOF h2)⟩) λq hq=>T.br (λh2=>?_) λh2=>T.some ⟨hq.1,λh3=>⟨hq.2.1 h3,hq.2.2 h2 h3⟩⟩
 refine T.cal (zhB hq.1) λ⟨t,x'⟩ _ ⟨ht,hx⟩=>?_
 subst hx
 exact T.cal (zhQ _ _ hq.1 (by decide)) λy _ hy=>T.some ⟨hy.1,λe=>absurd e hy.2⟩
theorem zq2 (t:GTok):T (λ_=>True) (zhT t):=by
 unfold zhT
 refine T.lp (λ(k:Int)=>0 <= k) (λ(k:Int)=>(10 - k).toNat) (zIl _) (by omega) λL k hk hL=>?_
 refine T.br (λh2=>?_) λ_=>T.some trivial
 have h2:k < 10:=zOT h2
 refine T.get hk h2 λy _=>T.jp (λ_=>True) (λJ h3=>T.br (λ_=>T.jp (λ_=>True) (λJ4 h4=>T.br (λ_=>h4 _ trivial) λ_=>h4 _ trivial) λ_ _=>h3 _ trivial) λ_=>h3 _ trivial) λq _=>T.br (λ_=>T.some trivial) λ_=>T.ck (by omega) (hL _ (by omega) (by omega))
end Go.Proofs.Q


namespace Go.Proofs.Q
open Go.Sy
set_option linter.unusedVariables false

theorem zo2 (s:Str) (h:NumOk s.b):T (λr=>-9223372036854775808 <= r/\r <= 9223372036854775807) (zhE s):=by
 obtain ⟨ds,hd,hne,hlen,hv⟩:=h
 unfold zhE
 have hlb:s.b.length <= 20/\0 < s.b.length:=by
  have:0 < ds.length:=List.length_pos_iff.2 hne
  rcases hv with ⟨h1,_⟩ | ⟨h1,_⟩
  ·rw [h1];omega
  ·rw [h1];simp only [zLc];omega
 refine T.get (zIl _) (by omega) λy1 hy1=>?_
 refine T.jp (λq=>q.b=ds/\(y1=45->1 <= dval ds/\dval ds <= 9223372036854775808)/\(y1 ≠ 45->dval ds < 9223372036854775808)) (λJ k=>T.br (λh1=>?_) λh1=>k _ ?_) λq hq=>?_
 ·have h1:=zOT h1
  refine T.asd (by omega) (k _ ?_)
  rcases hv with ⟨h2,h3⟩ | ⟨h2,h3⟩
  ·exfalso
   rw [h2] at hy1
   have:=zeH (hd y1 (List.mem_of_getElem? hy1))
   rw [h1] at this
   have e:(45:UInt8).toNat=45:=rfl
   omega
  ·refine ⟨?_,λ_=>h3,λh=>absurd h1 h⟩
   dsimp only
   rw [h2]
   simp
 ·have h1:=zOF h1
  rcases hv with ⟨h2,h3⟩ | ⟨h2,h3⟩
  ·exact ⟨h2,λh=>absurd h h1,λ_=>h3⟩
  ·rw [h2] at hy1
   simp at hy1
   exact absurd hy1.symm h1
 ·obtain ⟨q1,q2,q3⟩:=hq
  refine T.lp (λ(p:UInt64 × Int)=>0 <= p.2/\p.2 <= (ds.length:Int)/\p.1=uval (ds.take p.2.toNat)) (λ(p:UInt64 × Int)=>((ds.length:Int) - p.2).toNat) ⟨zIl _,by dsimp only;omega,rfl⟩ (by dsimp only;omega) λL p hp hL=>?_
  obtain ⟨v,k⟩:=p
  obtain ⟨p1,p2,p3⟩:=hp
  dsimp only at p1 p2 p3 ⊢
  rw [q1]
  refine T.br (λh1=>?_) λh1=>?_
  ·have h1:=zOT h1
   refine T.get p1 h1 λy hy=>T.ck (by omega) (hL _ ⟨by dsimp only;omega,by dsimp only;omega,?_⟩ (by dsimp only;omega))
   have e:(k + 1).toNat=k.toNat + 1:=by omega
   dsimp only
   rw [e,List.take_add_one,hy,Option.toList_some,zmk,p3]
  ·have h1:=zOF h1
   rw [zTl (by omega)] at p3
   have hn:=zmC ds hd hlen
   rw [<- p3] at hn
   refine T.br (λh2=>?_) λh2=>?_
   ·have h3:=q2 (zOT h2)
    have e:(v - 1).toNat=dval ds - 1:=by
     have e1:(1:UInt64).toNat=1:=rfl
     rw [UInt64.toNat_sub_of_le v 1 (by rw [UInt64.le_iff_toNat_le,e1];omega),e1,hn]
    rw [e]
    exact T.ck (by omega) (T.ck (by omega) (T.ck (by omega) (T.some (by omega))))
   ·have h3:=q3 (zOF h2)
    exact T.ck (by omega) (T.some (by omega))
theorem zkM {l m a P x} (h:Ok l m a P x):T (λr=>Ok l m a P r.2/\(r.2.e=0->x.e=0/\r.2.at_=x.at_ + 1)/\-9223372036854775808 <= r.1/\r.1 <= 9223372036854775807) (zcC x):=by
 unfold zcC
 refine T.cal (znp 3 (by decide) h) λr _ hr=>T.br (λh2=>T.some ⟨hr.1,λe=>⟨(hr.2.1 e).1,(hr.2.1 e).2.1⟩,by dsimp only;omega,by dsimp only;omega⟩) λh2=>?_
 have h2:=zOF h2
 by_cases he:r.2.e=0
 ·obtain ⟨h3,h4,t,h5,h6,h7⟩:=hr.2.1 he
  refine T.cal (zo2 r.1 (by rw [h7];exact (Tk.ok h h5).num h6)) λv _ hv=>T.some ⟨hr.1,λe=>⟨h3,h4⟩,hv⟩
 ·exact absurd (hr.2.2 he) h2
theorem zn5 {l m a P x} (h:Ok l m a P x):T (λr=>Ok l m a P r.2/\(r.2.e=0->x.e=0)) (zdD x):=by
 unfold zdD
 refine T.cal (zcz _ h) λr _ hr=>T.jp (λq=>Ok l m a P q.1/\(q.1.e=0->x.e=0)) (λJ k=>T.br (λ_=>T.cal (zkM hr.1) λs _ hs=>k _ ⟨hs.1,λe=>hr.2.1 ▸ (hs.2.1 e).1⟩) λ_=>k _ ⟨hr.1,λe=>hr.2.1 ▸ e⟩) λq hq=>?_
 refine T.jp (λq=>Ok l m a P q.1/\(q.1.e=0->x.e=0)) (λJ k=>T.cal (zcz _ hq.1) λs _ hs=>T.br (λ_=>T.cal (zcz _ hs.1) λu _ hu=>T.br (λ_=>T.cal (zkM hu.1) λv _ hv=>k _ ⟨hv.1,λe=>hq.2 (hs.2.1 ▸ hu.2.1 ▸ (hv.2.1 e).1)⟩) λ_=>k _ ⟨hu.1,λe=>hq.2 (hs.2.1 ▸ hu.2.1 ▸ e)⟩) λ_=>T.br (λ_=>k _ ⟨hs.1,λe=>hq.2 (hs.2.1 ▸ e)⟩) λ_=>k _ ⟨hs.1,λe=>hq.2 (hs.2.1 ▸ e)⟩) λq2 hq2=>?_
 refine T.cal (zcz _ hq2.1) λs _ hs=>T.jp (λq=>Ok l m a P q.1/\(q.1.e=0->x.e=0)) (λJ k=>T.br (λ_=>T.cal (zdO _ hs.1) λu _ hu=>k _ ⟨hu.1,λe=>hq2.2 (hs.2.1 ▸ (hu.2 e).1)⟩) λ_=>k _ ⟨hs.1,λe=>hq2.2 (hs.2.1 ▸ e)⟩) λq3 hq3=>T.some hq3
theorem zoj {l m a P x} (h:Ok l m a P x):T (λr=>Ok l m a P r.2/\(r.2.e=0->x.e=0)) (zdL x):=by
 unfold zdL
 refine T.cal (zcz _ h) λr _ hr=>T.br (λ_=>T.some ⟨hr.1,λe=>hr.2.1 ▸ e⟩) λ_=>?_
 refine T.cal (zdO _ hr.1) λy1 _ h1=>T.cal (zdO _ h1.1) λy2 _ h2=>T.cal (zn5 h2.1) λy3 _ h3=>T.cal (zdO _ h3.1) λy4 _ h4=>T.cal (zdO _ h4.1) λy5 _ h5=>T.some ⟨h5.1,λe=>?_⟩
 exact hr.2.1 ▸ (h1.2 (h2.2 (h3.2 (h4.2 (h5.2 e).1).1)).1).1

def I64 (x:Int):Prop:=-9223372036854775808 <= x/\x <= 9223372036854775807
def IOk (n:GNode):Prop:=(∀ it ∈ n.items,I64 it.number)/\(n.more=true->0 <= n.root/\n.root <= n.items.length)
structure SameN (n n':GNode):Prop where
 kind:n'.kind=n.kind
 fields:n'.fields=n.fields
 of:n'.of=n.of
theorem zsF {l m a P x} (n:GNode) (h:Ok l m a P x) (hn:n.items=[]) (hm:n.more=false):T (λr=>Ok l m a P r.1/\(r.1.e=0->x.e=0)/\SameN n r.2/\(∀ it ∈ r.2.items,I64 it.number)/\0 <= r.2.root/\r.2.root <= r.2.items.length/\r.2.items.length <= 8001) (zeA x n):=by
 unfold zeA
 have hl:=h.toks.len
 refine T.jp (λq=>Ok l m a P q.1/\(q.1.e=0->x.e=0)/\SameN n q.2/\IOk q.2/\q.2.items.length <= 8001) (λJ k=>?_) λq hq=>T.br (λ_=>T.some ⟨hq.1,hq.2.1,⟨hq.2.2.1.kind,hq.2.2.1.fields,hq.2.2.1.of⟩,hq.2.2.2.1.1,by dsimp only;omega,zIl _,hq.2.2.2.2⟩) λhm2=>T.some ⟨hq.1,hq.2.1,hq.2.2.1,hq.2.2.2.1.1,(hq.2.2.2.1.2 (by simpa using hm2)).1,(hq.2.2.2.1.2 (by simpa using hm2)).2,hq.2.2.2.2⟩
 have ha0:=h.a0
 have ha1:=h.a1
 refine T.lp (λ(q:GPar × GNode)=>Ok l m a P q.1/\(q.1.e=0->x.e=0)/\SameN n q.2/\(q.2.items.length:Int) <= q.1.at_/\IOk q.2) (λ(q:GPar × GNode)=>((l.length:Int) - q.1.at_).toNat) ⟨h,λe=>e,⟨rfl,rfl,rfl⟩,by dsimp only;rw [hn];simpa using ha0,by dsimp only;rw [hn];simp,λh=>by dsimp only at h;rw [hm] at h;cases h⟩ (by dsimp only;omega) λL q hq hL=>?_
 obtain ⟨y,n1⟩:=q
 obtain ⟨h1,h2,h3,h4,h5⟩:=hq
 dsimp only at h1 h2 h3 h4 h5 ⊢
 refine T.br (λhe=>?_) λ_=>k _ ⟨h1,h2,h3,h5,by have:=h1.a1;dsimp only;omega⟩
 have he:=zOT he
 refine T.jp (λ_=>True) (λJ2 k2=>T.br (λ_=>k2 _ trivial) λ_=>k2 _ trivial) λb _=>?_
 refine T.jp (λ(q:Bool × GPar)=>Ok l m a P q.2/\q.2.e=y.e/\(q.1=true->q.2.at_=y.at_ + 1)/\(q.1=false->q.2.at_=y.at_)) (λJ3 k3=>T.br (λ_=>T.cal (zcz _ h1) λr _ hr=>k3 _ ⟨hr.1,hr.2.1,λe=>(hr.2.2.1 e).2,λe=>by rw [hr.2.2.2 e]⟩) λ_=>k3 _ ⟨h1,rfl,(λh=>by cases h),λ_=>rfl⟩) λq3 hq3=>?_
 refine T.jp (λ(q:GPar × GNode)=>Ok l m a P q.1/\(q.1.e=0->q.1.at_ ≥ y.at_ + 1)/\SameN n q.2/\(q.2.items.length:Int) <= y.at_ + 1/\IOk q.2) (λJ4 k4=>T.br (λhb=>k4 _ ⟨hq3.1,λ_=>by dsimp only;rw [hq3.2.2.1 hb];omega,⟨h3.kind,h3.fields,h3.of⟩,by dsimp only;omega,h5.1,λ_=>⟨by dsimp only;omega,zIl _⟩⟩) λhb=>?_) λq4 hq4=>?_
 ·have hq5:=hq3.2.2.2 hb
  refine T.cal (znp 2 (by decide) hq3.1) λr _ hr=>T.cal (zcz _ hr.1) λs _ hs=>T.jp (λ(q:GPar × GItem)=>Ok l m a P q.1/\(q.1.e=0->r.2.e=0/\q.1.at_ ≥ r.2.at_)/\I64 q.2.number) (λJ5 k5=>T.br (λhb2=>T.cal (zkM hs.1) λu _ hu=>T.cal (zdO _ hu.1) λw _ hw=>k5 _ ⟨hw.1,λe=>?_,hu.2.2⟩) λhb2=>k5 _ ⟨hs.1,λe=>⟨hs.2.1 ▸ e,by dsimp only;rw [hs.2.2.2 hb2];omega⟩,by unfold I64;dsimp only;omega⟩) λq5 hq5'=>T.abl ?_ (k4 _ ⟨hq5'.1,λe=>?_,⟨h3.kind,h3.fields,h3.of⟩,?_,?_,?_⟩)
  ·have e1:=hw.2 e
   have e2:=hu.2.1 e1.1
   have e3:=hs.2.2.1 hb2
   exact ⟨e3.1,by dsimp only at e ⊢;omega⟩
  ·have h9:=h1.a1
   simp only [zLs];omega
  ·have e1:=hq5'.2.1 e
   have e2:=hr.2.1 e1.1
   dsimp only at e ⊢
   omega
  ·simp only [zLa,zLs];omega
  ·intro it hit
   rcases List.mem_append.1 hit with h | h
   ·exact h5.1 it h
   ·rw [zMo.1 h];exact hq5'.2.2
  ·intro hmo
   have:=h5.2 hmo
   simp only [zLa,zLs]
   omega
 ·refine T.cal (zcz _ hq4.1) λr _ hr=>T.br (λhb=>k _ ⟨hr.1,λ_=>h2 he,hq4.2.2.1,hq4.2.2.2.2,by have:=h1.a1;have:=hq4.2.2.2.1;dsimp only;omega⟩) λhb=>?_
  have hb:r.1=true:=by simpa using hb
  have e1:=hr.2.2.1 hb
  have e2:=hq4.2.1 e1.1
  have e3:=hr.1.a1
  exact hL _ ⟨hr.1,λ_=>h2 he,hq4.2.2.1,by dsimp only;omega,hq4.2.2.2.2⟩ (by dsimp only;omega)
end Go.Proofs.Q


namespace Go.Proofs.Q
open Go.Sy
set_option linter.unusedVariables false

theorem zt1 (s:Str) (hl:s.b.length <= 1000000):T (λr=>r.length <= s.b.length) (zlS s):=by
 unfold zlS
 refine T.lp (λ(q:List UInt8 × Int)=>0 <= q.2/\q.2 <= (s.b.length:Int)/\(q.1.length:Int) <= q.2) (λ(q:List UInt8 × Int)=>((s.b.length:Int) - q.2).toNat) ⟨zIl _,by dsimp only;omega,by simp⟩ (by dsimp only;omega) λL q hq hL=>?_
 obtain ⟨o,i⟩:=q
 obtain ⟨h1,h2,h3⟩:=hq
 dsimp only at h1 h2 h3 ⊢
 refine T.ck (by omega) (T.br (λhb=>?_) λ_=>T.some (by omega))
 have hb:=zOT hb
 refine T.lp (λ(p:UInt8 × Int)=>i <= p.2/\p.2 <= i + 2) (λ(p:UInt8 × Int)=>(i + 2 - p.2).toNat) ⟨zIl _,by dsimp only;omega⟩ (by dsimp only;omega) λL2 p hp hL2=>?_
 obtain ⟨v,k⟩:=p
 obtain ⟨h4,h5⟩:=hp
 dsimp only at h4 h5 ⊢
 refine T.ck (by omega) (T.br (λhb2=>?_) λhb2=>?_)
 ·have hb2:=zOT hb2
  refine T.get (by omega) (by omega) λy _=>T.get (by omega) (by omega) λy2 _=>T.jp (λ_=>True) (λJ h6=>T.br (λ_=>T.get (by omega) (by omega) λ_ _=>h6 _ trivial) λ_=>h6 _ trivial) λu _=>T.asr (by decide) (T.ck (by omega) (hL2 _ ⟨by dsimp only;omega,by dsimp only;omega⟩ (by dsimp only;omega)))
 ·refine T.abl ?_ (T.ck (by omega) (hL _ ⟨by dsimp only;omega,by dsimp only;omega,?_⟩ (by dsimp only;omega)))
  ·simp only [zLs];omega
  ·simp only [zLa,zLs];omega

def DOk (v:Val):Prop:=v.b.length <= 8000/\v.l=[]/\v.more=[]/\0 <= v.kind/\v.kind <= 6/\v.rule=0
theorem Tk.eq {x:GPar} {t t':GTok} (h:Tk x t) (h':Tk x t'):t'=t:=by unfold Tk at h h';rw [h] at h';cases h';rfl
theorem zst {l m a P x} (h:Ok l m a P x):T (λr=>Ok l m a P r.2/\DOk r.1) (zew x):=by
 unfold zew
 refine T.cal (zhB h) λ⟨t,x'⟩ _ ⟨ht,hx⟩=>?_
 subst hx
 dsimp only at ht ⊢
 refine T.jp (λy=>Ok l m a P y) (λJ k=>T.br (λ_=>k _ h) λ_=>?_) λy hy=>T.some ⟨hy,zNz _,rfl,rfl,zOT rfl,zOT rfl,rfl⟩
 refine T.cal (zcz _ h) λy1 _ h1=>T.br (λ_=>T.some ⟨h1.1,⟨zNz _,rfl,rfl,zOT rfl,zOT rfl,rfl⟩⟩) λb1=>?_
 refine T.cal (zcz _ h1.1) λy2 _ h2=>T.br (λ_=>T.some ⟨h2.1,⟨zNz _,rfl,rfl,zOT rfl,zOT rfl,rfl⟩⟩) λb2=>?_
 refine T.cal (zcz _ h2.1) λy3 _ h3=>T.br (λ_=>T.some ⟨h3.1,⟨zNz _,rfl,rfl,zOT rfl,zOT rfl,rfl⟩⟩) λb3=>?_
 have e:y3.2=x':=by rw [h3.2.2.2 b3,h2.2.2.2 b2,h1.2.2.2 b1]
 have htl:=(Tk.ok h ht).len
 have hnx:=zlW h3.1
 rw [e] at hnx
 refine T.br (λhk=>?_) λ_=>T.br (λhk=>?_) λ_=>T.br (λhk=>?_) λ_=>T.br (λhk=>?_) λ_=>?_
 ·rw [e]
  refine T.cal hnx λr _ hr=>T.cal (zo2 r.1.text ?_) λv _ _=>T.some ⟨hr.2.1,zNz _,rfl,rfl,zOT rfl,zOT rfl,rfl⟩
  rw [Tk.eq ht hr.1];exact (Tk.ok h ht).num (zOT hk)
 ·rw [e]
  refine T.cal hnx λr _ hr=>T.abl ?_ (T.some ⟨hr.2.1,?_,rfl,rfl,zOT rfl,zOT rfl,rfl⟩)
  ·rw [Tk.eq ht hr.1];omega
  ·have h9:r.1.text.b.length <= 8000:=by rw [Tk.eq ht hr.1];omega
   exact h9
 ·rw [e]
  refine T.cal hnx λr _ hr=>T.cal (zt1 r.1.text ?_) λv _ hv=>T.some ⟨hr.2.1,?_,rfl,rfl,zOT rfl,zOT rfl,rfl⟩
  ·rw [Tk.eq ht hr.1];omega
  ·have h9:v.length <= 8000:=by rw [Tk.eq ht hr.1] at hv;omega
   exact h9
 ·rw [e]
  refine T.cal hnx λr _ hr=>T.abl ?_ (T.some ⟨hr.2.1,?_,rfl,rfl,zOT rfl,zOT rfl,rfl⟩)
  ·rw [Tk.eq ht hr.1];omega
  ·have h9:r.1.text.b.length <= 8000:=by rw [Tk.eq ht hr.1];omega
   exact h9
 ·exact T.cal (zhQ _ _ h3.1 (by decide)) λy _ hy=>k _ hy.1

def kidsOf (n:GNode):List Int:=if n.kind=11 then [] else n.fields.map (λf=>f.ty) ++ (if n.kind=10 then [n.of] else [])
def Kids (S:Nat->Nat->Prop):List Int->Nat->Nat->Prop
 | [],a,b=>a=b
 | k :: r,a,b=>∃ c,k=(a:Int)/\S a c/\Kids S r c b
def Sub:Nat->List GNode->Nat->Nat->Prop
 | 0,_,_,_=>False
 | h + 1,l,i,j=>∃ n,l[i]?=some n/\Kids (Sub h l) (kidsOf n) (i + 1) j
theorem Kids.le {S:Nat->Nat->Prop} (hS:∀ x y,S x y->x <= y):∀ {r a b},Kids S r a b->a <= b:=by
 intro r
 induction r with
 | nil=>intro a b h;exact Nat.le_of_eq h
 | cons k r ih=>intro a b ⟨c,_,h1,h2⟩;exact Nat.le_trans (hS _ _ h1) (ih h2)
theorem Sub.lt:∀ {h l i j},Sub h l i j->i < j:=by
 intro h
 induction h with
 | zero=>intro l i j h;exact h.elim
 | succ h ih=>intro l i j ⟨n,_,h2⟩;exact Kids.le (λx y h=>Nat.le_of_lt (ih h)) h2
theorem Kids.mono {S S':Nat->Nat->Prop} (hS:∀ x y,S x y->x <= y):∀ {r a b},(∀ x y,a <= x->y <= b->S x y->S' x y)->Kids S r a b->Kids S' r a b:=by
 intro r
 induction r with
 | nil=>intro a b _ h;exact h
 | cons k r ih =>
  intro a b hm ⟨c,h0,h1,h2⟩
  have:=Kids.le hS h2
  exact ⟨c,h0,hm _ _ (zNl _) this h1,ih (λx y hx hy=>hm x y (Nat.le_trans (hS _ _ h1) hx) hy) h2⟩
theorem Kids.snoc {S:Nat->Nat->Prop} {c:Nat}:∀ {r a b},Kids S r a b->S b c->Kids S (r ++ [(b:Int)]) a c:=by
 intro r
 induction r with
 | nil=>intro a b h h2;cases h;exact ⟨c,rfl,h2,rfl⟩
 | cons k r ih=>intro a b ⟨d,h0,h1,h3⟩ h2;exact ⟨d,h0,h1,ih h3 h2⟩
theorem Sub.mono:∀ {h l l' i j},(∀ k,i <= k->k < j->l'[k]?=l[k]?)->Sub h l i j->Sub h l' i j:=by
 intro h
 induction h with
 | zero=>intro l l' i j _ h;exact h
 | succ h ih =>
  intro l l' i j hl hs
  have hlt:=hs.lt
  obtain ⟨n,h1,h2⟩:=hs
  refine ⟨n,by rw [hl i (zNl _) hlt];exact h1,Kids.mono (λx y h=>Nat.le_of_lt h.lt) (λx y hx hy hs=>ih (λk h3 h4=>hl k (by omega) (by omega)) hs) h2⟩
theorem Kids.monoL {h l l' r a b} (hl:∀ k,a <= k->k < b->l'[k]?=l[k]?) (hk:Kids (Sub h l) r a b):Kids (Sub h l') r a b :=
 Kids.mono (λx y h=>Nat.le_of_lt h.lt) (λx y hx hy hs=>hs.mono λk h3 h4=>hl k (by omega) (by omega)) hk
def FOk (n:GNode):Prop:=∀ f ∈ n.fields,DOk f.dflt
structure NodeOk (n:GNode):Prop where
 root0:0 <= n.root
 items:n.kind=3->n.root <= n.items.length
 nums:∀ it ∈ n.items,I64 it.number
 ilen:n.items.length <= 8001
 fields:n.kind=7 \/ n.kind=8 \/ n.kind=9->n.root <= n.fields.length
 dflt:FOk n
 rootZ:n.kind ≠ 3->¬ (n.kind=7 \/ n.kind=8 \/ n.kind=9)->n.root=0
structure Grow (m m':GMod):Prop where
 name:m'.name=m.name
 tagging:m'.tagging=m.tagging
 names:m'.names=m.names
 types:m'.types=m.types
 le:m.nodes.length <= m'.nodes.length
 lim:m'.nodes.length <= 300
 pre:∀ i,i < m.nodes.length->m'.nodes[i]?=m.nodes[i]?
 ok:(∀ n ∈ m.nodes,NodeOk n)->∀ n ∈ m'.nodes,NodeOk n
theorem Grow.refl {m:GMod} (h:m.nodes.length <= 300):Grow m m:=⟨rfl,rfl,rfl,rfl,zNl _,h,λ_ _=>rfl,λh=>h⟩
theorem Grow.trans {m m' m'':GMod} (h:Grow m m') (h':Grow m' m''):Grow m m'' :=
 ⟨h'.name.trans h.name,h'.tagging.trans h.tagging,h'.names.trans h.names,h'.types.trans h.types,Nat.le_trans h.le h'.le,h'.lim,λi hi=>(h'.pre i (Nat.lt_of_lt_of_le hi h.le)).trans (h.pre i hi),λk=>h'.ok (h.ok k)⟩
end Go.Proofs.Q


namespace Go.Proofs.Q
open Go.Sy
set_option linter.unusedVariables false

def NI (n q:GNode):Prop:=q.kind=n.kind/\FOk q/\(q.more=true->0 <= q.root/\q.root <= q.fields.length)
def FX (n r:GNode):Prop:=r.kind=n.kind/\r.more=n.more/\r.root=n.root/\(FOk n->FOk r)
theorem NI.next {n q r:GNode} (h:NI n q) (k:FX q r) (hl:r.fields.length=q.fields.length + 1):NI n r :=
 ⟨k.1.trans h.1,k.2.2.2 h.2.1,λe=>by have:=h.2.2 (k.2.1 ▸ e);rw [k.2.2.1,hl];omega⟩
def TypS (l:List GTok) (f:GPar->Int->Option (Int × GPar)) (D:Nat):Prop:=∀ x m a P (d:Int),Ok l m a P x->m.nodes.length <= 300->0 <= d->d + D=17 ->
 T (λr=>∃ m',Grow m m'/\Ok l m' a (P/\r.1=(m.nodes.length:Int)/\Sub D m'.nodes m.nodes.length m'.nodes.length) r.2) (f x d)
def BaseS (l:List GTok) (f:GPar->GNode->Int->Option (GPar × GNode)) (D:Nat):Prop:=∀ x n m a P (d:Int),Ok l m a P x->m.nodes.length <= 300->0 <= d->d + D=16->n.fields=[]->n.items=[]->n.kind=0->n.more=false->n.root=0 ->
 T (λr=>(∃ m',Grow m m'/\Ok l m' a (P/\Kids (Sub D m'.nodes) (kidsOf r.2) m.nodes.length m'.nodes.length) r.1)/\NodeOk r.2) (f x n d)
def FieldsS (l:List GTok) (f:GPar->GNode->Int->Option (GPar × GNode)) (D:Nat):Prop:=∀ x n m a P (d:Int),Ok l m a P x->m.nodes.length <= 300->0 <= d->d + D=16->n.fields=[]->n.more=false->n.root=0 ->
 T (λr=>(∃ m',Grow m m'/\Ok l m' a (P/\Kids (Sub D m'.nodes) (r.2.fields.map (λf=>f.ty)) m.nodes.length m'.nodes.length) r.1)/\r.2.kind=n.kind/\r.2.items=n.items/\FOk r.2/\0 <= r.2.root/\r.2.root <= r.2.fields.length) (f x n d)
def FieldS (l:List GTok) (f:GPar->GNode->Int->Int->Option (GPar × GNode)) (D:Nat):Prop:=∀ x n m a P (d g:Int) b0,Ok l m a (P/\Kids (Sub D m.nodes) (n.fields.map (λf=>f.ty)) b0 m.nodes.length) x->m.nodes.length <= 300->0 <= d->d + D=16->(n.fields.length:Int) <= x.at_->b0 <= m.nodes.length ->
 T (λr=>(∃ m',Grow m m'/\Ok l m' a (P/\Kids (Sub D m'.nodes) (r.2.fields.map (λf=>f.ty)) b0 m'.nodes.length/\x.at_ + 1 <= r.1.at_) r.1)/\(FX n r.2/\r.2.items=n.items)/\r.2.fields.length=n.fields.length + 1) (f x n d g)

theorem zra {l F Ty B Fs D} (hT:TypS l Ty D):FieldS l (zd5 F Ty B Fs) D:=by
 intro x n m a P d g b0 h hm hd0 hd hn hb
 unfold zd5
 have hl:=h.toks.len
 have ha:=h.a1
 refine T.cal (znp 2 (by decide) h) λr _ hr=>T.ck (by omega) ?_
 have h1:Ok l m (x.at_ + 1) ((P/\Kids (Sub D m.nodes) (n.fields.map (λf=>f.ty)) b0 m.nodes.length)/\a <= x.at_) r.2:=hr.1.to λe h2 h3=>⟨⟨h2,(h.ok (hr.2.1 e).1).2⟩,by have:=hr.2.1 e;omega⟩
 refine T.cal (hT _ _ _ _ (d + 1) h1 hm (by omega) (by omega)) λs _ ⟨m',hg,hs⟩=>?_
 refine T.jp (λq=>Ok l m' (x.at_ + 1) (((P/\Kids (Sub D m.nodes) (n.fields.map (λf=>f.ty)) b0 m.nodes.length)/\a <= x.at_)/\s.1=(m.nodes.length:Int)/\Sub D m'.nodes m.nodes.length m'.nodes.length) q.2/\q.1.ty=s.1/\DOk q.1.dflt) (λJ k=>?_) λq hq=>?_
 ·refine T.br (λ_=>k _ ⟨hs,rfl,zNz _,rfl,rfl,zOT rfl,zOT rfl,rfl⟩) λ_=>T.cal (zcz _ hs) λy1 _ e1=>T.br (λ_=>k _ ⟨e1.1,rfl,zNz _,rfl,rfl,zOT rfl,zOT rfl,rfl⟩) λ_=>T.cal (zcz _ e1.1) λy2 _ e2=>T.br (λ_=>T.cal (zst e2.1) λy3 _ e3=>k _ ⟨e3.1,rfl,e3.2⟩) λ_=>k _ ⟨e2.1,rfl,zNz _,rfl,rfl,zOT rfl,zOT rfl,rfl⟩
 ·refine T.abl (by simp only [zLs];omega) (T.some ⟨⟨m',hg,hq.1.to λe ⟨⟨⟨p1,p2⟩,p3⟩,p4,p5⟩ p6=>⟨⟨p1,?_,p6⟩,?_⟩⟩,⟨⟨rfl,rfl,rfl,λhf f hf2=>?_⟩,rfl⟩,by simp⟩)
  rotate_left 2
  ·rcases List.mem_append.1 hf2 with h | h
   ·exact hf f h
   ·rw [zMo.1 h];exact hq.2.2
  ·dsimp only
   rw [List.map_append,List.map_singleton,hq.2.1,p4]
   exact (p2.monoL λk hk1 hk2=>hg.pre k hk2).snoc p5
  ·omega

theorem zqN {l F Ty B Fs D} (hF:FieldS l F D):FieldsS l (zdP F Ty B Fs) D:=by
 intro x n m a P d h hm hd0 hd hn hnm hnr
 have hni:NI n n:=⟨rfl,by unfold FOk;rw [hn];simp,λh=>by rw [hnm] at h;cases h⟩
 unfold zdP
 have hl:=h.toks.len
 have ha0:=h.a0
 have ha1:=h.a1
 have hk0:Kids (Sub D m.nodes) (n.fields.map (λf=>f.ty)) m.nodes.length m.nodes.length:=by rw [hn];rfl
 refine T.cal (zcz _ h) λr _ hr=>T.br (λ_=>T.some ⟨⟨m,Grow.refl hm,hr.1.to λe p1 p2=>⟨⟨p1,hk0⟩,p2⟩⟩,rfl,rfl,hni.2.1,by dsimp only;omega,by dsimp only;omega⟩) λhb=>?_
 have hrx:=hr.2.2.2 hb
 -- what holds between
 refine T.jp (λ(q:GPar × GNode)=>(∃ m',Grow m m'/\Ok l m' a (P/\Kids (Sub D m'.nodes) (q.2.fields.map (λf=>f.ty)) m.nodes.length m'.nodes.length) q.1)/\(NI n q.2/\q.2.items=n.items)) (λJ k=>?_) λq ⟨⟨m',hg,hq⟩,hqk⟩=>?_
 ·refine T.lp (λ(q:Int × GPar × GNode)=>((∃ m',Grow m m'/\Ok l m' a (P/\Kids (Sub D m'.nodes) (q.2.2.fields.map (λf=>f.ty)) m.nodes.length m'.nodes.length) q.2.1)/\(NI n q.2.2/\q.2.2.items=n.items))/\0 <= q.1/\q.1 <= q.2.1.at_/\(q.2.2.fields.length:Int) <= q.2.1.at_) (λ(q:Int × GPar × GNode)=>((l.length:Int) - q.2.1.at_).toNat) ⟨⟨⟨m,Grow.refl hm,hr.1.to λe p1 p2=>⟨⟨p1,hk0⟩,p2⟩⟩,⟨hni,rfl⟩⟩,zIl _,by dsimp only;rw [hrx];exact ha0,by dsimp only;rw [hrx,hn];exact ha0⟩ (by dsimp only;rw [hrx];omega) λL q hq hL=>?_
  obtain ⟨g,y,n1⟩:=q
  obtain ⟨⟨⟨m1,hg1,h1⟩,hk1⟩,h2,h3,h4⟩:=hq
  dsimp only at h1 h2 h3 h4 hk1 ⊢
  have hy1:=h1.a1
  refine T.br (λhe=>?_) λ_=>k _ ⟨⟨m1,hg1,h1⟩,hk1⟩
  have he:=zOT he
  refine T.jp (λ(q:Int × GPar × GNode)=>((∃ m',Grow m m'/\Ok l m' a (P/\Kids (Sub D m'.nodes) (q.2.2.fields.map (λf=>f.ty)) m.nodes.length m'.nodes.length) q.2.1)/\(NI n q.2.2/\q.2.2.items=n.items))/\0 <= q.1/\(q.2.1.e=0->q.1 <= q.2.1.at_ + 1/\(q.2.2.fields.length:Int) <= q.2.1.at_ + 1/\y.at_ <= q.2.1.at_)) (λJ2 k2=>?_) λq hq=>?_
  ·refine T.jp (λ(q:Bool × GPar)=>Ok l m1 a (P/\Kids (Sub D m1.nodes) (n1.fields.map (λf=>f.ty)) m.nodes.length m1.nodes.length) q.2/\q.2.at_ ≥ y.at_/\(q.1=false->q.2=y)) (λJ3 k3=>T.br (λ_=>T.cal (zcz _ h1) λu _ hu=>k3 _ ⟨hu.1,?_,hu.2.2.2⟩) λ_=>k3 _ ⟨h1,zIl _,λ_=>rfl⟩) λq3 hq3=>?_
   ·cases hu1:u.1 with
    | true=>have:=hu.2.2.1 hu1;dsimp only;omega
    | false=>have:=hu.2.2.2 hu1;dsimp only;rw [this];omega
   refine T.br (λ_=>k2 _ ⟨⟨⟨m1,hg1,hq3.1⟩,⟨⟨hk1.1.1,hk1.1.2.1,λ_=>⟨by dsimp only;omega,zIl _⟩⟩,hk1.2⟩⟩,h2,λ_=>⟨by dsimp only;omega,by dsimp only;omega,by dsimp only;omega⟩⟩) λb3=>?_
   have e3:=hq3.2.2 b3
   refine T.jp (λ(q:Bool × GPar)=>Ok l m1 a (P/\Kids (Sub D m1.nodes) (n1.fields.map (λf=>f.ty)) m.nodes.length m1.nodes.length) q.2/\q.2.at_ ≥ y.at_/\(q.1=true->q.2.at_ ≥ y.at_ + 1)/\(q.1=false->q.2=y)) (λJ3 k3=>T.br (λ_=>T.cal (zcz _ hq3.1) λu _ hu=>k3 _ ⟨hu.1,?_,λhu1=>?_,λhu1=>?_⟩) λ_=>k3 _ ⟨hq3.1,by dsimp only;omega,(λh=>by cases h),λ_=>e3⟩) λq4 hq4=>?_
   ·cases hu1:u.1 with
    | true=>have:=hu.2.2.1 hu1;dsimp only;omega
    | false=>have:=hu.2.2.2 hu1;dsimp only;rw [this];omega
   ·have:=hu.2.2.1 hu1;dsimp only;omega
   ·have:=hu.2.2.2 hu1;dsimp only;rw [this,e3]
   refine T.br (λb4=>T.ck (by omega) ?_) λb4=>?_
   ·have a4:=hq4.2.2.1 b4
    have a5:=hq4.1.a1
    refine T.jp (λ(q:GPar × GNode)=>(∃ m',Grow m m'/\Ok l m' a (P/\Kids (Sub D m'.nodes) (q.2.fields.map (λf=>f.ty)) m.nodes.length m'.nodes.length) q.1)/\(NI n q.2/\q.2.items=n.items)/\(q.1.e=0->(q.2.fields.length:Int) <= q.1.at_ + 1/\q4.2.at_ <= q.1.at_)) (λJ5 k5=>?_) λq ⟨⟨m2,hg2,hq⟩,hqk,hql⟩=>?_
    ·refine T.lp (λ(q:GPar × GNode)=>(∃ m',Grow m m'/\Ok l m' a (P/\Kids (Sub D m'.nodes) (q.2.fields.map (λf=>f.ty)) m.nodes.length m'.nodes.length) q.1)/\(NI n q.2/\q.2.items=n.items)/\(q.2.fields.length:Int) <= q.1.at_/\q4.2.at_ <= q.1.at_) (λ(q:GPar × GNode)=>((l.length:Int) - q.1.at_).toNat) ⟨⟨m1,hg1,hq4.1⟩,hk1,by dsimp only;omega,zIl _⟩ (by have:=hq4.1.a0;dsimp only;omega) λL6 q ⟨⟨m2,hg2,hq⟩,hqk,hql,hqa⟩ hL6=>?_
     refine T.br (λb6=>?_) λ_=>k5 _ ⟨⟨m2,hg2,hq⟩,hqk,λ_=>⟨by dsimp only;omega,hqa⟩⟩
     refine T.cal (hF _ _ _ _ _ _ _ _ hq hg2.lim hd0 hd hql hg2.le) λs _ ⟨⟨m3,hg3,hs⟩,hsk,hsl⟩=>T.cal (zcz _ hs) λu _ hu=>T.br (λb7=>k5 _ ⟨⟨m3,hg2.trans hg3,hu.1.to λe ⟨p1,p2,p3⟩ p4=>⟨⟨p1,p2⟩,p4⟩⟩,⟨hqk.1.next hsk.1 hsl,hsk.2.trans hqk.2⟩,λe=>?_⟩) λb7=>?_
     ·have b7:u.1=false:=by simpa using b7
      have e7:=hu.2.2.2 b7
      have e8:=(hs.ok (by rw [<- e7];exact e)).1.2.2
      dsimp only
      rw [e7]
      exact ⟨by omega,by omega⟩
     ·have b7:u.1=true:=by simpa using b7
      have e7:=hu.2.2.1 b7
      have e8:=(hs.ok e7.1).1.2.2
      have e9:=hu.1.a1
      exact hL6 _ ⟨⟨m3,hg2.trans hg3,hu.1.to λe ⟨p1,p2,p3⟩ p4=>⟨⟨p1,p2⟩,p4⟩⟩,⟨hqk.1.next hsk.1 hsl,hsk.2.trans hqk.2⟩,by dsimp only;omega,by dsimp only;omega⟩ (by dsimp only;omega)
    ·refine T.cal (zdO _ hq) λw _ hw=>k2 _ ⟨⟨⟨m2,hg2,hw.1⟩,hqk⟩,by dsimp only;omega,λe=>?_⟩
     have e1:=hw.2 e
     have e2:=hql e1.1
     dsimp only
     omega
   ·have e4:=hq4.2.2.2 b4
    refine T.cal (hF _ _ _ _ _ _ (0:Int) _ hq4.1 hg1.lim hd0 hd (by rw [e4];exact h4) hg1.le) λs _ ⟨⟨m3,hg3,hs⟩,hsk,hsl⟩=>k2 _ ⟨⟨⟨m3,hg1.trans hg3,hs.to λe ⟨p1,p2,p3⟩ p4=>⟨⟨p1,p2⟩,p4⟩⟩,⟨hk1.1.next hsk.1 hsl,hsk.2.trans hk1.2⟩⟩,h2,λe=>?_⟩
    have e8:=(hs.ok e).1.2.2
    rw [e4] at e8
    dsimp only
    omega
  ·obtain ⟨⟨⟨m2,hg2,hq1⟩,hqk⟩,hq0,hql⟩:=hq
   refine T.cal (zcz _ hq1) λu _ hu=>T.br (λb7=>k _ ⟨⟨m2,hg2,hu.1⟩,hqk⟩) λb7=>?_
   have b7:u.1=true:=by simpa using b7
   have e7:=hu.2.2.1 b7
   have e8:=hql e7.1
   have e9:=hu.1.a1
   exact hL _ ⟨⟨⟨m2,hg2,hu.1⟩,hqk⟩,hq0,by dsimp only;omega,by dsimp only;omega⟩ (by dsimp only;omega)
 ·refine T.cal (zdO _ hq) λw _ hw=>T.br (λ_=>T.some ⟨⟨m',hg,hw.1⟩,hqk.1.1,hqk.2,hqk.1.2.1,by dsimp only;omega,zIl _⟩) λhmo=>T.some ⟨⟨m',hg,hw.1⟩,hqk.1.1,hqk.2,hqk.1.2.1,hqk.1.2.2 (by simpa using hmo)⟩
end Go.Proofs.Q


namespace Go.Proofs.Q
open Go.Sy
set_option linter.unusedVariables false

theorem zrc {n:GNode} (h:n.fields=[]) (hk:n.kind ≠ 10):kidsOf n=[]:=by
 unfold kidsOf;rw [h,if_neg hk];split <;> rfl
theorem zou {n:GNode} (h:n.kind ≠ 11) (hk:n.kind ≠ 10):kidsOf n=n.fields.map (λf=>f.ty):=by
 unfold kidsOf;rw [if_neg h,if_neg hk,List.append_nil]

theorem zsT {l F Ty B Fs D} (hT:TypS l Ty D) (hF:FieldsS l Fs D):BaseS l (zei F Ty B Fs) D:=by
 intro x n m a P d h hm hd0 hd hn hi hk hmo hro
 unfold zei
 have nok:∀ n':GNode,n'.fields=[]->n'.items=[]->n'.root=0->NodeOk n':=λn' h1 h2 h3=>⟨by omega,λ_=>by omega,by rw [h2];simp,by rw [h2];simp,λ_=>by omega,by unfold FOk;rw [h1];simp,λ_ _=>h3⟩
 have leaf0:∀ y n',Ok l m a P y->n'.fields=[]->n'.kind ≠ 10->∃ m',Grow m m'/\Ok l m' a (P/\Kids (Sub D m'.nodes) (kidsOf n') m.nodes.length m'.nodes.length) y:=λy n' hy h1 h2=>⟨m,Grow.refl hm,hy.to λe p1 p2=>⟨⟨p1,by rw [zrc h1 h2];rfl⟩,p2⟩⟩
 have leaf:∀ y n',Ok l m a P y->n'.fields=[]->n'.items=[]->n'.root=0->n'.kind ≠ 10->(∃ m',Grow m m'/\Ok l m' a (P/\Kids (Sub D m'.nodes) (kidsOf n') m.nodes.length m'.nodes.length) y)/\NodeOk n':=λy n' hy h1 h3 h4 h2=>⟨leaf0 y n' hy h1 h2,nok n' h1 h3 h4⟩
 have leaf2:∀ (r:GPar × GNode) (n0:GNode),((∃ m',Grow m m'/\Ok l m' a (P/\Kids (Sub D m'.nodes) (r.2.fields.map (λf=>f.ty)) m.nodes.length m'.nodes.length) r.1)/\r.2.kind=n0.kind/\r.2.items=n0.items/\FOk r.2/\0 <= r.2.root/\r.2.root <= r.2.fields.length)->n0.items=[]->n0.kind ≠ 11->n0.kind ≠ 10->n0.kind ≠ 3->(n0.kind=7 \/ n0.kind=8 \/ n0.kind=9)->(∃ m',Grow m m'/\Ok l m' a (P/\Kids (Sub D m'.nodes) (kidsOf r.2) m.nodes.length m'.nodes.length) r.1)/\NodeOk r.2:=λr n0 h0 hi0 h1 h2 h3 h4=>by
  obtain ⟨k0,k1,k2,k3,k4,k5⟩:=h0
  rw [<- k1] at h1 h2 h3 h4
  refine ⟨by rw [zou h1 h2];exact k0,k4,λe=>absurd e h3,by rw [k2,hi0];simp,by rw [k2,hi0];simp,λ_=>k5,k3,λ_ e=>absurd h4 e⟩
 refine T.cal (zhB h) λ⟨t,x'⟩ _ ⟨ht,hx⟩=>?_
 subst hx
 dsimp only at ht ⊢
 refine T.br (λhe=>T.some ⟨⟨m,Grow.refl hm,h.err (by simpa using he)⟩,nok _ hn hi hro⟩) λ_=>?_
 refine T.cal (zcz _ h) λy1 _ h1=>T.br (λ_=>T.some (leaf _ _ h1.1 hn hi hro (by dsimp only;decide))) λb1=>?_
 refine T.cal (zcz _ h1.1) λy2 _ h2=>T.br (λ_=>T.some (leaf _ _ h2.1 hn hi hro (by dsimp only;decide))) λb2=>?_
 refine T.cal (zcz _ h2.1) λy3 _ h3=>T.br (λ_=>T.cal (zoj h3.1) λs _ hs=>T.some (leaf _ _ hs.1 hn hi hro (by dsimp only;decide))) λb3=>?_
 refine T.cal (zcz _ h3.1) λy4 _ h4=>T.br (λ_=>T.cal (zcz _ h4.1) λs _ hs=>T.br (λ_=>T.cal (zn5 hs.1) λu _ hu=>T.cal (zdO _ hu.1) λw _ hw=>T.some (leaf _ _ hw.1 hn hi hro (by dsimp only;decide))) λ_=>T.some (leaf _ _ hs.1 hn hi hro (by dsimp only;decide))) λb4=>?_
 refine T.cal (zcz _ h4.1) λy5 _ h5=>T.br (λ_=>T.cal (zdO _ h5.1) λs _ hs=>T.cal (zoj hs.1) λu _ hu=>T.some (leaf _ _ hu.1 hn hi hro (by dsimp only;decide))) λb5=>?_
 refine T.cal (zcz _ h5.1) λy6 _ h6=>T.br (λ_=>T.cal (zdO _ h6.1) λs _ hs=>T.cal (zsF _ hs.1 hi hmo) λu _ hu=>T.cal (zdO _ hu.1) λw _ hw=>T.some ⟨leaf0 _ _ hw.1 (hu.2.2.1.fields.trans hn) (by rw [hu.2.2.1.kind];dsimp only;decide),hu.2.2.2.2.1,λ_=>hu.2.2.2.2.2.1,hu.2.2.2.1,hu.2.2.2.2.2.2,λe=>by rw [hu.2.2.1.kind] at e;dsimp only at e;omega,by unfold FOk;rw [hu.2.2.1.fields,hn];simp,λe _=>absurd hu.2.2.1.kind e⟩) λb6=>?_
 refine T.cal (zcz _ h6.1) λy7 _ h7=>T.br (λ_=>T.cal (zdO _ h7.1) λs _ hs=>T.cal (hF _ _ _ _ _ _ hs.1 hm hd0 hd hn hmo hro) λu _ hu=>T.some (leaf2 _ _ hu hi (by dsimp only;decide) (by dsimp only;decide) (by dsimp only;decide) (by dsimp only;decide))) λb7=>?_
 refine T.cal (zcz _ h7.1) λy8 _ h8=>T.br (λ_=>T.cal (zdO _ h8.1) λs _ hs=>T.cal (hF _ _ _ _ _ _ hs.1 hm hd0 hd hn hmo hro) λu _ hu=>T.some (leaf2 _ _ hu hi (by dsimp only;decide) (by dsimp only;decide) (by dsimp only;decide) (by dsimp only;decide))) λb8=>?_
 refine T.cal (zcz _ h8.1) λy9 _ h9=>T.br (λ_=>T.cal (zcz _ h9.1) λs _ hs=>T.br (λ_=>T.cal (hF _ _ _ _ _ _ hs.1 hm hd0 hd hn hmo hro) λu _ hu=>T.some (leaf2 _ _ hu hi (by dsimp only;decide) (by dsimp only;decide) (by dsimp only;decide) (by dsimp only;decide))) λ_=>?_) λb9=>?_
 ·refine T.cal (zoj hs.1) λu _ hu=>T.cal (zdO _ hu.1) λw _ hw=>T.ck (by omega) (T.cal (hT _ _ _ _ (d + 1) hw.1 hm (by omega) (by omega)) λv _ ⟨m',hg,hv⟩=>T.some ⟨⟨m',hg,hv.to λe ⟨p1,p2,p3⟩ p4=>⟨⟨p1,?_⟩,p4⟩⟩,nok _ hn hi hro⟩)
  have e:kidsOf (GNode.mk 10 n.name n.mark u.1 n.items n.fields n.root n.more v.1)=[(m.nodes.length:Int)]:=by
   unfold kidsOf;dsimp only;rw [hn,p2];rfl
  dsimp only
  rw [e]
  exact ⟨_,rfl,p3,rfl⟩
 ·refine T.br (λ_=>T.cal (zlW h9.1) λs _ hs=>T.some (leaf _ _ hs.2.1 hn hi hro (by dsimp only;decide))) λ_=>T.cal (zhQ _ _ h9.1 (by decide)) λs _ hs=>T.some ⟨⟨m,Grow.refl hm,hs.1.err hs.2⟩,nok _ hn hi hro⟩

theorem zuy {l F Ty B Fs D} (hB:∀ D',D=D' + 1->BaseS l B D'):TypS l (zev F Ty B Fs) D:=by
 intro x m a P d h hm hd0 hd
 unfold zev
 refine T.br (λhe=>T.some ⟨m,Grow.refl hm,h.err (by simpa using he)⟩) λhe=>?_
 refine T.cal (zhB h) λ⟨t,x'⟩ _ ⟨ht,hx⟩=>?_
 subst hx
 dsimp only at ht h ⊢
 obtain rfl:=h.ym
 refine T.cal (zq2 t) λb _ _=>T.br (λ_=>?_) λ_=>?_
 ·refine T.cal (zhB h) λ⟨t2,x2⟩ _ ⟨_,hx2⟩=>?_
  subst hx2
  exact T.cal (zhQ _ _ h (by decide)) λy _ hy=>T.some ⟨_,Grow.refl hm,hy.1.err hy.2⟩
 refine T.jp (λb=>b=false->d <= 16/\x'.m.nodes.length < 300) (λJ k=>T.br (λ_=>k _ λh=>by cases h) λh1=>k _ λh2=>by have:=zOF h1;have:=zOF h2;omega) λb2 hb2=>T.br (λ_=>?_) λhb3=>?_
 ·refine T.cal (zhB h) λ⟨t2,x2⟩ _ ⟨_,hx2⟩=>?_
  subst hx2
  exact T.cal (zhQ _ _ h (by decide)) λy _ hy=>T.some ⟨_,Grow.refl hm,hy.1.err hy.2⟩
 obtain ⟨hd16,hlt⟩:=hb2 hb3
 obtain ⟨D',rfl⟩:∃ D',D=D' + 1:=⟨D - 1,by omega⟩
 refine T.abl (by simp only [zLs];omega) ?_
 have hx1:∀ z,Ok l (GMod.mk x'.m.name x'.m.tagging x'.m.names x'.m.types (x'.m.nodes ++ [z])) a P (GPar.mk x'.l x'.at_ (GMod.mk x'.m.name x'.m.tagging x'.m.names x'.m.types (x'.m.nodes ++ [z])) x'.e x'.p):=λz=>⟨h.toks,h.yl,rfl,h.a0,h.a1,h.ok⟩
 have zok:∀ z:GNode,z.fields=[]/\z.items=[]/\z.root=0->NodeOk z:=λn' ⟨h1,h2,h3⟩=>⟨by omega,λ_=>by omega,by rw [h2];simp,by rw [h2];simp,λ_=>by omega,by unfold FOk;rw [h1];simp,λ_ _=>h3⟩
 have hg1:∀ z,(z.fields=[]/\z.items=[]/\z.root=0)->Grow x'.m (GMod.mk x'.m.name x'.m.tagging x'.m.names x'.m.types (x'.m.nodes ++ [z])):=λz hz0=>⟨rfl,rfl,rfl,rfl,by simp,by simp only [zLa,zLs];omega,λi hi=>List.getElem?_append_left hi,λhk n hn=>by
  rcases List.mem_append.1 hn with h | h
  ·exact hk n h
  ·rw [zMo.1 h];exact zok z hz0⟩
 have hzf:∃ z,GNode.mk (0:Int) (Str.mk []) (GMark.mk false (0:Int) (0:Int)) (GCon.mk false false false false (0:Int) (0:Int)) ([]:(List GItem)) ([]:(List GFld)) (0:Int) false (0:Int)=z/\z.fields=[]/\z.items=[]/\z.kind=0/\z.more=false/\z.root=0:=⟨_,rfl,rfl,rfl,rfl,rfl,rfl⟩
 obtain ⟨z,hz,z1,z2,z3,z4,z5⟩:=hzf
 rw [hz]
 refine T.cal (zcz _ (hx1 _)) λy1 _ h1=>T.jp (λ(q:GPar × GNode)=>Ok l (GMod.mk x'.m.name x'.m.tagging x'.m.names x'.m.types (x'.m.nodes ++ [z])) a P q.1/\q.2.fields=[]/\q.2.items=[]/\q.2.kind=0/\q.2.more=false/\q.2.root=0) (λJ k=>T.br (λ_=>?_) λ_=>k _ ⟨h1.1,z1,z2,z3,z4,z5⟩) λq ⟨hq,q1,q2,q3,q4,q5⟩=>?_
 ·refine T.cal (zhB h1.1) λ⟨t2,x2⟩ _ ⟨_,hx2⟩=>?_
  subst hx2
  refine T.cal (zkM h1.1) λu _ hu=>?_
  refine T.jp (λ_=>True) (λJ2 k2=>T.br (λ_=>T.jp (λ_=>True) (λJ3 k3=>T.br (λ_=>k3 _ trivial) λ_=>k3 _ trivial) λ_ _=>k2 _ trivial) λ_=>k2 _ trivial) λb5 _=>?_
  refine T.jp (λy=>Ok l (GMod.mk x'.m.name x'.m.tagging x'.m.names x'.m.types (x'.m.nodes ++ [z])) a P y) (λJ2 k2=>T.br (λ_=>T.cal (zhQ _ _ hu.1 (by decide)) λw _ hw=>k2 _ hw.1) λ_=>k2 _ hu.1) λy5 h5=>?_
  refine T.cal (zdO _ h5) λy6 _ h6=>T.cal (zcz _ h6.1) λy7 _ h7=>T.br (λ_=>k _ ⟨h7.1,rfl,rfl,rfl,rfl,rfl⟩) λ_=>T.cal (zcz _ h7.1) λy8 _ h8=>T.br (λ_=>k _ ⟨h8.1,rfl,rfl,rfl,rfl,rfl⟩) λ_=>k _ ⟨h8.1,rfl,rfl,rfl,rfl,rfl⟩
 ·refine T.cal (hB D' rfl _ _ _ _ _ _ hq (hg1 z ⟨z1,z2,z5⟩).lim hd0 (by omega) q1 q2 q3 q4 q5) λv _ ⟨⟨m2,hg2,hv⟩,hvo⟩=>T.br (λhe2=>T.some ⟨m2,(hg1 z ⟨z1,z2,z5⟩).trans hg2,hv.err (by simpa using he2)⟩) λhe2=>?_
  have hvm:=hv.ym
  have hle:=hg2.le
  dsimp only at hle
  rw [zLa,zLs] at hle
  rw [hvm]
  refine T.asd (by omega) (T.cal (Q:=λ_=>True) ⟨_,List.getElem?_eq_getElem (by omega),trivial⟩ λw _ _=>T.some ⟨GMod.mk m2.name m2.tagging m2.names m2.types (m2.nodes.set x'.m.nodes.length v.2),?_,⟨hv.toks,hv.yl,rfl,hv.a0,hv.a1,λe=>?_⟩⟩)
  ·have hg3:=(hg1 z ⟨z1,z2,z5⟩).trans hg2
   refine ⟨hg3.name,hg3.tagging,hg3.names,hg3.types,by dsimp only;rw [List.length_set];exact hg3.le,by dsimp only;rw [List.length_set];exact hg3.lim,λi hi=>?_,λhk n hn=>?_⟩
   ·dsimp only
    rw [List.getElem?_set_ne (by omega)]
    exact hg3.pre i hi
   ·rcases List.mem_or_eq_of_mem_set hn with h | h
    ·exact hg3.ok hk n h
    ·rw [h];exact hvo
  ·obtain ⟨⟨p1,p2⟩,p3⟩:=hv.ok e
   dsimp only at p2 ⊢
   rw [zLa,zLs] at p2
   refine ⟨⟨p1,rfl,?_⟩,p3⟩
   rw [List.length_set]
   refine ⟨v.2,by rw [List.getElem?_set_self (by omega)],p2.monoL λk hk1 hk2=>?_⟩
   rw [List.getElem?_set_ne (by omega)]
theorem group (l:List GTok):∀ n,
    (∀ D,4 * D < n->TypS l (zc5 n) D)/\(∀ D,4 * (D + 1) < n + 1->BaseS l (zed n) D)/\(∀ D,4 * (D + 1) < n + 2->FieldsS l (zdG n) D)/\(∀ D,4 * (D + 1) < n + 3->FieldS l (zdY n) D):=by
  intro n
  induction n with
  | zero=>exact ⟨λD h=>by omega,λD h=>by omega,λD h=>by omega,λD h=>by omega⟩
  | succ n ih =>
    obtain ⟨i1,i2,i3,i4⟩:=ih
    refine ⟨λD h=>zuy (F:=zdY n) (Ty:=zc5 n) (B:=zed n) (Fs:=zdG n) λD' e=>i2 D' (by omega),λD h=>zsT (F:=zdY n) (Ty:=zc5 n) (B:=zed n) (Fs:=zdG n) (i1 D (by omega)) (i3 D (by omega)),λD h=>zqN (F:=zdY n) (Ty:=zc5 n) (B:=zed n) (Fs:=zdG n) (i4 D (by omega)),λD h=>zra (F:=zdY n) (Ty:=zc5 n) (B:=zed n) (Fs:=zdG n) (i1 D (by omega))⟩
end Go.Proofs.Q


namespace Go.Proofs.Q
open Go.Sy
set_option linter.unusedVariables false

structure WF (m:GMod):Prop where
 names:m.names.length <= 40
 types:m.types.length=m.names.length
 nodes:m.nodes.length <= 300
 forest:Kids (Sub 17 m.nodes) m.types 0 m.nodes.length
 ok:∀ n ∈ m.nodes,NodeOk n
theorem WF.empty:WF (GMod.mk (Str.mk []) (0:Int) ([]:(List Str)) ([]:(List Int)) ([]:(List GNode))):=⟨by decide,rfl,by decide,rfl,by simp⟩
end Go.Proofs.Q


namespace Go.Proofs.Q
open Go.Sy
set_option maxRecDepth 4000
def zlI (a_m:GMod) (zpF:Str):Option (Int) :=
 lp (ι:=Int) (λL2 q1=>br (decide (q1 < (a_m.names.length:Int))) (cal (getI a_m.names q1) λy5=>br (decide (y5=zpF)) (some (q1)) (ck ((q1 + (1:Int))) <| L2 ((q1 + (1:Int))))) (some ((-1:Int)))) (((0:Int)))

def ziD (a_l:(List Int)) (a_x:Int):Option (Bool) :=
 lp (ι:=Int) (λL2 q1=>br (decide (q1 < (a_l.length:Int))) (cal (getI a_l q1) λy5=>br (decide (y5=a_x)) (some (true)) (ck ((q1 + (1:Int))) <| L2 ((q1 + (1:Int))))) (some (false))) (((0:Int)))

def zll (ziB:GMod->Int->Int->(List Int)->Option ((List Int) × Bool)) (a_m:GMod) (zlr:Int) (zJ:Int) (a_l:(List Int)):Option ((List Int) × Bool) :=
 jp (ι:=Bool) (λJ2=>br (decide (zlr < (0:Int))) (J2 (true)) (J2 ((decide ((a_m.nodes.length:Int) <= zlr))))) (λq1=>jp (ι:=Bool) (λJ5=>br q1 (J5 (true)) (J5 ((decide ((16:Int) < zJ))))) (λq4=>br q4 (some (a_l,false)) (cal (getI a_m.nodes zlr) λy7=>br (decide (y7.kind=(11:Int))) (cal (zlI a_m y7.name) λy9=>br (decide (y9 < (0:Int))) (some (a_l,true)) (cal (ziD a_l y9) λy10=>jp (ι:=(List Int)) (λJ12=>br (!y10) (asr (Nat.ble (a_l.length + ([y9]:(List Int)).length) 68719476736) <| J12 ((a_l ++ ([y9]:(List Int))))) (J12 (a_l))) (λq11=>some (q11,false)))) (lp (ι:=(List Int) × Bool × Int) (λL17 q16=>br (decide (q16.2.2 < (y7.fields.length:Int))) (cal (getI y7.fields q16.2.2) λy28=>ck ((zJ + (1:Int))) <| cal (ziB a_m y28.ty (zJ + (1:Int)) q16.1) λy30=>jp (ι:=Bool) (λJ33=>br q16.2.1 (J33 (true)) (J33 (y30.2))) (λq32=>ck ((q16.2.2 + (1:Int))) <| L17 (y30.1,q32,(q16.2.2 + (1:Int))))) (jp (ι:=(List Int) × Bool) (λJ37=>br (decide (y7.kind=(10:Int))) (ck ((zJ + (1:Int))) <| cal (ziB a_m y7.of (zJ + (1:Int)) q16.1) λy39=>jp (ι:=Bool) (λJ42=>br q16.2.1 (J42 (true)) (J42 (y39.2))) (λq41=>J37 (y39.1,q41))) (J37 (q16.1,q16.2.1))) (λq36=>some (q36.1,q36.2)))) ((a_l,false,(0:Int)))))))
def zl5:Nat->(GMod->Int->Int->(List Int)->Option ((List Int) × Bool))
 | 0=>(λ_ _ _ _=>none)
 | n + 1=>let p:=zl5 n;(zll p)
def znP (n:Nat):GMod->Int->Int->(List Int)->Option ((List Int) × Bool):=(zl5 n)

def zmH (zlU:(List (List Int))) (zfe:Int) (a_to:Int):Option (Bool) :=
 cal (getI zlU zfe) λy2=>asr (Nat.ble (([]:(List Int)).length + y2.length) 68719476736) <| lp (ι:=(List Int) × (List Int)) (λL6 q5=>br (decide ((0:Int) < (q5.2.length:Int))) (cal (getI q5.2 (0:Int)) λy17=>asr (decide (0 <= (1:Int)/\(1:Int) <= (q5.2.length:Int))) <| br (decide (y17=a_to)) (some (true)) (cal (ziD q5.1 y17) λy20=>br (!y20) (asr (Nat.ble (q5.1.length + ([y17]:(List Int)).length) 68719476736) <| cal (getI zlU y17) λy24=>asr (Nat.ble ((q5.2.drop ((1:Int)).toNat).length + y24.length) 68719476736) <| L6 ((q5.1 ++ ([y17]:(List Int))),((q5.2.drop ((1:Int)).toNat) ++ y24))) (L6 (q5.1,(q5.2.drop ((1:Int)).toNat))))) (some (false))) ((([]:(List Int)),(([]:(List Int)) ++ y2)))

def zmQ (a_m:GMod):Option ((List Int) × Int × Int) :=
 lp (ι:=Int) (λL2 q1=>br (decide (q1 < (a_m.names.length:Int))) (asr (decide (0 <= (0:Int)/\(0:Int) <= q1/\q1 <= (a_m.names.length:Int))) <| cal (getI a_m.names q1) λy804=>cal (zf9 ((a_m.names.take (q1).toNat).drop (0:Int).toNat) y804) λy805=>br y805 (some (([]:(List Int)),q1,(8:Int))) (ck ((q1 + (1:Int))) <| L2 ((q1 + (1:Int))))) (lp (ι:=(List (List Int)) × Int × Int) (λL808 q807=>br (decide (q807.2.2 < (a_m.names.length:Int))) (jp (ι:=(List (List Int)) × Int) (λJ1338=>cal (getI a_m.types q807.2.2) λy1339=>cal (znP fuel a_m y1339 (0:Int) ([]:(List Int))) λy1341=>asr (Nat.ble (q807.1.length + ([y1341.1]:(List (List Int))).length) 68719476736) <| jp (ι:=Bool) (λJ1347=>br y1341.2 (J1347 ((decide (q807.2.1 < (0:Int))))) (J1347 (false))) (λq1346=>br q1346 (J1338 ((q807.1 ++ ([y1341.1]:(List (List Int)))),q807.2.2)) (J1338 ((q807.1 ++ ([y1341.1]:(List (List Int)))),q807.2.1)))) (λq1337=>ck ((q807.2.2 + (1:Int))) <| L808 (q1337.1,q1337.2,(q807.2.2 + (1:Int))))) (br (decide ((0:Int) <= q807.2.1)) (some (([]:(List Int)),q807.2.1,(9:Int))) (lp (ι:=Int) (λL1351 q1350=>br (decide (q1350 < (a_m.names.length:Int))) (cal (zmH q807.1 q1350 q1350) λy1476=>br y1476 (some (([]:(List Int)),q1350,(10:Int))) (ck ((q1350 + (1:Int))) <| L1351 ((q1350 + (1:Int))))) (lp (ι:=(List Int)) (λL1479 q1478=>br (decide ((q1478.length:Int) < (a_m.names.length:Int))) (lp (ι:=Int) (λL1540 q1539=>br (decide (q1539 < (a_m.names.length:Int))) (cal (ziD q1478 q1539) λy1569=>lp (ι:=Bool × Int) (λL1571 q1570=>cal (getI q807.1 q1539) λy1584=>br (decide (q1570.2 < (y1584.length:Int))) (jp (ι:=Bool) (λJ1586=>br q1570.1 (cal (getI q807.1 q1539) λy1588=>cal (getI y1588 q1570.2) λy1589=>cal (ziD q1478 y1589) λy1590=>J1586 (y1590)) (J1586 (false))) (λq1585=>ck ((q1570.2 + (1:Int))) <| L1571 (q1585,(q1570.2 + (1:Int))))) (br q1570.1 (asr (Nat.ble (q1478.length + ([q1539]:(List Int)).length) 68719476736) <| L1479 ((q1478 ++ ([q1539]:(List Int))))) (ck ((q1539 + (1:Int))) <| L1540 ((q1539 + (1:Int)))))) (((!y1569),(0:Int)))) (L1479 (q1478))) (((0:Int)))) (some (q1478,(0:Int),(0:Int)))) ((([]:(List Int)))))) (((0:Int)))))) ((([]:(List (List Int))),(-1:Int),(0:Int))))) (((0:Int)))
end Go.Proofs.Q


namespace Go.Proofs.Q
open Go.Sy
set_option linter.unusedVariables false

theorem T.eqs {β:Type} {o:Option β} {x:β} (h:T (λr=>r=x) o):o=some x:=by
 obtain ⟨r,h1,h2⟩:=h;rw [h1,h2]
section lists
variable {α β:Type} [DecidableEq α] [DecidableEq β]
def add (l:List α) (x:α):List α:=if x ∈ l then l else l ++ [x]
def adds (l xs:List α):List α:=xs.foldl add l
theorem ztv (l:List α):adds l []=l:=rfl
theorem zoZ (l:List α) (x:α) (xs:List α):adds l (x :: xs)=adds (add l x) xs:=rfl
theorem zuK {l:List α} {x y:α}:y ∈ add l x ↔ y ∈ l \/ y=x:=by
 unfold add
 split
 ·rename_i h
  exact ⟨.inl,λh2=>h2.elim (λh=>h) λe=>by rw [e];exact h⟩
 ·rw [List.mem_append,zMo]
theorem ztD {xs:List α}:∀ {l:List α} {y:α},y ∈ adds l xs ↔ y ∈ l \/ y ∈ xs:=by
 induction xs with
 | nil=>intro l y;rw [ztv];simp
 | cons x xs ih=>intro l y;rw [zoZ,ih,zuK,List.mem_cons,or_assoc]
theorem zsN {l:List α} {x:α} (h:l.Nodup):(add l x).Nodup:=by
 unfold add
 split
 ·exact h
 ·rename_i hx
  rw [List.nodup_append]
  exact ⟨h,by simp,λa ha b hb=>by rw [zMo.1 hb];exact λe=>hx (e ▸ ha)⟩
theorem zrA {xs:List α}:∀ {l:List α},l.Nodup->(adds l xs).Nodup:=by
 induction xs with
 | nil=>intro l h;exact h
 | cons x xs ih=>intro l h;rw [zoZ];exact ih (zsN h)
theorem zeK:∀ {a b:List α},a.Nodup->(∀ x ∈ a,x ∈ b)->a.length <= b.length:=by
 intro a
 induction a with
 | nil=>intro b _ _;exact zNz _
 | cons x a ih =>
  intro b hn hs
  rw [List.nodup_cons] at hn
  have hx:=hs x zMs
  have h1:=ih (b:=b.erase x) hn.2 λy hy=>(List.mem_erase_of_ne (λe:y=x=>hn.1 (e ▸ hy))).2 (hs y (zMm _ hy))
  have h2:=List.length_erase_of_mem hx
  have h3:=List.length_pos_of_mem hx
  rw [zLc]
  omega
def nums (n:Nat):List Int:=(List.range n).map (λ(k:Nat)=>(k:Int))
theorem zkq {n:Nat} {x:Int}:x ∈ nums n ↔ 0 <= x/\x < n:=by
 unfold nums
 rw [List.mem_map]
 refine ⟨λ⟨k,hk,e⟩=>?_,λ⟨h1,h2⟩=>⟨x.toNat,List.mem_range.2 (by omega),by omega⟩⟩
 have:=List.mem_range.1 hk
 omega
theorem zib (n:Nat):(nums n).length=n:=by unfold nums;rw [List.length_map,List.length_range]
theorem zrv (n:Nat):(nums n).Nodup:=by
 unfold nums
 rw [List.Nodup,List.pairwise_map]
 exact List.Pairwise.imp (λ{a b:Nat} (h:a ≠ b) (e:(a:Int)=(b:Int))=>h (by omega)) (List.nodup_range:(List.range n).Nodup)
end lists

/-! ### Places of names -/
def fndFrom:List Str->Str->Int->Int
 | [],_,_=>-1
 | y :: r,s,k=>if y=s then k else fndFrom r s (k + 1)
def fnd (l:List Str) (s:Str):Int:=fndFrom l s 0
theorem zpl:∀ (l:List Str) (s:Str) (k:Int),0 <= k->(fndFrom l s k=-1/\s ∉ l) \/ (k <= fndFrom l s k/\fndFrom l s k < k + l.length/\l[(fndFrom l s k - k).toNat]?=some s/\∀ j:Nat,j < (fndFrom l s k - k).toNat->l[j]? ≠ some s):=by
 intro l
 induction l with
 | nil=>intro s k _;exact .inl ⟨rfl,by simp⟩
 | cons y r ih =>
  intro s k hk
  unfold fndFrom
  by_cases h:y=s
  ·rw [if_pos h]
   right
   refine ⟨zIl _,by simp only [zLc];omega,by rw [h];simp,λj hj=>by omega⟩
  ·rw [if_neg h]
   rcases ih s (k + 1) (by omega) with ⟨h1,h2⟩ | ⟨h1,h2,h3,h4⟩
   ·left
    refine ⟨h1,?_⟩
    rw [List.mem_cons]
    exact λh5=>h5.elim (λe=>h e.symm) h2
   ·right
    have e:(fndFrom r s (k + 1) - k).toNat=(fndFrom r s (k + 1) - (k + 1)).toNat + 1:=by omega
    refine ⟨by omega,by simp only [zLc];omega,by rw [e,List.getElem?_cons_succ];exact h3,λj hj=>?_⟩
    cases j with
    | zero=>simp only [List.getElem?_cons_zero];exact λe=>h (Option.some.inj e)
    | succ j=>rw [List.getElem?_cons_succ];exact h4 j (by omega)
theorem ztq (l:List Str) (s:Str):(fnd l s=-1/\s ∉ l) \/ (0 <= fnd l s/\fnd l s < l.length/\l[(fnd l s).toNat]?=some s/\∀ j:Nat,j < (fnd l s).toNat->l[j]? ≠ some s):=by
 have:=zpl l s 0 (zIl _)
 unfold fnd
 simpa using this
def idx (l:List Str) (s:Str):Option Int:=if fnd l s < 0 then none else some (fnd l s)
theorem zsu {l:List Str} {s:Str} {c:Int} (h:idx l s=some c):0 <= c/\c < l.length:=by
 unfold idx at h
 split at h
 ·cases h
 cases h
 rcases ztq l s with h' | h'
 ·omega
 ·exact ⟨h'.1,h'.2.1⟩
end Go.Proofs.Q


namespace Go.Proofs.Q
open Go.Sy
set_option linter.unusedVariables false

def nmx (l:List GNode):Nat->Int->List Str
 | 0,_=>[]
 | h + 1,i=>match (if 0 <= i then l[i.toNat]? else none) with
  | none=>[]
  | some n=>if n.kind=11 then [n.name] else (kidsOf n).flatMap (nmx l h)
theorem Kids.append {S:Nat->Nat->Prop} {ys:List Int}:∀ {xs:List Int} {a b:Nat},Kids S (xs ++ ys) a b->∃ c,Kids S xs a c/\Kids S ys c b:=by
 intro xs
 induction xs with
 | nil=>intro a b h;exact ⟨a,rfl,h⟩
 | cons k r ih=>intro a b ⟨c,h0,h1,h2⟩;obtain ⟨d,h3,h4⟩:=ih h2;exact ⟨d,⟨c,h0,h1,h3⟩,h4⟩
theorem Kids.length {h:Nat} {l:List GNode}:∀ {r a b},Kids (Sub h l) r a b->r.length <= b - a:=by
 intro r
 induction r with
 | nil=>intro a b _;exact zNz _
 | cons k r ih =>
  intro a b ⟨c,_,h4,h5⟩
  have:=h4.lt
  have:=ih h5
  have:=Kids.le (λx y h=>Nat.le_of_lt h.lt) h5
  rw [zLc]
  omega
theorem Kids.sub {h:Nat} {l:List GNode}:∀ {r a b},Kids (Sub h l) r a b->∀ i,a <= i->i < b->∃ h' j,h' <= h/\Sub h' l i j/\j <= b:=by
 induction h with
 | zero =>
  intro r a b hk i h1 h2
  cases r with
  | nil=>cases hk;omega
  | cons k r=>obtain ⟨c,_,h,_⟩:=hk;exact h.elim
 | succ h ih =>
  intro r
  induction r with
  | nil=>intro a b hk i h1 h2;cases hk;omega
  | cons k r ihr =>
   intro a b ⟨c,h3,h4,h5⟩ i h1 h2
   have hle:=Kids.le (λx y h=>Nat.le_of_lt h.lt) h5
   rcases Nat.lt_or_ge i c with h6 | h6
   ·rcases Nat.lt_or_ge a i with h7 | h7
    ·obtain ⟨n,h8,h9⟩:=h4
     obtain ⟨h',j,e1,e2,e3⟩:=ih h9 i (by omega) h6
     exact ⟨h',j,by omega,e2,by omega⟩
    ·have:i=a:=by omega
     subst this
     exact ⟨h + 1,c,zNl _,h4,hle⟩
   ·exact ihr h5 i h6 h2

/-! ### The program's walk -/
end Go.Proofs.Q


namespace Go.Proofs.Q
open Go.Sy
set_option linter.unusedVariables false

theorem WF.at {m:GMod} (w:WF m) {i:Nat} (hi:i < m.nodes.length):∃ h j,h <= 17/\Sub h m.nodes i j/\j <= m.nodes.length:=w.forest.sub i (zNz _) hi
def nms (m:GMod) (node:Int):List Str:=nmx m.nodes 17 node
def uses (m:GMod) (node:Int):List Int:=adds [] ((nms m node).filterMap (idx m.names))
def lost (m:GMod) (node:Int):Bool:=(nms m node).any (λs=>fnd m.names s < 0)
end Go.Proofs.Q


namespace Go.Proofs.Q
open Go.Sy
set_option linter.unusedVariables false

end Go.Proofs.Q


namespace Go.Proofs.Q
open Go.Sy
set_option linter.unusedVariables false

abbrev Gr:=List (List Int)
def Ed (U:Gr) (i j:Int):Prop:=0 <= i/\∃ l,U[i.toNat]?=some l/\j ∈ l
inductive Reach (U:Gr):Int->Int->Prop
 | one {i j}:Ed U i j->Reach U i j
 | tail {i j k}:Reach U i j->Ed U j k->Reach U i k
structure GOk (U:Gr):Prop where
 len:U.length <= 40
 ok:∀ l ∈ U,l.length <= 40/\∀ j ∈ l,0 <= j/\j < U.length
theorem GOk.ed {U i j} (g:GOk U) (h:Ed U i j):0 <= j/\j < U.length:=by
 obtain ⟨_,l,h1,h2⟩:=h
 exact (g.ok l (List.mem_of_getElem? h1)).2 j h2
theorem Reach.trans {U i j k} (h1:Reach U i j) (h2:Reach U j k):Reach U i k:=by
 induction h2 with
 | one e=>exact h1.tail e
 | tail _ e ih=>exact ih.tail e

/-! ### By depth -/
def On (s:List Bool) (v:Int):Prop:=0 <= v/\s[v.toNat]?=some true
theorem On.set {s:List Bool} {k v:Int} (h0:0 <= k) (hk:k < s.length):On (s.set k.toNat true) v ↔ On s v \/ v=k:=by
 unfold On
 by_cases h:v=k
 ·subst h
  rw [List.getElem?_set_self (by omega)]
  exact ⟨λ_=>.inr rfl,λ_=>⟨h0,rfl⟩⟩
 ·by_cases hv:0 <= v
  ·rw [List.getElem?_set_ne (by omega)]
   exact ⟨.inl,λh1=>h1.elim (λh=>h) λe=>absurd e h⟩
  ·exact ⟨λh1=>absurd h1.1 hv,λh1=>h1.elim (λh2=>absurd h2.1 hv) λe=>absurd e h⟩
/-! ### One that is ready -/
theorem zpb {U:Gr} (g:GOk U) (hac:∀ i,¬ Reach U i i) (out:List Int) (hl:out.length < U.length):∃ i:Int,0 <= i/\i < U.length/\i ∉ out/\∀ j,Ed U i j->j ∈ out:=by
 refine Classical.byContradiction λhno=>?_
 have hno:∀ i:Int,0 <= i->i < U.length->i ∉ out->∃ j,Ed U i j/\j ∉ out:=by
  intro i h1 h2 h3
  refine Classical.byContradiction λh4=>hno ⟨i,h1,h2,h3,λj hj=>Classical.byContradiction λh5=>h4 ⟨j,hj,h5⟩⟩
 have hst:∃ i:Int,0 <= i/\i < U.length/\i ∉ out:=by
  refine Classical.byContradiction λh=>?_
  have:=zeK (a:=nums U.length) (b:=out) (zrv _) λx hx=>by
   have:=zkq.1 hx
   exact Classical.byContradiction λh2=>h ⟨x,this.1,this.2,h2⟩
  rw [zib] at this
  omega
 have path:∀ k:Nat,∃ (h:Int) (p:List Int),p.length=k/\(h :: p).Nodup/\(∀ x ∈ h :: p,0 <= x/\x < U.length/\x ∉ out)/\∀ x ∈ p,Reach U x h:=by
  intro k
  induction k with
  | zero =>
   obtain ⟨i,h1,h2,h3⟩:=hst
   exact ⟨i,[],rfl,by simp,λx hx=>by rw [zMo.1 hx];exact ⟨h1,h2,h3⟩,λx hx=>by cases hx⟩
  | succ k ih =>
   obtain ⟨h,p,e1,e2,e3,e4⟩:=ih
   obtain ⟨j,hj1,hj2⟩:=hno h (e3 h zMs).1 (e3 h zMs).2.1 (e3 h zMs).2.2
   have hall:∀ x ∈ h :: p,Reach U x j:=by
    intro x hx
    rcases List.mem_cons.1 hx with e | e
    ·rw [e];exact .one hj1
    ·exact (e4 x e).tail hj1
   refine ⟨j,h :: p,by rw [zLc,e1],List.nodup_cons.2 ⟨λhm=>hac j (hall j hm),e2⟩,λx hx=>?_,hall⟩
   rcases List.mem_cons.1 hx with e | e
   ·rw [e];have:=g.ed hj1;exact ⟨this.1,this.2,hj2⟩
   ·exact e3 x e
 obtain ⟨h,p,e1,e2,e3,_⟩:=path U.length
 have:=zeK (b:=nums U.length) e2 λx hx=>zkq.2 ⟨(e3 x hx).1,(e3 x hx).2.1⟩
 rw [zib,zLc] at this
 omega
end Go.Proofs.Q


namespace Go.Proofs.Q
open Go.Sy
set_option linter.unusedVariables false

def first (P:Int->Bool):Nat->Int->Option Int
 | 0,_=>none
 | n + 1,k=>if P k then some k else first P n (k + 1)
theorem zoc {P:Int->Bool}:∀ {n k},first P n k=none->∀ i,k <= i->i < k + n->P i=false:=by
 intro n
 induction n with
 | zero=>intro k _ i h1 h2;omega
 | succ n ih =>
  intro k h i h1 h2
  unfold first at h
  cases hp:P k with
  | true=>rw [hp] at h;cases h
  | false =>
   rw [hp] at h
   rcases Int.lt_or_le k i with h3 | h3
   ·exact ih h i (by omega) (by omega)
   ·have:i=k:=by omega
    rw [this];exact hp
theorem zrd {P:Int->Bool}:∀ {n k i},first P n k=some i->k <= i/\i < k + n/\P i=true:=by
 intro n
 induction n with
 | zero=>intro k i h;cases h
 | succ n ih =>
  intro k i h
  unfold first at h
  cases hp:P k with
  | true=>rw [hp] at h;cases h;exact ⟨zIl _,by omega,hp⟩
  | false=>rw [hp] at h;have:=ih h;exact ⟨by omega,by omega,this.2.2⟩
def At (P:Int->Bool) (n:Nat) (k:Int):Prop:=0 <= k/\k <= n/\first P n 0=first P ((n:Int) - k).toNat k
theorem At.zero (P:Int->Bool) (n:Nat):At P n 0:=⟨zIl _,by omega,by simp⟩
theorem At.next {P:Int->Bool} {n:Nat} {k:Int} (h:At P n k) (hk:k < n) (hp:P k=false):At P n (k + 1):=by
 obtain ⟨h1,h2,h3⟩:=h
 have e:((n:Int) - k).toNat=((n:Int) - (k + 1)).toNat + 1:=by omega
 rw [e,first,hp] at h3
 exact ⟨by omega,by omega,h3⟩
theorem At.hit {P:Int->Bool} {n:Nat} {k:Int} (h:At P n k) (hk:k < n) (hp:P k=true):first P n 0=some k:=by
 obtain ⟨h1,h2,h3⟩:=h
 have e:((n:Int) - k).toNat=((n:Int) - (k + 1)).toNat + 1:=by omega
 rw [e,first,hp] at h3
 exact h3
/-! ### What is wrong first -/
/-- What uses what. -/
def gr (m:GMod):Gr:=m.types.map (uses m)
theorem znQ {m:GMod} (w:WF m):(gr m).length=m.names.length:=by unfold gr;rw [List.length_map];exact w.types
theorem znL {m:GMod} {t x:Int} (h:x ∈ uses m t):0 <= x/\x < m.names.length:=by
 unfold uses at h
 rcases ztD.1 h with e | e
 ·cases e
 ·obtain ⟨s,_,h2⟩:=List.mem_filterMap.1 e
  exact zsu h2
theorem ztA {m:GMod} (w:WF m):GOk (gr m):=by
 refine ⟨by rw [znQ w];exact w.names,λl hl=>?_⟩
 unfold gr at hl
 obtain ⟨t,_,rfl⟩:=List.mem_map.1 hl
 refine ⟨?_,λj hj=>by rw [znQ w];exact znL hj⟩
 have:=zeK (a:=uses m t) (b:=nums m.names.length) (zrA List.nodup_nil) λx hx=>zkq.2 (znL hx)
 rw [zib] at this
 have:=w.names
 omega
def twice (m:GMod) (i:Int):Bool:=match m.names[i.toNat]? with | some s=>decide (fnd m.names s < i) | none=>false
def zwk (m:GMod) (i:Int):Bool:=match m.types[i.toNat]? with | some t=>lost m t | none=>false
open Classical in
noncomputable def cycle (m:GMod) (i:Int):Bool:=decide (Reach (gr m) i i)
noncomputable def wr (m:GMod):Int × Int :=
 match first (twice m) m.names.length 0 with
 | some i=>(i,8)
 | none=>match first (zwk m) m.names.length 0 with
  | some i=>(i,9)
  | none=>match first (cycle m) m.names.length 0 with
   | some i=>(i,10)
   | none=>(0,0)
open Classical in
theorem ztH {m:GMod} {b:Bool} {i:Int} (h:b=true ↔ Reach (gr m) i i):cycle m i=b:=by
 unfold cycle
 cases b with
 | true=>exact zDT (h.1 rfl)
 | false=>exact zDF λh2=>by cases h.2 h2
end Go.Proofs.Q


namespace Go.Proofs.Q
open Go.Sy
set_option linter.unusedVariables false

def rdy (U:Gr) (out:List Int) (i:Int):Bool:=decide (i ∉ out) && ((U[i.toNat]?).getD []).all (λj=>decide (j ∈ out))
def topo (U:Gr):Nat->List Int->List Int
 | 0,out=>out
 | k + 1,out=>match first (rdy U out) U.length 0 with
  | some i=>topo U k (out ++ [i])
  | none=>out
theorem zuA {m:GMod} (w:WF m) (h:(wr m).2=0):∀ i,¬ Reach (gr m) i i:=by
 intro i hr
 have hi:0 <= i/\i < (gr m).length:=by
  cases hr with
  | one e=>exact (ztA w).ed e
  | tail _ e=>exact (ztA w).ed e
 rw [znQ w] at hi
 unfold wr at h
 split at h
 ·cases h
 split at h
 ·cases h
 split at h
 ·cases h
 ·rename_i h3
  have:=zoc h3 i hi.1 (by omega)
  have h4:cycle m i=true:=ztH (b:=true) ⟨λ_=>hr,λ_=>rfl⟩
  rw [this] at h4;cases h4
theorem zsB {m:GMod} (w:WF m) (h:(wr m).2=0) {out:List Int} (hl:out.length < m.names.length):first (rdy (gr m) out) (gr m).length 0 ≠ none:=by
 intro hn
 obtain ⟨i,h1,h2,h3,h4⟩:=zpb (ztA w) (zuA w h) out (by rw [znQ w];exact hl)
 have:=zoc hn i h1 (by omega)
 unfold rdy at this
 rw [zDT h3,Bool.true_and] at this
 have ha:((gr m)[i.toNat]?.getD []).all (λj=>decide (j ∈ out))=true:=by
  rw [List.all_eq_true]
  intro j hj
  rw [List.getElem?_eq_getElem (by omega)] at hj
  exact zDT (h4 j ⟨h1,_,List.getElem?_eq_getElem (by omega),hj⟩)
 rw [this] at ha;cases ha
def Tp (m:GMod) (out:List Int):Prop:=out.length <= m.names.length/\topo (gr m) (m.names.length - out.length) out=topo (gr m) m.names.length []
theorem Tp.nil (m:GMod):Tp m []:=⟨zNz _,rfl⟩
theorem Tp.next {m:GMod} {out:List Int} {i:Int} (h:Tp m out) (hl:out.length < m.names.length) (hf:first (rdy (gr m) out) (gr m).length 0=some i):Tp m (out ++ [i]):=by
 obtain ⟨h1,h2⟩:=h
 have e:m.names.length - out.length=(m.names.length - (out ++ [i]).length) + 1:=by rw [zLa,zLs];omega
 rw [e,topo,hf] at h2
 exact ⟨by rw [zLa,zLs];omega,h2⟩
end Go.Proofs.Q


namespace Go.Proofs.Q
open Go.Sy
set_option linter.unusedVariables false

def Good (U:Gr) (out:List Int):Prop:=∀ (k:Nat) (i:Int),out[k]?=some i->0 <= i/\i < U.length/\i ∉ out.take k/\∀ j ∈ (U[i.toNat]?).getD [],j ∈ out.take k
theorem Good.nil (U:Gr):Good U []:=λk i h=>by simp at h
theorem Good.next {U:Gr} {out:List Int} {i:Int} (h:Good U out) (hf:first (rdy U out) U.length 0=some i):Good U (out ++ [i]):=by
 obtain ⟨h1,h2,h3⟩:=zrd hf
 unfold rdy at h3
 rw [zBa] at h3
 intro k x hk
 rcases Nat.lt_trichotomy k out.length with e | e | e
 ·rw [List.getElem?_append_left e] at hk
  rw [List.take_append_of_le_length (by omega)]
  exact h k x hk
 ·subst e
  rw [List.getElem?_append_right (zNl _)] at hk
  simp at hk
  subst hk
  rw [List.take_append_of_le_length (zNl _),List.take_length]
  exact ⟨h1,by omega,zOT h3.1,λj hj=>zOT (List.all_eq_true.1 h3.2 j hj)⟩
 ·rw [List.getElem?_append_right (by omega),List.getElem?_eq_none (by simp;omega)] at hk
  cases hk
theorem zsL (U:Gr):∀ k out,Good U out->Good U (topo U k out):=by
 intro k
 induction k with
 | zero=>intro out h;exact h
 | succ k ih =>
  intro out h
  unfold topo
  split
  ·rename_i i hi;exact ih _ (h.next hi)
  ·exact h
theorem zta {m:GMod} (w:WF m) (h:(wr m).2=0):∀ k out,out.length + k=m.names.length->(topo (gr m) k out).length=m.names.length:=by
 intro k
 induction k with
 | zero=>intro out h;exact h
 | succ k ih =>
  intro out hl
  unfold topo
  split
  ·rename_i i hi;exact ih _ (by rw [zLa,zLs];omega)
  ·rename_i hn;exact absurd hn (zsB w h (by omega))
theorem ranks {m:GMod} (w:WF m) (h:(wr m).2=0):∃ rk:Int->Nat,(∀ i,rk i <= m.names.length)/\∀ i j,Ed (gr m) i j->rk j < rk i:=by
 have hl:=zta w h m.names.length [] (by simp)
 have hg:=zsL (gr m) m.names.length [] (Good.nil _)
 generalize topo (gr m) m.names.length []=out at hl hg
 have hgl:=znQ w
 have hnd:out.Nodup:=by
  rw [List.nodup_iff_pairwise_ne,List.pairwise_iff_getElem]
  intro i j hi hj hij he
  have h1:=(hg j (out[j]) (List.getElem?_eq_getElem hj)).2.2.1
  refine h1 ?_
  rw [<- he]
  exact List.mem_take_iff_getElem.2 ⟨i,by omega,rfl⟩
 have hsub:∀ x ∈ out,x ∈ nums m.names.length:=λx hx=>by
  obtain ⟨k,hk⟩:=List.mem_iff_getElem?.1 hx
  have:=hg k x hk
  exact zkq.2 ⟨this.1,by omega⟩
 have hall:∀ i:Int,0 <= i->i < m.names.length->i ∈ out:=λi h0 h1=>by
  refine Classical.byContradiction λhno=>?_
  have:=zeK (a:=i :: out) (b:=nums m.names.length) (List.nodup_cons.2 ⟨hno,hnd⟩) (λx hx=>by
   rcases List.mem_cons.1 hx with e | e
   ·rw [e];exact zkq.2 ⟨h0,h1⟩
   ·exact hsub x e)
  rw [zib,zLc] at this
  omega
 refine ⟨λi=>out.idxOf i,λi=>by rw [<- hl];exact List.idxOf_le_length,λi j ⟨h0,l,h1,h2⟩=>?_⟩
 have hi:i < m.names.length:=by
  have:=(List.getElem?_eq_some_iff.1 h1).1
  omega
 have hio:=hall i h0 hi
 have hlt:=List.idxOf_lt_length_of_mem hio
 have hk:=hg (out.idxOf i) i (by rw [List.getElem?_eq_getElem hlt,List.getElem_idxOf])
 have hj:=hk.2.2.2 j (by rw [h1];exact h2)
 obtain ⟨n,hn,he⟩:=List.mem_take_iff_getElem.1 hj
 have hn2:n < out.length:=by omega
 have:out.idxOf j <= n:=by
  rw [<- he]
  rw [hnd.idxOf_getElem n hn2]
  exact zNl _
 show out.idxOf j < out.idxOf i
 omega
end Go.Proofs.Q


namespace Go.Proofs.Q
open Go.Sy
set_option maxRecDepth 4000
def zck (a_x:GMk) (a_e:Int):Option (GMk) :=
 br (decide (a_x.e=(0:Int))) (some ((GMk.mk a_x.m a_x.l a_e))) (some (a_x))

def zix (ze1:Int):Option (Tag) :=
 br (decide (ze1=(1:Int))) (some ((Tag.mk (0:Int) (1:Int)))) (br (decide (ze1=(2:Int))) (some ((Tag.mk (0:Int) (2:Int)))) (br (decide (ze1=(5:Int))) (some ((Tag.mk (0:Int) (4:Int)))) (br (decide (ze1=(4:Int))) (some ((Tag.mk (0:Int) (5:Int)))) (br (decide (ze1=(3:Int))) (some ((Tag.mk (0:Int) (10:Int)))) (br (decide (ze1=(6:Int))) (some ((Tag.mk (0:Int) (12:Int)))) (jp (ι:=Bool) (λJ3=>br (decide (ze1=(7:Int))) (J3 ((decide (ze1=(7:Int))))) (J3 ((decide (ze1=(10:Int)))))) (λq2=>br q2 (some ((Tag.mk (0:Int) (16:Int)))) (br (decide (ze1=(8:Int))) (some ((Tag.mk (0:Int) (17:Int)))) (some ((Tag.mk (0:Int) (0:Int))))))))))))

def zmK (a_c:GCon) (zpn:Bool):Option (Int) :=
 br (!a_c.has) (some ((0:Int))) (jp (ι:=Bool) (λJ2=>br a_c.hasLow (J2 (a_c.hasHigh)) (J2 (false))) (λq1=>jp (ι:=Bool) (λJ5=>br q1 (J5 ((decide (a_c.high < a_c.low)))) (J5 (false))) (λq4=>br q4 (some ((11:Int))) (jp (ι:=Bool) (λJ8=>br zpn (jp (ι:=Bool) (λJ11=>br (!a_c.hasLow) (J11 (true)) (J11 ((decide (a_c.low < (0:Int)))))) (λq10=>jp (ι:=Bool) (λJ14=>br q10 (J14 (true)) (J14 ((decide ((70000:Int) < a_c.low))))) (λq13=>jp (ι:=Bool) (λJ17=>br q13 (J17 (true)) (jp (ι:=Bool) (λJ20=>br a_c.hasHigh (jp (ι:=Bool) (λJ23=>br (decide (a_c.high < (0:Int))) (J23 (true)) (J23 ((decide ((70000:Int) < a_c.high))))) (λq22=>J20 (q22))) (J20 (false))) (λq19=>J17 (q19)))) (λq16=>J8 (q16))))) (J8 (false))) (λq7=>br q7 (some ((11:Int))) (some ((0:Int))))))))

def zmR (a_l:(List GItem)) (a_v:Int):Option (Bool) :=
 lp (ι:=Int) (λL2 q1=>br (decide (q1 < (a_l.length:Int))) (cal (getI a_l q1) λy9=>jp (ι:=Bool) (λJ11=>br y9.has (cal (getI a_l q1) λy13=>J11 ((decide (y13.number=a_v)))) (J11 (false))) (λq10=>br q10 (some (true)) (ck ((q1 + (1:Int))) <| L2 ((q1 + (1:Int)))))) (some (false))) (((0:Int)))

def zho (a_x:GMk) (a_n_:GNode):Option ((List GItem) × GMk) :=
 lp (ι:=(List GItem) × Int × Int) (λL3 q2=>br (decide (q2.2.2 < a_n_.root)) (cal (getI a_n_.items q2.2.2) λy335=>jp (ι:=Int × GItem) (λJ338=>br (!y335.has) (lp (ι:=Int) (λL340 q339=>asr (decide (0 <= (0:Int)/\(0:Int) <= a_n_.root/\a_n_.root <= (a_n_.items.length:Int))) <| cal (zmR ((a_n_.items.take (a_n_.root).toNat).drop (0:Int).toNat) q339) λy346=>br y346 (ck ((q339 + (1:Int))) <| L340 ((q339 + (1:Int)))) (ck ((q339 + (1:Int))) <| J338 ((q339 + (1:Int)),{ y335 with number:=q339 }))) ((q2.2.1))) (J338 (q2.2.1,y335))) (λq337=>asr (Nat.ble (q2.1.length + ([{ q337.2 with has:=false }]:(List GItem)).length) 68719476736) <| ck ((q2.2.2 + (1:Int))) <| L3 ((q2.1 ++ ([{ q337.2 with has:=false }]:(List GItem))),q337.1,(q2.2.2 + (1:Int))))) (lp (ι:=(List GItem) × Int × Bool × Bool × Int) (λL355 q354=>br (decide (q354.2.2.2.2 < (a_n_.items.length:Int))) (cal (getI a_n_.items q354.2.2.2.2) λy558=>jp (ι:=GItem) (λJ561=>br (!y558.has) (lp (ι:=Int × GItem) (λL563 q562=>br (decide (q562.1 < (q354.1.length:Int))) (jp (ι:=GItem) (λJ578=>cal (getI q354.1 q562.1) λy579=>br (decide (y579.number=(9223372036854775807:Int))) (cal (zck a_x (11:Int)) λy580=>some (([]:(List GItem)),y580)) (jp (ι:=Bool) (λJ584=>br (decide (q562.1=(0:Int))) (J584 (true)) (cal (getI q354.1 q562.1) λy586=>J584 ((decide (q562.2.number <= y586.number))))) (λq583=>br q583 (cal (getI q354.1 q562.1) λy587=>ck ((y587.number + (1:Int))) <| J578 ({ q562.2 with number:=(y587.number + (1:Int)) })) (J578 (q562.2))))) (λq577=>ck ((q562.1 + (1:Int))) <| L563 ((q562.1 + (1:Int)),q577))) (J561 (q562.2))) (((0:Int),{ y558 with number:=(0:Int) }))) (J561 (y558))) (λq560=>jp (ι:=Bool) (λJ592=>br q354.2.2.2.1 (J592 (true)) (jp (ι:=Bool) (λJ595=>br q354.2.2.1 (J595 ((decide (q560.number <= q354.2.1)))) (J595 (false))) (λq594=>J592 (q594)))) (λq591=>asr (Nat.ble (q354.1.length + ([{ q560 with has:=false }]:(List GItem)).length) 68719476736) <| ck ((q354.2.2.2.2 + (1:Int))) <| L355 ((q354.1 ++ ([{ q560 with has:=false }]:(List GItem))),q560.number,true,q591,(q354.2.2.2.2 + (1:Int)))))) (lp (ι:=Bool × Int) (λL602 q601=>br (decide (q601.2 < (q354.1.length:Int))) (lp (ι:=Bool × Int) (λL634 q633=>br (decide (q633.2 < q601.2)) (jp (ι:=Bool) (λJ648=>br q633.1 (J648 (true)) (cal (getI q354.1 q633.2) λy650=>cal (getI q354.1 q601.2) λy651=>J648 ((decide (y650.name=y651.name))))) (λq647=>jp (ι:=Bool) (λJ653=>br q647 (J653 (true)) (cal (getI q354.1 q633.2) λy655=>cal (getI q354.1 q601.2) λy656=>J653 ((decide (y655.number=y656.number))))) (λq652=>ck ((q633.2 + (1:Int))) <| L634 (q652,(q633.2 + (1:Int)))))) (ck ((q601.2 + (1:Int))) <| L602 (q633.1,(q601.2 + (1:Int))))) ((q601.1,(0:Int)))) (jp (ι:=GMk) (λJ661=>br q601.1 (cal (zck a_x (8:Int)) λy662=>J661 (y662)) (J661 (a_x))) (λq660=>some (q354.1,q660)))) ((q354.2.2.2.1,(0:Int))))) ((q2.1,(0:Int),false,false,a_n_.root)))) ((([]:(List GItem)),(0:Int),(0:Int)))

def zjA (a_c:GCon) (a_v:Int):Option (Bool) :=
 jp (ι:=Bool) (λJ2=>br (!a_c.has) (J2 (true)) (jp (ι:=Bool) (λJ5=>br (!a_c.hasLow) (J5 (true)) (J5 ((decide (a_c.low <= a_v))))) (λq4=>jp (ι:=Bool) (λJ8=>br q4 (jp (ι:=Bool) (λJ11=>br (!a_c.hasHigh) (J11 (true)) (J11 ((decide (a_v <= a_c.high))))) (λq10=>J8 (q10))) (J8 (false))) (λq7=>J2 (q7))))) (λq1=>some (q1))

def zbr (a_s:(List UInt8)):Option (UInt64) :=
 cal (getI a_s (0:Int)) λy1=>cal (getI a_s (1:Int)) λy2=>asr (Nat.ble (8:UInt64).toNat 64) <| cal (getI a_s (2:Int)) λy4=>asr (Nat.ble (16:UInt64).toNat 64) <| cal (getI a_s (3:Int)) λy6=>asr (Nat.ble (24:UInt64).toNat 64) <| cal (getI a_s (4:Int)) λy8=>asr (Nat.ble (32:UInt64).toNat 64) <| cal (getI a_s (5:Int)) λy10=>asr (Nat.ble (40:UInt64).toNat 64) <| cal (getI a_s (6:Int)) λy12=>asr (Nat.ble (48:UInt64).toNat 64) <| cal (getI a_s (7:Int)) λy14=>asr (Nat.ble (56:UInt64).toNat 64) <| some ((((((((y1.toUInt64 ||| (shl64 y2.toUInt64 (8:UInt64).toNat)) ||| (shl64 y4.toUInt64 (16:UInt64).toNat)) ||| (shl64 y6.toUInt64 (24:UInt64).toNat)) ||| (shl64 y8.toUInt64 (32:UInt64).toNat)) ||| (shl64 y10.toUInt64 (40:UInt64).toNat)) ||| (shl64 y12.toUInt64 (48:UInt64).toNat)) ||| (shl64 y14.toUInt64 (56:UInt64).toNat)))

def zdo (a_p:(List UInt8)):Option (Bool) :=
 asr (decide (0 <= (a_p.length:Int)/\(a_p.length:Int) <= (a_p.length:Int))) <| lp (ι:=(List UInt8)) (λL3 q2=>br (decide ((0:Int) < (q2.length:Int))) (cal (getI q2 (0:Int)) λy99=>br (decide (y99 < (128:UInt8))) (asr (decide (0 <= (1:Int)/\(1:Int) <= (q2.length:Int)/\(q2.length:Int) <= (q2.length:Int))) <| jp (ι:=Bool) (λJ102=>br (decide ((8:Int) < (((q2.take ((q2.length:Int)).toNat).drop ((1:Int)).toNat).length:Int))) (cal (zbr ((q2.take ((q2.length:Int)).toNat).drop ((1:Int)).toNat)) λy104=>J102 ((decide ((y104 &&& (9259542123273814144:UInt64))=(0:UInt64))))) (J102 (false))) (λq101=>jp (ι:=(List UInt8)) (λJ106=>br q101 (asr (decide (0 <= (8:Int)/\(8:Int) <= (((q2.take ((q2.length:Int)).toNat).drop ((1:Int)).toNat).length:Int)/\(((q2.take ((q2.length:Int)).toNat).drop ((1:Int)).toNat).length:Int) <= (((q2.take ((q2.length:Int)).toNat).drop ((1:Int)).toNat).length:Int))) <| jp (ι:=Bool) (λJ109=>br (decide ((16:Int) < (((((q2.take ((q2.length:Int)).toNat).drop ((1:Int)).toNat).take ((((q2.take ((q2.length:Int)).toNat).drop ((1:Int)).toNat).length:Int)).toNat).drop ((8:Int)).toNat).length:Int))) (asr (decide (0 <= (8:Int)/\(8:Int) <= (((((q2.take ((q2.length:Int)).toNat).drop ((1:Int)).toNat).take ((((q2.take ((q2.length:Int)).toNat).drop ((1:Int)).toNat).length:Int)).toNat).drop ((8:Int)).toNat).length:Int)/\(((((q2.take ((q2.length:Int)).toNat).drop ((1:Int)).toNat).take ((((q2.take ((q2.length:Int)).toNat).drop ((1:Int)).toNat).length:Int)).toNat).drop ((8:Int)).toNat).length:Int) <= (((((q2.take ((q2.length:Int)).toNat).drop ((1:Int)).toNat).take ((((q2.take ((q2.length:Int)).toNat).drop ((1:Int)).toNat).length:Int)).toNat).drop ((8:Int)).toNat).length:Int))) <| cal (zbr ((((q2.take ((q2.length:Int)).toNat).drop ((1:Int)).toNat).take ((((q2.take ((q2.length:Int)).toNat).drop ((1:Int)).toNat).length:Int)).toNat).drop ((8:Int)).toNat)) λy112=>cal (zbr ((((((q2.take ((q2.length:Int)).toNat).drop ((1:Int)).toNat).take ((((q2.take ((q2.length:Int)).toNat).drop ((1:Int)).toNat).length:Int)).toNat).drop ((8:Int)).toNat).take ((((((q2.take ((q2.length:Int)).toNat).drop ((1:Int)).toNat).take ((((q2.take ((q2.length:Int)).toNat).drop ((1:Int)).toNat).length:Int)).toNat).drop ((8:Int)).toNat).length:Int)).toNat).drop ((8:Int)).toNat)) λy113=>J109 ((decide (((y112 ||| y113) &&& (9259542123273814144:UInt64))=(0:UInt64))))) (J109 (false))) (λq108=>br q108 (asr (decide (0 <= (16:Int)/\(16:Int) <= (((((q2.take ((q2.length:Int)).toNat).drop ((1:Int)).toNat).take ((((q2.take ((q2.length:Int)).toNat).drop ((1:Int)).toNat).length:Int)).toNat).drop ((8:Int)).toNat).length:Int)/\(((((q2.take ((q2.length:Int)).toNat).drop ((1:Int)).toNat).take ((((q2.take ((q2.length:Int)).toNat).drop ((1:Int)).toNat).length:Int)).toNat).drop ((8:Int)).toNat).length:Int) <= (((((q2.take ((q2.length:Int)).toNat).drop ((1:Int)).toNat).take ((((q2.take ((q2.length:Int)).toNat).drop ((1:Int)).toNat).length:Int)).toNat).drop ((8:Int)).toNat).length:Int))) <| lp (ι:=(List UInt8)) (λL116 q115=>jp (ι:=Bool) (λJ129=>br (decide ((32:Int) < (q115.length:Int))) (asr (decide (0 <= (8:Int)/\(8:Int) <= (q115.length:Int)/\(q115.length:Int) <= (q115.length:Int))) <| asr (decide (0 <= (16:Int)/\(16:Int) <= (q115.length:Int)/\(q115.length:Int) <= (q115.length:Int))) <| asr (decide (0 <= (24:Int)/\(24:Int) <= (q115.length:Int)/\(q115.length:Int) <= (q115.length:Int))) <| cal (zbr q115) λy134=>cal (zbr ((q115.take ((q115.length:Int)).toNat).drop ((8:Int)).toNat)) λy135=>cal (zbr ((q115.take ((q115.length:Int)).toNat).drop ((16:Int)).toNat)) λy136=>cal (zbr ((q115.take ((q115.length:Int)).toNat).drop ((24:Int)).toNat)) λy137=>J129 ((decide ((((y134 ||| y135) ||| (y136 ||| y137)) &&& (9259542123273814144:UInt64))=(0:UInt64))))) (J129 (false))) (λq128=>br q128 (asr (decide (0 <= (32:Int)/\(32:Int) <= (q115.length:Int)/\(q115.length:Int) <= (q115.length:Int))) <| L116 (((q115.take ((q115.length:Int)).toNat).drop ((32:Int)).toNat))) (J106 (q115)))) ((((((((q2.take ((q2.length:Int)).toNat).drop ((1:Int)).toNat).take ((((q2.take ((q2.length:Int)).toNat).drop ((1:Int)).toNat).length:Int)).toNat).drop ((8:Int)).toNat).take ((((((q2.take ((q2.length:Int)).toNat).drop ((1:Int)).toNat).take ((((q2.take ((q2.length:Int)).toNat).drop ((1:Int)).toNat).length:Int)).toNat).drop ((8:Int)).toNat).length:Int)).toNat).drop ((16:Int)).toNat)))) (J106 (((((q2.take ((q2.length:Int)).toNat).drop ((1:Int)).toNat).take ((((q2.take ((q2.length:Int)).toNat).drop ((1:Int)).toNat).length:Int)).toNat).drop ((8:Int)).toNat))))) (J106 (((q2.take ((q2.length:Int)).toNat).drop ((1:Int)).toNat)))) (λq105=>L3 (q105)))) (asr (Nat.ble (4:UInt64).toNat 8) <| asr (Nat.blt (shr8 (tab1 y99) (4:UInt64).toNat).toNat 16) <| br (decide ((((tab1 y99) &&& (7:UInt8)).toNat:Int)=(2:Int))) (jp (ι:=Bool) (λJ144=>br (decide ((q2.length:Int) < (2:Int))) (J144 (true)) (cal (getI q2 (1:Int)) λy146=>J144 ((decide (y146 < (tab2 (shr8 (tab1 y99) (4:UInt64).toNat)).lo))))) (λq143=>jp (ι:=Bool) (λJ148=>br q143 (J148 (true)) (cal (getI q2 (1:Int)) λy150=>J148 ((decide ((tab2 (shr8 (tab1 y99) (4:UInt64).toNat)).hi < y150))))) (λq147=>br q147 (some (false)) (asr (decide (0 <= (2:Int)/\(2:Int) <= (q2.length:Int)/\(q2.length:Int) <= (q2.length:Int))) <| L3 (((q2.take ((q2.length:Int)).toNat).drop ((2:Int)).toNat)))))) (br (decide ((((tab1 y99) &&& (7:UInt8)).toNat:Int)=(3:Int))) (jp (ι:=Bool) (λJ153=>br (decide ((q2.length:Int) < (3:Int))) (J153 (true)) (cal (getI q2 (1:Int)) λy155=>J153 ((decide (y155 < (tab2 (shr8 (tab1 y99) (4:UInt64).toNat)).lo))))) (λq152=>jp (ι:=Bool) (λJ157=>br q152 (J157 (true)) (cal (getI q2 (1:Int)) λy159=>J157 ((decide ((tab2 (shr8 (tab1 y99) (4:UInt64).toNat)).hi < y159))))) (λq156=>jp (ι:=Bool) (λJ161=>br q156 (J161 (true)) (cal (getI q2 (2:Int)) λy163=>J161 ((decide (y163 < (128:UInt8)))))) (λq160=>jp (ι:=Bool) (λJ165=>br q160 (J165 (true)) (cal (getI q2 (2:Int)) λy167=>J165 ((decide ((191:UInt8) < y167))))) (λq164=>br q164 (some (false)) (asr (decide (0 <= (3:Int)/\(3:Int) <= (q2.length:Int)/\(q2.length:Int) <= (q2.length:Int))) <| L3 (((q2.take ((q2.length:Int)).toNat).drop ((3:Int)).toNat)))))))) (br (decide ((((tab1 y99) &&& (7:UInt8)).toNat:Int)=(4:Int))) (jp (ι:=Bool) (λJ170=>br (decide ((q2.length:Int) < (4:Int))) (J170 (true)) (cal (getI q2 (1:Int)) λy172=>J170 ((decide (y172 < (tab2 (shr8 (tab1 y99) (4:UInt64).toNat)).lo))))) (λq169=>jp (ι:=Bool) (λJ174=>br q169 (J174 (true)) (cal (getI q2 (1:Int)) λy176=>J174 ((decide ((tab2 (shr8 (tab1 y99) (4:UInt64).toNat)).hi < y176))))) (λq173=>jp (ι:=Bool) (λJ178=>br q173 (J178 (true)) (cal (getI q2 (2:Int)) λy180=>J178 ((decide (y180 < (128:UInt8)))))) (λq177=>jp (ι:=Bool) (λJ182=>br q177 (J182 (true)) (cal (getI q2 (2:Int)) λy184=>J182 ((decide ((191:UInt8) < y184))))) (λq181=>jp (ι:=Bool) (λJ186=>br q181 (J186 (true)) (cal (getI q2 (3:Int)) λy188=>J186 ((decide (y188 < (128:UInt8)))))) (λq185=>jp (ι:=Bool) (λJ190=>br q185 (J190 (true)) (cal (getI q2 (3:Int)) λy192=>J190 ((decide ((191:UInt8) < y192))))) (λq189=>br q189 (some (false)) (asr (decide (0 <= (4:Int)/\(4:Int) <= (q2.length:Int)/\(q2.length:Int) <= (q2.length:Int))) <| L3 (((q2.take ((q2.length:Int)).toNat).drop ((4:Int)).toNat)))))))))) (some (false)))))) (some (true))) (((a_p.take ((a_p.length:Int)).toNat)))

def zfY (a_x:GMk) (a_i:Int) (a_v:Val):Option (Val × GMk) :=
 asr (decide (0 <= a_i/\a_i < ((a_x.l.length:Nat):Int))) <| cal (a_x.l[a_i.toNat]?) λy5=>jp (ι:=Bool × Val) (λJ8=>jp (ι:=Bool) (λJ10=>br (decide (y5.kind=(1:Int))) (J10 ((decide (y5.kind=(1:Int))))) (J10 ((decide (y5.kind=(4:Int)))))) (λq9=>br q9 (J8 ((decide (a_v.kind=y5.kind)),a_v)) (br (decide (y5.kind=(2:Int))) (jp (ι:=Bool) (λJ12=>br (decide (a_v.kind=y5.kind)) (cal (zjA y5.con a_v.n) λy14=>J12 (y14)) (J12 (false))) (λq11=>J8 (q11,a_v))) (jp (ι:=Bool) (λJ16=>br (decide (y5.kind=(5:Int))) (J16 ((decide (y5.kind=(5:Int))))) (J16 ((decide (y5.kind=(6:Int)))))) (λq15=>br q15 (jp (ι:=Bool) (λJ18=>br (decide (a_v.kind=y5.kind)) (cal (zjA y5.con (a_v.b.length:Int)) λy20=>J18 (y20)) (J18 (false))) (λq17=>jp (ι:=Bool) (λJ22=>br q17 (jp (ι:=Bool) (λJ25=>br (decide (y5.kind=(5:Int))) (J25 (true)) (cal (zdo a_v.b) λy27=>J25 (y27))) (λq24=>J22 (q24))) (J22 (false))) (λq21=>J8 (q21,a_v)))) (br (decide (y5.kind=(3:Int))) (br (decide (a_v.kind=y5.kind)) (lp (ι:=Bool × Int × Val) (λL29 q28=>jp (ι:=Bool) (λJ41=>br (decide (q28.2.1 < y5.root)) (J41 ((!q28.1))) (J41 (false))) (λq40=>br q40 (jp (ι:=Bool × Val) (λJ44=>cal (getI y5.items q28.2.1) λy47=>br (decide (y47.name=(Str.mk q28.2.2.b))) (cal (getI y5.items q28.2.1) λy48=>J44 (true,(Val.mk (3:Int) y48.number ([]:(List UInt8)) ([]:(List Val)) (0:Int) ([]:(List Raw))))) (J44 (q28.1,q28.2.2))) (λq43=>ck ((q28.2.1 + (1:Int))) <| L29 (q43.1,(q28.2.1 + (1:Int)),q43.2))) (J8 (q28.1,q28.2.2)))) ((false,(0:Int),a_v))) (J8 ((decide (a_v.kind=y5.kind)),a_v))) (J8 (false,a_v)))))))) (λq7=>jp (ι:=GMk) (λJ52=>br (!q7.1) (cal (zck a_x (13:Int)) λy53=>J52 (y53)) (J52 (a_x))) (λq51=>some (q7.2,q51)))

def zgC (a_x:GMk) (a_i:Int):Option (Int × GMk) :=
 asr (decide (0 <= a_i/\a_i < ((a_x.l.length:Nat):Int))) <| cal (a_x.l[a_i.toNat]?) λy3=>br (decide ((0:Int) < (y3.tags.length:Int))) (some ((1:Int),a_x)) (some ((0:Int),a_x))

def znV (zfk:(List Tag)) (zdf:Int) (zis:Int):Option ((List Tag) × Int) :=
 jp (ι:=Bool) (λJ2=>br (decide (zdf < (0:Int))) (J2 (true)) (J2 ((decide ((268435456:Int) < zdf))))) (λq1=>jp (ι:=Bool) (λJ5=>br q1 (J5 (true)) (jp (ι:=Bool) (λJ8=>br (decide (zis=(1:Int))) (J8 ((decide ((zfk.length:Int)=(0:Int))))) (J8 (false))) (λq7=>J5 (q7)))) (λq4=>br q4 (some (([]:(List Tag)),(12:Int))) (br (decide (zis=(1:Int))) (asr (decide (0 <= (1:Int)/\(1:Int) <= (zfk.length:Int)/\(zfk.length:Int) <= (zfk.length:Int))) <| asr (Nat.ble (([(Tag.mk (2:Int) zdf)]:(List Tag)).length + ((zfk.take ((zfk.length:Int)).toNat).drop ((1:Int)).toNat).length) 68719476736) <| some ((([(Tag.mk (2:Int) zdf)]:(List Tag)) ++ ((zfk.take ((zfk.length:Int)).toNat).drop ((1:Int)).toNat)),(0:Int))) (asr (Nat.ble (([(Tag.mk (2:Int) zdf)]:(List Tag)).length + zfk.length) 68719476736) <| some ((([(Tag.mk (2:Int) zdf)]:(List Tag)) ++ zfk),(0:Int))))))

def zgn (a_x:GMk) (a_i:Int) (zdf:Int) (zis:Int):Option (GMk) :=
 br (!decide (a_x.e=(0:Int))) (some (a_x)) (asr (decide (0 <= a_i/\a_i < ((a_x.l.length:Nat):Int))) <| cal (a_x.l[a_i.toNat]?) λy3=>cal (znV y3.tags zdf zis) λy4=>br (!decide (y4.2=(0:Int))) (cal (zck a_x y4.2) λy5=>some (y5)) (asr (decide (0 <= a_i/\a_i < ((a_x.l.length:Nat):Int))) <| cal (a_x.l[a_i.toNat]?) λy7=>some ((GMk.mk a_x.m (a_x.l.set a_i.toNat ({ y7 with tags:=y4.1 })) a_x.e))))

def zlh (zkH:(List GTyp)->Int->Option (Bool)) (a_l:(List GTyp)) (a_i:Int):Option (Bool) :=
 asr (decide (0 <= a_i/\a_i < ((a_l.length:Nat):Int))) <| cal (a_l[a_i.toNat]?) λy2=>jp (ι:=Bool) (λJ4=>br (!decide (y2.kind=(9:Int))) (J4 (true)) (asr (decide (0 <= a_i/\a_i < ((a_l.length:Nat):Int))) <| cal (a_l[a_i.toNat]?) λy7=>J4 ((decide ((0:Int) < (y7.tags.length:Int)))))) (λq3=>br q3 (some (false)) (asr (decide (0 <= a_i/\a_i < ((a_l.length:Nat):Int))) <| cal (a_l[a_i.toNat]?) λy9=>lp (ι:=Bool × Int) (λL11 q10=>asr (decide (0 <= a_i/\a_i < ((a_l.length:Nat):Int))) <| cal (a_l[a_i.toNat]?) λy23=>br (decide (q10.2 < (y23.fields.length:Int))) (jp (ι:=Bool) (λJ25=>br q10.1 (J25 (true)) (asr (decide (0 <= a_i/\a_i < ((a_l.length:Nat):Int))) <| cal (a_l[a_i.toNat]?) λy28=>cal (getI y28.fields q10.2) λy29=>cal (zkH a_l y29.ty) λy30=>J25 (y30))) (λq24=>ck ((q10.2 + (1:Int))) <| L11 (q24,(q10.2 + (1:Int))))) (some (q10.1))) ((y9.more,(0:Int)))))
def zlF:Nat->((List GTyp)->Int->Option (Bool))
 | 0=>(λ_ _=>none)
 | n + 1=>let p:=zlF n;(zlh p)
def zno (n:Nat):(List GTyp)->Int->Option (Bool):=(zlF n)

def zjh (zia:(List GTyp)->Int->Option ((List Tag))) (a_l:(List GTyp)) (a_i:Int):Option ((List Tag)) :=
 asr (decide (0 <= a_i/\a_i < ((a_l.length:Nat):Int))) <| cal (a_l[a_i.toNat]?) λy2=>br (decide ((0:Int) < (y2.tags.length:Int))) (asr (decide (0 <= a_i/\a_i < ((a_l.length:Nat):Int))) <| cal (a_l[a_i.toNat]?) λy4=>asr (decide (0 <= (0:Int)/\(0:Int) <= (1:Int)/\(1:Int) <= (y4.tags.length:Int))) <| some (((y4.tags.take ((1:Int)).toNat).drop (0:Int).toNat))) (lp (ι:=(List Tag) × Int) (λL7 q6=>asr (decide (0 <= a_i/\a_i < ((a_l.length:Nat):Int))) <| cal (a_l[a_i.toNat]?) λy18=>br (decide (q6.2 < (y18.fields.length:Int))) (asr (decide (0 <= a_i/\a_i < ((a_l.length:Nat):Int))) <| cal (a_l[a_i.toNat]?) λy20=>cal (getI y20.fields q6.2) λy21=>cal (zia a_l y21.ty) λy22=>asr (Nat.ble (q6.1.length + y22.length) 68719476736) <| ck ((q6.2 + (1:Int))) <| L7 ((q6.1 ++ y22),(q6.2 + (1:Int)))) (some (q6.1))) ((([]:(List Tag)),(0:Int))))
def zkg:Nat->((List GTyp)->Int->Option ((List Tag)))
 | 0=>(λ_ _=>none)
 | n + 1=>let p:=zkg n;(zjh p)
def zlB (n:Nat):(List GTyp)->Int->Option ((List Tag)):=(zkg n)

def zjz (a_l:(List Tag)) (a_x:Tag):Option (Bool) :=
 lp (ι:=Int) (λL2 q1=>br (decide (q1 < (a_l.length:Int))) (cal (getI a_l q1) λy5=>br (decide (y5=a_x)) (some (true)) (ck ((q1 + (1:Int))) <| L2 ((q1 + (1:Int))))) (some (false))) (((0:Int)))

def zi6 (zlz:(List (List Tag))):Option (Bool) :=
 lp (ι:=(List Tag) × Int) (λL2 q1=>br (decide (q1.2 < (zlz.length:Int))) (lp (ι:=(List Tag) × Int) (λL30 q29=>cal (getI zlz q1.2) λy42=>br (decide (q29.2 < (y42.length:Int))) (cal (getI zlz q1.2) λy43=>cal (getI y43 q29.2) λy44=>cal (zjz q29.1 y44) λy45=>br y45 (some (false)) (cal (getI zlz q1.2) λy46=>cal (getI y46 q29.2) λy47=>asr (Nat.ble (q29.1.length + ([y47]:(List Tag)).length) 68719476736) <| ck ((q29.2 + (1:Int))) <| L30 ((q29.1 ++ ([y47]:(List Tag))),(q29.2 + (1:Int))))) (ck ((q1.2 + (1:Int))) <| L2 (q29.1,(q1.2 + (1:Int))))) ((q1.1,(0:Int)))) (some (true))) ((([]:(List Tag)),(0:Int)))

def zfo (a_x:GMk) (a_l:(List GFld)) (znm:Bool):Option (Bool × GMk) :=
 lp (ι:=(List (List Tag)) × Int) (λL3 q2=>br (decide (q2.2 < (a_l.length:Int))) (cal (getI a_l q2.2) λy25=>cal (zno fuel a_x.l y25.ty) λy26=>jp (ι:=Bool) (λJ28=>br y26 (jp (ι:=Bool) (λJ31=>br znm (J31 (true)) (J31 ((decide ((1:Int) < (a_l.length:Int)))))) (λq30=>J28 (q30))) (J28 (false))) (λq27=>br q27 (some (false,a_x)) (cal (getI a_l q2.2) λy35=>cal (zlB fuel a_x.l y35.ty) λy36=>asr (Nat.ble (q2.1.length + ([y36]:(List (List Tag))).length) 68719476736) <| ck ((q2.2 + (1:Int))) <| L3 ((q2.1 ++ ([y36]:(List (List Tag)))),(q2.2 + (1:Int)))))) (cal (zi6 q2.1) λy41=>some (y41,a_x))) ((([]:(List (List Tag))),(0:Int)))

def zkP (a_t:GTyp):Option ((List Bool)) :=
 lp (ι:=(List Bool) × Int) (λL2 q1=>br (decide (q1.2 < (a_t.fields.length:Int))) (cal (getI a_t.fields q1.2) λy15=>jp (ι:=Bool) (λJ17=>br y15.optional (J17 (true)) (cal (getI a_t.fields q1.2) λy19=>J17 (y19.has))) (λq16=>jp (ι:=Bool) (λJ21=>br q16 (J21 (true)) (J21 ((decide (a_t.root <= q1.2))))) (λq20=>asr (Nat.ble (q1.1.length + ([q20]:(List Bool)).length) 68719476736) <| ck ((q1.2 + (1:Int))) <| L2 ((q1.1 ++ ([q20]:(List Bool))),(q1.2 + (1:Int)))))) (some (q1.1))) ((([]:(List Bool)),(0:Int)))

def zoe (a_t:GTyp):Option (Int) :=
 cal (zkP a_t) λy1=>lp (ι:=Int) (λL3 q2=>jp (ι:=Bool) (λJ11=>br (decide ((0:Int) < q2)) (ck ((q2 - (1:Int))) <| cal (getI y1 (q2 - (1:Int))) λy14=>J11 (y14)) (J11 (false))) (λq10=>br q10 (ck ((q2 - (1:Int))) <| L3 ((q2 - (1:Int)))) (some (q2)))) ((a_t.root))

def zhn (a_x:GMk) (a_t:GTyp):Option (Bool × GMk) :=
 br (!decide (a_t.kind=(7:Int))) (cal (zfo a_x a_t.fields a_t.more) λy2=>some (y2.1,y2.2)) (cal (zkP a_t) λy3=>lp (ι:=Int × GMk) (λL5 q4=>br (decide (q4.1 < (a_t.fields.length:Int))) (jp (ι:=GMk) (λJ37=>cal (getI y3 q4.1) λy38=>br (!y38) (J37 (q4.2)) (ck ((q4.1 + (1:Int))) <| lp (ι:=Int) (λL41 q40=>jp (ι:=Bool) (λJ51=>br (decide (q40 < (a_t.fields.length:Int))) (cal (getI y3 q40) λy53=>J51 (y53)) (J51 (false))) (λq50=>br q50 (ck ((q40 + (1:Int))) <| L41 ((q40 + (1:Int)))) (ck ((q40 + (1:Int))) <| asr (decide (0 <= q4.1/\q4.1 <= (min (q40 + (1:Int)) (a_t.fields.length:Int))/\(min (q40 + (1:Int)) (a_t.fields.length:Int)) <= (a_t.fields.length:Int))) <| cal (zfo q4.2 ((a_t.fields.take ((min (q40 + (1:Int)) (a_t.fields.length:Int))).toNat).drop (q4.1).toNat) false) λy57=>br (!y57.1) (some (false,y57.2)) (J37 (y57.2))))) (((q4.1 + (1:Int)))))) (λq36=>ck ((q4.1 + (1:Int))) <| L5 ((q4.1 + (1:Int)),q36))) (jp (ι:=Bool × GMk) (λJ61=>br (!a_t.more) (J61 (true,q4.2)) (cal (zoe a_t) λy63=>asr (decide (0 <= y63/\y63 <= (a_t.fields.length:Int)/\(a_t.fields.length:Int) <= (a_t.fields.length:Int))) <| cal (zfo q4.2 ((a_t.fields.take ((a_t.fields.length:Int)).toNat).drop (y63).toNat) true) λy65=>J61 (y65.1,y65.2))) (λq60=>some (q60.1,q60.2)))) (((0:Int),a_x)))

def zf5 (zbm:GMk->Int->GNode->Int->Option (GMk)) (zbk:GMk->Int->Int->Option (Int × GMk)) (zbJ:GMk->GNode->Int->Option (Int × GMk)) (a_x:GMk) (a_i:Int) (a_n_:GNode) (zJ:Int):Option (GMk) :=
 lp (ι:=Bool × Int) (λL3 q2=>br (decide (q2.2 < (a_n_.fields.length:Int))) (cal (getI a_n_.fields q2.2) λy170=>jp (ι:=Bool) (λJ175=>br q2.1 (J175 (true)) (cal (getI a_x.m.nodes y170.ty) λy177=>J175 (y177.mark.has))) (λq174=>ck ((q2.2 + (1:Int))) <| L3 (q174,(q2.2 + (1:Int))))) (jp (ι:=Bool) (λJ180=>br (decide (a_n_.kind=(9:Int))) (J180 ((decide ((a_n_.fields.length:Int)=(0:Int))))) (J180 (false))) (λq179=>jp (ι:=Bool) (λJ183=>br q179 (J183 ((!a_n_.more))) (J183 (false))) (λq182=>jp (ι:=GMk) (λJ186=>br q182 (cal (zck a_x (11:Int)) λy187=>J186 (y187)) (J186 (a_x))) (λq185=>lp (ι:=(List GFld) × Int × GMk) (λL189 q188=>jp (ι:=Bool) (λJ263=>br (decide (q188.2.1 < (a_n_.fields.length:Int))) (J263 ((decide (q188.2.2.e=(0:Int))))) (J263 (false))) (λq262=>br q262 (cal (getI a_n_.fields q188.2.1) λy265=>lp (ι:=Int × GMk) (λL268 q267=>br (decide (q267.1 < q188.2.1)) (jp (ι:=GMk) (λJ299=>cal (getI a_n_.fields q267.1) λy302=>br (decide (y302.name=y265.name)) (cal (zck q267.2 (8:Int)) λy303=>J299 (y303)) (J299 (q267.2))) (λq298=>ck ((q267.1 + (1:Int))) <| L268 ((q267.1 + (1:Int)),q298))) (ck ((zJ + (1:Int))) <| cal (zbk q267.2 y265.ty (zJ + (1:Int))) λy306=>jp (ι:=Bool) (λJ309=>br (decide (y306.2.e=(0:Int))) (J309 (y265.has)) (J309 (false))) (λq308=>jp (ι:=GFld × GMk) (λJ312=>br q308 (cal (zfY y306.2 y306.1 y265.dflt) λy313=>J312 ({ { y265 with ty:=y306.1 } with dflt:=y313.1 },y313.2)) (J312 ({ y265 with ty:=y306.1 },y306.2))) (λq311=>jp (ι:=Bool) (λJ315=>br (decide (q311.2.e=(0:Int))) (J315 ((!q2.1))) (J315 (false))) (λq314=>jp (ι:=GMk) (λJ318=>br q314 (cal (zgC q311.2 q311.1.ty) λy321=>cal (zgn y321.2 q311.1.ty q188.2.1 y321.1) λy322=>J318 (y322)) (J318 (q311.2))) (λq317=>asr (Nat.ble (q188.1.length + ([q311.1]:(List GFld)).length) 68719476736) <| ck ((q188.2.1 + (1:Int))) <| L189 ((q188.1 ++ ([q311.1]:(List GFld))),(q188.2.1 + (1:Int)),q317))))))) (((0:Int),q188.2.2))) (br (decide (q188.2.2.e=(0:Int))) (asr (decide (0 <= a_i/\a_i < ((q188.2.2.l.length:Nat):Int))) <| cal (q188.2.2.l[a_i.toNat]?) λy329=>asr (decide (0 <= a_i/\a_i < (((q188.2.2.l.set a_i.toNat ({ y329 with fields:=q188.1 })).length:Nat):Int))) <| cal ((q188.2.2.l.set a_i.toNat ({ y329 with fields:=q188.1 }))[a_i.toNat]?) λy331=>cal (zhn (GMk.mk q188.2.2.m (q188.2.2.l.set a_i.toNat ({ y329 with fields:=q188.1 })) q188.2.2.e) y331) λy332=>br (!y332.1) (cal (zck y332.2 (12:Int)) λy333=>some (y333)) (some (y332.2))) (some (q188.2.2))))) ((([]:(List GFld)),(0:Int),q185))))))) (((!decide (a_x.m.tagging=(2:Int))),(0:Int)))
def zgT (zbm:GMk->Int->GNode->Int->Option (GMk)) (zbk:GMk->Int->Int->Option (Int × GMk)) (zbJ:GMk->GNode->Int->Option (Int × GMk)) (a_x:GMk) (a_k:Int) (zJ:Int):Option (Int × GMk) :=
 br (!decide (a_x.e=(0:Int))) (some ((0:Int),a_x)) (cal (getI a_x.m.nodes a_k) λy2=>jp (ι:=Int × GMk) (λJ5=>br (decide (y2.kind=(11:Int))) (cal (zlI a_x.m y2.name) λy6=>cal (getI a_x.m.types y6) λy7=>cal (zbk a_x y7 zJ) λy8=>J5 (y8.1,y8.2)) (cal (zbJ a_x y2 zJ) λy12=>J5 (y12.1,y12.2))) (λq4=>jp (ι:=Bool) (λJ15=>br (decide (q4.2.e=(0:Int))) (J15 (y2.mark.has)) (J15 (false))) (λq14=>jp (ι:=GMk) (λJ18=>br q14 (jp (ι:=Int × GMk) (λJ20=>br (decide (y2.mark.mode=(2:Int))) (J20 ((1:Int),q4.2)) (jp (ι:=Bool) (λJ22=>br (decide (y2.mark.mode=(0:Int))) (J22 ((!decide (q4.2.m.tagging=(0:Int))))) (J22 (false))) (λq21=>br q21 (cal (zgC q4.2 q4.1) λy24=>J20 (y24.1,y24.2)) (J20 ((0:Int),q4.2))))) (λq19=>cal (zgn q19.2 q4.1 y2.mark.number q19.1) λy25=>J18 (y25))) (J18 (q4.2))) (λq17=>some (q4.1,q17)))))
def zgK (zbm:GMk->Int->GNode->Int->Option (GMk)) (zbk:GMk->Int->Int->Option (Int × GMk)) (zbJ:GMk->GNode->Int->Option (Int × GMk)) (a_x:GMk) (a_n_:GNode) (zJ:Int):Option (Int × GMk) :=
 jp (ι:=Bool) (λJ3=>br (decide ((16:Int) < zJ)) (J3 (true)) (J3 ((decide ((300:Int) <= ((a_x.l.length:Nat):Int)))))) (λq2=>br q2 (cal (zck a_x (5:Int)) λy5=>some ((0:Int),y5)) (jp (ι:=GTyp) (λJ8=>br (!decide (a_n_.kind=(9:Int))) (cal (zix a_n_.kind) λy9=>J8 ((GTyp.mk a_n_.kind ([y9]:(List Tag)) a_n_.con ([]:(List GItem)) ([]:(List GFld)) a_n_.root a_n_.more (0:Int)))) (J8 ((GTyp.mk a_n_.kind ([]:(List Tag)) a_n_.con ([]:(List GItem)) ([]:(List GFld)) a_n_.root a_n_.more (0:Int))))) (λq7=>jp (ι:=GMk) (λJ12=>asr (Nat.ble (a_x.l.length + ([q7]:(List GTyp)).length) 68719476736) <| J12 ((GMk.mk a_x.m (a_x.l ++ ([q7]:(List GTyp))) a_x.e))) (λq11=>jp (ι:=GMk) (λJ21=>jp (ι:=Bool) (λJ23=>br (decide (a_n_.kind=(2:Int))) (J23 ((decide (a_n_.kind=(2:Int))))) (br (decide (a_n_.kind=(5:Int))) (J23 ((decide (a_n_.kind=(5:Int))))) (br (decide (a_n_.kind=(6:Int))) (J23 ((decide (a_n_.kind=(6:Int))))) (J23 ((decide (a_n_.kind=(10:Int)))))))) (λq22=>br q22 (cal (zmK a_n_.con (!decide (a_n_.kind=(2:Int)))) λy24=>jp (ι:=GMk) (λJ26=>br (!decide (y24=(0:Int))) (cal (zck q11 y24) λy27=>J26 (y27)) (J26 (q11))) (λq25=>br (decide (a_n_.kind=(10:Int))) (ck ((zJ + (1:Int))) <| cal (zbk q25 a_n_.of (zJ + (1:Int))) λy29=>br (decide (y29.2.e=(0:Int))) (asr (decide (0 <= ((a_x.l.length:Nat):Int)/\((a_x.l.length:Nat):Int) < ((y29.2.l.length:Nat):Int))) <| cal (y29.2.l[((a_x.l.length:Nat):Int).toNat]?) λy32=>J21 ((GMk.mk y29.2.m (y29.2.l.set (((a_x.l.length:Nat):Int).toNat) ({ y32 with of:=y29.1 })) y29.2.e))) (J21 (y29.2))) (J21 (q25)))) (br (decide (a_n_.kind=(3:Int))) (cal (zho q11 a_n_) λy33=>asr (decide (y33.2.l.length=q11.l.length)) <| asr (decide (0 <= ((a_x.l.length:Nat):Int)/\((a_x.l.length:Nat):Int) < ((q11.l.length:Nat):Int))) <| cal (y33.2.l[((a_x.l.length:Nat):Int).toNat]?) λy36=>J21 ((GMk.mk y33.2.m (y33.2.l.set (((a_x.l.length:Nat):Int).toNat) ({ y36 with items:=y33.1 })) y33.2.e))) (jp (ι:=Bool) (λJ38=>br (decide (a_n_.kind=(7:Int))) (J38 ((decide (a_n_.kind=(7:Int))))) (br (decide (a_n_.kind=(8:Int))) (J38 ((decide (a_n_.kind=(8:Int))))) (J38 ((decide (a_n_.kind=(9:Int))))))) (λq37=>br q37 (cal (zbm q11 ((a_x.l.length:Nat):Int) a_n_ zJ) λy39=>J21 (y39)) (J21 (q11))))))) (λq20=>some (((a_x.l.length:Nat):Int),q20))))))
def zef:Nat->(GMk->Int->GNode->Int->Option (GMk)) × (GMk->Int->Int->Option (Int × GMk)) × (GMk->GNode->Int->Option (Int × GMk))
 | 0=>(λ_ _ _ _=>none,λ_ _ _=>none,λ_ _ _=>none)
 | n + 1=>let p:=zef n;(zf5 p.1 p.2.1 p.2.2,zgT p.1 p.2.1 p.2.2,zgK p.1 p.2.1 p.2.2)
def zmr (n:Nat):GMk->Int->GNode->Int->Option (GMk):=(zef n).1
def zh3 (n:Nat):GMk->Int->Int->Option (Int × GMk):=(zef n).2.1
def znD (n:Nat):GMk->GNode->Int->Option (Int × GMk):=(zef n).2.2

def zlQ (a_m:GMod):Option (GTab × Int × Int) :=
 cal (zmQ a_m) λy2=>br (!decide (y2.2.2=(0:Int))) (some ((GTab.mk (Str.mk []) ([]:(List Str)) ([]:(List Int)) ([]:(List GTyp))),y2.2.1,y2.2.2)) (jp (ι:=GTab) (λJ6=>asr (Nat.ble (([]:(List Str)).length + a_m.names.length) 68719476736) <| J6 ((GTab.mk a_m.name (([]:(List Str)) ++ a_m.names) ([]:(List Int)) ([]:(List GTyp))))) (λq5=>lp (ι:=Int × GTab × GMk) (λL17 q16=>br (decide (q16.1 < (a_m.names.length:Int))) (jp (ι:=GTab × GMk) (λJ35=>cal (getI a_m.types q16.1) λy36=>cal (zh3 fuel q16.2.2 y36 (0:Int)) λy37=>asr (Nat.ble (q16.2.1.roots.length + ([y37.1]:(List Int)).length) 68719476736) <| J35 ((GTab.mk q16.2.1.name q16.2.1.names (q16.2.1.roots ++ ([y37.1]:(List Int))) q16.2.1.types),y37.2)) (λq34=>br (!decide (q34.2.e=(0:Int))) (some ((GTab.mk (Str.mk []) ([]:(List Str)) ([]:(List Int)) ([]:(List GTyp))),q16.1,q34.2.e)) (ck ((q16.1 + (1:Int))) <| L17 ((q16.1 + (1:Int)),q34.1,q34.2)))) (some ((GTab.mk q16.2.1.name q16.2.1.names q16.2.1.roots q16.2.2.l),(0:Int),(0:Int)))) (((0:Int),q5,(GMk.mk a_m ([]:(List GTyp)) (0:Int))))))

def zdc (zaV:Str):Option (GTab × Bool) :=
 br (decide ((3000:Int) < (zaV.b.length:Int))) (some ((GTab.mk (Str.mk []) ([]:(List Str)) ([]:(List Int)) ([]:(List GTyp))),false)) (cal (ziJ zaV) λy2=>br (!decide (y2.2.2=(0:Int))) (some ((GTab.mk (Str.mk []) ([]:(List Str)) ([]:(List Int)) ([]:(List GTyp))),false)) (cal (zlQ y2.1) λy4=>jp (ι:=Bool) (λJ7=>br (decide (y4.2.2=(0:Int))) (J7 ((decide ((y4.1.types.length:Int) <= (120:Int))))) (J7 (false))) (λq6=>some (y4.1,q6))))
end Go.Proofs.Q


namespace Go.Proofs.Q
open Go.Sy
set_option linter.unusedVariables false

/-! ### UTF-8 -/
theorem tkl {α:Type} (l:List α):l.take ((l.length:Int)).toNat=l:=by rw [Int.toNat_natCast,List.take_length]
theorem zgW (s:List UInt8) (h:8 <= s.length):T (λ_=>True) (zbr s):=by
 unfold zbr
 refine T.get (by omega) (by omega) λ_ _=>T.get (by omega) (by omega) λ_ _=>T.asr (by decide) (T.get (by omega) (by omega) λ_ _=>T.asr (by decide) (T.get (by omega) (by omega) λ_ _=>T.asr (by decide) (T.get (by omega) (by omega) λ_ _=>T.asr (by decide) (T.get (by omega) (by omega) λ_ _=>T.asr (by decide) (T.get (by omega) (by omega) λ_ _=>T.asr (by decide) (T.get (by omega) (by omega) λ_ _=>T.asr (by decide) (T.some trivial)))))))
theorem zvF (y:UInt8):(shr8 (tab1 y) (4:UInt64).toNat).toNat < 16:=by
 unfold shr8
 have h:=(tab1 y).toNat_lt
 have e:(4:UInt64).toNat=4:=rfl
 rw [e,UInt8.toNat_ofNat',show (2:Nat) ^ 4=16 from rfl]
 omega
theorem ztw (p:List UInt8) (hp:p.length <= 1000000):T (λ_=>True) (zdo p):=by
 unfold zdo
 have e1:(1:Int).toNat=1:=rfl
 have e2:(2:Int).toNat=2:=rfl
 have e3:(3:Int).toNat=3:=rfl
 have e4:(4:Int).toNat=4:=rfl
 have e8:(8:Int).toNat=8:=rfl
 have e16:(16:Int).toNat=16:=rfl
 have e24:(24:Int).toNat=24:=rfl
 have e32:(32:Int).toNat=32:=rfl
 simp only [tkl,e1,e2,e3,e4,e8,e16,e24,e32,List.drop_drop]
 refine T.asd ⟨by omega,zIl _⟩ (T.lp (λ(q:List UInt8)=>q.length <= 1000000) (λ(q:List UInt8)=>q.length) hp (by omega) λL q hq hL=>?_)
 refine T.br (λhb=>?_) λ_=>T.some trivial
 have hb:=zOT hb
 refine T.get (by omega) hb λy hy=>T.br (λ_=>?_) λ_=>?_
 ·have hd1:(q.drop 1).length=q.length - 1:=zLd
  refine T.asd ⟨by omega,by omega,by omega⟩ ?_
  refine T.jp (λb=>b=true->8 < (q.drop 1).length) (λJ h=>T.br (λh2=>?_) λ_=>h _ λh=>by cases h) λb hb1=>?_
  ·have h2:=zOT h2
   exact T.cal (zgW _ (by omega)) λ_ _ _=>h _ λ_=>by omega
  refine T.jp (λ(r:List UInt8)=>r.length < q.length) (λJ h=>T.br (λh2=>?_) λ_=>h _ (by omega)) λr hr=>hL _ (by omega) hr
  have h2:=hb1 h2
  have hd9:(q.drop (1 + 8)).length=q.length - 9:=zLd
  refine T.asd ⟨by omega,by omega,by omega⟩ ?_
  refine T.jp (λb=>b=true->16 < (q.drop (1 + 8)).length) (λJ2 h3=>T.br (λh4=>?_) λ_=>h3 _ λh=>by cases h) λb2 hb2=>?_
  ·have h4:=zOT h4
   have hd17:(q.drop (1 + 8 + 8)).length=q.length - 17:=zLd
   exact T.asd ⟨by omega,by omega,by omega⟩ (T.cal (zgW _ (by omega)) λ_ _ _=>T.cal (zgW _ (by omega)) λ_ _ _=>h3 _ λ_=>by omega)
  refine T.br (λh5=>?_) λ_=>h _ (by omega)
  have h5:=hb2 h5
  have hd25:(q.drop (1 + 8 + 16)).length=q.length - 25:=zLd
  refine T.asd ⟨by omega,by omega,by omega⟩ (T.lp (λ(r:List UInt8)=>r.length < q.length) (λ(r:List UInt8)=>r.length) (by omega) (by omega) λL2 r hr hL2=>?_)
  have r8:(r.drop 8).length=r.length - 8:=zLd
  have r16:(r.drop 16).length=r.length - 16:=zLd
  have r24:(r.drop 24).length=r.length - 24:=zLd
  have r32:(r.drop 32).length=r.length - 32:=zLd
  refine T.jp (λb=>b=true->32 < r.length) (λJ2 h3=>T.br (λh6=>?_) λ_=>h3 _ λh=>by cases h) λb3 hb3=>?_
  ·have h6:=zOT h6
   exact T.asd ⟨by omega,by omega,by omega⟩ (T.asd ⟨by omega,by omega,by omega⟩ (T.asd ⟨by omega,by omega,by omega⟩ (T.cal (zgW _ (by omega)) λ_ _ _=>T.cal (zgW _ (by omega)) λ_ _ _=>T.cal (zgW _ (by omega)) λ_ _ _=>T.cal (zgW _ (by omega)) λ_ _ _=>h3 _ λ_=>by omega)))
  ·refine T.br (λh6=>?_) λ_=>h _ hr
   have h6:=hb3 h6
   exact T.asd ⟨by omega,by omega,by omega⟩ (hL2 _ (by omega) (by omega))
 ·have hd2:(q.drop 2).length=q.length - 2:=zLd
  have hd3:(q.drop 3).length=q.length - 3:=zLd
  have hd4:(q.drop 4).length=q.length - 4:=zLd
  have ht:Nat.blt (shr8 (tab1 y) (4:UInt64).toNat).toNat 16=true:=by have:=zvF y;simpa using this
  have or1:∀ {β:Type} {R:β->Prop} {b:Bool} {n:Nat} {f:UInt8->Bool} {i:Int} {K:Bool->Option β},(b=false->(n:Int) <= q.length)->0 <= i->i < n->(∀ c,(c=false->(n:Int) <= q.length)->T R (K c))->T R (jp (ι:=Bool) (λJ=>br b (J true) (cal (getI q i) λz=>J (f z))) K):=λ{β R b n f i K} h1 h2 h3 h4=>T.jp (λc=>c=false->(n:Int) <= q.length) (λJ h=>T.br (λ_=>h _ λh=>by cases h) λhb=>T.get h2 (by have:=h1 hb;omega) λ_ _=>h _ λ_=>h1 hb) h4
  have lt1:∀ {n:Nat},decide ((q.length:Int) < (n:Int))=false->(n:Int) <= q.length:=λ{n} h=>by have:=zOF h;omega
  refine T.asr (by decide) (T.asr ht (T.br (λ_=>?_) λ_=>T.br (λ_=>?_) λ_=>T.br (λ_=>?_) λ_=>T.some trivial))
  ·refine or1 (n:=2) lt1 (by omega) (by omega) λc1 k1=>or1 (n:=2) k1 (by omega) (by omega) λc2 k2=>T.br (λ_=>T.some trivial) λh6=>?_
   have:=k2 h6
   exact T.asd ⟨by omega,by omega,by omega⟩ (hL _ (by omega) (by omega))
  ·refine or1 (n:=3) lt1 (by omega) (by omega) λc1 k1=>or1 (n:=3) k1 (by omega) (by omega) λc2 k2=>or1 (n:=3) k2 (by omega) (by omega) λc3 k3=>or1 (n:=3) k3 (by omega) (by omega) λc4 k4=>T.br (λ_=>T.some trivial) λh6=>?_
   have:=k4 h6
   exact T.asd ⟨by omega,by omega,by omega⟩ (hL _ (by omega) (by omega))
  ·refine or1 (n:=4) lt1 (by omega) (by omega) λc1 k1=>or1 (n:=4) k1 (by omega) (by omega) λc2 k2=>or1 (n:=4) k2 (by omega) (by omega) λc3 k3=>or1 (n:=4) k3 (by omega) (by omega) λc4 k4=>or1 (n:=4) k4 (by omega) (by omega) λc5 k5=>or1 (n:=4) k5 (by omega) (by omega) λc6 k6=>T.br (λ_=>T.some trivial) λh6=>?_
   have:=k6 h6
   exact T.asd ⟨by omega,by omega,by omega⟩ (hL _ (by omega) (by omega))
end Go.Proofs.Q


namespace Go.Proofs.Q
open Go.Sy
set_option linter.unusedVariables false

def kidsT (t:GTyp):List Int:=t.fields.map (λf=>f.ty) ++ (if t.kind=10 then [t.of] else [])
structure TypOk (t:GTyp):Prop where
 tags:t.kind ≠ 9->t.tags ≠ []
 tlen:t.tags.length <= 100000
 root0:0 <= t.root
 rootF:t.kind=7 \/ t.kind=8 \/ t.kind=9->t.root <= t.fields.length
 rootI:t.kind=3->t.root <= t.items.length
 fields:¬ (t.kind=7 \/ t.kind=8 \/ t.kind=9)->t.fields=[]
 items:t.kind ≠ 3->t.items=[]
 ilen:t.items.length <= 8001
 nums:∀ it ∈ t.items,I64 it.number
 dflt:∀ f ∈ t.fields,DOk f.dflt
 rootZ:t.kind ≠ 3->¬ (t.kind=7 \/ t.kind=8 \/ t.kind=9)->t.root=0
def SubT:Nat->List GTyp->Nat->Nat->Prop
 | 0,_,_,_=>False
 | h + 1,l,i,j=>∃ t,l[i]?=some t/\TypOk t/\Kids (SubT h l) (kidsT t) (i + 1) j
theorem SubT.lt:∀ {h l i j},SubT h l i j->i < j:=by
 intro h
 induction h with
 | zero=>intro l i j h;exact h.elim
 | succ h ih=>intro l i j ⟨n,_,_,h2⟩;exact Kids.le (λx y h=>Nat.le_of_lt (ih h)) h2
theorem SubT.mono:∀ {h l l' i j},(∀ k,i <= k->k < j->l'[k]?=l[k]?)->SubT h l i j->SubT h l' i j:=by
 intro h
 induction h with
 | zero=>intro l l' i j _ h;exact h
 | succ h ih =>
  intro l l' i j hl hs
  have hlt:=hs.lt
  obtain ⟨n,h1,h0,h2⟩:=hs
  refine ⟨n,by rw [hl i (zNl _) hlt];exact h1,h0,Kids.mono (λx y h=>Nat.le_of_lt h.lt) (λx y hx hy hs=>ih (λk h3 h4=>hl k (by omega) (by omega)) hs) h2⟩
theorem KidsT.monoL {h l l' r a b} (hl:∀ k,a <= k->k < b->l'[k]?=l[k]?) (hk:Kids (SubT h l) r a b):Kids (SubT h l') r a b :=
 Kids.mono (λx y h=>Nat.le_of_lt h.lt) (λx y hx hy hs=>hs.mono λk h3 h4=>hl k (by omega) (by omega)) hk
theorem SubT.up:∀ {h l i j},SubT h l i j->SubT (h + 1) l i j:=by
 intro h
 induction h with
 | zero=>intro l i j h;exact h.elim
 | succ h ih =>
  intro l i j ⟨n,h1,h0,h2⟩
  exact ⟨n,h1,h0,Kids.mono (λx y h=>Nat.le_of_lt h.lt) (λx y _ _ hs=>ih hs) h2⟩
theorem SubT.set {h l i j t t'} (hs:SubT h l i j) (ht:l[i]?=some t) (ok:TypOk t') (hk:kidsT t'=kidsT t):SubT h (l.set i t') i j:=by
 cases h with
 | zero=>exact hs
 | succ h =>
  obtain ⟨n,h1,h0,h2⟩:=hs
  rw [ht] at h1;cases h1
  have hlt:=(List.getElem?_eq_some_iff.1 ht).1
  refine ⟨t',by rw [List.getElem?_set_self hlt],ok,?_⟩
  rw [hk]
  exact KidsT.monoL (λk h3 h4=>List.getElem?_set_ne (by omega)) h2
theorem SubT.le' {h l}:∀ x y,SubT h l x y->x <= y:=λx y h=>Nat.le_of_lt h.lt
theorem SubT.inb:∀ {h l i j},SubT h l i j->j <= l.length:=by
 intro h
 induction h with
 | zero=>intro l i j h;exact h.elim
 | succ h ih =>
  intro l i j ⟨t,h1,h0,h2⟩
  have hi:=(List.getElem?_eq_some_iff.1 h1).1
  have:∀ (r:List Int) (a b:Nat),Kids (SubT h l) r a b->a <= l.length->b <= l.length:=by
   intro r
   induction r with
   | nil=>intro a b h2 ha;cases h2;exact ha
   | cons x r ih2=>intro a b ⟨c,k1,k2,k3⟩ ha;exact ih2 c b k3 (ih k2)
  exact this _ _ _ h2 (by omega)

theorem Kids.app {S:Nat->Nat->Prop} {ys:List Int}:∀ {xs:List Int} {a b:Nat},Kids S (xs ++ ys) a b->∃ c,Kids S xs a c/\Kids S ys c b:=by
 intro xs
 induction xs with
 | nil=>intro a b h;exact ⟨a,rfl,h⟩
 | cons x xs ih =>
  intro a b ⟨c,h0,h1,h2⟩
  obtain ⟨d,h3,h4⟩:=ih h2
  exact ⟨d,⟨c,h0,h1,h3⟩,h4⟩
theorem ztN {h:Nat} {l:List GTyp}:∀ {r:List Int} {a b:Nat},Kids (SubT h l) r a b->r.length <= b - a:=by
 intro r
 induction r with
 | nil=>intro a b _;exact zNz _
 | cons x r ih =>
  intro a b ⟨c,k0,k1,k2⟩
  have:=ih k2
  have:=k1.lt
  have:=Kids.le SubT.le' k2
  simp only [zLc];omega
theorem KidsT.sub {h:Nat} {l:List GTyp}:∀ {r a b} (n m:Nat),Kids (SubT h l) r a b->∃ c d,Kids (SubT h l) ((r.take n).drop m) c d/\d <= b:=by
 intro r a b n m hk
 have h1:r=(r.take n).take m ++ ((r.take n).drop m ++ r.drop n):=by
  rw [<- zLA,List.take_append_drop,List.take_append_drop]
 rw [h1] at hk
 obtain ⟨c,_,h3⟩:=Kids.app hk
 obtain ⟨d,h4,h5⟩:=Kids.app h3
 exact ⟨c,d,h4,Kids.le SubT.le' h5⟩
end Go.Proofs.Q


namespace Go.Proofs.Q
open Go.Sy
set_option linter.unusedVariables false

def fl (x:GMk) (e:Int):GMk:=if x.e=0 then GMk.mk x.m x.l e else x
theorem zwJ (x:GMk) (e:Int):(fl x e).m=x.m:=by unfold fl;split <;> rfl
theorem zwE (x:GMk) (e:Int):(fl x e).l=x.l:=by unfold fl;split <;> rfl
theorem zwx {x:GMk} {e:Int} (h:e ≠ 0):(fl x e).e ≠ 0:=by
 unfold fl
 split
 ·exact h
 ·assumption
structure Sm (x y:GMk):Prop where
 m:y.m=x.m
 l:y.l=x.l
 e:y.e=0->x.e=0
theorem Sm.refl (x:GMk):Sm x x:=⟨rfl,rfl,λh=>h⟩
theorem Sm.trans {x y z:GMk} (h:Sm x y) (k:Sm y z):Sm x z:=⟨k.m.trans h.m,k.l.trans h.l,λe=>h.e (k.e e)⟩
theorem Sm.fl {x:GMk} {e:Int} (h:e ≠ 0):Sm x (fl x e):=⟨zwJ x e,zwE x e,λk=>absurd k (zwx h)⟩
def Wp1 (x y:GMk) (i:Nat):Prop:=y.m=x.m/\y.l.length=x.l.length/\(y.e=0->x.e=0/\∀ t,x.l[i]?=some t->∃ tg:List Tag,y.l=x.l.set i { t with tags:=tg }/\tg ≠ []/\tg.length <= t.tags.length + 1)
end Go.Proofs.Q


namespace Go.Proofs.Q
open Go.Sy
set_option linter.unusedVariables false

def Dn (m:GMod) (a:Int) (k j:Nat):Prop:=∀ (p:Nat) (n:GNode),k <= p->p < j->m.nodes[p]?=some n->n.kind=11->0 <= fnd m.names n.name/\Ed (gr m) a (fnd m.names n.name)
structure Gk (x y:GMk):Prop where
 m:y.m=x.m
 le:x.l.length <= y.l.length
 lim:y.l.length <= 300
 e:y.e=0->x.e=0
 pre:y.e=0->∀ k,k < x.l.length->y.l[k]?=x.l[k]?
theorem Gk.refl {x:GMk} (h:x.l.length <= 300):Gk x x:=⟨rfl,zNl _,h,λe=>e,λ_ _ _=>rfl⟩
theorem Gk.trans {x y z:GMk} (h:Gk x y) (k:Gk y z):Gk x z :=
 ⟨k.m.trans h.m,Nat.le_trans h.le k.le,k.lim,λe=>h.e (k.e e),λe p hp=>(k.pre e p (Nat.lt_of_lt_of_le hp h.le)).trans (h.pre (k.e e) p hp)⟩
theorem Gk.wp {x y:GMk} {i:Nat} (h:Wp1 x y i) (hl:x.l.length <= 300) (hi:i < x.l.length):y.m=x.m/\y.l.length=x.l.length:=⟨h.1,h.2.1⟩

theorem Dn.part {m:GMod} {a:Int} {k j c d:Nat} (h:Dn m a k j) (h1:k <= c) (h2:d <= j):Dn m a c d:=λp n hp hq=>h p n (by omega) (by omega)

end Go.Proofs.Q


namespace Go.Proofs.Q
open Go.Sy
set_option linter.unusedVariables false

structure New (n:GNode) (t:GTyp):Prop where
 kind:t.kind=n.kind
 root:t.root=n.root
 items:t.items=[]
 fields:t.fields=[]
 tags:t.kind ≠ 9->t.tags ≠ []
 tlen:t.tags.length <= 1
theorem New.ok {n:GNode} {t:GTyp} (h:New n t) (hn:NodeOk n) (h3:n.kind ≠ 3) (h7:n.kind ≠ 7) (h8:n.kind ≠ 8) (h9:n.kind ≠ 9) (o:Int):TypOk { t with of:=o }:=by
 have hk:=h.kind
 exact ⟨h.tags,by have:=h.tlen;show t.tags.length <= _;omega,by rw [h.root];exact hn.root0,λe=>by rcases e with e | e | e <;> (rw [hk] at e;contradiction),λe=>by rw [hk] at e;contradiction,λ_=>h.fields,λ_=>h.items,by show t.items.length <= _;rw [h.items];decide,λit hit=>(by dsimp only at hit;rw [h.items] at hit;cases hit),λf hf=>(by dsimp only at hf;rw [h.fields] at hf;cases hf),λ_ _=>(by dsimp only;rw [h.root];exact hn.rootZ h3 (by omega))⟩
end Go.Proofs.Q


namespace Go.Proofs.Q
open Go.Sy
set_option linter.unusedVariables false

theorem Kids.find {S:Nat->Nat->Prop} {p:Nat}:∀ {r:List Int} {a b:Nat},Kids S r a b->a <= p->p < b->∃ (k:Int) (c d:Nat),k ∈ r/\k=(c:Int)/\S c d/\c <= p/\p < d:=by
 intro r
 induction r with
 | nil=>intro a b h h1 h2;cases h;omega
 | cons x r ih =>
  intro a b ⟨c,h0,h1,h2⟩ ha hb
  rcases Nat.lt_or_ge p c with h | h
  ·exact ⟨x,a,c,zMs,h0,h1,ha,h⟩
  ·obtain ⟨k,c',d',k1,k2,k3,k4,k5⟩:=ih h2 h hb
   exact ⟨k,c',d',zMm _ k1,k2,k3,k4,k5⟩
theorem SubT.sub:∀ {h:Nat} {l:List GTyp} {r:List Int} {a b:Nat},Kids (SubT h l) r a b->∀ i,a <= i->i < b->∃ j,SubT h l i j:=by
 intro h
 induction h with
 | zero =>
  intro l r a b hk i h1 h2
  cases r with
  | nil=>cases hk;omega
  | cons k r=>obtain ⟨c,_,h,_⟩:=hk;exact h.elim
 | succ h ih =>
  intro l r a b hk i h1 h2
  obtain ⟨k,c,d,_,_,k3,k4,k5⟩:=Kids.find hk h1 h2
  rcases Nat.eq_or_lt_of_le k4 with e | e
  ·subst e;exact ⟨d,k3⟩
  ·obtain ⟨t,_,_,h3⟩:=k3
   obtain ⟨j,hj⟩:=ih h3 i e k5
   exact ⟨j,hj.up⟩
structure TabOk (t:GTab):Prop where
 names:t.names.length <= 40
 roots:t.roots.length=t.names.length
 types:t.types.length <= 300
 kids:Kids (SubT 17 t.types) t.roots 0 t.types.length
 fnds:∀ (p:Nat) (s:Str),t.names[p]?=some s->fnd t.names s=(p:Int)
theorem TabOk.empty (s:Str):TabOk (GTab.mk s [] [] []):=⟨zNz _,rfl,zNz _,rfl,λp s h=>by simp at h⟩
end Go.Proofs.Q


namespace Go.Proofs.Q
open Go.Sy
set_option maxRecDepth 4000
def znc (a_a:(List UInt8)) (a_b:(List UInt8)):Option (Bool) :=
 some ((decide ((Str.mk a_a)=(Str.mk a_b))))

def zqc (a_a:Raw) (a_b:Raw):Option (Bool) :=
 jp (ι:=Bool) (λJ2=>br (decide (a_a.n=a_b.n)) (cal (znc a_a.b a_b.b) λy4=>J2 (y4)) (J2 (false))) (λq1=>some (q1))

def zgA (a_a:(List Raw)) (a_b:(List Raw)):Option (Bool) :=
 br (!decide ((a_a.length:Int)=(a_b.length:Int))) (some (false)) (lp (ι:=Int) (λL2 q1=>br (decide (q1 < (a_a.length:Int))) (cal (getI a_a q1) λy7=>cal (getI a_b q1) λy8=>cal (zqc y7 y8) λy9=>br (!y9) (some (false)) (ck ((q1 + (1:Int))) <| L2 ((q1 + (1:Int))))) (some (true))) (((0:Int))))

def zd2 (zcE:(List Val)->(List Val)->Option (Bool)) (zhj:Val->Val->Option (Bool)) (a_a:(List Val)) (a_b:(List Val)):Option (Bool) :=
 br (!decide ((a_a.length:Int)=(a_b.length:Int))) (some (false)) (lp (ι:=Int) (λL2 q1=>br (decide (q1 < (a_a.length:Int))) (cal (getI a_a q1) λy7=>cal (getI a_b q1) λy8=>cal (zhj y7 y8) λy9=>br (!y9) (some (false)) (ck ((q1 + (1:Int))) <| L2 ((q1 + (1:Int))))) (some (true))) (((0:Int))))
def zi5 (zcE:(List Val)->(List Val)->Option (Bool)) (zhj:Val->Val->Option (Bool)) (a_a:Val) (a_b:Val):Option (Bool) :=
 jp (ι:=Bool) (λJ2=>br (decide (a_a.kind=a_b.kind)) (J2 ((decide (a_a.n=a_b.n)))) (J2 (false))) (λq1=>jp (ι:=Bool) (λJ5=>br q1 (cal (znc a_a.b a_b.b) λy7=>J5 (y7)) (J5 (false))) (λq4=>jp (ι:=Bool) (λJ9=>br q4 (cal (zcE a_a.l a_b.l) λy11=>J9 (y11)) (J9 (false))) (λq8=>jp (ι:=Bool) (λJ13=>br q8 (J13 ((decide (a_a.rule=a_b.rule)))) (J13 (false))) (λq12=>jp (ι:=Bool) (λJ16=>br q12 (cal (zgA a_a.more a_b.more) λy18=>J16 (y18)) (J16 (false))) (λq15=>some (q15))))))
def zft:Nat->((List Val)->(List Val)->Option (Bool)) × (Val->Val->Option (Bool))
 | 0=>(λ_ _=>none,λ_ _=>none)
 | n + 1=>let p:=zft n;(zd2 p.1 p.2,zi5 p.1 p.2)
def zgP (n:Nat):(List Val)->(List Val)->Option (Bool):=(zft n).1
def zi9 (n:Nat):Val->Val->Option (Bool):=(zft n).2

def zgw (a_b:(List UInt8)):Option (UInt64 × Int × Int) :=
 lp (ι:=UInt64 × Int) (λL2 q1=>br (decide (q1.2 < (a_b.length:Int))) (cal (getI a_b q1.2) λy13=>jp (ι:=Bool) (λJ15=>br (decide (q1.2=(0:Int))) (J15 ((decide (y13=(128:UInt8))))) (J15 (false))) (λq14=>jp (ι:=Bool) (λJ18=>br q14 (J18 (true)) (J18 ((!decide ((q1.1 >>> (57:UInt64))=(0:UInt64)))))) (λq17=>br q17 (some ((0:UInt64),(0:Int),(4:Int))) (asr (Nat.ble (7:UInt64).toNat 64) <| br (decide (y13 < (128:UInt8))) (ck ((q1.2 + (1:Int))) <| some (((shl64 q1.1 (7:UInt64).toNat) ||| (y13 &&& (127:UInt8)).toUInt64),(q1.2 + (1:Int)),(0:Int))) (ck ((q1.2 + (1:Int))) <| L2 (((shl64 q1.1 (7:UInt64).toNat) ||| (y13 &&& (127:UInt8)).toUInt64),(q1.2 + (1:Int)))))))) (some ((0:UInt64),(0:Int),(3:Int)))) (((0:UInt64),(0:Int)))

def zlA (a_b:(List UInt8)):Option (Int × Int × Int) :=
 cal (getI a_b (0:Int)) λy1=>br (decide (((y1 &&& (31:UInt8)).toNat:Int) < (31:Int))) (some (((y1 &&& (31:UInt8)).toNat:Int),(0:Int),(0:Int))) (asr (decide (0 <= (1:Int)/\(1:Int) <= (a_b.length:Int)/\(a_b.length:Int) <= (a_b.length:Int))) <| cal (zgw ((a_b.take ((a_b.length:Int)).toNat).drop ((1:Int)).toNat)) λy3=>br (!decide (y3.2.2=(0:Int))) (some ((0:Int),(0:Int),y3.2.2)) (jp (ι:=Bool) (λJ5=>br (decide (y3.1 < (31:UInt64))) (J5 (true)) (J5 ((decide ((268435456:UInt64) < y3.1))))) (λq4=>br q4 (some ((0:Int),(0:Int),(4:Int))) (ck ((y3.1.toNat:Int)) <| some ((y3.1.toNat:Int),y3.2.1,(0:Int))))))

def zja (a_b:(List UInt8)):Option (UInt64) :=
 lp (ι:=UInt64 × Int) (λL2 q1=>br (decide (q1.2 < (a_b.length:Int))) (cal (getI a_b q1.2) λy6=>asr (Nat.ble (8:UInt64).toNat 64) <| ck ((q1.2 + (1:Int))) <| L2 (((shl64 q1.1 (8:UInt64).toNat) ||| y6.toUInt64),(q1.2 + (1:Int)))) (some (q1.1))) (((0:UInt64),(0:Int)))

def zfD (a_b:(List UInt8)):Option (UInt64 × Int) :=
 br (decide ((a_b.length:Int)=(0:Int))) (some ((0:UInt64),(3:Int))) (jp (ι:=Bool) (λJ2=>br (decide ((8:Int) < (a_b.length:Int))) (J2 (true)) (jp (ι:=Bool) (λJ5=>br (decide ((1:Int) < (a_b.length:Int))) (cal (getI a_b (0:Int)) λy7=>J5 ((decide (y7=(0:UInt8))))) (J5 (false))) (λq4=>J2 (q4)))) (λq1=>br q1 (some ((0:UInt64),(4:Int))) (cal (zja a_b) λy8=>some (y8,(0:Int)))))

def zlx (a_b:(List UInt8)):Option (Int × Int × Int) :=
 br (decide ((a_b.length:Int)=(0:Int))) (some ((0:Int),(0:Int),(3:Int))) (cal (getI a_b (0:Int)) λy1=>br (decide (y1 < (128:UInt8))) (cal (getI a_b (0:Int)) λy2=>some ((y2.toNat:Int),(1:Int),(0:Int))) (cal (getI a_b (0:Int)) λy3=>jp (ι:=Bool) (λJ5=>br (decide (((y3 &&& ~~~(128:UInt8)).toNat:Int)=(0:Int))) (J5 (true)) (J5 ((decide ((8:Int) < ((y3 &&& ~~~(128:UInt8)).toNat:Int)))))) (λq4=>br q4 (some ((0:Int),(0:Int),(4:Int))) (br (decide ((a_b.length:Int) <= ((y3 &&& ~~~(128:UInt8)).toNat:Int))) (some ((0:Int),(0:Int),(3:Int))) (ck (((1:Int) + ((y3 &&& ~~~(128:UInt8)).toNat:Int))) <| asr (decide (0 <= (1:Int)/\(1:Int) <= ((1:Int) + ((y3 &&& ~~~(128:UInt8)).toNat:Int))/\((1:Int) + ((y3 &&& ~~~(128:UInt8)).toNat:Int)) <= (a_b.length:Int))) <| cal (zfD ((a_b.take (((1:Int) + ((y3 &&& ~~~(128:UInt8)).toNat:Int))).toNat).drop ((1:Int)).toNat)) λy9=>jp (ι:=Bool) (λJ11=>br (!decide (y9.2=(0:Int))) (J11 (true)) (J11 ((decide (y9.1 < (128:UInt64)))))) (λq10=>jp (ι:=Bool) (λJ14=>br q10 (J14 (true)) (J14 ((decide ((2147483647:UInt64) < y9.1))))) (λq13=>br q13 (some ((0:Int),(0:Int),(4:Int))) (ck ((y9.1.toNat:Int)) <| ck (((1:Int) + ((y3 &&& ~~~(128:UInt8)).toNat:Int))) <| some ((y9.1.toNat:Int),((1:Int) + ((y3 &&& ~~~(128:UInt8)).toNat:Int)),(0:Int))))))))))

def zi7 (a_b:(List UInt8)):Option (Tag × Bool × Int × Int × Int) :=
 br (decide ((a_b.length:Int)=(0:Int))) (some ((Tag.mk (0:Int) (0:Int)),false,(0:Int),(0:Int),(3:Int))) (cal (zlA a_b) λy2=>br (!decide (y2.2.2=(0:Int))) (some ((Tag.mk (0:Int) (0:Int)),false,(0:Int),(0:Int),y2.2.2)) (ck (((1:Int) + y2.2.1)) <| asr (decide (0 <= ((1:Int) + y2.2.1)/\((1:Int) + y2.2.1) <= (a_b.length:Int)/\(a_b.length:Int) <= (a_b.length:Int))) <| cal (zlx ((a_b.take ((a_b.length:Int)).toNat).drop (((1:Int) + y2.2.1)).toNat)) λy5=>br (!decide (y5.2.2=(0:Int))) (some ((Tag.mk (0:Int) (0:Int)),false,(0:Int),(0:Int),y5.2.2)) (cal (getI a_b (0:Int)) λy6=>asr (Nat.ble (6:UInt64).toNat 8) <| cal (getI a_b (0:Int)) λy8=>ck (((1:Int) + y2.2.1)) <| ck ((((1:Int) + y2.2.1) + y5.2.1)) <| some ((Tag.mk ((shr8 y6 (6:UInt64).toNat).toNat:Int) y2.1),(!decide ((y8 &&& (32:UInt8))=(0:UInt8))),y5.1,(((1:Int) + y2.2.1) + y5.2.1),(0:Int)))))

def znF (a_b:(List UInt8)):Option (Tag × Bool × (List UInt8) × Int × Int) :=
 cal (zi7 a_b) λy2=>jp (ι:=Bool) (λJ5=>br (decide (y2.2.2.2.2=(0:Int))) (ck (((a_b.length:Int) - y2.2.2.2.1)) <| J5 ((decide (((a_b.length:Int) - y2.2.2.2.1) < y2.2.2.1)))) (J5 (false))) (λq4=>jp (ι:=Int) (λJ9=>br q4 (J9 ((3:Int))) (J9 (y2.2.2.2.2))) (λq8=>br (!decide (q8=(0:Int))) (some ((Tag.mk (0:Int) (0:Int)),false,([]:(List UInt8)),(0:Int),q8)) (ck ((y2.2.2.2.1 + y2.2.2.1)) <| asr (decide (0 <= y2.2.2.2.1/\y2.2.2.2.1 <= (y2.2.2.2.1 + y2.2.2.1)/\(y2.2.2.2.1 + y2.2.2.1) <= (a_b.length:Int))) <| ck ((y2.2.2.2.1 + y2.2.2.1)) <| asr (Nat.ble (([]:(List UInt8)).length + ((a_b.take ((y2.2.2.2.1 + y2.2.2.1)).toNat).drop (y2.2.2.2.1).toNat).length) 68719476736) <| some (y2.1,y2.2.1,(([]:(List UInt8)) ++ ((a_b.take ((y2.2.2.2.1 + y2.2.2.1)).toNat).drop (y2.2.2.2.1).toNat)),(y2.2.2.2.1 + y2.2.2.1),(0:Int)))))

def zgd (a_t:GTyp) (a_k:Int):Option (Bool) :=
 cal (getI a_t.fields a_k) λy1=>jp (ι:=Bool) (λJ3=>br y1.optional (J3 (true)) (cal (getI a_t.fields a_k) λy5=>J3 (y5.has))) (λq2=>jp (ι:=Bool) (λJ7=>br q2 (J7 (true)) (J7 ((decide (a_t.root <= a_k))))) (λq6=>some (q6)))

def zlg (a_t:GTyp):Option (Int) :=
 lp (ι:=Int) (λL2 q1=>jp (ι:=Bool) (λJ10=>br (decide ((0:Int) < q1)) (ck ((q1 - (1:Int))) <| cal (zgd a_t (q1 - (1:Int))) λy13=>J10 (y13)) (J10 (false))) (λq9=>br q9 (ck ((q1 - (1:Int))) <| L2 ((q1 - (1:Int)))) (some (q1)))) (((min (max a_t.root (0:Int)) (a_t.fields.length:Int))))

def ze4 (a_x:GTyp) (a_a1:(List Tag)):Option ((List Tag)) :=
 br (decide ((0:Int) < (a_x.tags.length:Int))) (cal (getI a_x.tags (0:Int)) λy2=>asr (Nat.ble (a_a1.length + ([y2]:(List Tag)).length) 68719476736) <| some ((a_a1 ++ ([y2]:(List Tag))))) (some (a_a1))

def zfE (zeJ:GTys->Int->Int->(List Tag)->Option (GTys × Int × (List Tag))) (a_t:GTys) (zjK:Int) (zhk:Int) (zkw:(List Tag)):Option (GTys × Int × (List Tag)) :=
 jp (ι:=Bool) (λJ3=>br (decide (zjK < (0:Int))) (J3 (true)) (J3 ((decide ((a_t.l.length:Int) <= zjK))))) (λq2=>jp (ι:=Bool) (λJ6=>br q2 (J6 (true)) (J6 ((decide (zhk=(0:Int)))))) (λq5=>br q5 (some (a_t,zhk,zkw)) (ck ((zhk - (1:Int))) <| cal (getI a_t.l zjK) λy9=>cal (ze4 y9 zkw) λy11=>br (decide ((0:Int) < (y9.tags.length:Int))) (some (a_t,(zhk - (1:Int)),y11)) (lp (ι:=Int × (List Tag) × Int × GTys) (λL14 q13=>br (decide (q13.1 < (y9.fields.length:Int))) (cal (getI y9.fields q13.1) λy20=>cal (zeJ q13.2.2.2 y20.ty q13.2.2.1 q13.2.1) λy22=>ck ((q13.1 + (1:Int))) <| L14 ((q13.1 + (1:Int)),y22.2.2,y22.2.1,y22.1)) (some (q13.2.2.2,q13.2.2.1,q13.2.1))) (((0:Int),y11,(zhk - (1:Int)),a_t))))))
def zgI:Nat->(GTys->Int->Int->(List Tag)->Option (GTys × Int × (List Tag)))
 | 0=>(λ_ _ _ _=>none)
 | n + 1=>let p:=zgI n;(zfE p)
def zgB (n:Nat):GTys->Int->Int->(List Tag)->Option (GTys × Int × (List Tag)):=(zgI n)

def zf4 (a_t:GTys) (zjK:Int):Option ((List Tag) × GTys) :=
 cal (zgB fuel a_t zjK (300:Int) ([]:(List Tag))) λy4=>some (y4.2.2,y4.1)

def zjw (a_t:GTab) (a_i:Int):Option ((List Tag)) :=
 cal (zf4 (GTys.mk a_t.types) a_i) λy2=>some (y2.1)

def zdC (a_s:(List Tag)) (a_v:Tag):Option (Int) :=
 lp (ι:=Int) (λL2 q1=>br (decide (q1 < (a_s.length:Int))) (cal (getI a_s q1) λy5=>br (decide (a_v=y5)) (some (q1)) (ck ((q1 + (1:Int))) <| L2 ((q1 + (1:Int))))) (some ((-1:Int)))) (((0:Int)))

def zc1 (a_s:(List Tag)) (a_v:Tag):Option (Bool) :=
 cal (zdC a_s a_v) λy1=>some ((decide ((0:Int) <= y1)))

def zem (a_f:GFld) (a_a1:GChk) (a_a2:Tag):Option (Bool × GChk) :=
 cal (zjw a_a1.tabled.t a_f.ty) λy1=>cal (zc1 y1 a_a2) λy2=>some (y2,a_a1)

def zct (a_s:(List GFld)) (zeG:GChk) (zfG:Tag):Option (Int × GChk) :=
 lp (ι:=Int × GChk) (λL2 q1=>br (decide (q1.1 < (a_s.length:Int))) (cal (getI a_s q1.1) λy6=>cal (zem y6 q1.2 zfG) λy7=>br y7.1 (some (q1.1,y7.2)) (ck ((q1.1 + (1:Int))) <| L2 ((q1.1 + (1:Int)),y7.2))) (some ((-1:Int),q1.2))) (((0:Int),zeG))

def zcb (a_s:(List GFld)) (zeG:GChk) (zfG:Tag):Option (Bool × GChk) :=
 cal (zct a_s zeG zfG) λy1=>some ((decide ((0:Int) <= y1.1)),y1.2)

def zd7 (a_c:GChk) (a_i:Int) (a_b:(List UInt8)):Option (Tag × Bool × GChk) :=
 cal (znF a_b) λy2=>jp (ι:=Bool) (λJ5=>br (!decide (y2.2.2.2.2=(0:Int))) (J5 (true)) (J5 ((!decide (y2.2.2.2.1=(a_b.length:Int)))))) (λq4=>br q4 (some ((Tag.mk (0:Int) (0:Int)),false,a_c)) (cal (getI a_c.tabled.t.types a_i) λy7=>jp (ι:=Int) (λJ10=>br (decide (y7.kind=(7:Int))) (cal (zlg y7) λy11=>J10 (y11)) (J10 ((0:Int)))) (λq9=>asr (decide (0 <= q9/\q9 <= (y7.fields.length:Int)/\(y7.fields.length:Int) <= (y7.fields.length:Int))) <| cal (zcb ((y7.fields.take ((y7.fields.length:Int)).toNat).drop (q9).toNat) a_c y2.1) λy13=>some (y2.1,(!y13.1),y13.2))))

def zfJ (a_y:GItem) (a_a1:Int):Option (Bool) :=
 some ((decide (a_y.number=a_a1)))

def za5 (a_s:(List GItem)) (zeG:Int):Option (Int) :=
 lp (ι:=Int) (λL2 q1=>br (decide (q1 < (a_s.length:Int))) (cal (getI a_s q1) λy6=>cal (zfJ y6 zeG) λy7=>br y7 (some (q1)) (ck ((q1 + (1:Int))) <| L2 ((q1 + (1:Int))))) (some ((-1:Int)))) (((0:Int)))

def zd1 (a_x:GTyp) (a_n_:Int):Option (Int) :=
 cal (za5 a_x.items a_n_) λy1=>some (y1)

def zjC (a_b:(List UInt8)):Option (Bool) :=
 jp (ι:=Bool) (λJ2=>br (decide ((0:Int) < (a_b.length:Int))) (J2 ((decide ((a_b.length:Int) <= (70000:Int))))) (J2 (false))) (λq1=>some (q1))

def zd9 (a_c:GChk) (a_i:Int) (a_v:Val):Option (Bool × GChk) :=
 cal (getI a_c.tabled.t.types a_i) λy1=>jp (ι:=Bool) (λJ4=>br (!y1.more) (J4 (true)) (jp (ι:=Bool) (λJ7=>br (!(decide (y1.kind=(9:Int)))) (J7 ((!decide (y1.kind=(3:Int))))) (J7 (false))) (λq6=>J4 (q6)))) (λq3=>jp (ι:=Bool) (λJ10=>br q3 (J10 (true)) (ck (((a_v.l.length:Int) + (a_v.more.length:Int))) <| J10 ((decide ((0:Int) < ((a_v.l.length:Int) + (a_v.more.length:Int))))))) (λq9=>br q9 (some (false,a_c)) (br a_c.bare (jp (ι:=Bool) (λJ14=>br (decide (a_v.n=(0:Int))) (J14 ((decide ((a_v.b.length:Int)=(0:Int))))) (J14 (false))) (λq13=>jp (ι:=Bool) (λJ17=>br q13 (J17 ((decide (a_v.rule=(0:Int))))) (J17 (false))) (λq16=>some (q16,a_c)))) (ck (((y1.items.length:Int) + (y1.fields.length:Int))) <| ck ((((y1.items.length:Int) + (y1.fields.length:Int)) - y1.root)) <| jp (ι:=Bool) (λJ22=>br (decide (a_v.rule=(1:Int))) (J22 ((decide (y1.kind=(9:Int))))) (J22 (false))) (λq21=>br q21 (cal (zd7 a_c a_i a_v.b) λy24=>jp (ι:=Bool) (λJ27=>br y24.2.1 (J27 ((decide (a_v.n=(0:Int))))) (J27 (false))) (λq26=>some (q26,y24.2.2))) (br (decide (a_v.rule=(1:Int))) (jp (ι:=Bool) (λJ30=>br (decide ((a_v.b.length:Int)=(0:Int))) (cal (zd1 y1 a_v.n) λy32=>J30 ((decide (y32 < (0:Int))))) (J30 (false))) (λq29=>some (q29,a_c))) (jp (ι:=Bool) (λJ34=>br (!decide (a_v.rule=(2:Int))) (J34 (true)) (J34 ((decide (a_v.n < (((y1.items.length:Int) + (y1.fields.length:Int)) - y1.root)))))) (λq33=>jp (ι:=Bool) (λJ37=>br q33 (J37 (true)) (J37 ((decide ((1000:Int) <= a_v.n))))) (λq36=>br q36 (some (false,a_c)) (br (decide (y1.kind=(9:Int))) (cal (zjC a_v.b) λy39=>some (y39,a_c)) (some ((decide ((a_v.b.length:Int)=(0:Int))),a_c))))))))))))

def zcW (a_v:Val) (zhL:Int):Option (Bool) :=
 asr (decide (0 <= zhL/\0 <= (1:Int))) <| jp (ι:=Bool) (λJ3=>br (!decide ((andI zhL (1:Int))=(0:Int))) (J3 (true)) (J3 ((decide (a_v.n=(0:Int)))))) (λq2=>jp (ι:=Bool) (λJ6=>br q2 (asr (decide (0 <= zhL/\0 <= (2:Int))) <| jp (ι:=Bool) (λJ10=>br (!decide ((andI zhL (2:Int))=(0:Int))) (J10 (true)) (J10 ((decide ((a_v.b.length:Int)=(0:Int)))))) (λq9=>J6 (q9))) (J6 (false))) (λq5=>jp (ι:=Bool) (λJ13=>br q5 (asr (decide (0 <= zhL/\0 <= (4:Int))) <| jp (ι:=Bool) (λJ17=>br (!decide ((andI zhL (4:Int))=(0:Int))) (J17 (true)) (J17 ((decide ((a_v.l.length:Int)=(0:Int)))))) (λq16=>J13 (q16))) (J13 (false))) (λq12=>jp (ι:=Bool) (λJ20=>br q12 (asr (decide (0 <= zhL/\0 <= (8:Int))) <| jp (ι:=Bool) (λJ24=>br (!decide ((andI zhL (8:Int))=(0:Int))) (J24 (true)) (jp (ι:=Bool) (λJ27=>br (decide (a_v.rule=(0:Int))) (J27 ((decide ((a_v.more.length:Int)=(0:Int))))) (J27 (false))) (λq26=>J24 (q26)))) (λq23=>J20 (q23))) (J20 (false))) (λq19=>some (q19)))))

def zen (a_c:GCon) (a_v:Int):Option (Bool) :=
 jp (ι:=Bool) (λJ2=>br (!a_c.has) (J2 (true)) (jp (ι:=Bool) (λJ5=>br (!a_c.hasLow) (J5 (true)) (J5 ((decide (a_c.low <= a_v))))) (λq4=>jp (ι:=Bool) (λJ8=>br q4 (jp (ι:=Bool) (λJ11=>br (!a_c.hasHigh) (J11 (true)) (J11 ((decide (a_v <= a_c.high))))) (λq10=>J8 (q10))) (J8 (false))) (λq7=>J2 (q7))))) (λq1=>some (q1))

def zdv (a_c:GChk) (a_x:GTyp) (a_v:Val):Option (Bool × GChk) :=
 cal (zcW a_v (2:Int)) λy1=>jp (ι:=Bool) (λJ3=>br y1 (J3 ((decide ((a_v.b.length:Int) <= (70000:Int))))) (J3 (false))) (λq2=>jp (ι:=Bool) (λJ6=>br q2 (jp (ι:=Bool) (λJ9=>br a_x.con.more (J9 (true)) (cal (zen a_x.con (a_v.b.length:Int)) λy11=>J9 (y11))) (λq8=>J6 (q8))) (J6 (false))) (λq5=>jp (ι:=Bool) (λJ13=>br q5 (jp (ι:=Bool) (λJ16=>br (decide (a_x.kind=(5:Int))) (J16 (true)) (cal (zdo a_v.b) λy18=>J16 (y18))) (λq15=>J13 (q15))) (J13 (false))) (λq12=>some (q12,a_c))))

def zha (a_t:GTab) (a_i:Int):Option (GTyp) :=
 jp (ι:=Bool) (λJ3=>br (decide (a_i < (0:Int))) (J3 (true)) (J3 ((decide ((a_t.types.length:Int) <= a_i))))) (λq2=>br q2 (some ((GTyp.mk (0:Int) ([]:(List Tag)) (GCon.mk false false false false (0:Int) (0:Int)) ([]:(List GItem)) ([]:(List GFld)) (0:Int) false (0:Int)))) (cal (getI a_t.types a_i) λy5=>some (y5)))

def zgz (zfe:Int) (a_to:Int):Option ((List Int)) :=
 lp (ι:=(List Int) × Int) (λL4 q3=>br (decide (q3.2 < a_to)) (asr (Nat.ble (q3.1.length + ([q3.2]:(List Int)).length) 68719476736) <| ck ((q3.2 + (1:Int))) <| L4 ((q3.1 ++ ([q3.2]:(List Int))),(q3.2 + (1:Int)))) (some (q3.1))) ((([]:(List Int)),zfe))

def zgc (a_t:GTab) (a_i:Int):Option ((List (List Int))) :=
 cal (zha a_t a_i) λy3=>jp (ι:=Bool) (λJ6=>br (!decide (y3.kind=(7:Int))) (J6 ((!decide (y3.kind=(8:Int))))) (J6 (false))) (λq5=>jp (ι:=Bool) (λJ9=>br q5 (J9 ((!decide (y3.kind=(9:Int))))) (J9 (false))) (λq8=>br q8 (some (([]:(List (List Int))))) (cal (zgz (max y3.root (0:Int)) (y3.fields.length:Int)) λy15=>lp (ι:=(List (List Int)) × Int) (λL18 q17=>br (decide (q17.2 < ((y15.length:Nat):Int))) (jp (ι:=(List (List Int))) (λJ50=>asr (decide (0 <= q17.2/\q17.2 < ((y15.length:Nat):Int))) <| cal (y15[q17.2.toNat]?) λy52=>ck ((((q17.1.length:Nat):Int) - (1:Int))) <| cal (getI y3.fields y52) λy54=>jp (ι:=Bool) (λJ56=>br (!decide (y3.kind=(9:Int))) (J56 ((decide ((0:Int) < y54.group)))) (J56 (false))) (λq55=>jp (ι:=Bool) (λJ59=>br q55 (J59 ((decide ((0:Int) <= (((q17.1.length:Nat):Int) - (1:Int)))))) (J59 (false))) (λq58=>jp (ι:=Bool) (λJ62=>br q58 (ck ((y52 - (1:Int))) <| cal (getI y3.fields (y52 - (1:Int))) λy65=>J62 ((decide (y65.group=y54.group)))) (J62 (false))) (λq61=>br q61 (asr (decide (0 <= (((q17.1.length:Nat):Int) - (1:Int))/\(((q17.1.length:Nat):Int) - (1:Int)) < ((q17.1.length:Nat):Int))) <| asr (decide ((((q17.1.length:Nat):Int) - (1:Int)).toNat + 1=q17.1.length)) <| cal (q17.1[(((q17.1.length:Nat):Int) - (1:Int)).toNat]?) λy68=>asr (Nat.ble (y68.length + ([y52]:(List Int)).length) 68719476736) <| asr (decide (0 <= (((q17.1.length:Nat):Int) - (1:Int))/\(((q17.1.length:Nat):Int) - (1:Int)) < ((q17.1.length:Nat):Int))) <| asr (decide ((((q17.1.length:Nat):Int) - (1:Int)).toNat + 1=q17.1.length)) <| cal (q17.1[(((q17.1.length:Nat):Int) - (1:Int)).toNat]?) λy74=>J50 ((q17.1.set ((((q17.1.length:Nat):Int) - (1:Int)).toNat) (y68 ++ ([y52]:(List Int)))))) (asr (Nat.ble (q17.1.length + ([([y52]:(List Int))]:(List (List Int))).length) 68719476736) <| J50 ((q17.1 ++ [([y52]:(List Int))]))))))) (λq49=>ck ((q17.2 + (1:Int))) <| L18 (q49,(q17.2 + (1:Int))))) (some (q17.1))) ((([]:(List (List Int))),(0:Int))))))

def zmG (a_a:Tag) (a_b:Tag):Option (Bool) :=
 br (!decide (a_a.cls=a_b.cls)) (some ((decide (a_a.cls < a_b.cls)))) (some ((decide (a_a.num < a_b.num))))

def zdl (a_c:GChk) (a_i:Int) (a_v:Val):Option (Bool × GChk) :=
 cal (getI a_c.tabled.t.types a_i) λy1=>br (decide ((a_v.more.length:Int)=(0:Int))) (some ((decide (a_v.rule=(0:Int))),a_c)) (jp (ι:=Bool) (λJ4=>br (!y1.more) (J4 (true)) (jp (ι:=Bool) (λJ7=>br (!decide (a_v.rule=(1:Int))) (J7 ((!decide (a_v.rule=(2:Int))))) (J7 (false))) (λq6=>J4 (q6)))) (λq3=>br q3 (some (false,a_c)) (cal (zgc a_c.tabled.t a_i) λy9=>lp (ι:=Int × Int × Tag × GChk) (λL12 q11=>br (decide (q11.2.1 < (a_v.more.length:Int))) (jp (ι:=Int × Tag × GChk) (λJ42=>cal (getI a_v.more q11.2.1) λy43=>br (decide (a_v.rule=(2:Int))) (jp (ι:=Bool) (λJ46=>br (decide (y43.n < q11.1)) (J46 (true)) (J46 ((decide ((1000:Int) <= y43.n))))) (λq45=>jp (ι:=Bool) (λJ49=>br q45 (J49 (true)) (cal (zjC y43.b) λy51=>J49 ((!y51)))) (λq48=>br q48 (some (false,q11.2.2.2)) (ck ((y43.n + (1:Int))) <| J42 ((y43.n + (1:Int)),q11.2.2.1,q11.2.2.2))))) (cal (zd7 q11.2.2.2 a_i y43.b) λy53=>jp (ι:=Bool) (λJ56=>br (!y53.2.1) (J56 (true)) (J56 ((!decide (y43.n=(0:Int)))))) (λq55=>jp (ι:=Bool) (λJ59=>br q55 (J59 (true)) (jp (ι:=Bool) (λJ62=>br (decide (y1.kind=(8:Int))) (J62 ((decide ((0:Int) < q11.2.1)))) (J62 (false))) (λq61=>jp (ι:=Bool) (λJ65=>br q61 (cal (zmG q11.2.2.1 y53.1) λy67=>J65 ((!y67))) (J65 (false))) (λq64=>J59 (q64))))) (λq58=>br q58 (some (false,y53.2.2)) (J42 (q11.1,y53.1,y53.2.2)))))) (λq41=>ck ((q11.2.1 + (1:Int))) <| L12 (q41.1,(q11.2.1 + (1:Int)),q41.2.1,q41.2.2))) (some (true,q11.2.2.2))) (((y9.length:Int),(0:Int),Tag.zero,a_c)))))

def zeT (a_v:Val):Option (Bool) :=
 jp (ι:=Bool) (λJ2=>br (decide (a_v.kind=(0:Int))) (cal (zcW a_v (0:Int)) λy4=>J2 (y4)) (J2 (false))) (λq1=>some (q1))

def zij (a_a:(List UInt8)) (a_b:(List UInt8)):Option (Bool) :=
 some ((decide ((Str.mk a_a)=(Str.mk a_b))))

def zfK (a_a:Raw) (a_b:Raw):Option (Bool) :=
 jp (ι:=Bool) (λJ2=>br (decide (a_a.n=a_b.n)) (cal (zij a_a.b a_b.b) λy4=>J2 (y4)) (J2 (false))) (λq1=>some (q1))

def zaZ (a_s1:(List Raw)) (a_s2:(List Raw)):Option (Bool) :=
 br (!decide ((a_s1.length:Int)=(a_s2.length:Int))) (some (false)) (lp (ι:=Int) (λL2 q1=>br (decide (q1 < (a_s1.length:Int))) (cal (getI a_s1 q1) λy9=>cal (getI a_s2 q1) λy11=>cal (zfK y9 y11) λy13=>br (!y13) (some (false)) (ck ((q1 + (1:Int))) <| L2 ((q1 + (1:Int))))) (some (true))) (((0:Int))))

def zgm (zeI:Val->Val->Option (Bool)) (zK:(List Val)->(List Val)->Option (Bool)) (a_a:Val) (a_b:Val):Option (Bool) :=
 jp (ι:=Bool) (λJ2=>br (decide (a_a.kind=a_b.kind)) (J2 ((decide (a_a.n=a_b.n)))) (J2 (false))) (λq1=>jp (ι:=Bool) (λJ5=>br q1 (cal (zij a_a.b a_b.b) λy7=>J5 (y7)) (J5 (false))) (λq4=>jp (ι:=Bool) (λJ9=>br q4 (cal (zK a_a.l a_b.l) λy11=>J9 (y11)) (J9 (false))) (λq8=>jp (ι:=Bool) (λJ13=>br q8 (J13 ((decide (a_a.rule=a_b.rule)))) (J13 (false))) (λq12=>jp (ι:=Bool) (λJ16=>br q12 (cal (zaZ a_a.more a_b.more) λy18=>J16 (y18)) (J16 (false))) (λq15=>some (q15))))))
def zar (zeI:Val->Val->Option (Bool)) (zK:(List Val)->(List Val)->Option (Bool)) (a_s1:(List Val)) (a_s2:(List Val)):Option (Bool) :=
 br (!decide ((a_s1.length:Int)=(a_s2.length:Int))) (some (false)) (lp (ι:=Int) (λL2 q1=>br (decide (q1 < (a_s1.length:Int))) (cal (getI a_s1 q1) λy9=>cal (getI a_s2 q1) λy11=>cal (zeI y9 y11) λy13=>br (!y13) (some (false)) (ck ((q1 + (1:Int))) <| L2 ((q1 + (1:Int))))) (some (true))) (((0:Int))))
def zh5:Nat->(Val->Val->Option (Bool)) × ((List Val)->(List Val)->Option (Bool))
 | 0=>(λ_ _=>none,λ_ _=>none)
 | n + 1=>let p:=zh5 n;(zgm p.1 p.2,zar p.1 p.2)
def zfV (n:Nat):Val->Val->Option (Bool):=(zh5 n).1
def za9 (n:Nat):(List Val)->(List Val)->Option (Bool):=(zh5 n).2

def zcm (a_c:GChk) (a_i:Int) (a_v:Val):Option (Bool × GChk) :=
 cal (getI a_c.tabled.t.types a_i) λy1=>cal (zgc a_c.tabled.t a_i) λy3=>lp (ι:=Int) (λL5 q4=>br (decide (q4 < (y3.length:Int))) (jp (ι:=Unit) (λJ49=>cal (getI y3 q4) λy50=>cal (getI y50 (0:Int)) λy51=>cal (getI y1.fields y51) λy52=>br (decide (y52.group=(0:Int))) (J49 ()) (lp (ι:=Bool × Bool × Int) (λL54 q53=>br (decide (q53.2.2 < (y50.length:Int))) (cal (getI y50 q53.2.2) λy67=>cal (getI a_v.l y67) λy68=>cal (zeT y68) λy69=>jp (ι:=Bool) (λJ71=>br q53.1 (J71 (true)) (J71 ((!y69)))) (λq70=>jp (ι:=Bool) (λJ74=>br q53.2.1 (J74 (true)) (jp (ι:=Bool) (λJ77=>br (!(!y69)) (cal (getI y1.fields y67) λy79=>J77 ((!y79.optional))) (J77 (false))) (λq76=>jp (ι:=Bool) (λJ81=>br q76 (cal (getI y1.fields y67) λy83=>J81 ((!y83.has))) (J81 (false))) (λq80=>J74 (q80))))) (λq73=>ck ((q53.2.2 + (1:Int))) <| L54 (q70,q73,(q53.2.2 + (1:Int)))))) (jp (ι:=Bool) (λJ86=>br q53.1 (J86 (q53.2.1)) (J86 (false))) (λq85=>br q85 (some (false,a_c)) (J49 ())))) ((false,false,(0:Int))))) (λq48=>ck ((q4 + (1:Int))) <| L5 ((q4 + (1:Int))))) (some (true,a_c))) (((0:Int)))

def zbM (zO:Val->GChk->GTyp->Int->Option (Bool × GChk)) (zU:GChk->Int->Val->Int->Option (Bool × GChk)) (zad:GChk->GTyp->Val->Int->Option (Bool × GChk)) (zo:(List Val)->GChk->GTyp->Int->Option (Bool × GChk)) (zq:(List Val)->GChk->GTyp->Int->Option (Int × GChk)) (zT:GChk->Int->Val->Int->Option (Bool × GChk)) (a_w_:Val) (a_a1:GChk) (a_a2:GTyp) (a_a3:Int):Option (Bool × GChk) :=
 ck ((a_a3 + (1:Int))) <| cal (zU a_a1 a_a2.of a_w_ (a_a3 + (1:Int))) λy2=>some ((!y2.1),y2.2)
def zby (zO:Val->GChk->GTyp->Int->Option (Bool × GChk)) (zU:GChk->Int->Val->Int->Option (Bool × GChk)) (zad:GChk->GTyp->Val->Int->Option (Bool × GChk)) (zo:(List Val)->GChk->GTyp->Int->Option (Bool × GChk)) (zq:(List Val)->GChk->GTyp->Int->Option (Int × GChk)) (zT:GChk->Int->Val->Int->Option (Bool × GChk)) (a_c:GChk) (a_i:Int) (a_v:Val) (zJ:Int):Option (Bool × GChk) :=
 jp (ι:=Bool) (λJ2=>br (decide (a_i < (0:Int))) (J2 (true)) (J2 ((decide ((a_c.tabled.t.types.length:Int) <= a_i))))) (λq1=>jp (ι:=Bool) (λJ5=>br q1 (J5 (true)) (J5 ((decide ((17:Int) < zJ))))) (λq4=>br q4 (some (false,a_c)) (cal (getI a_c.tabled.t.types a_i) λy7=>br (decide (a_v.kind=(12:Int))) (cal (zd9 a_c a_i a_v) λy9=>some (y9.1,y9.2)) (br (!decide (a_v.kind=y7.kind)) (some (false,a_c)) (br (decide (y7.kind=(1:Int))) (cal (zcW a_v (1:Int)) λy10=>jp (ι:=Bool) (λJ12=>br y10 (jp (ι:=Bool) (λJ15=>br (decide (a_v.n=(0:Int))) (J15 (true)) (J15 ((decide (a_v.n=(1:Int)))))) (λq14=>J12 (q14))) (J12 (false))) (λq11=>some (q11,a_c))) (br (decide (y7.kind=(2:Int))) (cal (zcW a_v (1:Int)) λy17=>jp (ι:=Bool) (λJ19=>br y17 (jp (ι:=Bool) (λJ22=>br y7.con.more (J22 (true)) (cal (zen y7.con a_v.n) λy24=>J22 (y24))) (λq21=>J19 (q21))) (J19 (false))) (λq18=>some (q18,a_c))) (br (decide (y7.kind=(3:Int))) (cal (zcW a_v (1:Int)) λy25=>jp (ι:=Bool) (λJ27=>br y25 (cal (zd1 y7 a_v.n) λy29=>J27 ((decide ((0:Int) <= y29)))) (J27 (false))) (λq26=>some (q26,a_c))) (br (decide (y7.kind=(4:Int))) (cal (zcW a_v (0:Int)) λy30=>some (y30,a_c)) (jp (ι:=Bool) (λJ32=>br (decide (y7.kind=(5:Int))) (J32 ((decide (y7.kind=(5:Int))))) (J32 ((decide (y7.kind=(6:Int)))))) (λq31=>br q31 (cal (zdv a_c y7 a_v) λy33=>some (y33.1,y33.2)) (br (decide (y7.kind=(10:Int))) (cal (zad a_c y7 a_v zJ) λy34=>some (y34.1,y34.2)) (br (decide (y7.kind=(9:Int))) (cal (zcW a_v (5:Int)) λy35=>jp (ι:=Bool) (λJ37=>br y35 (J37 ((decide ((0:Int) <= a_v.n)))) (J37 (false))) (λq36=>jp (ι:=Bool) (λJ40=>br q36 (J40 ((decide (a_v.n < (y7.fields.length:Int))))) (J40 (false))) (λq39=>jp (ι:=Bool) (λJ43=>br q39 (J43 ((decide ((a_v.l.length:Int)=(1:Int))))) (J43 (false))) (λq42=>jp (ι:=Bool × GChk) (λJ46=>br q42 (cal (getI y7.fields a_v.n) λy48=>cal (getI a_v.l (0:Int)) λy49=>ck ((zJ + (1:Int))) <| cal (zU a_c y48.ty y49 (zJ + (1:Int))) λy51=>J46 (y51.1,y51.2)) (J46 (false,a_c))) (λq45=>some (q45.1,q45.2)))))) (jp (ι:=Bool) (λJ53=>br (decide (y7.kind=(7:Int))) (J53 ((decide (y7.kind=(7:Int))))) (J53 ((decide (y7.kind=(8:Int)))))) (λq52=>br q52 (cal (zT a_c a_i a_v zJ) λy54=>some (y54.1,y54.2)) (some (false,a_c))))))))))))))))
def zcn (zO:Val->GChk->GTyp->Int->Option (Bool × GChk)) (zU:GChk->Int->Val->Int->Option (Bool × GChk)) (zad:GChk->GTyp->Val->Int->Option (Bool × GChk)) (zo:(List Val)->GChk->GTyp->Int->Option (Bool × GChk)) (zq:(List Val)->GChk->GTyp->Int->Option (Int × GChk)) (zT:GChk->Int->Val->Int->Option (Bool × GChk)) (a_c:GChk) (a_x:GTyp) (a_v:Val) (zJ:Int):Option (Bool × GChk) :=
 cal (zcW a_v (4:Int)) λy1=>jp (ι:=Bool) (λJ3=>br y1 (jp (ι:=Bool) (λJ6=>br a_x.con.more (J6 (true)) (cal (zen a_x.con (a_v.l.length:Int)) λy8=>J6 (y8))) (λq5=>J3 (q5))) (J3 (false))) (λq2=>jp (ι:=Bool × GChk) (λJ10=>br q2 (cal (zo a_v.l a_c a_x zJ) λy12=>J10 ((!y12.1),y12.2)) (J10 (false,a_c))) (λq9=>some (q9.1,q9.2)))
def zaw (zO:Val->GChk->GTyp->Int->Option (Bool × GChk)) (zU:GChk->Int->Val->Int->Option (Bool × GChk)) (zad:GChk->GTyp->Val->Int->Option (Bool × GChk)) (zo:(List Val)->GChk->GTyp->Int->Option (Bool × GChk)) (zq:(List Val)->GChk->GTyp->Int->Option (Int × GChk)) (zT:GChk->Int->Val->Int->Option (Bool × GChk)) (a_s:(List Val)) (zeG:GChk) (zfG:GTyp) (zjW:Int):Option (Bool × GChk) :=
 cal (zq a_s zeG zfG zjW) λy1=>some ((decide ((0:Int) <= y1.1)),y1.2)
def zaA (zO:Val->GChk->GTyp->Int->Option (Bool × GChk)) (zU:GChk->Int->Val->Int->Option (Bool × GChk)) (zad:GChk->GTyp->Val->Int->Option (Bool × GChk)) (zo:(List Val)->GChk->GTyp->Int->Option (Bool × GChk)) (zq:(List Val)->GChk->GTyp->Int->Option (Int × GChk)) (zT:GChk->Int->Val->Int->Option (Bool × GChk)) (a_s:(List Val)) (zeG:GChk) (zfG:GTyp) (zjW:Int):Option (Int × GChk) :=
 lp (ι:=Int × GChk) (λL2 q1=>br (decide (q1.1 < (a_s.length:Int))) (cal (getI a_s q1.1) λy6=>cal (zO y6 q1.2 zfG zjW) λy7=>br y7.1 (some (q1.1,y7.2)) (ck ((q1.1 + (1:Int))) <| L2 ((q1.1 + (1:Int)),y7.2))) (some ((-1:Int),q1.2))) (((0:Int),zeG))
def zb5 (zO:Val->GChk->GTyp->Int->Option (Bool × GChk)) (zU:GChk->Int->Val->Int->Option (Bool × GChk)) (zad:GChk->GTyp->Val->Int->Option (Bool × GChk)) (zo:(List Val)->GChk->GTyp->Int->Option (Bool × GChk)) (zq:(List Val)->GChk->GTyp->Int->Option (Int × GChk)) (zT:GChk->Int->Val->Int->Option (Bool × GChk)) (a_c:GChk) (a_i:Int) (a_v:Val) (zJ:Int):Option (Bool × GChk) :=
 cal (getI a_c.tabled.t.types a_i) λy1=>cal (zcW a_v (12:Int)) λy3=>jp (ι:=Bool) (λJ5=>br (!y3) (J5 (true)) (J5 ((!decide ((a_v.l.length:Int)=(y1.fields.length:Int)))))) (λq4=>jp (ι:=Bool × GChk) (λJ8=>br q4 (J8 (true,a_c)) (cal (zdl a_c a_i a_v) λy10=>J8 ((!y10.1),y10.2))) (λq7=>br q7.1 (some (false,q7.2)) (lp (ι:=Int × GChk) (λL12 q11=>br (decide (q11.1 < (y1.fields.length:Int))) (jp (ι:=GChk) (λJ36=>cal (getI y1.fields q11.1) λy37=>cal (getI a_v.l q11.1) λy39=>br (decide (y39.kind=(0:Int))) (cal (zeT y39) λy41=>jp (ι:=Bool) (λJ43=>br (!y41) (J43 (true)) (cal (zgd y1 q11.1) λy45=>J43 ((!y45)))) (λq42=>br q42 (some (false,q11.2)) (J36 (q11.2)))) (ck ((zJ + (1:Int))) <| cal (zU q11.2 y37.ty y39 (zJ + (1:Int))) λy47=>jp (ι:=Bool) (λJ49=>br (!y47.1) (J49 (true)) (jp (ι:=Bool) (λJ52=>br y37.has (cal (zfV fuel y39 y37.dflt) λy54=>J52 (y54)) (J52 (false))) (λq51=>J49 (q51)))) (λq48=>br q48 (some (false,y47.2)) (J36 (y47.2))))) (λq35=>ck ((q11.1 + (1:Int))) <| L12 ((q11.1 + (1:Int)),q35))) (cal (zcm q11.2 a_i a_v) λy56=>some (y56.1,y56.2))) (((0:Int),q7.2)))))
def zbq:Nat->(Val->GChk->GTyp->Int->Option (Bool × GChk)) × (GChk->Int->Val->Int->Option (Bool × GChk)) × (GChk->GTyp->Val->Int->Option (Bool × GChk)) × ((List Val)->GChk->GTyp->Int->Option (Bool × GChk)) × ((List Val)->GChk->GTyp->Int->Option (Int × GChk)) × (GChk->Int->Val->Int->Option (Bool × GChk))
 | 0=>(λ_ _ _ _=>none,λ_ _ _ _=>none,λ_ _ _ _=>none,λ_ _ _ _=>none,λ_ _ _ _=>none,λ_ _ _ _=>none)
 | n + 1=>let p:=zbq n;(zbM p.1 p.2.1 p.2.2.1 p.2.2.2.1 p.2.2.2.2.1 p.2.2.2.2.2,zby p.1 p.2.1 p.2.2.1 p.2.2.2.1 p.2.2.2.2.1 p.2.2.2.2.2,zcn p.1 p.2.1 p.2.2.1 p.2.2.2.1 p.2.2.2.2.1 p.2.2.2.2.2,zaw p.1 p.2.1 p.2.2.1 p.2.2.2.1 p.2.2.2.2.1 p.2.2.2.2.2,zaA p.1 p.2.1 p.2.2.1 p.2.2.2.1 p.2.2.2.2.1 p.2.2.2.2.2,zb5 p.1 p.2.1 p.2.2.1 p.2.2.2.1 p.2.2.2.2.1 p.2.2.2.2.2)
def zaF (n:Nat):Val->GChk->GTyp->Int->Option (Bool × GChk):=(zbq n).1
def zav (n:Nat):GChk->Int->Val->Int->Option (Bool × GChk):=(zbq n).2.1
def zaY (n:Nat):GChk->GTyp->Val->Int->Option (Bool × GChk):=(zbq n).2.2.1
def zG (n:Nat):(List Val)->GChk->GTyp->Int->Option (Bool × GChk):=(zbq n).2.2.2.1
def zI (n:Nat):(List Val)->GChk->GTyp->Int->Option (Int × GChk):=(zbq n).2.2.2.2.1
def zaM (n:Nat):GChk->Int->Val->Int->Option (Bool × GChk):=(zbq n).2.2.2.2.2

def zfM (zhx:Val->Option (Int)) (a_v:Val):Option (Int) :=
 lp (ι:=Int × Int) (λL2 q1=>br (decide (q1.2 < (a_v.l.length:Int))) (cal (getI a_v.l q1.2) λy8=>cal (zhx y8) λy10=>ck ((q1.1 + y10)) <| ck ((q1.2 + (1:Int))) <| L2 ((q1.1 + y10),(q1.2 + (1:Int)))) (some (q1.1))) (((1:Int),(0:Int)))
def zjH:Nat->(Val->Option (Int))
 | 0=>(λ_=>none)
 | n + 1=>let p:=zjH n;(zfM p)
def zhg (n:Nat):Val->Option (Int):=(zjH n)

def zeR (a_t:GTab) (a_i:Int) (a_v:Val):Option (Bool) :=
 cal (zav fuel (GChk.mk (GTbd.mk a_t) false) a_i a_v (1:Int)) λy2=>jp (ι:=Bool) (λJ4=>br y2.1 (cal (zhg fuel a_v) λy6=>J4 ((decide (y6 <= (5000:Int))))) (J4 (false))) (λq3=>some (q3))

def zeX (zbh:Val->Option (Bool)) (zca:Val->Option (Bool)) (zt:(List Val)->Option (Bool)) (zz:(List Val)->Option (Int)) (a_w_:Val):Option (Bool) :=
 cal (zca a_w_) λy1=>some ((!y1))
def zgt (zbh:Val->Option (Bool)) (zca:Val->Option (Bool)) (zt:(List Val)->Option (Bool)) (zz:(List Val)->Option (Int)) (a_v:Val):Option (Bool) :=
 jp (ι:=Bool) (λJ2=>br (!decide (a_v.kind=(12:Int))) (J2 ((decide ((a_v.more.length:Int)=(0:Int))))) (J2 (false))) (λq1=>jp (ι:=Bool) (λJ5=>br q1 (cal (zt a_v.l) λy7=>J5 ((!y7))) (J5 (false))) (λq4=>some (q4)))
def zaT (zbh:Val->Option (Bool)) (zca:Val->Option (Bool)) (zt:(List Val)->Option (Bool)) (zz:(List Val)->Option (Int)) (a_s:(List Val)):Option (Bool) :=
 cal (zz a_s) λy1=>some ((decide ((0:Int) <= y1)))
def za4 (zbh:Val->Option (Bool)) (zca:Val->Option (Bool)) (zt:(List Val)->Option (Bool)) (zz:(List Val)->Option (Int)) (a_s:(List Val)):Option (Int) :=
 lp (ι:=Int) (λL2 q1=>br (decide (q1 < (a_s.length:Int))) (cal (getI a_s q1) λy6=>cal (zbh y6) λy7=>br y7 (some (q1)) (ck ((q1 + (1:Int))) <| L2 ((q1 + (1:Int))))) (some ((-1:Int)))) (((0:Int)))
def zel:Nat->(Val->Option (Bool)) × (Val->Option (Bool)) × ((List Val)->Option (Bool)) × ((List Val)->Option (Int))
 | 0=>(λ_=>none,λ_=>none,λ_=>none,λ_=>none)
 | n + 1=>let p:=zel n;(zeX p.1 p.2.1 p.2.2.1 p.2.2.2,zgt p.1 p.2.1 p.2.2.1 p.2.2.2,zaT p.1 p.2.1 p.2.2.1 p.2.2.2,za4 p.1 p.2.1 p.2.2.1 p.2.2.2)
def zfO (n:Nat):Val->Option (Bool):=(zel n).1
def zfl (n:Nat):Val->Option (Bool):=(zel n).2.1
def zaH (n:Nat):(List Val)->Option (Bool):=(zel n).2.2.1
def zba (n:Nat):(List Val)->Option (Int):=(zel n).2.2.2

end Go.Proofs.Q


namespace Go.Sy
theorem Opn.u8 {P:Program} {T:TypeId} (h:P.underlying T=some (.int .u8)):Opn P T UInt8 where
 op:=λht _=>by
  obtain ⟨n,rfl,_,hwf⟩:=DataW.trod_int h ht
  unfold Lit.wf at hwf
  rw [zBa] at hwf
  have h1:(0:Int) <= n:=zOT hwf.1
  have h2:n <= 255:=zOT hwf.2
  refine ⟨UInt8.ofNat n.toNat,?_⟩
  show [Value.int .u8 n]=[Value.int .u8 (((UInt8.ofNat n.toNat).toNat:Nat):Int)]
  rw [UInt8.toNat_ofNat',Nat.mod_eq_of_lt (by omega)]
  have:((n.toNat:Nat):Int)=n:=by omega
  rw [this]
 shape:=λ{_ _ _ v} hv=>by simp only [Value.okWide,h,Cell.okWide] at hv;cases v <;> simp_all [Cell.ok,Value.isAgg',Rep.agg]
structure OpB (P:Program) (T:TypeId) (α:Type) [Rep α] (N:Nat):Prop where
 op:∀ {H:Type} {enc:TypeId × Value->H} {W:World} {base:Nat} {spare:Nat->Bool} {held:Bool} {fuel:Nat} {cs:List Value} {x:DataW H × List MemPlace},
  fuel < N->DataW.trod enc P W base spare held fuel T cs=some x->(∀ k ∈ x.1.weights P T,k <= reachBytes)->∃ y:α,Rep.rd (snap W) cs y
theorem OpB.of {P:Program} {T:TypeId} {α:Type} [Rep α] {N:Nat} (h:Opn P T α):OpB P T α N:=⟨λ_ h1 h2=>h.op h1 h2⟩
theorem OpB.list {P:Program} {T e:TypeId} {α:Type} [Rep α] {N:Nat} (hu:P.underlying T=some (.slice e)) (ho:OpB P e α N) (hn:P.cellsOf e=Rep.n α) (hn0:Nat.blt 0 (Rep.n α)=true) (hb:Nat.blt 0 (P.bytesOf e)=true):OpB P T (List α) (N + 1) where
 op := λ{H enc W base spare held fuel cs x} hN ht hw=>by
  have hn0':0 < Rep.n α:=by simpa using hn0
  have hb':0 < P.bytesOf e:=by simpa using hb
  rcases DataW.trod_slice hu ht with ⟨rfl,_⟩ | ⟨a,len,cap,elems,rest,n,hfu,rfl,rfl,_,hlc,hcm,hel,hall,_,_⟩
  ·exact ⟨[],_,rfl,none,0,rfl,zNl _,zNz _,.inl rfl⟩
  have hwl:(elems.length + rest.length) * P.bytesOf e <= reachBytes:=hw _ (by simp [DataW.weights,hu])
  have hlenb:len <= maxList:=by
   have h1:(elems.length + rest.length) * 1 <= (elems.length + rest.length) * P.bytesOf e:=Nat.mul_le_mul_left _ hb'
   unfold reachBytes at hwl;unfold maxList;omega
  have each:∀ i,i < len->∃ ci,W.cells? base (a.add (i * Rep.n α)) (Rep.n α)=some ci/\∃ y:α,Rep.rd (snap W) ci y:=λi hi=>by
   have h1:=hall i hi
   rw [hn] at h1
   have hlt:i < elems.length:=by omega
   rw [List.getElem?_eq_getElem hlt,Option.bind_eq_some_iff] at h1
   obtain ⟨ci,h2,h3⟩:=h1
   refine ⟨ci,h2,ho.op (show n < N by omega) h3 λk hk=>hw k ?_⟩
   simp only [DataW.weights,hu]
   refine zMm _ (List.mem_append_left _ ?_)
   have:∀ (l:List (DataW H)) d,d ∈ l->∀ k ∈ d.weights P e,k ∈ DataW.weightsAll P e l:=by
    intro l
    induction l with
    | nil=>intro d hd;cases hd
    | cons b l ih =>
     intro d hd k hk
     simp only [DataW.weightsAll]
     rcases List.mem_cons.1 hd with h | h
     ·subst h;exact List.mem_append_left _ hk
     ·exact List.mem_append_right _ (ih d h k hk)
   exact this _ elems[i].1 (List.mem_map.2 ⟨_,List.getElem_mem hlt,rfl⟩) k hk
  by_cases h0:len=0
  ·subst h0
   exact ⟨[],_,rfl,some a,cap,rfl,zNz _,zNz _,.inl rfl⟩
  -- the block
  obtain ⟨c0,hc0,_⟩:=each 0 (by omega)
  have hadd0:a.add (0 * Rep.n α)=a:=by rw [Nat.zero_mul];rfl
  rw [hadd0] at hc0
  obtain ⟨_,hl0,hc0'⟩:=World.cells?_some hc0
  have hcell0:∃ v,W.cell? a=some v:=by
   have:=hc0' 0 hn0'
   have h2:∃ v,c0[0]?=some v:=⟨c0[0]'(by omega),List.getElem?_eq_getElem (by omega)⟩
   obtain ⟨v,hv⟩:=h2
   exact ⟨v,by rw [show a.add 0=a from rfl] at this;rw [this,hv]⟩
  obtain ⟨v0,hv0⟩:=hcell0
  obtain ⟨hspot,blk,hblk,_⟩:=ziW hv0
  have hcellk:∀ i j,i < len->j < Rep.n α->∃ v,blk[a.off + (i * Rep.n α + j)]?=some v/\∀ ci,W.cells? base (a.add (i * Rep.n α)) (Rep.n α)=some ci->ci[j]?=some v:=λi j hi hj=>by
   obtain ⟨ci,h1,_⟩:=each i hi
   obtain ⟨_,hl,hc⟩:=World.cells?_some h1
   have h2:=hc j hj
   have h3:ci[j]?=some (ci[j]'(by omega)):=List.getElem?_eq_getElem (by omega)
   rw [h3] at h2
   obtain ⟨_,blk',hb1,hb2⟩:=ziW h2
   have hbb:((a.add (i * Rep.n α)).add j).block=a.block/\((a.add (i * Rep.n α)).add j).off=a.off + (i * Rep.n α + j) :=
    ⟨(zkm _ _).1.trans (zkm _ _).1,by rw [(zkm _ _).2,(zkm _ _).2];omega⟩
   rw [hbb.1] at hb1
   rw [hblk] at hb1;cases hb1
   rw [hbb.2] at hb2
   exact ⟨_,hb2,λci' h'=>by rw [h1] at h';cases h';exact h3⟩
  have hbl:a.off + len * Rep.n α <= blk.length:=by
   obtain ⟨v,hv,_⟩:=hcellk (len - 1) (Rep.n α - 1) (by omega) (by omega)
   have:=(List.getElem?_eq_some_iff.1 hv).1
   have e:(len - 1) * Rep.n α + (Rep.n α - 1) + 1=len * Rep.n α:=by
    obtain ⟨m,rfl⟩:∃ m,len=m + 1:=⟨len - 1,by omega⟩
    rw [Nat.add_sub_cancel,Nat.add_mul];omega
   omega
  have hcs:∀ i,i < len->W.cells? base (a.add (i * Rep.n α)) (Rep.n α)=some ((blk.drop (a.off + i * Rep.n α)).take (Rep.n α)):=λi hi=>by
   obtain ⟨ci,h1,_⟩:=each i hi
   rw [h1]
   obtain ⟨_,hl,_⟩:=World.cells?_some h1
   congr 1
   apply List.ext_getElem?
   intro j
   by_cases hj:j < Rep.n α
   ·obtain ⟨v,hv,h2⟩:=hcellk i j hi hj
    rw [h2 ci h1,List.getElem?_take,if_pos hj,List.getElem?_drop,<- hv,Nat.add_assoc]
   ·rw [List.getElem?_eq_none (by omega),List.getElem?_eq_none (by rw [zLt];omega)]
  obtain ⟨ys,hy1,hy2⟩:=zjS (r:=Rep.rd (snap W)) ((List.range len).map λi=>(blk.drop (a.off + i * Rep.n α)).take (Rep.n α)) λc hc=>by
   obtain ⟨i,hi,rfl⟩:=List.mem_map.1 hc
   have hi':=List.mem_range.1 hi
   obtain ⟨ci,h1,h2⟩:=each i hi'
   rw [hcs i hi'] at h1;cases h1
   exact h2
  have hyl:ys.length=len:=by simpa using hy1
  have hflat:∀ m,m <= len->((List.range m).map λi=>(blk.drop (a.off + i * Rep.n α)).take (Rep.n α)).flatten=(blk.drop a.off).take (m * Rep.n α):=by
   intro m
   induction m with
   | zero=>simp
   | succ m ih =>
    intro hm
    rw [List.range_succ,List.map_append,List.flatten_append,ih (by omega),Nat.add_mul,Nat.one_mul,List.take_add,List.drop_drop]
    simp
  rw [hflat len (zNl _)] at hy2
  subst hyl
  refine ⟨ys,_,rfl,some a,cap,rfl,hlc,hlenb,.inr ⟨a,(blk.drop a.off).take (ys.length * Rep.n α),rfl,⟨hspot,blk,hblk,λj u hj=>?_⟩,?_,hy2⟩⟩
  ·rw [List.getElem?_take] at hj
   split at hj
   ·rw [List.getElem?_drop] at hj;exact hj
   ·cases hj
  ·rw [zLt,zLd];omega

/-! ### A law's statement -/
/-- The parts of a struct, one behind the other, in so many steps. -/
inductive OpBs (P:Program) (N:Nat):List Field->Nat->(σ:Type)->[Rep σ]->Prop
 | one {α:Type} [Rep α] {f:Field}:OpB P f.type α N->P.cellsOf f.type=Rep.n α->OpBs P N [f] f.offset α
 | cons {α β:Type} [Rep α] [Rep β] {f:Field} {fs:List Field}:OpB P f.type α N->P.cellsOf f.type=Rep.n α->OpBs P N fs (f.offset + Rep.n α) β->OpBs P N (f :: fs) f.offset (α × β)
theorem OpBs.op {P:Program} {N:Nat} {fs:List Field} {off:Nat} {σ:Type} [I:Rep σ] (h:OpBs P N fs off σ) {H:Type} {enc:TypeId × Value->H} {W:World} {base:Nat} {spare:Nat->Bool} {held:Bool} {fuel:Nat} {cs:List Value} (hN:fuel < N)
    (hf:∀ f ∈ fs,∃ x,DataW.trod enc P W base spare held fuel f.type ((cs.drop f.offset).take (P.cellsOf f.type))=some x/\∀ k ∈ x.1.weights P f.type,k <= reachBytes) :
    ∃ y:σ,Rep.rd (snap W) ((cs.drop off).take (Rep.n σ)) y:=by
  induction h with
  | one ho hn =>
    obtain ⟨x,h1,h2⟩:=hf _ (zMs ..)
    rw [hn] at h1
    exact ho.op hN h1 h2
  | @cons α β _ _ f fs ho hn _ ih =>
    obtain ⟨x,h1,h2⟩:=hf _ (zMs ..)
    rw [hn] at h1
    obtain ⟨y1,k1⟩:=ho.op hN h1 h2
    obtain ⟨y2,k2⟩:=ih λg hg=>hf g (zMm _ hg)
    refine ⟨(y1,y2),_,_,?_,k1,k2⟩
    show (cs.drop f.offset).take (Rep.n α + Rep.n β)=_
    rw [List.take_add,List.drop_drop]
theorem Opn.val {P:Program} {T:TypeId} {fs:Array Field} (hu:P.underlying T=some (.struct fs)) (hn:P.cellsOf T=6)
    (hof:∀ N,OpB P T Val N->OpBs P (N + 1) fs.toList 0 (Int × Int × List UInt8 × List Val × Int × List Raw)):Opn P T Val:=by
  have key:∀ N,OpB P T Val N:=by
    intro N
    induction N with
    | zero=>exact ⟨λh=>absurd h (Nat.not_lt_zero _)⟩
    | succ N ih =>
      refine ⟨λ{H enc W base spare held fuel cs x} hN ht hw=>?_⟩
      obtain ⟨xs,n,hfu,hx,hl,hxl,hx2⟩:=DataW.trod_struct hu ht
      have:=(hof N ih).op (enc:=enc) (W:=W) (base:=base) (spare:=spare) (held:=held) (fuel:=n) (cs:=cs) (by omega) λf hf=>by
        obtain ⟨i,hi⟩:=List.mem_iff_getElem?.1 hf
        have hi':fs[i]?=some f:=by simpa using hi
        have h1:=hx2 i f hi'
        have hlt:i < xs.length:=by rw [hxl];exact (Array.getElem?_eq_some_iff.1 hi').1
        refine ⟨xs[i],by rw [h1,List.getElem?_eq_getElem hlt],λk hk=>hw k ?_⟩
        rw [hx,zmY hu]
        exact DataW.weights_mem_each (j:=i) (t:=f.type) (d:=xs[i].1) (by rw [List.getElem?_map,hi];rfl) (by rw [List.getElem?_map,List.getElem?_eq_getElem hlt];rfl) k hk
      obtain ⟨⟨k,n',b,l,r,m⟩,hy⟩:=this
      refine ⟨Val.mk k n' b l r m,Val.rd_to.2 ?_⟩
      rw [hn] at hl
      have e:(cs.drop 0).take (Rep.n (Int × Int × List UInt8 × List Val × Int × List Raw))=cs:=by
        rw [List.drop_zero]
        exact zTl (by rw [hl];exact zNl _)
      rw [e] at hy
      exact hy
  exact ⟨λ{H enc W base spare held fuel cs x} ht hw=>(key (fuel + 1)).op (Nat.lt_succ_self _) ht hw,λ{_ _ _ v} hv=>by
    simp only [Value.okWide,hu] at hv
    obtain ⟨cs,rfl,_⟩:=hv
    rfl⟩
inductive FineM:Val->Prop
 | mk {v:Val}:v.b.length <= 281474976710656->v.l.length <= 281474976710656->v.more.length <= 281474976710656->(∀ r ∈ v.more,r.b.length <= 281474976710656)->(∀ w ∈ v.l,FineM w)->FineM v
theorem FineM.b {v:Val} (h:FineM v):v.b.length <= 281474976710656:=by cases h;assumption
theorem FineM.l {v:Val} (h:FineM v):v.l.length <= 281474976710656:=by cases h;assumption
theorem FineM.more {v:Val} (h:FineM v):v.more.length <= 281474976710656:=by cases h;assumption
theorem FineM.raw {v:Val} (h:FineM v):∀ r ∈ v.more,r.b.length <= 281474976710656:=by cases h;assumption
theorem FineM.kid {v:Val} (h:FineM v):∀ w ∈ v.l,FineM w:=by cases h;assumption
end Go.Sy


/- The models once more, reading their signs by the plain function: quicker to evaluate. No condition: general lemmas. -/
import Derived.Test.YthafpblconbjkaaGreatDoorPqC
set_option linter.unusedVariables false
set_option linter.unusedSimpArgs false
set_option maxRecDepth 4000
set_option maxHeartbeats 4000000
namespace Go.Proofs.Q
open Go.Sy
theorem Val.eta (v:Val):Val.mk v.kind v.n v.b v.l v.rule v.more=v:=by cases v;rfl
theorem Val.lt {v w:Val} (h:w ∈ v.l):SizeOf.sizeOf w < SizeOf.sizeOf v:=by
 obtain ⟨k,n,b,l,r,m⟩:=v
 have h1:=List.sizeOf_lt_of_mem (show w ∈ l from h)
 rw [Val.mk.sizeOf_spec]
 omega
theorem zlW {α β:Type} (l:List α) (f:α->β):(l.attach.map λw=>f w.1)=l.map f:=by simp
inductive zbV:Val->Prop
 | mk {v:Val}:v.b.length <= 68719476736->v.l.length <= 68719476736->v.more.length <= 68719476736->(∀ r ∈ v.more,r.b.length <= 68719476736)->(∀ w ∈ v.l,zbV w)->zbV v
theorem zbV.b {v:Val} (h:zbV v):v.b.length <= 68719476736:=by cases h;assumption
theorem zbV.l {v:Val} (h:zbV v):v.l.length <= 68719476736:=by cases h;assumption
theorem zbV.more {v:Val} (h:zbV v):v.more.length <= 68719476736:=by cases h;assumption
theorem zbV.raw {v:Val} (h:zbV v):∀ r ∈ v.more,r.b.length <= 68719476736:=by cases h;assumption
theorem zbV.kid {v:Val} (h:zbV v):∀ w ∈ v.l,zbV w:=by cases h;assumption
def cnt (v:Val):Nat:=1 + (v.l.attach.map λw=>cnt w.1).sum
termination_by SizeOf.sizeOf v
decreasing_by exact Val.lt w.2
theorem zhv (v:Val):cnt v=1 + (v.l.map cnt).sum:=by
 rw [cnt]
 congr 2
 exact zlW v.l cnt
def zbk (v:Val):Val:=if v.kind=12 then Val.mk 12 0 [] [] 0 [] else Val.mk v.kind v.n v.b (v.l.attach.map λw=>zbk w.1) 0 []
termination_by SizeOf.sizeOf v
decreasing_by exact Val.lt w.2
theorem zjw (v:Val):zbk v=if v.kind=12 then Val.mk 12 0 [] [] 0 [] else Val.mk v.kind v.n v.b (v.l.map zbk) 0 []:=by
 rw [zbk]
 split
 ·rfl
 ·congr 1
  exact zlW v.l zbk
def bare (v:Val):Bool:=!(decide (v.kind=12) || decide (0 < v.more.length)) && (v.l.attach.map λw=>bare w.1).all id
termination_by SizeOf.sizeOf v
decreasing_by exact Val.lt w.2
theorem zkc (v:Val):bare v=(!(decide (v.kind=12) || decide (0 < v.more.length)) && (v.l.map bare).all id):=by
 rw [bare]
 congr 2
 exact zlW v.l bare
theorem zey (v:Val):0 < cnt v:=by rw [zhv];omega
theorem znq {α:Type} {f:α->Nat}:∀ {l:List α} {x:α},x ∈ l->f x <= (l.map f).sum
 | [],x,h=>by cases h
 | y :: r,x,h=>by
  rw [List.map_cons,List.sum_cons]
  rcases List.mem_cons.1 h with e | e
  ·rw [e];omega
  ·have:=znq (f:=f) e
   omega
theorem ztF {α:Type} {f:α->Nat} (hf:∀ x,0 < f x):∀ {l:List α},l.length <= (l.map f).sum
 | []=>zNl _
 | y :: r=>by
  have:=ztF hf (l:=r)
  have:=hf y
  rw [List.map_cons,List.sum_cons,zLc]
  omega
theorem zc9 {v w:Val} (h:w ∈ v.l):cnt w + 1 <= cnt v:=by
 rw [zhv v]
 have:=znq (f:=cnt) h
 omega
theorem zxR (v:Val):v.l.length + 1 <= cnt v:=by
 rw [zhv v]
 have:=ztF zey (l:=v.l)
 omega
theorem zuu:∀ (n:Nat) (v:Val),cnt v <= n->cnt (zbk v) <= cnt v:=by
 intro n
 induction n with
 | zero=>intro v h;have:=zey v;omega
 | succ n ih =>
  intro v h
  rw [zjw v]
  split
  ·rw [zhv]
   exact zey v
  ·rw [zhv,zhv v]
   show 1 + ((v.l.map zbk).map cnt).sum <= _
   have:∀ l:List Val,(∀ w ∈ l,w ∈ v.l)->((l.map zbk).map cnt).sum <= (l.map cnt).sum:=by
    intro l
    induction l with
    | nil=>intro _;exact zNl _
    | cons x r ihr =>
     intro hl
     have h1:=zc9 (hl x zMs)
     have h2:=ih x (by omega)
     have h3:=ihr λw hw=>hl w (zMm _ hw)
     simp only [List.map_cons,List.sum_cons] at h3 ⊢
     omega
   have:=this v.l λ_ h=>h
   omega
theorem T.or' {β:Type} {R:β->Prop} {c d:Bool} {K:Bool->Option β} (hK:T R (K (c || d))):T R (Sy.jp (λJ=>Sy.br c (J true) (J d)) K):=by cases c <;> exact hK
theorem T.and' {β:Type} {R:β->Prop} {c d:Bool} {K:Bool->Option β} (hK:T R (K (c && d))):T R (Sy.jp (λJ=>Sy.br c (J d) (J false)) K):=by cases c <;> exact hK
theorem zpS {a b:Nat} (h:(!decide ((a:Int)=(b:Int)))=false):a=b:=by
 have:(a:Int)=b:=by simpa using h
 omega
theorem T.andI {β:Type} {R:β->Prop} {P Q:Prop} {c:Bool} {M:(Bool->Option β)->Option β} {K:Bool->Option β} (hc:c=true ↔ P) (hM:∀ J:Bool->Option β,(∀ b,(b=true ↔ Q)->T R (J b))->T R (M J)) (hK:∀ b:Bool,(b=true ↔ P/\Q)->T R (K b)) :
    T R (Sy.jp (λJ=>Sy.br c (M J) (J false)) K):=by
  cases c with
  | true=>exact hM K λb hb=>hK b (by rw [hb];exact ⟨λh=>⟨hc.1 rfl,h⟩,λh=>h.2⟩)
  | false=>exact hK false ⟨λh=>(by cases h),λh=>by have:=hc.2 h.1;cases this⟩
theorem zmA {α:Type} {E:α->α->Option Bool} {F:(Int->Option Bool)->Int->Option Bool} (a b:List α) (ha:a.length <= 68719476736) (hE:∀ x ∈ a,∀ y,T (λr=>r=true ↔ x=y) (E x y))
    (hF:∀ (L:Int->Option Bool) (q:Int),F L q=Sy.br (decide (q < (a.length:Int))) (Sy.cal (zq a q) λy=>Sy.cal (zq b q) λz=>Sy.cal (E y z) λw=>Sy.br (!w) (some false) (Sy.ck (q + 1) <| L (q + 1))) (some true)) :
    T (λr=>r=true ↔ a=b) (Sy.br (!decide ((a.length:Int)=(b.length:Int))) (some false) (Sy.lp F (0:Int))):=by
  refine T.br (λh=>T.some ⟨λh=>(by cases h),λe=>?_⟩) λh=>?_
  · subst e
    simp at h
  have hl:a.length=b.length:=zpS h
  refine T.lp (λ(q:Int)=>0 <= q/\q <= (a.length:Int)/\∀ i:Nat,(i:Int) < q->a[i]?=b[i]?) (λ(q:Int)=>((a.length:Int) - q).toNat) ⟨zIl _,by omega,λi h=>by omega⟩ (by omega) λL q ⟨h1,h2,h3⟩ hL=>?_
  rw [hF]
  refine T.br (λhb=>?_) λhb=>T.some ⟨λ_=>?_,λ_=>rfl⟩
  · have hb:=zOT hb
    refine T.get h1 hb λy hy=>T.get h1 (by omega) λz hz=>T.cal (hE y (List.mem_of_getElem? hy) z) λw _ hw=>T.br (λhe=>T.some ⟨λh=>(by cases h),λe=>?_⟩) λhe=>T.ck (by omega) (hL _ ⟨by omega,by omega,λi hi=>?_⟩ (by omega))
    · subst e
      rw [hy] at hz;cases hz
      rw [hw.2 rfl] at he;cases he
    · have he:y=z:=hw.1 (by simpa using he)
      rcases Int.lt_or_le (i:Int) q with h | h
      · exact h3 i h
      · have:i=q.toNat:=by omega
        rw [this,hy,hz,he]
  · have hb:=zOF hb
    refine List.ext_getElem? λi=>?_
    rcases Nat.lt_or_ge i a.length with h | h
    · exact h3 i (by omega)
    · rw [List.getElem?_eq_none h,List.getElem?_eq_none (by omega)]
theorem zwR (x y:Raw):T (λr=>r=true ↔ x=y) (zqV x y):=by
 unfold zqV
 refine T.andI (P:=x.n=y.n) (Q:=x.b=y.b) decide_eq_true_iff (λJ kk=>T.eq (y:=decide (Str.mk x.b=Str.mk y.b)) rfl (kk _ ?_)) λb hb=>T.some ?_
 ·rw [decide_eq_true_iff]
  exact ⟨λh=>congrArg Str.b h,λh=>by rw [h]⟩
 ·rw [hb]
  obtain ⟨a,b⟩:=x
  obtain ⟨c,d⟩:=y
  exact ⟨λ⟨h1,h2⟩=>(by cases h1;cases h2;rfl),λh=>by cases h;exact ⟨rfl,rfl⟩⟩
theorem zhp:∀ {k n:Nat} {f:Val},cnt f <= k->2 * k <= n->zbV f->∀ g,T (λr=>r=true ↔ f=g) (zg4 n f g):=by
 intro k
 induction k with
 | zero=>intro n f h;have:=zey f;omega
 | succ k ih =>
  intro n f hk hn hf g
  obtain ⟨n,rfl⟩:∃ n',n=n' + 2:=⟨n - 2,by omega⟩
  show T _ (zjp (zeQ (n + 1)) (zg4 (n + 1)) f g)
  unfold zjp
  refine T.andI (P:=f.kind=g.kind) (Q:=f.n=g.n) decide_eq_true_iff (λJ kk=>kk _ decide_eq_true_iff) λb1 h1=>?_
  refine T.andI (Q:=f.b=g.b) h1 (λJ kk=>T.eq (y:=decide (Str.mk f.b=Str.mk g.b)) rfl (kk _ ?_)) λb2 h2=>?_
  ·rw [decide_eq_true_iff]
   exact ⟨λh=>congrArg Str.b h,λh=>by rw [h]⟩
  refine T.andI (Q:=f.l=g.l) h2 (λJ kk=>T.cal (Q:=λr=>r=true ↔ f.l=g.l) ?_ λr _ hr=>kk _ hr) λb3 h3=>?_
  ·show T _ (zee (zeQ n) (zg4 n) f.l g.l)
   unfold zee
   exact zmA f.l g.l hf.l (λx hx y=>ih (by have:=zc9 hx;omega) (by omega) (hf.kid x hx) y) λL q=>rfl
  refine T.andI (Q:=f.rule=g.rule) h3 (λJ kk=>kk _ decide_eq_true_iff) λb4 h4=>?_
  refine T.andI (Q:=f.more=g.more) h4 (λJ kk=>T.cal (Q:=λr=>r=true ↔ f.more=g.more) ?_ λr _ hr=>kk _ hr) λb5 h5=>T.some ?_
  ·unfold zg0
   exact zmA f.more g.more hf.more (λx hx y=>zwR x y) λL q=>rfl
  ·rw [h5,<- Val.eta f,<- Val.eta g]
   constructor
   ·rintro ⟨⟨⟨⟨⟨e1,e2⟩,e3⟩,e4⟩,e5⟩,e6⟩
    simp only [Val.eta] at e1 e2 e3 e4 e5 e6
    rw [e1,e2,e3,e4,e5,e6]
   ·intro h
    rw [Val.eta,Val.eta] at h
    subst h
    exact ⟨⟨⟨⟨⟨rfl,rfl⟩,rfl⟩,rfl⟩,rfl⟩,rfl⟩
theorem zlR:∀ {n:Nat} {v:Val},cnt v <= n->cnt v <= 100000000->zbV v->zh8 n v=some (cnt v:Int):=by
 intro n
 induction n with
 | zero=>intro v h;have:=zey v;omega
 | succ n ih =>
  intro v hn h6 hf
  refine T.eqs ?_
  show T _ (zhR (zh8 n) v)
  unfold zhR
  have hfl:=hf.l
  have hc:=zhv v
  refine T.lp (ι:=Int × Int) (λq=>0 <= q.2/\q.2 <= (v.l.length:Int)/\q.1=1 + (((v.l.take q.2.toNat).map cnt).sum:Nat)) (λq=>((v.l.length:Int) - q.2).toNat) ⟨zIl _,by dsimp only;omega,by show (1:Int)=1 + ((([]:List Val).map cnt).sum:Nat);simp⟩ (by dsimp only;omega) λL q ⟨q1,q2,q3⟩ hL=>?_
  obtain ⟨c,i⟩:=q
  dsimp only at q1 q2 q3 hL ⊢
  refine T.br (λhb=>?_) λhb=>T.some ?_
  ·have hb:=zOT hb
   refine T.get q1 hb λy hy=>?_
   have hm:=List.mem_of_getElem? hy
   have hk:=zc9 hm
   have e:(i + 1).toNat=i.toNat + 1:=by omega
   have hs:((v.l.take (i.toNat + 1)).map cnt).sum=((v.l.take i.toNat).map cnt).sum + cnt y:=by
    rw [List.take_add_one,hy,List.map_append,List.sum_append]
    simp
   have hle:((v.l.take (i.toNat + 1)).map cnt).sum <= (v.l.map cnt).sum:=by
    conv=>rhs;rw [<- List.take_append_drop (i.toNat + 1) v.l]
    rw [List.map_append,List.sum_append]
    omega
   refine T.eq (ih (by omega) (by omega) (hf.kid _ hm)) (T.ck (by omega) (T.ck (by omega) (hL _ ⟨by dsimp only;omega,by dsimp only;omega,?_⟩ (by dsimp only;omega))))
   dsimp only
   rw [e,hs,q3]
   omega
  ·have hb:=zOF hb
   rw [zTl (by omega)] at q3
   rw [q3,hc]
   omega
theorem zpr:∀ {n:Nat} {v:Val},cnt v <= n->cnt v <= 100000000->zbV v->zgL n v=some (cnt v:Int):=by
 intro n
 induction n with
 | zero=>intro v h;have:=zey v;omega
 | succ n ih =>
  intro v hn h6 hf
  refine T.eqs ?_
  show T _ (zgl (zgL n) v)
  unfold zgl
  have hfl:=hf.l
  have hc:=zhv v
  refine T.lp (ι:=Int × Int) (λq=>0 <= q.2/\q.2 <= (v.l.length:Int)/\q.1=1 + (((v.l.take q.2.toNat).map cnt).sum:Nat)) (λq=>((v.l.length:Int) - q.2).toNat) ⟨zIl _,by dsimp only;omega,by show (1:Int)=1 + ((([]:List Val).map cnt).sum:Nat);simp⟩ (by dsimp only;omega) λL q ⟨q1,q2,q3⟩ hL=>?_
  obtain ⟨c,i⟩:=q
  dsimp only at q1 q2 q3 hL ⊢
  refine T.br (λhb=>?_) λhb=>T.some ?_
  ·have hb:=zOT hb
   refine T.get q1 hb λy hy=>?_
   have hm:=List.mem_of_getElem? hy
   have hk:=zc9 hm
   have e:(i + 1).toNat=i.toNat + 1:=by omega
   have hs:((v.l.take (i.toNat + 1)).map cnt).sum=((v.l.take i.toNat).map cnt).sum + cnt y:=by
    rw [List.take_add_one,hy,List.map_append,List.sum_append]
    simp
   have hle:((v.l.take (i.toNat + 1)).map cnt).sum <= (v.l.map cnt).sum:=by
    conv=>rhs;rw [<- List.take_append_drop (i.toNat + 1) v.l]
    rw [List.map_append,List.sum_append]
    omega
   refine T.eq (ih (by omega) (by omega) (hf.kid _ hm)) (T.ck (by omega) (T.ck (by omega) (hL _ ⟨by dsimp only;omega,by dsimp only;omega,?_⟩ (by dsimp only;omega))))
   dsimp only
   rw [e,hs,q3]
   omega
  ·have hb:=zOF hb
   rw [zTl (by omega)] at q3
   rw [q3,hc]
   omega
def pln (v:Val) (n b l m:Bool):Bool:=(n || decide (v.n=0)) && (b || decide ((v.b.length:Int)=0)) && (l || decide ((v.l.length:Int)=0)) && (m || (decide (v.rule=0) && decide ((v.more.length:Int)=0)))
theorem T.andJ {β:Type} {R:β->Prop} {c d:Bool} {M:(Bool->Option β)->Option β} {K:Bool->Option β} (hM:∀ J:Bool->Option β,T R (J d)->T R (M J)) (hK:T R (K (c && d))):T R (Sy.jp (λJ=>Sy.br c (M J) (J false)) K):=by
 cases c
 ·exact hK
 ·exact hM K hK
theorem T.orJ {β:Type} {R:β->Prop} {c d:Bool} {M:(Bool->Option β)->Option β} {K:Bool->Option β} (hM:∀ J:Bool->Option β,T R (J d)->T R (M J)) (hK:T R (K (c || d))):T R (Sy.jp (λJ=>Sy.br c (J true) (M J)) K):=by
 cases c
 ·exact hM K hK
 ·exact hK
theorem zcF (v:Val) (n b l m:Bool):zet v n b l m=some (pln v n b l m):=by
 refine T.eqs ?_
 unfold zet
 exact T.or' (T.andJ (λJ h=>T.or' h) (T.andJ (λJ h=>T.or' h) (T.andJ (λJ h=>T.orJ (λJ2 h2=>T.and' h2) h) (T.some rfl))))
theorem zcY (v:Val) (u:Int) (h:0 <= u):zcZ v u=some (pln v (!decide (andI u 1=0)) (!decide (andI u 2=0)) (!decide (andI u 4=0)) (!decide (andI u 8=0))):=by
 refine T.eqs ?_
 unfold zcZ
 refine T.asd ⟨h,by decide⟩ (T.or' (T.andJ (λJ hh=>T.asd ⟨h,by decide⟩ (T.or' hh)) (T.andJ (λJ hh=>T.asd ⟨h,by decide⟩ (T.or' hh)) (T.andJ (λJ hh=>T.asd ⟨h,by decide⟩ (T.orJ (λJ2 h2=>T.and' h2) hh)) (T.some rfl)))))
theorem zh9 (v:Val):ze5 v=some (decide (v.kind=0) && pln v false false false false):=by
 refine T.eqs ?_
 unfold ze5
 refine T.andJ (d:=pln v false false false false) (λJ hh=>T.eq (zcY v 0 (zIl _)) ?_) (T.some rfl)
 have e:pln v (!decide (andI 0 1=0)) (!decide (andI 0 2=0)) (!decide (andI 0 4=0)) (!decide (andI 0 8=0))=pln v false false false false:=rfl
 rw [e]
 exact hh
theorem zmt {v:Val}:(decide (v.kind=0) && pln v false false false false)=true ↔ v=Val.mk 0 0 [] [] 0 []:=by
 unfold pln
 simp only [Bool.false_or,zBa,decide_eq_true_eq]
 constructor
 ·rintro ⟨h1,⟨⟨h2,h3⟩,h4⟩,h5,h6⟩
  rw [<- Val.eta v,h1,h2,h5,List.length_eq_zero_iff.1 (by omega:v.b.length=0),List.length_eq_zero_iff.1 (by omega:v.l.length=0),List.length_eq_zero_iff.1 (by omega:v.more.length=0)]
 ·intro h
  subst h
  exact ⟨rfl,⟨⟨rfl,rfl⟩,rfl⟩,rfl,rfl⟩
theorem zsk (b:List UInt8) (hb:b.length <= 68719476736):T (λr=>0 <= r.2.1/\r.2.1 <= (b.length:Int)) (zfI b):=by
 unfold zfI
 refine T.lp (ι:=UInt64 × Int) (λq=>0 <= q.2/\q.2 <= (b.length:Int)) (λq=>((b.length:Int) - q.2).toNat) ⟨zIl _,by dsimp only;omega⟩ (by dsimp only;omega) λL q ⟨q1,q2⟩ hL=>?_
 obtain ⟨v,i⟩:=q
 dsimp only at q1 q2 hL ⊢
 refine T.br (λh=>?_) λ_=>T.some ⟨zIl _,by dsimp only;omega⟩
 have h:=zOT h
 refine T.jp (λ_=>True) (λJ kk=>T.br (λ_=>T.get (zIl _) (by omega) λy _=>kk _ trivial) λ_=>kk _ trivial) λb1 _=>T.or' (T.br (λ_=>T.some ⟨zIl _,by dsimp only;omega⟩) λ_=>?_)
 exact T.asr (by decide) (T.get q1 h λy _=>T.get q1 h λz _=>T.br (λ_=>T.ck (by omega) (T.some ⟨by dsimp only;omega,by dsimp only;omega⟩)) λ_=>T.ck (by omega) (hL _ ⟨by dsimp only;omega,by dsimp only;omega⟩ (by dsimp only;omega)))
theorem zu9 (v:UInt64):(v >>> (8:UInt64)).toNat=v.toNat / 256:=by
 rw [UInt64.toNat_shiftRight]
 simp [Nat.shiftRight_eq_div_pow]
theorem zv1 {w:Nat} (h:255 < w):(w / 256).log2 < w.log2:=by
 have h2:w / 256 ≠ 0:=by omega
 refine (Nat.log2_lt h2).2 ?_
 have h3:w < 2 ^ (w.log2 + 1):=Nat.lt_log2_self
 rw [Nat.pow_succ] at h3
 generalize 2 ^ w.log2=p at h3 ⊢
 omega
theorem zpZ (v:UInt64):T (λr=>r.length <= 1000000) (zgR v):=by
 unfold zgR
 have hv:v.toNat.log2 <= 64:=by
  have:=v.toNat_lt
  rcases Nat.eq_zero_or_pos v.toNat with h0 | h0
  ·rw [h0];decide
  ·exact Nat.le_of_lt ((Nat.log2_lt (by omega)).2 this)
 refine T.lp (ι:=UInt64 × List UInt8) (λq=>q.2.length + q.1.toNat.log2 <= 100) (λq=>q.1.toNat.log2) (by show 1 + v.toNat.log2 <= 100;omega) (by dsimp only;omega) λL q hq hL=>?_
 obtain ⟨w,l⟩:=q
 dsimp only at hq hL ⊢
 refine T.br (λh=>?_) λ_=>T.some (by omega)
 have h:=zOT h
 have h1:255 < w.toNat:=UInt64.lt_iff_toNat_lt.1 h
 have hl:=zv1 h1
 rw [<- zu9 w] at hl
 refine T.abl (by show 1 + l.length <= _;omega) (hL _ ?_ hl)
 have e:(([(w >>> 8).toUInt8]:List UInt8) ++ l).length=1 + l.length:=by rw [zLa];rfl
 dsimp only
 rw [e];omega
theorem zm1 (b:List UInt8):T (λ_=>True) (zeP b):=by
 unfold zeP
 refine T.br (λ_=>T.some trivial) λ_=>T.br (λ_=>T.some trivial) λh=>?_
 have h:=zOF h
 refine T.lp (ι:=UInt64 × Int) (λq=>0 <= q.2/\q.2 <= (b.length:Int)) (λq=>((b.length:Int) - q.2).toNat) ⟨zIl _,by dsimp only;omega⟩ (by dsimp only;omega) λL q ⟨q1,q2⟩ hL=>?_
 obtain ⟨v,i⟩:=q
 dsimp only at q1 q2 hL ⊢
 refine T.br (λhc=>?_) λ_=>T.cal (zpZ v) λy _ _=>T.eq (y:=decide (Str.mk y=Str.mk b)) rfl (T.br (λ_=>T.some trivial) λ_=>T.some trivial)
 have hc:=zOT hc
 exact T.asr (by decide) (T.get q1 hc λy _=>T.ck (by omega) (hL _ ⟨by dsimp only;omega,by dsimp only;omega⟩ (by dsimp only;omega)))
theorem zvw (b:List UInt8) (hb:b.length <= 68719476736):T (λr=>r.2.2.2.2=0->0 <= r.2.2.2.1/\r.2.2.2.1 <= (b.length:Int)/\0 <= r.2.2.1/\r.2.2.1 <= 4294967296) (zg2 b):=by
 unfold zg2
 refine T.br (λ_=>T.some λh=>by cases h) λh0=>?_
 have h0:=zOF h0
 refine T.get (zIl _) (by omega) λy2 _=>T.asr (by decide) (T.get (zIl _) (by omega) λy4 _=>T.get (zIl _) (by omega) λy6 _=>?_)
 refine T.jp (ι:=Int × Tag) (λq=>1 <= q.1/\q.1 <= 1 + (b.length:Int)) (λJ kk=>T.br (λ_=>T.asd ⟨by omega,by omega,zIl _⟩ ?_) λ_=>kk _ ⟨zIl _,by dsimp only;omega⟩) λq ⟨q1,q2⟩=>?_
 ·have hl:((b.take ((b.length:Int)).toNat).drop ((1:Int)).toNat).length <= b.length:=by rw [zLd,zLt];omega
  refine T.cal (zsk _ (by omega)) λy10 _ ⟨g1,g2⟩=>T.br (λh=>T.some λe=>absurd e (by simpa using h)) λ_=>T.or' (T.br (λ_=>T.some λh=>by cases h) λhno=>?_)
  rw [Bool.or_eq_false_iff] at hno
  have h5:=zOF hno.2
  have h6:y10.1.toNat <= 268435456:=by
   have:¬ (268435456:UInt64).toNat < y10.1.toNat:=λh=>h5 (UInt64.lt_iff_toNat_lt.2 h)
   have e:(268435456:UInt64).toNat=268435456:=rfl
   omega
  exact T.ck (by omega) (T.ck (by omega) (kk _ ⟨by dsimp only;omega,by dsimp only;omega⟩))
 refine T.br (λ_=>T.some λh=>by cases h) λh1=>?_
 have h1:=zOF h1
 refine T.get (by omega) (by omega) λy16 _=>T.ck (by omega) ?_
 have hy:=y16.toNat_lt
 refine T.jp (ι:=Int × Int) (λp=>0 <= p.1/\p.1 <= (b.length:Int)/\0 <= p.2/\p.2 <= 4294967296) (λJ kk=>T.br (λh2=>?_) λ_=>kk _ ⟨by dsimp only;omega,by dsimp only;omega,by dsimp only;omega,by dsimp only;omega⟩) λp hp=>T.some λ_=>⟨hp.1,hp.2.1,hp.2.2.1,hp.2.2.2⟩
 have h2:=zOT h2
 refine T.ck (by omega) (T.or' (T.br (λ_=>T.some λh=>by cases h) λh3=>T.ck (by omega) (T.br (λ_=>T.some λh=>by cases h) λh4=>T.ck (by omega) (T.asd ⟨by omega,by omega,?_⟩ (T.cal (zm1 _) λy27 _ _=>T.or' (T.or' (T.br (λ_=>T.some λh=>by cases h) λh5=>?_)))))))
 ·have h4:=zOF h4
  omega
 ·have h4:=zOF h4
  rw [Bool.or_eq_false_iff] at h5
  have h6:=zOF h5.2
  have h7:y27.1.toNat <= 2147483647:=by
   have:¬ (2147483647:UInt64).toNat < y27.1.toNat:=λh=>h6 (UInt64.lt_iff_toNat_lt.2 h)
   have e:(2147483647:UInt64).toNat=2147483647:=rfl
   omega
  exact T.ck (by omega) (T.ck (by omega) (kk _ ⟨by dsimp only;omega,by dsimp only;omega,by dsimp only;omega,by dsimp only;omega⟩))
theorem zwq (b:List UInt8) (hb:b.length <= 68719476736):T (λ_=>True) (zkT b):=by
 unfold zkT
 refine T.cal (zvw b hb) λy _ hy=>T.br (λ_=>T.some trivial) λh=>?_
 obtain ⟨h1,h2,h3,h4⟩:=hy (by simpa using h)
 refine T.ck (by omega) (T.br (λ_=>T.some trivial) λh5=>?_)
 have h5:=zOF h5
 refine T.ck (by omega) (T.asd ⟨by omega,by omega,by omega⟩ (T.ck (by omega) (T.cal (Q:=λ_=>True) (by
  unfold ziU
  exact T.abl (by rw [zLn,zLd,zLt];omega) (T.some trivial)) λ_ _ _=>T.some trivial)))
def rng (a b:Int):List Int:=(List.range (b - a).toNat).map λ(i:Nat)=>a + (i:Int)
theorem zj9 {a b:Int} (h:b <= a):rng a b=[]:=by
 unfold rng
 have:(b - a).toNat=0:=by omega
 rw [this];rfl
theorem zl5 {a b:Int} (h:a <= b):rng a (b + 1)=rng a b ++ [b]:=by
 unfold rng
 have:(b + 1 - a).toNat=(b - a).toNat + 1:=by omega
 rw [this,List.range_succ,List.map_append]
 congr 1
 show [a + (((b - a).toNat:Nat):Int)]=[b]
 congr 1
 omega
theorem zjW {a b:Int}:(rng a b).length=(b - a).toNat:=by unfold rng;rw [List.length_map,List.length_range]
theorem zxm {a b:Int} {k:Nat} (h:a + k < b):(rng a b)[k]?=some (a + k):=by
 unfold rng
 rw [List.getElem?_map,List.getElem?_range (by omega)]
 rfl
def grp (fs:List zaF) (k:Int):Int:=((fs[k.toNat]?).map λf=>f.group).getD 0
def zeo (c:Bool) (fs:List zaF) (out:List (List Int)) (k:Int):List (List Int) :=
 if (c && decide (0 < grp fs k) && decide (0 < out.length))=true/\grp fs (k - 1)=grp fs k then out.set (out.length - 1) ((out[out.length - 1]?).getD [] ++ [k]) else out ++ [[k]]
def slots (x:zg):List (List Int):=(rng x.root x.fields.length).foldl (zeo (!decide (x.kind=9)) x.fields) []
def zhq (t:zZ) (i:Int):List (List Int):=match (if 0 <= i then t.types[i.toNat]? else none) with
 | none=>[]
 | some x=>if x.kind=7 \/ x.kind=8 \/ x.kind=9 then slots x else []
theorem zmP (c:Bool) (fs:List zaF) (out:List (List Int)) (k:Int):(zeo c fs out k).length <= out.length + 1/\0 < (zeo c fs out k).length:=by
 unfold zeo
 split
 ·rename_i h
  have h1:=h.1
  rw [zBa] at h1
  have h2:=zOT h1.2
  rw [List.length_set]
  omega
 ·rw [zLa,zLs]
  omega
theorem ziA {c:Bool} {fs:List zaF}:∀ (l:List Int) (out:List (List Int)) (n:Nat),out.length <= n->(∀ s ∈ out,s.length <= n)->(l.foldl (zeo c fs) out).length <= n + l.length/\∀ s ∈ l.foldl (zeo c fs) out,s.length <= n + l.length:=by
 intro l
 induction l with
 | nil=>intro out n h1 h2;exact ⟨h1,h2⟩
 | cons k r ih =>
  intro out n h1 h2
  have:=ih (zeo c fs out k) (n + 1) (by have:=(zmP c fs out k).1;omega) (λs hs=>by
   unfold zeo at hs
   split at hs
   ·rcases List.mem_or_eq_of_mem_set hs with h | h
    ·have:=h2 s h;omega
    ·rw [h,zLa,zLs]
     cases hg:out[out.length - 1]? with
     | none=>simp
     | some y =>
      have:=h2 y (List.mem_of_getElem? hg)
      show y.length + 1 <= n + 1
      omega
   ·rcases List.mem_append.1 hs with h | h
    ·have:=h2 s h;omega
    ·rw [zMo.1 h]
     show 1 <= n + 1
     omega)
  rw [List.foldl_cons,zLc]
  have e:n + 1 + r.length=n + (r.length + 1):=by omega
  rw [e] at this
  exact this
theorem zpT {x:Int} {β:Type} {R:β->Prop} {K:Bool->Option β} (h:T R (K (!decide (x=7 \/ x=8 \/ x=9)))) :
    T R (Sy.jp (λJ5=>Sy.br (!decide (x=7)) (J5 (!decide (x=8))) (J5 false)) λq=>Sy.jp (λJ8=>Sy.br q (J8 (!decide (x=9))) (J8 false)) K):=by
  refine T.and' (T.and' ?_)
  have:((!decide (x=7)) && (!decide (x=8)) && !decide (x=9))=!decide (x=7 \/ x=8 \/ x=9):=by
    rw [Bool.eq_iff_iff]
    simp only [zBa,Bool.not_eq_true',decide_eq_false_iff_not,not_or]
    exact and_assoc
  rw [this]
  exact h
theorem zf7 {h:Nat} {l:List zg} {x:zg} {i j:Nat} (hk:zaK (zbu h l) (zhn x) i j) (hj:j <= l.length) (hl:l.length <= 1000):x.fields.length <= 1000:=by
 have:=znO hk
 unfold zhn at this
 rw [zLa,List.length_map] at this
 omega
theorem zj0 {t:zZ} (ht:zdt t) (i:Int):zgM t i=some (zhq t i):=by
 refine T.eqs ?_
 unfold zgM
 refine T.cal (Q:=λr=>r=decide (0 <= i/\i < t.types.length)) (by
  unfold zlb
  refine T.and' (T.some ?_)
  rw [Bool.eq_iff_iff]
  simp) λy _ hy=>?_
 subst hy
 have htl:=ht.types
 by_cases hi:0 <= i/\i < t.types.length
 ·rw [zDT hi]
  refine T.br (λh=>by cases h) λ_=>?_
  obtain ⟨x,hx⟩:∃ x,t.types[i.toNat]?=some x:=⟨_,List.getElem?_eq_getElem (by omega)⟩
  have hs:zhq t i=if x.kind=7 \/ x.kind=8 \/ x.kind=9 then slots x else []:=by unfold zhq;rw [if_pos hi.1,hx]
  rw [hs]
  refine T.get hi.1 hi.2 λx' hx'=>?_
  rw [hx] at hx';cases hx'
  refine zpT (T.br (λh=>T.some ?_) λh=>?_)
  ·rw [if_neg (zOF ((Bool.not_eq_true' _).mp h))]
  have hk:x.kind=7 \/ x.kind=8 \/ x.kind=9:=zOT ((Bool.not_eq_false' _).mp h)
  rw [if_pos hk]
  obtain ⟨j,hj⟩:=zbu.sub ht.kids i.toNat (by omega) (by omega)
  have hjl:=hj.inb
  obtain ⟨x'',hx'',hok,hkid⟩:=hj
  rw [hx] at hx'';cases hx''
  have hfl:=zf7 hkid hjl (by omega)
  have hr0:=hok.root0
  have hr1:=hok.rootF hk
  refine T.lp (ι:=List (List Int) × Int) (λq=>x.root <= q.2/\q.2 <= (x.fields.length:Int)/\q.1=(rng x.root q.2).foldl (zeo (!decide (x.kind=9)) x.fields) []/\(0 < q.1.length ↔ x.root < q.2)) (λq=>((x.fields.length:Int) - q.2).toNat) ⟨zIl _,hr1,by dsimp only;rw [zj9 (zIl _)];rfl,by dsimp only [zLn];omega⟩ (by dsimp only;omega) λL q ⟨q1,q2,q3,q4⟩ hL=>?_
  obtain ⟨out,k⟩:=q
  dsimp only at q1 q2 q3 q4 hL ⊢
  refine T.br (λhb=>?_) λhb=>T.some ?_
  ·have hb:=zOT hb
   have hfold:=ziA (c:=!decide (x.kind=9)) (fs:=x.fields) (rng x.root k) [] 0 (zNl _) (λs hs=>by cases hs)
   rw [<- q3,zjW] at hfold
   have hol:out.length <= 1000:=by omega
   refine T.jp (ι:=List (List Int)) (λo=>o=zeo (!decide (x.kind=9)) x.fields out k) (λJ kk=>T.get (by omega) hb λf hf=>T.and' (T.and' (T.jp (λb=>b=true ↔ (!decide (x.kind=9) && decide (0 < f.group) && decide (x.root < k))=true/\grp x.fields (k - 1)=f.group) (λJ2 k2=>T.br (λh1=>?_) λh1=>k2 _ ⟨λh=>(by cases h),λh=>by rw [h1] at h;cases h.1⟩) λb hb2=>?_))) λo ho=>T.ck (by omega) (hL _ ⟨by dsimp only;omega,by dsimp only;omega,by dsimp only;rw [zl5 q1,List.foldl_append,<- q3,ho];rfl,by dsimp only;rw [ho];exact ⟨λ_=>by omega,λ_=>(zmP _ _ _ _).2⟩⟩ (by dsimp only;omega))
   ·have h2:=h1
    rw [zBa] at h2
    have h3:=zOT h2.2
    refine T.ck (by omega) (T.get (by omega) (by omega) λg hg=>k2 _ ?_)
    rw [decide_eq_true_iff,h1]
    have:grp x.fields (k - 1)=g.group:=by unfold grp;rw [hg];rfl
    rw [this]
    exact ⟨λh=>⟨rfl,h⟩,λh=>h.2⟩
   ·have hgf:grp x.fields k=f.group:=by unfold grp;rw [hf];rfl
    have hiff:decide (0 < out.length)=decide (x.root < k):=by rw [decide_eq_decide];exact q4
    refine T.br (λhbt=>?_) λhbf=>?_
    ·have hc:=hb2.1 hbt
     have h2:=hc.1
     rw [zBa] at h2
     have h3:=q4.2 (zOT h2.2)
     obtain ⟨y,hy⟩:∃ y,out[out.length - 1]?=some y:=⟨_,List.getElem?_eq_getElem (by omega)⟩
     have ei:(((out.length:Nat):Int) - 1).toNat=out.length - 1:=by omega
     have hyl:=hfold.2 y (List.mem_of_getElem? hy)
     have hs1:zeo (!decide (x.kind=9)) x.fields out k=out.set (out.length - 1) (y ++ [k]):=by
      unfold zeo
      rw [hgf,hiff,if_pos hc,hy];rfl
     rw [hs1] at kk
     have hy':out[(((out.length:Nat):Int) - 1).toNat]?=some y:=by rw [ei];exact hy
     refine T.ck (by omega) (T.ck (by omega) (T.asd ⟨by omega,by omega⟩ (T.asd (by omega) (T.eq hy' (T.abl (by rw [zLs];omega) (T.asd ⟨by omega,by omega⟩ (T.asd (by omega) (T.eq hy' (kk _ ?_)))))))))
     rw [ei]
    ·have hs1:zeo (!decide (x.kind=9)) x.fields out k=out ++ [[k]]:=by
      unfold zeo
      rw [hgf,hiff,if_neg (λh=>by rw [hb2.2 h] at hbf;cases hbf)]
     exact T.abl (by rw [zLs];omega) (kk _ hs1.symm)
  ·have hb:=zOF hb
   have:k=x.fields.length:=by omega
   rw [q3,this];rfl
 ·rw [zDF hi]
  refine T.br (λ_=>T.some ?_) λh=>by cases h
  unfold zhq
  split
  ·rfl
  ·rename_i x hx
   split at hx
   ·have:=(List.getElem?_eq_some_iff.1 hx).1
    omega
   ·cases hx
theorem ztQ (a b:Int) (h0:0 <= a) (hb:b <= 1000000) (hb0:0 <= b) (ha:a <= 1000000):zhk a b=some (rng a b):=by
 refine T.eqs ?_
 unfold zhk
 refine T.lp (ι:=List Int × Int) (λq=>a <= q.2/\(q.2 <= b \/ q.2=a)/\q.1=rng a q.2) (λq=>(b - q.2).toNat) ⟨zIl _,.inr rfl,(zj9 (zIl _)).symm⟩ (by dsimp only;omega) λL q ⟨q1,q2,q3⟩ hL=>?_
 obtain ⟨l,k⟩:=q
 dsimp only at q1 q2 q3 hL ⊢
 refine T.br (λh=>?_) λh=>T.some ?_
 ·have h:=zOT h
  have hl:l.length=(k - a).toNat:=by rw [q3,zjW]
  exact T.abl (by rw [zLs];omega) (T.ck (by omega) (hL _ ⟨by dsimp only;omega,by dsimp only;omega,by dsimp only;rw [zl5 q1,q3]⟩ (by dsimp only;omega)))
 ·have h:=zOF h
  rw [q3]
  rcases q2 with h2 | h2
  ·have:k=b:=by omega
   rw [this]
  ·subst h2
   rw [zj9 (zIl _),zj9 (by omega)]
theorem zpF {t:zZ} (ht:zdt t) (i:Int):zfD t i=some (zhq t i):=by
  refine T.eqs ?_
  unfold zfD
  have htl:=ht.types
  by_cases hi:0 <= i/\i < t.types.length
  · obtain ⟨x,hx⟩:∃ x,t.types[i.toNat]?=some x:=⟨_,List.getElem?_eq_getElem (by omega)⟩
    have hs:zhq t i=if x.kind=7 \/ x.kind=8 \/ x.kind=9 then slots x else []:=by unfold zhq;rw [if_pos hi.1,hx]
    rw [hs]
    refine T.cal (Q:=λr=>r=x) (by
      unfold zhN
      refine T.or' (T.br (λh=>?_) λ_=>T.get hi.1 hi.2 λy hy=>T.some (by rw [hx] at hy;cases hy;rfl))
      rw [zDF (by omega),zDF (by omega)] at h
      cases h) λy _ hy=>?_
    subst hy
    refine zpT (T.br (λh=>T.some ?_) λh=>?_)
    · rw [if_neg (zOF ((Bool.not_eq_true' _).mp h))]
    have hk:y.kind=7 \/ y.kind=8 \/ y.kind=9:=zOT ((Bool.not_eq_false' _).mp h)
    rw [if_pos hk]
    obtain ⟨j,hj⟩:=zbu.sub ht.kids i.toNat (by omega) (by omega)
    have hjl:=hj.inb
    obtain ⟨x'',hx'',hok,hkid⟩:=hj
    rw [hx] at hx'';cases hx''
    have hfl:=zf7 hkid hjl (by omega)
    have hr0:=hok.root0
    have hr1:=hok.rootF hk
    have hmx:max y.root 0=y.root:=by omega
    rw [hmx]
    refine T.eq (ztQ _ _ hr0 (by omega) (by omega) (by omega)) ?_
    have hpl:(rng y.root y.fields.length).length=((y.fields.length:Int) - y.root).toNat:=zjW
    refine T.lp (ι:=List (List Int) × Int) (λq=>0 <= q.2/\q.2 <= (y.fields.length:Int) - y.root/\q.1=(rng y.root (y.root + q.2)).foldl (zeo (!decide (y.kind=9)) y.fields) []/\(0 < q.1.length ↔ 0 < q.2)) (λq=>(((y.fields.length:Int) - y.root) - q.2).toNat) ⟨zIl _,by dsimp only;omega,by dsimp only;rw [zj9 (by omega)];rfl,by dsimp only [zLn];omega⟩ (by dsimp only;omega) λL q ⟨q1,q2,q3,q4⟩ hL=>?_
    obtain ⟨out,p⟩:=q
    dsimp only at q1 q2 q3 q4 hL ⊢
    refine T.br (λhb=>?_) λhb=>T.some ?_
    · have hb:=zOT hb
      rw [hpl] at hb
      have hfold:=ziA (c:=!decide (y.kind=9)) (fs:=y.fields) (rng y.root (y.root + p)) [] 0 (zNl _) (λs hs=>by cases hs)
      rw [<- q3,zjW] at hfold
      have hol:out.length <= 1000:=by omega
      have hget:(rng y.root y.fields.length)[p.toNat]?=some (y.root + p):=by
        rw [zxm (by omega)]
        congr 2
        omega
      refine T.jp (ι:=List (List Int)) (λo=>o=zeo (!decide (y.kind=9)) y.fields out (y.root + p)) (λJ kk=>T.asd ⟨by omega,by rw [hpl];omega⟩ (T.eq hget (T.ck (by omega) (T.get (by omega) (by omega) λf hf=>T.and' (T.and' (T.jp (λb=>b=true ↔ (!decide (y.kind=9) && decide (0 < f.group) && decide (0 <= ((out.length:Nat):Int) - 1))=true/\grp y.fields (y.root + p - 1)=f.group) (λJ2 k2=>T.br (λh1=>?_) λh1=>k2 _ ⟨λh=>(by cases h),λh=>by rw [h1] at h;cases h.1⟩) λb hb2=>?_)))))) λo ho=>T.ck (by omega) (hL _ ⟨by dsimp only;omega,by dsimp only;omega,by
          have e:y.root + (p + 1)=y.root + p + 1:=by omega
          dsimp only;rw [e,zl5 (by omega),List.foldl_append,<- q3,ho];rfl,by dsimp only;rw [ho];exact ⟨λ_=>by omega,λ_=>(zmP _ _ _ _).2⟩⟩ (by dsimp only;omega))
      · have h2:=h1
        rw [zBa] at h2
        have h3:=zOT h2.2
        have h4:0 < p:=q4.1 (by omega)
        refine T.ck (by omega) (T.get (by omega) (by omega) λg hg=>k2 _ ?_)
        rw [decide_eq_true_iff,h1]
        have:grp y.fields (y.root + p - 1)=g.group:=by unfold grp;rw [hg];rfl
        rw [this]
        exact ⟨λh=>⟨rfl,h⟩,λh=>h.2⟩
      · have hgf:grp y.fields (y.root + p)=f.group:=by unfold grp;rw [hf];rfl
        have hiff:decide (0 < out.length)=decide (0 <= ((out.length:Nat):Int) - 1):=by rw [decide_eq_decide];omega
        refine T.br (λhbt=>?_) λhbf=>?_
        · have hc:=hb2.1 hbt
          have h2:=hc.1
          rw [zBa] at h2
          have h3:=zOT h2.2
          obtain ⟨z,hz⟩:∃ z,out[out.length - 1]?=some z:=⟨_,List.getElem?_eq_getElem (by omega)⟩
          have ei:(((out.length:Nat):Int) - 1).toNat=out.length - 1:=by omega
          have hzl:=hfold.2 z (List.mem_of_getElem? hz)
          have hs1:zeo (!decide (y.kind=9)) y.fields out (y.root + p)=out.set (out.length - 1) (z ++ [y.root + p]):=by
            unfold zeo
            rw [hgf,hiff,if_pos hc,hz];rfl
          rw [hs1] at kk
          have hz':out[(((out.length:Nat):Int) - 1).toNat]?=some z:=by rw [ei];exact hz
          refine T.asd ⟨by omega,by omega⟩ (T.asd (by omega) (T.eq hz' (T.abl (by rw [zLs];omega) (T.asd ⟨by omega,by omega⟩ (T.asd (by omega) (T.eq hz' (kk _ ?_)))))))
          rw [ei]
        · have hs1:zeo (!decide (y.kind=9)) y.fields out (y.root + p)=out ++ [[y.root + p]]:=by
            unfold zeo
            rw [hgf,hiff,if_neg (λh=>by rw [hb2.2 h] at hbf;cases hbf)]
          exact T.abl (by rw [zLs];omega) (kk _ hs1.symm)
    · have hb:=zOF hb
      rw [hpl] at hb
      have:y.root + p=y.fields.length:=by omega
      rw [q3,this];rfl
  · refine T.cal (Q:=λr=>r.kind=0) (by
      unfold zhN
      refine T.or' (T.br (λh=>T.some rfl) λh=>?_)
      rw [Bool.or_eq_false_iff] at h
      have h1:=zOF h.1
      have h2:=zOF h.2
      omega) λy _ hy=>?_
    refine zpT (T.br (λh=>T.some ?_) λh=>?_)
    · unfold zhq
      split
      · rfl
      · rename_i x hx
        split at hx
        · have:=(List.getElem?_eq_some_iff.1 hx).1
          omega
        · cases hx
    · have:=zOT ((Bool.not_eq_false' _).mp h)
      omega
theorem zsU:∀ {h n l i j},zbu h l i j->h <= n->l.length <= 1000->zfO n l (i:Int)=some (bgs h l (i:Int)):=by
 intro h
 induction h with
 | zero=>intro n l i j h;exact h.elim
 | succ h ih =>
  intro n l i j hs hn hl
  obtain ⟨n,rfl⟩:∃ n',n=n' + 1:=⟨n - 1,by omega⟩
  have hjl:=hs.inb
  have hbl:=zmb hs
  have hlt:=hs.lt
  obtain ⟨t,h1,h0,h2⟩:=hs
  have hti:(i:Int).toNat=i:=Int.toNat_natCast i
  have hget:∀ {β:Type} {R:β->Prop} {K:zg->Option β},T R (K t)->T R (cal (zq l (i:Int)) K):=λh=>T.get (by omega) (by omega) λy hy=>by rw [hti,h1] at hy;cases hy;exact h
  refine T.eqs ?_
  show T _ (zfE (zfO n) l (i:Int))
  unfold zfE
  rw [zsc h1] at hbl ⊢
  refine hget (T.br (λhb=>hget (T.asd ⟨zIl _,by omega,by have:=zOT hb;omega⟩ (T.some ?_))) λhb=>?_)
  ·have hb:=zOT hb
   rw [if_pos (by omega)];rfl
  have hb:=zOF hb
  rw [if_neg (by omega)] at hbl ⊢
  have hfl:∀ (k:Nat),(((t.fields.take k).flatMap λf=>bgs h l f.ty)).length <= 1000:=λk=>by
   have:=zmq (l:=t.fields) (f:=λf=>bgs h l f.ty) (k:=k)
   omega
  have hfc:t.fields.length <= 1000:=by
   unfold zhn at h2
   obtain ⟨c,h3,h4⟩:=zaK.app h2
   have e:∀ (r:List Int) (a b:Nat),zaK (zbu h l) r a b->r.length <= b - a:=by
    intro r
    induction r with
    | nil=>intro a b _;exact zNz _
    | cons x r ih2 =>
     intro a b ⟨c,k0,k1,k2⟩
     have:=ih2 _ _ k2
     have:=k1.lt
     have:=zaK.le zbu.le' k2
     simp only [zLc];omega
   have:=e _ _ _ h3
   rw [List.length_map] at this
   have:=zaK.le zbu.le' h4
   omega
  refine T.lp (ι:=List Tag × Int) (λq=>0 <= q.2/\q.2 <= t.fields.length/\q.1=(t.fields.take q.2.toNat).flatMap λf=>bgs h l f.ty) (λq=>((t.fields.length:Int) - q.2).toNat) ⟨zIl _,by dsimp only;omega,rfl⟩ (by dsimp only;omega) λL q ⟨q1,q2,q3⟩ hL=>?_
  obtain ⟨o,k⟩:=q
  dsimp only at q1 q2 q3 hL ⊢
  refine hget (T.br (λhb2=>?_) λhb2=>T.some ?_)
  ·have hb2:=zOT hb2
   refine hget (T.get q1 hb2 λf hf=>?_)
   obtain ⟨c,d,e1,e2,e3,e4⟩:=zaK.mem3 zbu.le' h2 (zmv f (List.mem_of_getElem? hf))
   rw [e1]
   have hk1:(k + 1).toNat=k.toNat + 1:=by omega
   have hnx:=zpe (f:=λf:zaF=>bgs h l f.ty) hf
   have hle:=hfl (k.toNat + 1)
   rw [hnx,zLa,e1] at hle
   have hle2:=hfl k.toNat
   refine T.eq (ih e2 (by omega) hl) (T.abl (by rw [q3];omega) (T.ck (by omega) (hL _ ⟨by dsimp only;omega,by dsimp only;omega,?_⟩ (by dsimp only;omega))))
   dsimp only
   rw [hk1,hnx,q3,e1]
  ·have hb2:=zOF hb2
   rw [q3,zTl (by omega)]
def begT (t:zZ) (i:Int):List Tag:=bgs 17 t.types i
theorem zqW {t:zZ} (ht:zdt t) (i:Int):ziz t i=some (begT t i):=by
 refine T.eqs ?_
 unfold ziz
 have htl:=ht.types
 refine T.or' (T.br (λh=>T.some ?_) λh=>?_)
 ·unfold begT
  have:bgs 17 t.types i=[]:=by
   unfold bgs
   have e:(if 0 <= i then t.types[i.toNat]? else none)=none:=by
    split
    ·rw [Bool.or_eq_true] at h
     rcases h with h | h
     ·have:=zOT h;omega
     ·have:=zOT h
      exact List.getElem?_eq_none (by omega)
    ·rfl
   rw [e]
  rw [this]
 ·rw [Bool.or_eq_false_iff] at h
  have h1:=zOF h.1
  have h2:=zOF h.2
  obtain ⟨j,hj⟩:=zbu.sub ht.kids i.toNat (by omega) (by omega)
  have e:((i.toNat:Nat):Int)=i:=by omega
  have hb:=zsU hj (n:=fuel) (by unfold fuel;omega) (by omega)
  have hbl:=zmb hj
  have hjl:=hj.inb
  rw [e] at hb hbl
  refine T.eq hb (T.abl (by rw [zLn];omega) (T.some ?_))
  rw [List.nil_append];rfl
theorem zos {t:zZ} (ht:zdt t) {i:Int} (h0:0 <= i) (h1:i < t.types.length) (b:List UInt8) (hb:b.length <= 68719476736):T (λ_=>True) (zhs t i b):=by
 unfold zhs
 have htl:=ht.types
 obtain ⟨j,hj⟩:=zbu.sub ht.kids i.toNat (by omega) (by omega)
 have hjl:=hj.inb
 obtain ⟨x,hx,hok,hkid⟩:=hj
 have hfl:=zf7 hkid hjl (by omega)
 have hg:∀ {β:Type} {R:β->Prop} {K:zg->Option β},T R (K x)->T R (cal (zq t.types i) K):=λh=>T.get h0 h1 λy hy=>by rw [hx] at hy;cases hy;exact h
 refine T.cal (zwq b hb) λy _ _=>T.or' (T.br (λ_=>T.some trivial) λ_=>hg ?_)
 refine T.jp (ι:=Int) (λk=>0 <= k) (λJ kk=>T.br (λh=>hg ?_) λ_=>kk _ (zIl _)) λk hk=>?_
 ·have h7:=zOT h
  exact T.eq (ztH x hfl hok.root0 (hok.rootF (.inl h7))) (kk _ (Int.natCast_nonneg _))
 refine T.lp (λ(q:Int)=>0 <= q) (λ(q:Int)=>((x.fields.length:Int) - q).toNat) hk (by omega) λL q hq hL=>hg (T.br (λh=>hg (T.get hq (zOT h) λf hf=>?_)) λ_=>T.some trivial)
 have h:=zOT h
 refine T.eq (zqW ht f.ty) (T.eq (zpB _ _ ?_) (T.br (λ_=>T.some trivial) λ_=>T.ck (by omega) (hL _ (by omega) (by omega))))
 obtain ⟨c,d,e1,e2,e3,e4⟩:=zaK.mem3 zbu.le' hkid (zmv f (List.mem_of_getElem? hf))
 have:=zmb (e2.ups (h':=17) (by decide))
 unfold begT
 rw [e1]
 omega
theorem zsO (x:zg) (n:Int) (hl:x.items.length <= 1000000):T (λ_=>True) (zgb x n):=by
 unfold zgb
 refine T.lp (λ(q:Int)=>0 <= q/\q <= (x.items.length:Int)) (λ(q:Int)=>((x.items.length:Int) - q).toNat) ⟨zIl _,by omega⟩ (by omega) λL q ⟨q1,q2⟩ hL=>T.br (λh=>T.get q1 (zOT h) λy _=>T.br (λ_=>T.some trivial) λ_=>T.ck (by have:=zOT h;omega) (hL _ ⟨by omega,by have:=zOT h;omega⟩ (by have:=zOT h;omega))) λ_=>T.some trivial
theorem zoy (b:List UInt8):T (λ_=>True) (zjF b):=by
 unfold zjF
 exact T.and' (T.some trivial)
theorem zoS {t:zZ} (ht:zdt t) {i:Int} (h0:0 <= i) (h1:i < t.types.length) {v:Val} (hf:zbV v):T (λ_=>True) (zhM t i v):=by
 unfold zhM
 have htl:=ht.types
 obtain ⟨j,hj⟩:=zbu.sub ht.kids i.toNat (by omega) (by omega)
 have hjl:=hj.inb
 obtain ⟨x,hx,hok,hkid⟩:=hj
 have hil:=hok.ilen
 have hr0:=hok.root0
 have hfl:=zf7 hkid hjl (by omega)
 have hr:x.root <= 1000000:=by
  by_cases h3:x.kind=3
  ·have:=hok.rootI h3;omega
  ·by_cases h7:x.kind=7 \/ x.kind=8 \/ x.kind=9
   ·have:=hok.rootF h7;omega
   ·rw [hok.rootZ h3 h7];decide
 refine T.get h0 h1 λy hy=>?_
 rw [hx] at hy;cases hy
 refine T.jp (λ_=>True) (λJ kk=>T.br (λ_=>kk _ trivial) λ_=>T.jp (λ_=>True) (λJ2 k2=>T.br (λ_=>k2 _ trivial) λ_=>k2 _ trivial) λb _=>kk _ trivial) λb1 _=>T.or' (T.or' (T.br (λ_=>T.some trivial) λ_=>T.ck (by omega) ?_))
 refine T.jp (ι:=Int) (λ_=>True) (λJ kk=>T.br (λ_=>T.eq (zj0 ht i) (kk _ trivial)) λ_=>kk _ trivial) λk _=>T.and' (T.br (λ_=>T.cal (zos ht h0 h1 v.b hf.b) λy _ _=>T.and' (T.some trivial)) λ_=>T.br (λ_=>?_) λ_=>T.br (λ_=>?_) λ_=>T.some trivial)
 ·exact T.jp (λ_=>True) (λJ kk=>T.br (λ_=>T.cal (zsO x _ (by omega)) λy _ _=>kk _ trivial) λ_=>kk _ trivial) λb _=>T.some trivial
 ·refine T.and' (T.jp (λ_=>True) (λJ kk=>T.br (λ_=>T.jp (λ_=>True) (λJ2 k2=>T.br (λ_=>T.cal (zoy _) λy _ _=>k2 _ trivial) λ_=>k2 _ trivial) λb _=>T.jp (λ_=>True) (λJ2 k2=>T.br (λ_=>k2 _ trivial) λ_=>T.jp (λ_=>True) (λJ3 k3=>T.br (λ_=>k3 _ trivial) λ_=>k3 _ trivial) λb _=>k2 _ trivial) λb _=>kk _ trivial) λ_=>kk _ trivial) λb _=>T.some trivial)
theorem ztX (a b:Tag):T (λ_=>True) (zk7 a b):=by
 unfold zk7
 first
  | exact T.br (λ_=>T.some trivial) λ_=>T.some trivial
  | exact T.jp (λ_=>True) (λJ kk=>T.br (λ_=>kk _ trivial) λ_=>T.jp (λ_=>True) (λJ2 k2=>T.br (λ_=>k2 _ trivial) λ_=>k2 _ trivial) λb _=>kk _ trivial) λb _=>T.some trivial
theorem zso {t:zZ} (ht:zdt t) {i:Int} (h0:0 <= i) (h1:i < t.types.length) {v:Val} (hf:zbV v):T (λ_=>True) (zhe t i v):=by
 unfold zhe
 have hml:=hf.more
 refine T.br (λ_=>T.some trivial) λ_=>T.get h0 h1 λx hx=>?_
 have hsl:(zhq t i).length <= 100000/\0 <= (((zhq t i).length:Nat):Int):=by
  refine ⟨?_,by omega⟩
  unfold zhq
  rw [if_pos h0,hx]
  dsimp only
  split
  ·have:=(ziA (c:=!decide (x.kind=9)) (fs:=x.fields) (rng x.root x.fields.length) [] 0 (zNl _) (λs hs=>by cases hs)).1
   rw [zjW] at this
   obtain ⟨j,hj⟩:=zbu.sub ht.kids i.toNat (by omega) (by omega)
   have hjl:=hj.inb
   have htl:=ht.types
   obtain ⟨x',hx',hok,hkid⟩:=hj
   rw [hx] at hx';cases hx'
   have hfl:=zf7 hkid hjl (by omega)
   have hr0:=hok.root0
   unfold slots
   omega
  ·exact zNz _
 refine T.jp (λ_=>True) (λJ kk=>T.br (λ_=>kk _ trivial) λ_=>T.jp (λ_=>True) (λJ2 k2=>T.br (λ_=>k2 _ trivial) λ_=>k2 _ trivial) λb _=>kk _ trivial) λb1 _=>T.br (λ_=>T.some trivial) λ_=>?_
 refine T.lp (ι:=Int × Tag) (λq=>0 <= q.1/\q.1 <= (v.more.length:Int)/\(v.rule=2->∀ r,0 < q.1->v.more[(q.1 - 1).toNat]?=some r->0 <= r.n/\r.n < 1000)) (λq=>((v.more.length:Int) - q.1).toNat) ⟨zIl _,by dsimp only;omega,λ_ r h=>by dsimp only at h;omega⟩ (by dsimp only;omega) λL q ⟨q1,q2,q3⟩ hL=>?_
 obtain ⟨k,tg⟩:=q
 dsimp only at q1 q2 q3 hL ⊢
 refine T.br (λhc=>?_) λ_=>T.some trivial
 have hc:=zOT hc
 obtain ⟨r,hr⟩:∃ r,v.more[k.toNat]?=some r:=⟨_,List.getElem?_eq_getElem (by omega)⟩
 have hrb:=hf.raw r (List.mem_of_getElem? hr)
 have ek:(k + 1 - 1).toNat=k.toNat:=by omega
 refine T.jp (ι:=Tag) (λ_=>v.rule=2->0 <= r.n/\r.n < 1000) (λJ kk=>T.get q1 hc λy hy=>?_) λtg2 hn=>T.ck (by omega) (hL _ ⟨by dsimp only;omega,by dsimp only;omega,λh2 r' _ hr'=>by
  dsimp only at hr'
  rw [ek,hr] at hr';cases hr'
  exact hn h2⟩ (by dsimp only;omega))
 rw [hr] at hy;cases hy
 refine T.br (λh2=>?_) λh2=>?_
 ·have h2:=zOT h2
  refine T.eq (zj0 ht i) (T.jp (ι:=Int) (λl=>0 <= l) (λJ2 k2=>T.br (λhp=>?_) λ_=>k2 _ hsl.2) λl hl=>T.or' (T.jp (λb=>b=false->0 <= r.n/\r.n < 1000) (λJ3 k3=>T.br (λ_=>k3 _ λh=>(by cases h)) λh5=>T.cal (zoy _) λy _ _=>k3 _ λ_=>?_) λb hb=>T.br (λ_=>T.some trivial) λh6=>kk _ λ_=>hb h6))
  ·have hp:=zOT hp
   refine T.ck (by omega) (T.get (by omega) (by omega) λz hz=>?_)
   have:=q3 h2 z hp hz
   exact T.ck (by omega) (k2 _ (by omega))
  ·rw [Bool.or_eq_false_iff] at h5
   have h7:=zOF h5.1
   have h8:=zOF h5.2
   omega
 ·have h2:=zOF h2
  refine T.cal (zos ht h0 h1 _ hrb) λy _ _=>T.or' (T.jp (λ_=>True) (λJ3 k3=>T.br (λ_=>k3 _ trivial) λ_=>T.get h0 h1 λx2 _=>T.and' (T.jp (λ_=>True) (λJ4 k4=>T.br (λ_=>T.cal (ztX _ _) λy _ _=>k4 _ trivial) λ_=>k4 _ trivial) λb _=>k3 _ trivial)) λb _=>T.br (λ_=>T.some trivial) λ_=>kk _ λh=>absurd h h2)
/-! ### zM -/
def zov (fs:List zaF) (a b:Int) (s:List Int):Prop:=∃ k0 r,s=k0 :: r/\(r=[] \/ 0 < grp fs k0)/\∀ k ∈ s,a <= k/\k < b
theorem zov.mono {fs:List zaF} {a b b':Int} {s:List Int} (h:zov fs a b s) (hb:b <= b'):zov fs a b' s:=by
 obtain ⟨k0,r,h1,h2,h3⟩:=h
 exact ⟨k0,r,h1,h2,λk hk=>⟨(h3 k hk).1,by have:=(h3 k hk).2;omega⟩⟩
theorem zuP (c:Bool) (fs:List zaF) (a:Int):∀ n:Nat,(∀ s ∈ (rng a (a + n)).foldl (zeo c fs) [],zov fs a (a + n) s) /\
    (0 < n->∃ s,((rng a (a + n)).foldl (zeo c fs) [])[((rng a (a + n)).foldl (zeo c fs) []).length - 1]?=some s/\s.getLast?=some (a + n - 1))/\(n=0->(rng a (a + n)).foldl (zeo c fs) []=[]):=by
  intro n
  induction n with
  | zero =>
    have e:rng a (a + ((0:Nat):Int))=[]:=zj9 (by omega)
    rw [e]
    exact ⟨λs hs=>(by cases hs),λh=>absurd h (by omega),λ_=>rfl⟩
  | succ n ih =>
    obtain ⟨h1,h2,h3⟩:=ih
    have e:rng a (a + ((n + 1:Nat):Int))=rng a (a + n) ++ [a + n]:=by
      have:a + ((n + 1:Nat):Int)=a + n + 1:=by omega
      rw [this,zl5 (by omega)]
    rw [e,List.foldl_append]
    generalize hout:(rng a (a + n)).foldl (zeo c fs) []=out at h1 h2 h3
    show (∀ s ∈ zeo c fs out (a + n),_)/\(_->∃ s,(zeo c fs out (a + n))[(zeo c fs out (a + n)).length - 1]?=some s/\_)/\_
    refine ⟨?_,?_,λh=>absurd h (by omega)⟩
    · intro s hs
      unfold zeo at hs
      split at hs
      · rename_i h
        obtain ⟨g1,g2⟩:=h
        rw [zBa,zBa] at g1
        have g3:=zOT g1.1.2
        have g4:=zOT g1.2
        have hn:0 < n:=by
          rcases Nat.eq_zero_or_pos n with h | h
          · rw [h3 h] at g4;exact absurd g4 (by simp)
          · exact h
        obtain ⟨s0,e0,e1⟩:=h2 hn
        rcases List.mem_or_eq_of_mem_set hs with h | h
        · exact (h1 s h).mono (by omega)
        · rw [e0] at h
          obtain ⟨k0,r,r1,r2,r3⟩:=h1 s0 (List.mem_of_getElem? e0)
          subst h
          refine ⟨k0,r ++ [a + n],by rw [r1];rfl,.inr ?_,λk hk=>?_⟩
          · rcases r2 with r2 | r2
            · subst r2
              rw [r1] at e1
              have:k0=a + n - 1:=by simpa using e1
              rw [this,g2];exact g3
            · exact r2
          · rcases List.mem_append.1 hk with h | h
            · have:=r3 k h;omega
            · rw [zMo.1 h];omega
      · rcases List.mem_append.1 hs with h | h
        · exact (h1 s h).mono (by omega)
        · rw [zMo.1 h]
          exact ⟨a + n,[],rfl,.inl rfl,λk hk=>by rw [zMo.1 hk];omega⟩
    · intro _
      unfold zeo
      split
      · rename_i h
        have g1:=h.1
        rw [zBa] at g1
        have g4:=zOT g1.2
        rw [List.length_set]
        refine ⟨_,List.getElem?_set_self (by omega),?_⟩
        rw [List.getLast?_append]
        show some (a + (n:Int))=_
        congr 1;omega
      · refine ⟨[a + n],?_,?_⟩
        · rw [zLa,zLs,List.getElem?_append_right (by omega)]
          have:out.length + 1 - 1 - out.length=0:=by omega
          rw [this];rfl
        · show some (a + (n:Int))=_
          congr 1;omega
theorem zl7 {x:zg} (h0:0 <= x.root):∀ s ∈ slots x,zov x.fields x.root x.fields.length s:=by
 unfold slots
 rcases Int.lt_or_le x.root x.fields.length with h | h
 ·have e:((x.fields.length:Nat):Int)=x.root + ((((x.fields.length:Int) - x.root).toNat:Nat):Int):=by omega
  rw [e]
  exact (zuP _ x.fields x.root _).1
 ·rw [zj9 h]
  intro s hs;cases hs
theorem zld {t:zZ} {i:Int} {x:zg} (h0:0 <= i) (hx:t.types[i.toNat]?=some x) (hk:x.kind=7 \/ x.kind=8):zhq t i=slots x:=by
 unfold zhq
 rw [if_pos h0,hx]
 exact if_pos (by omega)
theorem zlh {x:zg} (h0:0 <= x.root):(slots x).length <= x.fields.length:=by
 have:=(ziA (c:=!decide (x.kind=9)) (fs:=x.fields) (rng x.root x.fields.length) [] 0 (zNl _) (λs hs=>by cases hs)).1
 rw [zjW] at this
 unfold slots
 omega
theorem zkj {x:zg} (h0:0 <= x.root):∀ s ∈ slots x,s.length <= x.fields.length:=λs hs=>by
 have:=(ziA (c:=!decide (x.kind=9)) (fs:=x.fields) (rng x.root x.fields.length) [] 0 (zNl _) (λs hs=>by cases hs)).2 s hs
 rw [zjW] at this
 omega

/-! ### Small parts -/
theorem nt {c:Bool} (h:(!c)=false):c=true:=by
 cases c with
 | false=>cases h
 | true=>rfl
def ze0 (c:zbx) (v:Int):Bool:=!c.has || ((!c.hasLow || decide (c.low <= v)) && (!c.hasHigh || decide (v <= c.high)))
theorem zhz (c:zbx) (v:Int):zeg c v=some (ze0 c v):=by
 unfold zeg ze0
 generalize decide (c.low <= v)=d1
 generalize decide (v <= c.high)=d2
 cases c.has <;> cases c.hasLow <;> cases c.hasHigh <;> cases d1 <;> cases d2 <;> rfl
theorem zhx (c:zbx) (v:Int):zeD c v=some (ze0 c v):=by
 unfold zeD ze0
 generalize decide (c.low <= v)=d1
 generalize decide (v <= c.high)=d2
 cases c.has <;> cases c.hasLow <;> cases c.hasHigh <;> cases d1 <;> cases d2 <;> rfl
theorem ztR (x:zg) (n:Int) (hl:x.items.length <= 1000000):T (λr=>0 <= r->∃ it ∈ x.items,it.number=n) (zgb x n):=by
 unfold zgb
 refine T.lp (ι:=Int) (λ(q:Int)=>0 <= q/\q <= (x.items.length:Int)) (λ(q:Int)=>((x.items.length:Int) - q).toNat) ⟨zIl _,by omega⟩ (by omega) λL q ⟨q1,q2⟩ hL=>T.br (λh=>T.get q1 (zOT h) λy hy=>T.br (λh2=>T.some λ_=>⟨y,List.mem_of_getElem? hy,zOT h2⟩) λ_=>T.ck (by have:=zOT h;omega) (hL _ ⟨by omega,by have:=zOT h;omega⟩ (by have:=zOT h;omega))) λ_=>T.some λh=>absurd h (by decide)
theorem zwd (x:zg) (n:Int) (hl:x.items.length <= 1000000) (hi:∃ it ∈ x.items,it.number=n):T (λr=>0 <= r) (zeb x n):=by
 unfold zeb za7
 refine T.cal (Q:=λr=>0 <= r) ?_ λr _ hr=>T.some hr
 refine T.lp (ι:=Int) (λ(q:Int)=>0 <= q/\q <= (x.items.length:Int)/\∀ k:Nat,(k:Int) < q->∀ it,x.items[k]?=some it->it.number ≠ n) (λ(q:Int)=>((x.items.length:Int) - q).toNat) ⟨zIl _,by omega,λk h=>by omega⟩ (by omega) λL q ⟨q1,q2,q3⟩ hL=>T.br (λh=>?_) λh=>?_
 ·have h:=zOT h
  refine T.get q1 h λy hy=>T.eq (y:=decide (y.number=n)) rfl (T.br (λh2=>T.some q1) λh2=>T.ck (by omega) (hL _ ⟨by omega,by omega,λk hk it hit=>?_⟩ (by omega)))
  rcases Int.lt_or_le (k:Int) q with h4 | h4
  ·exact q3 k h4 it hit
  ·have:k=q.toNat:=by omega
   rw [this,hy] at hit;cases hit
   exact zOF h2
 ·have h:=zOF h
  obtain ⟨it,h1,h2⟩:=hi
  obtain ⟨k,hk⟩:=List.mem_iff_getElem?.1 h1
  have:=(List.getElem?_eq_some_iff.1 hk).1
  exact absurd h2 (q3 k (by omega) it hk)
theorem zua {t:zZ} (ht:zdt t) {i:Int} (h0:0 <= i) (h1:i < t.types.length) {v:Val} (hf:zbV v):T (λr=>r=true->v.more=[]->v.rule=0) (zhe t i v):=by
 by_cases hm:v.more=[]
 ·unfold zhe
  refine T.br (λ_=>T.some λh _=>zOT h) λh=>?_
  have:=zOF h
  rw [hm] at this
  exact absurd rfl this
 ·exact (zso ht h0 h1 hf).mono λr _ _ h=>absurd h hm

/-! ### What fits -/
def zc2:Val:=Val.mk 0 0 [] [] 0 []
def thr (v:Val) (k:Int):Bool:=match v.l[k.toNat]? with
 | some w=>!decide (w.kind=0)
 | none=>false
def lck (x:zg) (v:Val) (k:Int):Bool:=!thr v k && !(match x.fields[k.toNat]? with
 | some f=>f.optional || f.has
 | none=>false)
def Grp (x:zg) (v:Val) (s:List Int):Prop:=(decide (0 < grp x.fields (s.headD 0)) && s.any (thr v) && s.any (lck x v))=false
def znk (x:zg) (F:Int->Val->Prop) (k:Nat) (f:zaF) (w:Val):Prop :=
 (w.kind=0/\w=zc2/\(f.optional=true \/ f.has=true \/ x.root <= (k:Int))) \/ (w.kind ≠ 0/\F f.ty w/\(f.has=true->w ≠ f.dflt))
def zp0 (x:zg) (v:Val) (F:Int->Val->Prop):Prop :=
 (x.kind=1/\pln v true false false false=true/\(decide (v.n=0) || decide (v.n=1))=true) \/
 (x.kind=2/\pln v true false false false=true/\(x.con.more || ze0 x.con v.n)=true) \/
 (x.kind=3/\pln v true false false false=true/\∃ it ∈ x.items,it.number=v.n) \/
 (x.kind=4/\pln v false false false false=true) \/
 ((x.kind=5 \/ x.kind=6)/\pln v false true false false=true/\(v.b.length:Int) <= 70000/\(x.con.more || ze0 x.con (v.b.length:Int))=true/\(x.kind=5 \/ zcy v.b=some true)) \/
 (x.kind=10/\pln v false false true false=true/\(x.con.more || ze0 x.con (v.l.length:Int))=true/\∀ w ∈ v.l,F x.of w) \/
 (x.kind=9/\pln v true false true false=true/\0 <= v.n/\∃ f w,x.fields[v.n.toNat]?=some f/\v.l=[w]/\F f.ty w) \/
 ((x.kind=7 \/ x.kind=8)/\pln v false false true true=true/\(v.more=[]->v.rule=0)/\v.l.length=x.fields.length /\
  (∀ (k:Nat) f w,x.fields[k]?=some f->v.l[k]?=some w->znk x F k f w)/\∀ s ∈ slots x,Grp x v s)
def Fit (t:zZ):Nat->Int->Val->Prop
 | 0,_,_=>False
 | h + 1,i,v=>0 <= i/\∃ x:zg,t.types[i.toNat]?=some x/\(v.kind=12 \/ v.kind=x.kind/\zp0 x v (Fit t h))
theorem zhJ {l:List Int} {p:Int->Bool} {n:Nat} {y:Int} (h:l[n]?=some y):(l.take (n + 1)).any p=((l.take n).any p || p y):=by
 rw [List.take_add_one,h,List.any_append]
 simp
theorem zqQ {t:zZ} (ht:zdt t) {h:Nat} {i:Int} {x:zg} {v:Val} {d:Int} {Fi Fs} (h0:0 <= i) (hx:t.types[i.toNat]?=some x) (hk:x.kind=7 \/ x.kind=8) (hf:zbV v) (hc:cnt v <= 100000) (hd:0 <= d/\d <= 17)
    (ih:∀ (j:Int) w,w ∈ v.l->T (λr=>r=true->Fit t h j w) (Fi t j w (d + 1))):T (λr=>r=true->zp0 x v (Fit t h)) (zdW Fs Fi t i v d):=by
  unfold zdW
  have htl:=ht.types
  have hlt:=(List.getElem?_eq_some_iff.1 hx).1
  have hi:i < t.types.length:=by omega
  obtain ⟨j,hj⟩:=zbu.sub ht.kids i.toNat (by omega) (by omega)
  have hjl:=hj.inb
  obtain ⟨x',hx',hok,hkid⟩:=hj
  rw [hx] at hx';cases hx'
  have hfl:=zf7 hkid hjl (by omega)
  have hr0:=hok.root0
  have hvl:=hf.l
  have eg:zq t.types i=some x:=by rw [zbm h0 hi];exact congrArg some (List.getElem?_eq_some_iff.1 hx).2
  refine T.eq eg (T.eq (zcF v _ _ _ _) (T.or' ?_))
  refine T.jp (λb=>b=false->pln v false false true true=true/\v.l.length=x.fields.length/\(v.more=[]->v.rule=0)) (λJ kk=>T.br (λ_=>kk _ λh=>by cases h) λh1=>T.cal (zua ht h0 hi hf) λy _ hy=>kk _ λh2=>?_) λq7 h7=>T.br (λ_=>T.some λh=>by cases h) λhq=>?_
  · rw [Bool.or_eq_false_iff] at h1
    exact ⟨by simpa using h1.1,zpS h1.2,hy (by simpa using h2)⟩
  obtain ⟨hp,hlen,hrule⟩:=h7 hq
  refine T.lp (ι:=Int) (λ(q:Int)=>0 <= q/\q <= (x.fields.length:Int)/\∀ (k:Nat),(k:Int) < q->∀ f w,x.fields[k]?=some f->v.l[k]?=some w->znk x (Fit t h) k f w) (λ(q:Int)=>((x.fields.length:Int) - q).toNat) ⟨zIl _,by omega,λk hk=>by omega⟩ (by omega) λL q ⟨q1,q2,q3⟩ hL=>T.br (λhb=>?_) λhb=>?_
  · have hb:=zOT hb
    refine T.jp (ι:=Unit) (λ_=>∀ f w,x.fields[q.toNat]?=some f->v.l[q.toNat]?=some w->znk x (Fit t h) q.toNat f w) (λJ kk=>?_) λ_ hu=>T.ck (by omega) (hL _ ⟨by omega,by omega,λk hk f w hkf hkw=>?_⟩ (by omega))
    · refine T.get q1 hb λf hff=>T.or' (T.get q1 (by omega) λw hw=>?_)
      have hwm:=List.mem_of_getElem? hw
      have hg:∀ {β:Type} {R:β->Prop} {K:Val->Option β},T R (K w)->T R (Sy.cal (zq v.l q) K):=λhK=>T.get q1 (by omega) λy hy=>by rw [hw] at hy;cases hy;exact hK
      have hcw:=zc9 hwm
      refine T.br (λhz=>hg ?_) λhz=>hg ?_
      · have hz:=zOT hz
        refine T.cal (zhp (k:=100000) (n:=fuel) (by omega) (by unfold fuel;omega) (hf.kid w hwm) _) λr _ hr=>T.orJ (d:=!(f.optional || f.has) && decide (q < x.root)) (λJ2 h2=>T.and' h2) (T.br (λ_=>T.some λh=>by cases h) λhq=>kk _ λf' w' hf' hw'=>?_)
        rw [hff] at hf';cases hf'
        rw [hw] at hw';cases hw'
        rw [Bool.or_eq_false_iff] at hq
        refine .inl ⟨hz,hr.1 (by simpa using hq.1),?_⟩
        have h2:=hq.2
        rw [Bool.and_eq_false_iff] at h2
        rcases h2 with h2 | h2
        · have:(f.optional || f.has)=true:=nt h2
          rw [Bool.or_eq_true] at this
          exact this.elim .inl λh=>.inr (.inl h)
        · have:=zOF h2
          exact .inr (.inr (by omega))
      · have hz:=zOF hz
        refine T.ck (by omega) (T.cal (ih f.ty w hwm) λy _ hy=>?_)
        refine T.jp (λb=>b=false->y=true/\(f.has=true->w ≠ f.dflt)) (λJ2 k2=>T.br (λ_=>k2 _ λh=>by cases h) λhy2=>?_) λb hb2=>T.br (λ_=>T.some λh=>by cases h) λhq=>kk _ λf' w' hf' hw'=>?_
        · have hy2:y=true:=by simpa using hy2
          refine T.jp (λb=>b=false->f.has=true->w ≠ f.dflt) (λJ3 k3=>T.br (λhh=>hg (T.cal (zhp (k:=100000) (n:=fuel) (by omega) (by unfold fuel;omega) (hf.kid w hwm) _) λr _ hr=>k3 _ λh1 _ h2=>?_)) λhh=>k3 _ λ_ h=>by rw [hh] at h;cases h) λb hb3=>k2 _ λh=>⟨hy2,hb3 h⟩
          rw [hr.2 h2] at h1;cases h1
        · rw [hff] at hf';cases hf'
          rw [hw] at hw';cases hw'
          obtain ⟨b1,b2⟩:=hb2 hq
          exact .inr ⟨hz,hy b1,b2⟩
    · rcases Int.lt_or_le (k:Int) q with h4 | h4
      · exact q3 k h4 f w hkf hkw
      · have:k=q.toNat:=by omega
        subst this
        exact hu f w hkf hkw
  have hb:=zOF hb
  have hfields:∀ (k:Nat) f w,x.fields[k]?=some f->v.l[k]?=some w->znk x (Fit t h) k f w:=λk f w h1 h2=>q3 k (by have:=(List.getElem?_eq_some_iff.1 h1).1;omega) f w h1 h2
  clear hL q3
  refine T.eq (zj0 ht i) ?_
  rw [zld h0 hx hk]
  have hsl:=zlh hr0
  refine T.lp (ι:=Int) (λ(q:Int)=>0 <= q/\q <= ((slots x).length:Int)/\∀ (k:Nat),(k:Int) < q->∀ s,(slots x)[k]?=some s->Grp x v s) (λ(q:Int)=>(((slots x).length:Int) - q).toNat) ⟨zIl _,by omega,λk hk=>by omega⟩ (by omega) λL q ⟨q1,q2,q3⟩ hL=>T.br (λhb=>?_) λhb=>T.some λ_=>?_
  · have hb:=zOT hb
    obtain ⟨s,hs⟩:∃ s,(slots x)[q.toNat]?=some s:=⟨_,List.getElem?_eq_getElem (by omega)⟩
    have hg:∀ {β:Type} {R:β->Prop} {K:List Int->Option β},T R (K s)->T R (Sy.cal (zq (slots x) q) K):=λhK=>T.get q1 hb λy hy=>by rw [hs] at hy;cases hy;exact hK
    have hsm:=List.mem_of_getElem? hs
    obtain ⟨k0,r,e0,e1,e2⟩:=zl7 hr0 s hsm
    have hsl2:=zkj hr0 s hsm
    refine T.lp (ι:=Bool × Bool × Int) (λp=>0 <= p.2.2/\p.2.2 <= (s.length:Int)/\p.1=(s.take p.2.2.toNat).any (thr v)/\p.2.1=(s.take p.2.2.toNat).any (lck x v)) (λp=>((s.length:Int) - p.2.2).toNat) ⟨zIl _,by dsimp only;omega,rfl,rfl⟩ (by dsimp only;omega) λL2 p ⟨p1,p2,p3,p4⟩ hL2=>hg (T.br (λhc2=>?_) λhc2=>?_)
    · obtain ⟨so,la,m⟩:=p
      dsimp only at p1 p2 p3 p4 hL2 hc2 ⊢
      have hc2:=zOT hc2
      have em:(m + 1).toNat=m.toNat + 1:=by omega
      refine hg (T.get p1 hc2 λk hk=>?_)
      obtain ⟨k1,k2⟩:=e2 k (List.mem_of_getElem? hk)
      refine T.get (by omega) k2 λf hff=>hg (T.get p1 hc2 λk' hk'=>?_)
      rw [hk] at hk';cases hk'
      refine T.get (by omega) (by omega) λw hw=>T.or' ?_
      have eth:(!decide (w.kind=0))=thr v k:=by unfold thr;rw [hw]
      have elk:(!(!decide (w.kind=0)) && (!f.optional) && (!f.has))=lck x v k:=by
        unfold lck
        rw [<- eth,hff]
        show _=(!(!decide (w.kind=0)) && !(f.optional || f.has))
        cases decide (w.kind=0) <;> cases f.optional <;> cases f.has <;> rfl
      refine T.orJ (d:=lck x v k) (λJ h2=>T.and' (T.and' ?_)) (T.ck (by omega) (hL2 _ ⟨by dsimp only;omega,by dsimp only;omega,?_,?_⟩ (by dsimp only;omega)))
      · rw [elk];exact h2
      · dsimp only;rw [em,zhJ hk,p3,eth]
      · dsimp only;rw [em,zhJ hk,p4]
    · obtain ⟨so,la,m⟩:=p
      dsimp only at p1 p2 p3 p4 hL2 hc2 ⊢
      have hc2:=zOF hc2
      rw [zTl (by omega)] at p3 p4
      refine hg (T.get (zIl _) (by rw [e0,zLc];omega) λk hk=>?_)
      have ek:k=k0:=by rw [e0] at hk;simpa using hk.symm
      subst ek
      obtain ⟨k1,k2⟩:=e2 k (by rw [e0];exact zMs)
      refine T.get (by omega) k2 λf hff=>T.and' (T.and' (T.br (λ_=>T.some λh=>by cases h) λhq=>T.ck (by omega) (hL _ ⟨by omega,by omega,λn hn s' hs'=>?_⟩ (by omega))))
      rcases Int.lt_or_le (n:Int) q with h4 | h4
      · exact q3 n h4 s' hs'
      · have:n=q.toNat:=by omega
        subst this
        rw [hs] at hs';cases hs'
        unfold Grp
        have eg:grp x.fields (s.headD 0)=f.group:=by
          rw [e0]
          show grp x.fields k=_
          unfold grp
          rw [hff];rfl
        rw [eg,<- p3,<- p4]
        exact hq
  · have hb:=zOF hb
    refine .inr (.inr (.inr (.inr (.inr (.inr (.inr ⟨hk,hp,hrule,hlen,hfields,λs hs=>?_⟩))))))
    obtain ⟨n,hn⟩:=List.mem_iff_getElem?.1 hs
    exact q3 n (by have:=(List.getElem?_eq_some_iff.1 hn).1;omega) s hn
theorem zuM {t:zZ} (ht:zdt t):∀ {h n:Nat} {i:Int} {v:Val} {d:Int},0 <= d->d + h=18->2 * h + 2 <= n->zbV v->cnt v <= 100000->T (λr=>r=true->Fit t h i v) (zex n t i v d):=by
 intro h
 induction h with
 | zero =>
  intro n i v d d0 hd hn hf hc
  obtain ⟨n,rfl⟩:∃ n',n=n' + 1:=⟨n - 1,by omega⟩
  show T _ (ze3 (zfL n) (zex n) t i v d)
  unfold ze3
  refine T.or' (T.or' (T.br (λ_=>T.some λh=>by cases h) λhq=>?_))
  rw [Bool.or_eq_false_iff] at hq
  have:=zOF hq.2
  omega
 | succ h ih =>
  intro n i v d d0 hd hn hf hc
  obtain ⟨n,rfl⟩:∃ n',n=n' + 2:=⟨n - 2,by omega⟩
  show T _ (ze3 (zfL (n + 1)) (zex (n + 1)) t i v d)
  unfold ze3
  have htl:=ht.types
  have hvl:=hf.l
  refine T.or' (T.or' (T.br (λ_=>T.some λh=>by cases h) λhq=>?_))
  rw [Bool.or_eq_false_iff,Bool.or_eq_false_iff] at hq
  have i0:0 <= i:=by have:=zOF hq.1.1;omega
  have i1:i < t.types.length:=by have:=zOF hq.1.2;omega
  obtain ⟨x,hx⟩:∃ x,t.types[i.toNat]?=some x:=⟨_,List.getElem?_eq_getElem (by omega)⟩
  obtain ⟨j,hj⟩:=zbu.sub ht.kids i.toNat (by omega) (by omega)
  have hjl:=hj.inb
  obtain ⟨x',hx',hok,hkid⟩:=hj
  rw [hx] at hx';cases hx'
  have hil:=hok.ilen
  have kid:∀ (j:Int) w,w ∈ v.l->T (λr=>r=true->Fit t h j w) (zex (n + 1) t j w (d + 1)):=λj w hw=>ih (by omega) (by omega) (by omega) (hf.kid w hw) (by have:=zc9 hw;omega)
  have mk:∀ r:Bool,v.kind=x.kind->(r=true->zp0 x v (Fit t h))->(r=true->Fit t (h + 1) i v):=λr e k hr=>⟨i0,x,hx,.inr ⟨e,k hr⟩⟩
  refine T.get i0 i1 λy hy=>?_
  rw [hx] at hy;cases hy
  refine T.br (λh12=>T.cal (zoS ht i0 i1 hf) λy _ _=>T.some λ_=>⟨i0,x,hx,.inl (zOT h12)⟩) λh12=>T.br (λ_=>T.some λh=>by cases h) λhkk=>?_
  have hkk:v.kind=x.kind:=by simpa using hkk
  refine T.br (λk1=>?_) λ_=>T.br (λk2=>?_) λ_=>T.br (λk3=>?_) λ_=>T.br (λk4=>?_) λ_=>?_
  ·refine T.eq (zcF v _ _ _ _) (T.andJ (d:=decide (v.n=0) || decide (v.n=1)) (λJ hh=>T.or' hh) (T.some (mk _ hkk λhr=>?_)))
   rw [zBa] at hr
   exact .inl ⟨zOT k1,hr.1,hr.2⟩
  ·refine T.eq (zcF v _ _ _ _) (T.andJ (d:=x.con.more || ze0 x.con v.n) (λJ hh=>T.orJ (d:=ze0 x.con v.n) (λJ2 h2=>T.eq (zhz _ _) h2) hh) (T.some (mk _ hkk λhr=>?_)))
   rw [zBa] at hr
   exact .inr (.inl ⟨zOT k2,hr.1,hr.2⟩)
  ·refine T.eq (zcF v _ _ _ _) (T.jp (λb=>b=true->pln v true false false false=true/\∃ it ∈ x.items,it.number=v.n) (λJ kk=>T.br (λhp=>T.cal (ztR x v.n (by omega)) λy _ hy=>kk _ λh=>⟨hp,hy (zOT h)⟩) λ_=>kk _ λh=>by cases h) λb hb=>T.some (mk _ hkk λhr=>?_))
   exact .inr (.inr (.inl ⟨zOT k3,(hb hr).1,(hb hr).2⟩))
  ·exact T.eq (zcF v _ _ _ _) (T.some (mk _ hkk λhr=>.inr (.inr (.inr (.inl ⟨zOT k4,hr⟩)))))
  refine T.jp (λb=>b=true->x.kind=5 \/ x.kind=6) (λJ kk=>T.br (λh5=>kk _ λ_=>.inl (zOT h5)) λ_=>kk _ λh=>.inr (zOT h)) λb56 h56=>T.br (λhb=>?_) λ_=>T.br (λk10=>?_) λ_=>T.br (λk9=>?_) λ_=>?_
  ·refine T.eq (zcF v _ _ _ _) (T.and' (T.andJ (d:=x.con.more || ze0 x.con (v.b.length:Int)) (λJ hh=>T.orJ (d:=ze0 x.con (v.b.length:Int)) (λJ2 h2=>T.eq (zhz _ _) h2) hh) ?_))
   refine T.jp (λb=>b=true->(pln v false true false false=true/\(v.b.length:Int) <= 70000/\(x.con.more || ze0 x.con (v.b.length:Int))=true)/\(x.kind=5 \/ zcy v.b=some true)) (λJ kk=>T.br (λhp=>?_) λ_=>kk _ λh=>by cases h) λb hb2=>T.some (mk _ hkk λhr=>?_)
   ·rw [zBa,zBa] at hp
    have hp1:=zOT hp.1.2
    refine T.jp (λb=>b=true->x.kind=5 \/ zcy v.b=some true) (λJ2 k2=>T.br (λh5=>k2 _ λ_=>.inl (zOT h5)) λ_=>T.cal (znS v.b (by omega)) λy hy _=>k2 _ λh=>.inr (by rw [hy,h])) λb hb3=>kk _ λh=>⟨⟨hp.1.1,hp1,hp.2⟩,hb3 h⟩
   ·obtain ⟨⟨r1,r2,r3⟩,r4⟩:=hb2 hr
    exact .inr (.inr (.inr (.inr (.inl ⟨h56 hb,r1,r2,r3,r4⟩))))
  ·refine T.eq (zcF v _ _ _ _) (T.orJ (d:=!x.con.more && !ze0 x.con (v.l.length:Int)) (λJ hh=>T.andJ (d:=!ze0 x.con (v.l.length:Int)) (λJ2 h2=>T.eq (zhz _ _) h2) hh) (T.br (λ_=>T.some λh=>by cases h) λhq2=>?_))
   rw [Bool.or_eq_false_iff] at hq2
   have hp:pln v false false true false=true:=by simpa using hq2.1
   have hw:(x.con.more || ze0 x.con (v.l.length:Int))=true:=by
    have:=hq2.2
    cases h1:x.con.more <;> cases h2:ze0 x.con (v.l.length:Int) <;> simp_all
   refine T.lp (ι:=Int) (λ(q:Int)=>0 <= q/\q <= (v.l.length:Int)/\∀ (k:Nat),(k:Int) < q->∀ w,v.l[k]?=some w->Fit t h x.of w) (λ(q:Int)=>((v.l.length:Int) - q).toNat) ⟨zIl _,by omega,λk hk=>by omega⟩ (by omega) λL q ⟨q1,q2,q3⟩ hL=>T.br (λhb=>?_) λhb=>T.some (mk _ hkk λ_=>?_)
   ·have hb:=zOT hb
    refine T.get q1 hb λw hw=>T.ck (by omega) (T.cal (kid x.of w (List.mem_of_getElem? hw)) λy _ hy=>T.br (λ_=>T.some λh=>by cases h) λhy2=>T.ck (by omega) (hL _ ⟨by omega,by omega,λk hk w' hw'=>?_⟩ (by omega)))
    rcases Int.lt_or_le (k:Int) q with h4 | h4
    ·exact q3 k h4 w' hw'
    ·have:k=q.toNat:=by omega
     subst this
     rw [hw] at hw';cases hw'
     exact hy (by simpa using hy2)
   ·have hb:=zOF hb
    refine .inr (.inr (.inr (.inr (.inr (.inl ⟨zOT k10,hp,hw,λw hw=>?_⟩)))))
    obtain ⟨k,hk⟩:=List.mem_iff_getElem?.1 hw
    exact q3 k (by have:=(List.getElem?_eq_some_iff.1 hk).1;omega) w hk
  ·refine T.eq (zcF v _ _ _ _) (T.and' (T.and' (T.and' ?_)))
   refine T.jp (λb=>b=true->zp0 x v (Fit t h)) (λJ kk=>T.br (λhp=>?_) λ_=>kk _ λh=>by cases h) λb hb=>T.some (mk _ hkk hb)
   rw [zBa,zBa,zBa] at hp
   have hn0:=zOT hp.1.1.2
   have hn1:=zOT hp.1.2
   have hl1:=zOT hp.2
   refine T.get hn0 hn1 λf hff=>T.get (zIl _) (by omega) λw hw=>T.ck (by omega) (T.cal (kid f.ty w (List.mem_of_getElem? hw)) λy _ hy=>kk _ λhr=>?_)
   have hvl:v.l=[w]:=by
    match hl:v.l,hl1,hw with
    | [w'],_,hw =>
     have:w'=w:=by simpa using hw
     rw [this]
   exact .inr (.inr (.inr (.inr (.inr (.inr (.inl ⟨zOT k9,hp.1.1.1,hn0,f,w,hff,hvl,hy hr⟩))))))
  ·refine T.jp (λb=>b=true->x.kind=7 \/ x.kind=8) (λJ kk=>T.br (λh5=>kk _ λ_=>.inl (zOT h5)) λ_=>kk _ λh=>.inr (zOT h)) λb78 h78=>T.br (λhb=>?_) λ_=>T.some λh=>by cases h
   refine T.cal (Q:=λr=>r=true->zp0 x v (Fit t h)) ?_ λy _ hy=>T.some (mk _ hkk hy)
   show T _ (zdW (zfL n) (zex n) t i v d)
   exact zqQ ht i0 hx (h78 hb) hf hc (by omega) λj w hw=>ih (by omega) (by omega) (by omega) (hf.kid w hw) (by have:=zc9 hw;omega)
theorem zuA (x y:Raw):T (λr=>r=true ↔ x=y) (zf4 x y):=by
 unfold zf4
 refine T.andI (P:=x.n=y.n) (Q:=x.b=y.b) decide_eq_true_iff (λJ kk=>T.eq (y:=decide (Str.mk x.b=Str.mk y.b)) rfl (kk _ ?_)) λb hb=>T.some ?_
 ·rw [decide_eq_true_iff]
  exact ⟨λh=>congrArg Str.b h,λh=>by rw [h]⟩
 ·rw [hb]
  obtain ⟨a,b⟩:=x
  obtain ⟨c,d⟩:=y
  exact ⟨λ⟨h1,h2⟩=>(by cases h1;cases h2;rfl),λh=>by cases h;exact ⟨rfl,rfl⟩⟩
theorem zmK:∀ {k n:Nat} {f:Val},cnt f <= k->2 * k <= n->zbV f->∀ g,T (λr=>r=true ↔ f=g) (ze1 n f g):=by
 intro k
 induction k with
 | zero=>intro n f h;have:=zey f;omega
 | succ k ih =>
  intro n f hk hn hf g
  obtain ⟨n,rfl⟩:∃ n',n=n' + 2:=⟨n - 2,by omega⟩
  show T _ (zgT (ze1 (n + 1)) (zan (n + 1)) f g)
  unfold zgT
  refine T.andI (P:=f.kind=g.kind) (Q:=f.n=g.n) decide_eq_true_iff (λJ kk=>kk _ decide_eq_true_iff) λb1 h1=>?_
  refine T.andI (Q:=f.b=g.b) h1 (λJ kk=>T.eq (y:=decide (Str.mk f.b=Str.mk g.b)) rfl (kk _ ?_)) λb2 h2=>?_
  ·rw [decide_eq_true_iff]
   exact ⟨λh=>congrArg Str.b h,λh=>by rw [h]⟩
  refine T.andI (Q:=f.l=g.l) h2 (λJ kk=>T.cal (Q:=λr=>r=true ↔ f.l=g.l) ?_ λr _ hr=>kk _ hr) λb3 h3=>?_
  ·show T _ (zak (ze1 n) (zan n) f.l g.l)
   unfold zak
   exact zmA f.l g.l hf.l (λx hx y=>ih (by have:=zc9 hx;omega) (by omega) (hf.kid x hx) y) λL q=>rfl
  refine T.andI (Q:=f.rule=g.rule) h3 (λJ kk=>kk _ decide_eq_true_iff) λb4 h4=>?_
  refine T.andI (Q:=f.more=g.more) h4 (λJ kk=>T.cal (Q:=λr=>r=true ↔ f.more=g.more) ?_ λr _ hr=>kk _ hr) λb5 h5=>T.some ?_
  ·unfold za1
   exact zmA f.more g.more hf.more (λx hx y=>zuA x y) λL q=>rfl
  ·rw [h5,<- Val.eta f,<- Val.eta g]
   constructor
   ·rintro ⟨⟨⟨⟨⟨e1,e2⟩,e3⟩,e4⟩,e5⟩,e6⟩
    simp only [Val.eta] at e1 e2 e3 e4 e5 e6
    rw [e1,e2,e3,e4,e5,e6]
   ·intro h
    rw [Val.eta,Val.eta] at h
    subst h
    exact ⟨⟨⟨⟨⟨rfl,rfl⟩,rfl⟩,rfl⟩,rfl⟩,rfl⟩

/-! ### Stripped -/
theorem zn5 {v:Val} (h:bare (zbk v)=true):v.kind ≠ 12/\∀ w ∈ v.l,bare (zbk w)=true:=by
 have hk:v.kind ≠ 12:=λhk=>by
  rw [zjw,if_pos hk,zkc] at h
  cases h
 refine ⟨hk,λw hw=>?_⟩
 rw [zjw,if_neg hk,zkc] at h
 have h2:=(Bool.and_eq_true_iff.1 h).2
 exact List.all_eq_true.1 h2 _ (List.mem_map.2 ⟨zbk w,List.mem_map.2 ⟨w,hw,rfl⟩,rfl⟩)
theorem zkV {v:Val} (hk:v.kind ≠ 12):zbk v=Val.mk v.kind v.n v.b (v.l.map zbk) 0 []:=by rw [zjw,if_neg hk]
theorem ziL (v:Val):(zbk v).kind=v.kind:=by
 rw [zjw]
 split
 ·rename_i h;exact h.symm
 ·rfl
theorem zlV:zbk zc2=zc2:=by rw [zkV (by decide)];rfl
theorem zsG:∀ (n:Nat) (v:Val),cnt v <= n->zbV v->zbV (zbk v):=by
 intro n
 induction n with
 | zero=>intro v h;have:=zey v;omega
 | succ n ih =>
  intro v hn hf
  rw [zjw]
  split
  ·exact .mk (zNz _) (zNz _) (zNz _) (λr hr=>by cases hr) λw hw=>by cases hw
  ·refine .mk hf.b (by show (v.l.map zbk).length <= _;rw [List.length_map];exact hf.l) (zNz _) (λr hr=>by cases hr) λw hw=>?_
   obtain ⟨w',h1,h2⟩:=List.mem_map.1 (show w ∈ v.l.map zbk from hw)
   subst h2
   exact ih w' (by have:=zc9 h1;omega) (hf.kid w' h1)
theorem zug {v:Val} (hk:v.kind ≠ 12) {n b l m m':Bool} (h:pln v n b l m=true):pln (zbk v) n b l m'=true:=by
 rw [zkV hk]
 unfold pln at h ⊢
 rw [zBa] at h
 rw [zBa]
 refine ⟨?_,?_⟩
 ·show ((n || decide (v.n=0)) && (b || decide ((v.b.length:Int)=0)) && (l || decide (((v.l.map zbk).length:Int)=0)))=true
  rw [List.length_map];exact h.1
 ·show (m' || (decide ((0:Int)=0) && decide (((0:Nat):Int)=0)))=true
  cases m' <;> rfl
theorem zgj {v:Val} {n b:Bool} (hk:v.kind ≠ 12) (h:pln v n b false false=true):zbk v=v:=by
 unfold pln at h
 simp only [Bool.false_or,zBa,decide_eq_true_eq] at h
 obtain ⟨⟨⟨_,_⟩,h3⟩,h4,h5⟩:=h
 have e1:v.l=[]:=List.length_eq_zero_iff.1 (by omega)
 have e2:v.more=[]:=List.length_eq_zero_iff.1 (by omega)
 rw [zkV hk,e1,<- h4,<- e2,List.map_nil,<- e1]
 exact Val.eta v
theorem zvU {x:zg} {v:Val} {F:Int->Val->Prop} (h:zp0 x v F) (h6:x.kind <= 6) (hk:v.kind ≠ 12):zbk v=v:=by
 rcases h with ⟨_,h,_⟩ | ⟨_,h,_⟩ | ⟨_,h,_⟩ | ⟨_,h⟩ | ⟨_,h,_⟩ | ⟨h1,_⟩ | ⟨h1,_⟩ | ⟨h1,_⟩
 ·exact zgj hk h
 ·exact zgj hk h
 ·exact zgj hk h
 ·exact zgj hk h
 ·exact zgj hk h
 ·omega
 ·omega
 ·omega
theorem ztY {t:zZ}:∀ {h:Nat} {i:Int} {v:Val},Fit t h i v->bare v=true->zbk v=v:=by
 intro h
 induction h with
 | zero=>intro i v hf;exact hf.elim
 | succ h ih =>
  intro i v ⟨_,x,hx,hf⟩ hb
  rw [zkc,zBa] at hb
  have hb1:(decide (v.kind=12) || decide (0 < v.more.length))=false:=by simpa using hb.1
  rw [Bool.or_eq_false_iff] at hb1
  have hk:=zOF hb1.1
  have hm:v.more=[]:=List.length_eq_zero_iff.1 (by have:=zOF hb1.2;omega)
  have hkid:∀ w ∈ v.l,bare w=true:=λw hw=>List.all_eq_true.1 hb.2 _ (List.mem_map.2 ⟨w,hw,rfl⟩)
  have hf:=hf.resolve_left hk
  have fin:v.rule=0->(∀ w ∈ v.l,zbk w=w)->zbk v=v:=λhr hl=>by
   have:v.l.map zbk=v.l:=by
    conv=>rhs;rw [<- List.map_id v.l]
    exact List.map_congr_left λw hw=>hl w hw
   rw [zkV hk,this]
   conv=>rhs;rw [<- Val.eta v,hr,hm]
  have pl:∀ {n b l:Bool},pln v n b l false=true->v.rule=0:=λh=>by
   unfold pln at h
   simp only [Bool.false_or,zBa,decide_eq_true_eq] at h
   exact h.2.1
  rcases hf.2 with ⟨_,h,_⟩ | ⟨_,h,_⟩ | ⟨_,h,_⟩ | ⟨_,h⟩ | ⟨_,h,_⟩ | ⟨_,h,_,h2⟩ | ⟨_,h,_,f,w,_,h2,h3⟩ | ⟨_,h,hr,hl,h2,_⟩
  ·exact zgj hk h
  ·exact zgj hk h
  ·exact zgj hk h
  ·exact zgj hk h
  ·exact zgj hk h
  ·exact fin (pl h) λw hw=>ih (h2 w hw) (hkid w hw)
  ·refine fin (pl h) λw' hw=>?_
   rw [h2] at hw
   rw [zMo.1 hw]
   exact ih h3 (hkid w (by rw [h2];exact zMo.2 rfl))
  ·refine fin (hr hm) λw hw=>?_
   obtain ⟨k,hkw⟩:=List.mem_iff_getElem?.1 hw
   have hlt:=(List.getElem?_eq_some_iff.1 hkw).1
   obtain ⟨f,hf⟩:∃ f,x.fields[k]?=some f:=⟨_,List.getElem?_eq_getElem (by omega)⟩
   rcases h2 k f w hf hkw with ⟨_,e,_⟩ | ⟨_,e,_⟩
   ·rw [e];exact zlV
   ·exact ih e (hkid w hw)

/-! ### The code's side -/
def zhS (t:zZ) (b:Bool):zy:=zy.mk (ziv.mk t) b
theorem zo5 {x:zg} {k:Int} {f:zaF} (h0:0 <= k) (hf:x.fields[k.toNat]?=some f):zgD x k=some (f.optional || f.has || decide (x.root <= k)):=by
 have hlt:=(List.getElem?_eq_some_iff.1 hf).1
 have e:zq x.fields k=some f:=by rw [zbm h0 (by omega)];exact congrArg some (List.getElem?_eq_some_iff.1 hf).2
 refine T.eqs ?_
 unfold zgD
 refine T.eq e (T.orJ (d:=f.has) (λJ h=>T.eq e h) (T.or' (T.some rfl)))
theorem zsn {t:zZ} (ht:zdt t) {b:Bool} {i:Int} {x:zg} {v:Val} (h0:0 <= i) (hx:t.types[i.toNat]?=some x) (hk:x.kind=7 \/ x.kind=8) (hlen:v.l.length=x.fields.length)
    (hw:∀ w ∈ v.l,w.kind=0->w=zc2) (hg:∀ s ∈ slots x,Grp x v s) (hfl:x.fields.length <= 1000) (hr0:0 <= x.root):zcv (zhS t b) i v=some (true,zhS t b):=by
  refine T.eqs ?_
  unfold zcv
  have hlt:=(List.getElem?_eq_some_iff.1 hx).1
  have e:zq t.types i=some x:=by rw [zbm h0 (by omega)];exact congrArg some (List.getElem?_eq_some_iff.1 hx).2
  refine T.eq e (T.eq (zpF ht i) ?_)
  rw [zld h0 hx hk]
  have hsl:=zlh hr0
  refine T.lp (ι:=Int) (λ(q:Int)=>0 <= q/\q <= ((slots x).length:Int)) (λ(q:Int)=>(((slots x).length:Int) - q).toNat) ⟨zIl _,by omega⟩ (by omega) λL q ⟨q1,q2⟩ hL=>T.br (λhb=>?_) λhb=>T.some rfl
  have hb:=zOT hb
  refine T.jp (ι:=Unit) (λ_=>True) (λJ kk=>?_) λ_ _=>T.ck (by omega) (hL _ ⟨by omega,by omega⟩ (by omega))
  refine T.get q1 hb λs hs=>?_
  have hsm:=List.mem_of_getElem? hs
  obtain ⟨k0,r,e0,e1,e2⟩:=zl7 hr0 s hsm
  have hsl2:=zkj hr0 s hsm
  obtain ⟨k1,k2⟩:=e2 k0 (by rw [e0];exact zMs)
  refine T.get (zIl _) (by rw [e0,zLc];omega) λk hk'=>?_
  have ek:k=k0:=by rw [e0] at hk';simpa using hk'.symm
  subst ek
  refine T.get (by omega) k2 λf hff=>T.br (λ_=>kk _ trivial) λhgz=>?_
  have hgz:=zOF hgz
  have eg:grp x.fields k=f.group:=by unfold grp;rw [hff];rfl
  refine T.lp (ι:=Bool × Bool × Int) (λp=>0 <= p.2.2/\p.2.2 <= (s.length:Int)/\p.1=(s.take p.2.2.toNat).any (thr v)/\p.2.1=(s.take p.2.2.toNat).any (lck x v)) (λp=>((s.length:Int) - p.2.2).toNat) ⟨zIl _,by dsimp only;omega,rfl,rfl⟩ (by dsimp only;omega) λL2 p ⟨p1,p2,p3,p4⟩ hL2=>T.br (λhc2=>?_) λhc2=>?_
  · obtain ⟨so,la,m⟩:=p
    dsimp only at p1 p2 p3 p4 hL2 hc2 ⊢
    have hc2:=zOT hc2
    have em:(m + 1).toNat=m.toNat + 1:=by omega
    refine T.get p1 hc2 λk hk=>?_
    obtain ⟨k1,k2⟩:=e2 k (List.mem_of_getElem? hk)
    refine T.get (by omega) (by omega) λw hwk=>T.eq (zh9 w) ?_
    have ea:(decide (w.kind=0) && pln w false false false false)=decide (w.kind=0):=by
      by_cases hz:w.kind=0
      · rw [zmt.2 (hw w (List.mem_of_getElem? hwk) hz),zDT hz]
      · rw [zDF hz];rfl
    rw [ea]
    obtain ⟨f',hf'⟩:∃ f,x.fields[k.toNat]?=some f:=⟨_,List.getElem?_eq_getElem (by omega)⟩
    have e':zq x.fields k=some f':=by rw [zbm (by omega) (by omega)];exact congrArg some (List.getElem?_eq_some_iff.1 hf').2
    have eth:(!decide (w.kind=0))=thr v k:=by unfold thr;rw [hwk]
    have elk:(!(!decide (w.kind=0)) && (!f'.optional) && (!f'.has))=lck x v k:=by
      unfold lck
      rw [<- eth,hf']
      show _=(!(!decide (w.kind=0)) && !(f'.optional || f'.has))
      cases decide (w.kind=0) <;> cases f'.optional <;> cases f'.has <;> rfl
    refine T.or' (T.orJ (d:=lck x v k) (λJ h2=>T.andJ (d:=!f'.optional) (λJ3 h3=>T.eq e' h3) (T.andJ (d:=!f'.has) (λJ3 h3=>T.eq e' h3) ?_)) (T.ck (by omega) (hL2 _ ⟨by dsimp only;omega,by dsimp only;omega,?_,?_⟩ (by dsimp only;omega))))
    · rw [elk];exact h2
    · dsimp only;rw [em,zhJ hk,p3,eth]
    · dsimp only;rw [em,zhJ hk,p4]
  · obtain ⟨so,la,m⟩:=p
    dsimp only at p1 p2 p3 p4 hL2 hc2 ⊢
    have hc2:=zOF hc2
    rw [zTl (by omega)] at p3 p4
    refine T.and' ?_
    have hno:(so && la)=false:=by
      rcases e1 with e1 | e1
      · rw [p3,p4,e0,e1]
        unfold lck
        show ((thr v k || false) && ((!thr v k && _) || false))=false
        cases thr v k <;> rfl
      · have:=hg s hsm
        unfold Grp at this
        have eh:s.headD 0=k:=by rw [e0];rfl
        rw [eh,zDT e1,Bool.true_and] at this
        rw [p3,p4];exact this
    rw [hno]
    exact T.br (λh=>by cases h) λ_=>kk _ trivial
theorem zwS {t:zZ} (ht:zdt t) {b:Bool}:∀ {h n:Nat} {i:Int} {v:Val} {d:Int},0 <= d->d + h=18->6 * h + 6 <= n->zbV v->cnt v <= 100000->Fit t h i v->bare (zbk v)=true->zW n (zhS t b) i (zbk v) d=some (true,zhS t b):=by
 intro h
 induction h with
 | zero=>intro n i v d _ _ _ _ _ hf;exact hf.elim
 | succ h ih =>
  intro n i v d d0 hd hn hf hc hfit hb
  obtain ⟨n,rfl⟩:∃ n',n=n' + 6:=⟨n - 6,by omega⟩
  obtain ⟨hk12,hkb⟩:=zn5 hb
  obtain ⟨i0,x,hx,hfk⟩:=hfit
  obtain ⟨hkk,hfk⟩:=hfk.resolve_left hk12
  have htl:=ht.types
  have hvl:=hf.l
  have hlt:=(List.getElem?_eq_some_iff.1 hx).1
  obtain ⟨j,hj⟩:=zbu.sub ht.kids i.toNat (by omega) (by omega)
  have hjl:=hj.inb
  obtain ⟨x',hx',hok,hkid⟩:=hj
  rw [hx] at hx';cases hx'
  have hfl:=zf7 hkid hjl (by omega)
  have hil:=hok.ilen
  have es:=zkV hk12
  have esl:(zbk v).l=v.l.map zbk:=by rw [es];rfl
  have esk:(zbk v).kind=v.kind:=ziL v
  have esn:(zbk v).n=v.n:=by rw [es];rfl
  have esb:(zbk v).b=v.b:=by rw [es];rfl
  have eg:zq t.types i=some x:=by rw [zbm i0 (by omega)];exact congrArg some (List.getElem?_eq_some_iff.1 hx).2
  refine T.eqs ?_
  show T _ (zbF (zY (n + 5)) (zW (n + 5)) (zam (n + 5)) (zk (n + 5)) (zo (n + 5)) (zac (n + 5)) (zhS t b) i (zbk v) d)
  unfold zbF
  refine T.or' (T.or' (T.br (λhq=>?_) λ_=>?_))
  ·rw [Bool.or_eq_true,Bool.or_eq_true] at hq
   rcases hq with (hq | hq) | hq
   ·have:=zOT hq;omega
   ·have:=zOT hq
    have:(t.types.length:Int) <= i:=this
    omega
   ·have:=zOT hq;omega
  refine T.eq eg (T.br (λh=>absurd (zOT h) (by rw [esk];exact hk12)) λ_=>T.br (λh=>?_) λ_=>?_)
  ·rw [esk,hkk] at h
   simp at h
  have P:∀ {n' b' l' m':Bool},pln v n' b' l' m'=true->∀ m2,pln (zbk v) n' b' l' m2=true:=λh m2=>zug hk12 h
  rcases hfk with ⟨k,h1,h2⟩ | ⟨k,h1,h2⟩ | ⟨k,h1,h2⟩ | ⟨k,h1⟩ | ⟨k,h1,h2,h3,h4⟩ | ⟨k,h1,h2,h3⟩ | ⟨k,h1,h2,f,w,h3,h4,h5⟩ | ⟨k,h1,h2,h3,h4,h5⟩
  ·refine T.br (λ_=>?_) λh=>absurd k (zOF h)
   refine T.eq (zcY _ _ (by decide)) (T.andJ (d:=decide ((zbk v).n=0) || decide ((zbk v).n=1)) (λJ hh=>T.or' hh) (T.some ?_))
   have e:pln (zbk v) (!decide (andI 1 1=0)) (!decide (andI 1 2=0)) (!decide (andI 1 4=0)) (!decide (andI 1 8=0))=true:=P h1 false
   rw [e,esn,h2];rfl
  ·refine T.br (λh=>absurd (zOT h) (by rw [k];decide)) λ_=>T.br (λ_=>?_) λh=>absurd k (zOF h)
   refine T.eq (zcY _ _ (by decide)) (T.andJ (d:=x.con.more || ze0 x.con (zbk v).n) (λJ hh=>T.orJ (d:=ze0 x.con (zbk v).n) (λJ2 h2=>T.eq (zhx _ _) h2) hh) (T.some ?_))
   have e:pln (zbk v) (!decide (andI 1 1=0)) (!decide (andI 1 2=0)) (!decide (andI 1 4=0)) (!decide (andI 1 8=0))=true:=P h1 false
   rw [e,esn,h2];rfl
  ·refine T.br (λh=>absurd (zOT h) (by rw [k];decide)) λ_=>T.br (λh=>absurd (zOT h) (by rw [k];decide)) λ_=>T.br (λ_=>?_) λh=>absurd k (zOF h)
   have e:pln (zbk v) (!decide (andI 1 1=0)) (!decide (andI 1 2=0)) (!decide (andI 1 4=0)) (!decide (andI 1 8=0))=true:=P h1 false
   refine T.eq (zcY _ _ (by decide)) (T.jp (λb=>b=true) (λJ hh=>T.br (λ_=>?_) λh=>by rw [e] at h;cases h) λb hb=>T.some (by rw [hb]))
   refine T.cal (zwd x (zbk v).n (by omega) (by rw [esn];exact h2)) λr _ hr=>hh _ (zDT hr)
  ·refine T.br (λh=>absurd (zOT h) (by rw [k];decide)) λ_=>T.br (λh=>absurd (zOT h) (by rw [k];decide)) λ_=>T.br (λh=>absurd (zOT h) (by rw [k];decide)) λ_=>T.br (λ_=>?_) λh=>absurd k (zOF h)
   have e:pln (zbk v) (!decide (andI 0 1=0)) (!decide (andI 0 2=0)) (!decide (andI 0 4=0)) (!decide (andI 0 8=0))=true:=P h1 false
   exact T.eq (zcY _ _ (by decide)) (T.some (by rw [e]))
  all_goals refine T.br (λh=>absurd (zOT h) (by omega)) λ_=>T.br (λh=>absurd (zOT h) (by omega)) λ_=>T.br (λh=>absurd (zOT h) (by omega)) λ_=>T.br (λh=>absurd (zOT h) (by omega)) λ_=>?_
  ·refine T.jp (λb=>b=true) (λJ kk=>T.br (λh=>kk _ h) λh=>kk _ (zDT (k.resolve_left (zOF h)))) λb56 hb56=>?_
   subst hb56
   refine T.br (λ_=>?_) λh=>by cases h
   refine T.eq (y:=(true,zhS t b)) ?_ (T.some rfl)
   refine T.eqs ?_
   unfold zdD
   have e:pln (zbk v) (!decide (andI 2 1=0)) (!decide (andI 2 2=0)) (!decide (andI 2 4=0)) (!decide (andI 2 8=0))=true:=P h1 false
   refine T.eq (zcY _ _ (by decide)) (T.and' (T.andJ (d:=x.con.more || ze0 x.con ((zbk v).b.length:Int)) (λJ hh=>T.orJ (d:=ze0 x.con ((zbk v).b.length:Int)) (λJ2 h2=>T.eq (zhx _ _) h2) hh) ?_))
   rw [e,esb,h3,zDT h2]
   refine T.jp (λb=>b=true) (λJ kk=>T.br (λ_=>?_) λh=>by cases h) λc hc=>T.some (by rw [hc])
   refine T.jp (λb=>b=true) (λJ2 k2=>T.br (λh5=>k2 _ rfl) λh5=>T.eq (h4.resolve_left (zOF h5)) (k2 _ rfl)) λc hc=>kk _ hc
  all_goals refine T.jp (λb=>b=false) (λJ kk=>T.br (λh=>absurd (zOT h) (by omega)) λh=>kk _ (zDF (by omega))) λb56 hb56=>T.br (λh=>by rw [hb56] at h;cases h) λ_=>?_
  ·refine T.br (λ_=>?_) λh=>absurd k (zOF h)
   refine T.eq (y:=(true,zhS t b)) ?_ (T.some rfl)
   refine T.eqs ?_
   show T _ (zcA (zY (n + 4)) (zW (n + 4)) (zam (n + 4)) (zk (n + 4)) (zo (n + 4)) (zac (n + 4)) (zhS t b) x (zbk v) d)
   unfold zcA
   have e:pln (zbk v) (!decide (andI 4 1=0)) (!decide (andI 4 2=0)) (!decide (andI 4 4=0)) (!decide (andI 4 8=0))=true:=P h1 false
   refine T.eq (zcY _ _ (by decide)) (T.andJ (d:=x.con.more || ze0 x.con ((zbk v).l.length:Int)) (λJ hh=>T.orJ (d:=ze0 x.con ((zbk v).l.length:Int)) (λJ2 h2=>T.eq (zhx _ _) h2) hh) ?_)
   rw [e,esl,List.length_map,h2]
   refine T.jp (ι:=Bool × zy) (λp=>p=(true,zhS t b)) (λJ kk=>T.br (λ_=>?_) λh=>by cases h) λp hp=>T.some (by rw [hp])
   refine T.eq (y:=(false,zhS t b)) ?_ (kk _ rfl)
   refine T.eqs ?_
   show T _ (zar (zY (n + 3)) (zW (n + 3)) (zam (n + 3)) (zk (n + 3)) (zo (n + 3)) (zac (n + 3)) (v.l.map zbk) (zhS t b) x d)
   unfold zar
   refine T.eq (y:=((-1:Int),zhS t b)) ?_ (T.some rfl)
   refine T.eqs ?_
   show T _ (zav (zY (n + 2)) (zW (n + 2)) (zam (n + 2)) (zk (n + 2)) (zo (n + 2)) (zac (n + 2)) (v.l.map zbk) (zhS t b) x d)
   unfold zav
   refine T.lp (ι:=Int × zy) (λq=>0 <= q.1/\q.1 <= (v.l.length:Int)/\q.2=zhS t b) (λq=>((v.l.length:Int) - q.1).toNat) ⟨zIl _,by dsimp only;omega,rfl⟩ (by dsimp only;omega) λL q ⟨q1,q2,q3⟩ hL=>T.br (λhb2=>?_) λ_=>T.some (by rw [q3])
   obtain ⟨q,c⟩:=q
   dsimp only at q1 q2 q3 hL hb2 ⊢
   subst q3
   have hb2:=zOT hb2
   rw [List.length_map] at hb2
   refine T.get q1 (by rw [List.length_map];exact hb2) λy hy=>?_
   rw [List.getElem?_map] at hy
   obtain ⟨w,hw1,hw2⟩:=Option.map_eq_some_iff.1 hy
   subst hw2
   have hwm:=List.mem_of_getElem? hw1
   refine T.eq (y:=(false,zhS t b)) ?_ (T.br (λh=>by cases h) λ_=>T.ck (by omega) (hL _ ⟨by dsimp only;omega,by dsimp only;omega,rfl⟩ (by dsimp only;omega)))
   refine T.eqs ?_
   show T _ (zb0 (zY (n + 1)) (zW (n + 1)) (zam (n + 1)) (zk (n + 1)) (zo (n + 1)) (zac (n + 1)) (zbk w) (zhS t b) x d)
   unfold zb0
   exact T.ck (by omega) (T.eq (ih (by omega) (by omega) (by omega) (hf.kid w hwm) (by have:=zc9 hwm;omega) (h3 w hwm) (hkb w hwm)) (T.some rfl))
  ·refine T.br (λh=>absurd (zOT h) (by omega)) λ_=>T.br (λ_=>?_) λh=>absurd k (zOF h)
   have e:pln (zbk v) (!decide (andI 5 1=0)) (!decide (andI 5 2=0)) (!decide (andI 5 4=0)) (!decide (andI 5 8=0))=true:=P h1 false
   have hnl:=(List.getElem?_eq_some_iff.1 h3).1
   have hl1:(zbk v).l=[zbk w]:=by rw [esl,h4];rfl
   have hwm:w ∈ v.l:=by rw [h4];exact zMo.2 rfl
   refine T.eq (zcY _ _ (by decide)) (T.and' (T.and' (T.and' ?_)))
   rw [e,esn,hl1,zDT h2,zDT (show v.n < (x.fields.length:Int) by omega)]
   refine T.jp (ι:=Bool × zy) (λp=>p=(true,zhS t b)) (λJ kk=>T.br (λ_=>?_) λh=>by cases h) λp hp=>T.some (by rw [hp])
   refine T.get h2 (by omega) λf' hf'=>?_
   rw [h3] at hf';cases hf'
   refine T.eq (y:=zbk w) rfl (T.ck (by omega) (T.eq (ih (by omega) (by omega) (by omega) (hf.kid w hwm) (by have:=zc9 hwm;omega) h5 (hkb w hwm)) (kk _ rfl)))
  ·refine T.br (λh=>absurd (zOT h) (by omega)) λ_=>T.br (λh=>absurd (zOT h) (by omega)) λ_=>?_
   refine T.jp (λb=>b=true) (λJ kk=>T.br (λh=>kk _ h) λh=>kk _ (zDT (k.resolve_left (zOF h)))) λb78 hb78=>?_
   subst hb78
   refine T.br (λ_=>?_) λh=>by cases h
   refine T.eq (y:=(true,zhS t b)) ?_ (T.some rfl)
   refine T.eqs ?_
   show T _ (zch (zY (n + 4)) (zW (n + 4)) (zam (n + 4)) (zk (n + 4)) (zo (n + 4)) (zac (n + 4)) (zhS t b) i (zbk v) d)
   unfold zch
   have e:pln (zbk v) (!decide (andI 12 1=0)) (!decide (andI 12 2=0)) (!decide (andI 12 4=0)) (!decide (andI 12 8=0))=true:=P h1 true
   refine T.eq eg (T.eq (zcY _ _ (by decide)) (T.or' ?_))
   rw [e,esl,List.length_map,h3,zDT rfl]
   refine T.jp (ι:=Bool × zy) (λp=>p=(false,zhS t b)) (λJ kk=>T.br (λh=>by cases h) λ_=>T.eq (y:=(true,zhS t b)) ?_ (kk _ rfl)) λp hp=>?_
   ·refine T.eqs ?_
    unfold zdo
    refine T.eq eg (T.br (λ_=>T.some ?_) λh=>?_)
    ·rw [es];rfl
    ·rw [es] at h;cases h
   subst hp
   refine T.br (λh=>by cases h) λ_=>?_
   refine T.lp (ι:=Int × zy) (λq=>0 <= q.1/\q.1 <= (x.fields.length:Int)/\q.2=zhS t b) (λq=>((x.fields.length:Int) - q.1).toNat) ⟨zIl _,by dsimp only;omega,rfl⟩ (by dsimp only;omega) λL q ⟨q1,q2,q3⟩ hL=>?_
   obtain ⟨q,c⟩:=q
   dsimp only at q1 q2 q3 hL ⊢
   subst q3
   refine T.br (λhb2=>?_) λ_=>?_
   ·have hb2:=zOT hb2
    refine T.jp (ι:=zy) (λp=>p=zhS t b) (λJ kk=>?_) λp hp=>T.ck (by omega) (hL _ ⟨by dsimp only;omega,by dsimp only;omega,hp⟩ (by dsimp only;omega))
    refine T.get q1 hb2 λf hff=>T.get q1 (by rw [List.length_map];omega) λy hy=>?_
    rw [List.getElem?_map] at hy
    obtain ⟨w,hw1,hw2⟩:=Option.map_eq_some_iff.1 hy
    subst hw2
    have hwm:=List.mem_of_getElem? hw1
    have hfw:=h4 q.toNat f w hff hw1
    have hcw:=zc9 hwm
    rw [ziL w]
    refine T.br (λhz=>?_) λhz=>?_
    ·have hz:=zOT hz
     obtain ⟨_,z1,z2⟩:=hfw.resolve_right λh=>h.1 hz
     rw [z1,zlV]
     refine T.eq (zh9 _) ?_
     have ea:(decide (zc2.kind=0) && pln zc2 false false false false)=true:=rfl
     rw [ea]
     have el:(f.optional || f.has || decide (x.root <= q))=true:=by
      rcases z2 with z2 | z2 | z2
      ·rw [z2];rfl
      ·rw [z2];simp
      ·rw [zDT (show x.root <= q by omega)];simp
     refine T.orJ (d:=false) (λJ2 hh=>T.eq (zo5 q1 hff) (by rw [el];exact hh)) (T.br (λh=>by cases h) λ_=>kk _ rfl)
    ·have hz:=zOF hz
     obtain ⟨_,z1,z2⟩:=hfw.resolve_left λh=>hz h.1
     refine T.ck (by omega) (T.eq (ih (by omega) (by omega) (by omega) (hf.kid w hwm) (by omega) z1 (hkb w hwm)) ?_)
     have hdk:=hok.dflt f (List.mem_of_getElem? hff)
     have hne:f.has=true->zbk w ≠ f.dflt:=λhh e=>by
      have hk2:w.kind=f.dflt.kind:=by rw [<- ziL w,e]
      cases h with
      | zero=>exact z1.elim
      | succ h =>
       obtain ⟨_,x2,_,g⟩:=z1
       have h12:=(zn5 (hkb w hwm)).1
       obtain ⟨g1,g2⟩:=g.resolve_left h12
       have:zbk w=w:=zvU g2 (by rw [<- g1,hk2];exact hdk.2.2.2.2.1) h12
       exact z2 hh (this ▸ e)
     refine T.orJ (d:=false) (λJ2 hh=>T.jp (λb=>b=false) (λJ3 k3=>T.br (λh1=>?_) λ_=>k3 _ rfl) λb hb=>by rw [hb];exact hh) (T.br (λh=>by cases h) λ_=>kk _ rfl)
     refine T.cal (zmK (k:=100000) (n:=fuel) (by have:=zuu 100000 w (by omega);omega) (by unfold fuel;omega) (zsG 100000 w (by omega) (hf.kid w hwm)) _) λr _ hr=>k3 _ ?_
     cases r with
     | true=>exact absurd (hr.1 rfl) (hne h1)
     | false=>rfl
   ·refine T.eq (zsn ht (v:=zbk v) i0 hx k (by rw [esl,List.length_map,h3]) (λw hw hz=>?_) (λs hs=>?_) hfl hok.root0) (T.some rfl)
    ·rw [esl] at hw
     obtain ⟨w',hw1,hw2⟩:=List.mem_map.1 hw
     subst hw2
     rw [ziL] at hz
     obtain ⟨k',hk'⟩:=List.mem_iff_getElem?.1 hw1
     have:=(List.getElem?_eq_some_iff.1 hk').1
     obtain ⟨f,hff⟩:∃ f,x.fields[k']?=some f:=⟨_,List.getElem?_eq_getElem (by omega)⟩
     obtain ⟨_,z1,_⟩:=(h4 k' f w' hff hk').resolve_right λh=>h.1 hz
     rw [z1];exact zlV
    ·have:=h5 s hs
     have et:thr (zbk v)=thr v:=by
      funext k
      unfold thr
      rw [esl,List.getElem?_map]
      cases v.l[k.toNat]? with
      | none=>rfl
      | some w=>show (!decide ((zbk w).kind=0))=_;rw [ziL]
     unfold Grp lck at this ⊢
     rw [et]
     exact this
theorem ztV {t:zZ} (ht:zdt t) (i:Int) {v:Val} (hf:zbV v) (hc:cnt v <= 100000):T (λr=>r=true->Fit t 17 i v/\cnt v <= 5000) (zga t i v):=by
 unfold zga
 refine T.eq (zlR (by unfold fuel;omega) (by omega) hf) (T.jp (λb=>b=true->Fit t 17 i v/\cnt v <= 5000) (λJ kk=>T.br (λh=>T.cal (zuM ht (h:=17) (by decide) (by decide) (by unfold fuel;decide) hf hc) λy _ hy=>kk _ λh2=>⟨hy h2,by have:=zOT h;omega⟩) λ_=>kk _ λh=>by cases h) λb hb=>T.some hb)
def zay (a_p:zag) (ziY:(List Str)):Option (zag) :=
 lp (ι:=Int × zag) (λL3 q2=>br (decide (q2.1 < (ziY.length:Int))) (cal (zq ziY q2.1) λy8=>asr (Nat.ble (q2.2.b.length + y8.b.length) 68719476736) <| ck ((q2.1 + (1:Int))) <| L3 ((q2.1 + (1:Int)),(zag.mk q2.2.t (q2.2.b ++ y8.b)))) (some (q2.2))) (((0:Int),a_p))

def zib (a_b:(List UInt8)):Option (Str) :=
 lp (ι:=(List UInt8) × Int) (λL3 q2=>br (decide (q2.2 < (a_b.length:Int))) (cal (zq a_b q2.2) λy15=>asr (Nat.ble (4:UInt64).toNat 8) <| cal (zq (Str.mk [48,49,50,51,52,53,54,55,56,57,65,66,67,68,69,70]).b ((zf0 y15 (4:UInt64).toNat).toNat:Int)) λy17=>cal (zq (Str.mk [48,49,50,51,52,53,54,55,56,57,65,66,67,68,69,70]).b ((y15 &&& (15:UInt8)).toNat:Int)) λy18=>asr (Nat.ble (q2.1.length + ([y17,y18]:(List UInt8)).length) 68719476736) <| ck ((q2.2 + (1:Int))) <| L3 ((q2.1 ++ ([y17,y18]:(List UInt8))),(q2.2 + (1:Int)))) (asr (Nat.ble (q2.1.length + ([(39:UInt8),(72:UInt8)]:(List UInt8)).length) 68719476736) <| some ((Str.mk (q2.1 ++ ([(39:UInt8),(72:UInt8)]:(List UInt8))))))) ((([(39:UInt8)]:(List UInt8)),(0:Int)))

def zgG (a_v:Val):Option (Str) :=
 br (decide (a_v.kind=(1:Int))) (br (!decide (a_v.n=(0:Int))) (some ((Str.mk [84,82,85,69]))) (some ((Str.mk [70,65,76,83,69])))) (br (decide (a_v.kind=(4:Int))) (some ((Str.mk [78,85,76,76]))) (br (decide (a_v.kind=(2:Int))) (cal (zdJ a_v.n (10:Int)) λy1=>some (y1)) (br (decide (a_v.kind=(3:Int))) (some ((Str.mk a_v.b))) (br (decide (a_v.kind=(5:Int))) (cal (zib a_v.b) λy2=>some (y2)) (br (decide (a_v.kind=(6:Int))) (cal (strings_ReplaceAll (Str.mk a_v.b) (Str.mk [34]) (Str.mk [34,34])) λy3=>asr (Nat.ble ((Str.mk [34]).b.length + y3.b.length) 4611686018427387904) <| asr (Nat.ble ((Str.mk ((Str.mk [34]).b ++ y3.b)).b.length + (Str.mk [34]).b.length) 4611686018427387904) <| some ((Str.mk ((Str.mk ((Str.mk [34]).b ++ y3.b)).b ++ (Str.mk [34]).b)))) (some ((Str.mk []))))))))

def zcX (zL:Int->zag->zg->Val->Option (Bool × zag)) (zQ:zag->Int->Val->Option (zag)) (zR:zag->Int->zg->Val->Option (zag)) (zJ:zag->Int->Val->zg->Option (zag)) (zK:Int->Val->zag->zg->Option (Bool × zag)) (a_k:Int) (a_a1:zag) (a_a2:zg) (a_a3:Val):Option (Bool × zag) :=
 cal (zq a_a3.l a_k) λy2=>cal (zQ a_a1 a_a2.of y2) λy3=>some (true,y3)
def zdx (zL:Int->zag->zg->Val->Option (Bool × zag)) (zQ:zag->Int->Val->Option (zag)) (zR:zag->Int->zg->Val->Option (zag)) (zJ:zag->Int->Val->zg->Option (zag)) (zK:Int->Val->zag->zg->Option (Bool × zag)) (a_p:zag) (a_i:Int) (a_v:Val):Option (zag) :=
 cal (zq a_p.t.types a_i) λy2=>br (decide (y2.kind=(3:Int))) (cal (zeb y2 a_v.n) λy4=>cal (zq y2.items y4) λy5=>cal (zay a_p ([y5.name]:(List Str))) λy7=>some (y7)) (br (decide (y2.kind=(10:Int))) (cal (zR a_p (a_v.l.length:Int) y2 a_v) λy9=>some (y9)) (br (decide (y2.kind=(9:Int))) (cal (zq y2.fields a_v.n) λy11=>cal (zay a_p ([y11.name,(Str.mk [32,58,32])]:(List Str))) λy14=>cal (zq a_v.l (0:Int)) λy16=>cal (zQ y14 y11.ty y16) λy17=>some (y17)) (jp (ι:=Bool) (λJ20=>br (decide (y2.kind=(7:Int))) (J20 ((decide (y2.kind=(7:Int))))) (J20 ((decide (y2.kind=(8:Int)))))) (λq19=>br q19 (cal (zJ a_p (a_v.l.length:Int) a_v y2) λy21=>some (y21)) (cal (zgG a_v) λy23=>cal (zay a_p ([y23]:(List Str))) λy25=>some (y25))))))
def zdi (zL:Int->zag->zg->Val->Option (Bool × zag)) (zQ:zag->Int->Val->Option (zag)) (zR:zag->Int->zg->Val->Option (zag)) (zJ:zag->Int->Val->zg->Option (zag)) (zK:Int->Val->zag->zg->Option (Bool × zag)) (a_p:zag) (a_n_:Int) (zU:zg) (zz:Val):Option (zag) :=
 lp (ι:=Bool × Int × zag) (λL3 q2=>br (decide (q2.2.1 < a_n_)) (jp (ι:=Bool × zag) (λJ19=>jp (ι:=zag) (λJ21=>br q2.1 (cal (zay q2.2.2 ([(Str.mk [123,32])]:(List Str))) λy23=>J21 (y23)) (cal (zay q2.2.2 ([(Str.mk [44,32])]:(List Str))) λy26=>J21 (y26))) (λq20=>cal (zL q2.2.1 q20 zU zz) λy28=>br y28.1 (J19 (false,y28.2)) (asr (decide (0 <= ((q2.2.2.b.length:Nat):Int)/\((q2.2.2.b.length:Nat):Int) <= (y28.2.b.length:Int))) <| J19 (q2.1,(zag.mk y28.2.t (y28.2.b.take (((q2.2.2.b.length:Nat):Int)).toNat)))))) (λq18=>ck ((q2.2.1 + (1:Int))) <| L3 (q18.1,(q2.2.1 + (1:Int)),q18.2))) (br q2.1 (cal (zay q2.2.2 ([(Str.mk [123,125])]:(List Str))) λy33=>some (y33)) (cal (zay q2.2.2 ([(Str.mk [32,125])]:(List Str))) λy36=>some (y36)))) ((true,(0:Int),a_p))
def zcW (zL:Int->zag->zg->Val->Option (Bool × zag)) (zQ:zag->Int->Val->Option (zag)) (zR:zag->Int->zg->Val->Option (zag)) (zJ:zag->Int->Val->zg->Option (zag)) (zK:Int->Val->zag->zg->Option (Bool × zag)) (a_p:zag) (a_n_:Int) (zcJ:Val) (zz:zg):Option (zag) :=
 lp (ι:=Bool × Int × zag) (λL3 q2=>br (decide (q2.2.1 < a_n_)) (jp (ι:=Bool × zag) (λJ19=>jp (ι:=zag) (λJ21=>br q2.1 (cal (zay q2.2.2 ([(Str.mk [123,32])]:(List Str))) λy23=>J21 (y23)) (cal (zay q2.2.2 ([(Str.mk [44,32])]:(List Str))) λy26=>J21 (y26))) (λq20=>cal (zK q2.2.1 zcJ q20 zz) λy28=>br y28.1 (J19 (false,y28.2)) (asr (decide (0 <= ((q2.2.2.b.length:Nat):Int)/\((q2.2.2.b.length:Nat):Int) <= (y28.2.b.length:Int))) <| J19 (q2.1,(zag.mk y28.2.t (y28.2.b.take (((q2.2.2.b.length:Nat):Int)).toNat)))))) (λq18=>ck ((q2.2.1 + (1:Int))) <| L3 (q18.1,(q2.2.1 + (1:Int)),q18.2))) (br q2.1 (cal (zay q2.2.2 ([(Str.mk [123,125])]:(List Str))) λy33=>some (y33)) (cal (zay q2.2.2 ([(Str.mk [32,125])]:(List Str))) λy36=>some (y36)))) ((true,(0:Int),a_p))
def zct (zL:Int->zag->zg->Val->Option (Bool × zag)) (zQ:zag->Int->Val->Option (zag)) (zR:zag->Int->zg->Val->Option (zag)) (zJ:zag->Int->Val->zg->Option (zag)) (zK:Int->Val->zag->zg->Option (Bool × zag)) (a_k:Int) (a_a1:Val) (a_a2:zag) (a_a3:zg):Option (Bool × zag) :=
 cal (zq a_a1.l a_k) λy2=>cal (ze5 y2) λy3=>br y3 (some (false,a_a2)) (cal (zq a_a3.fields a_k) λy4=>cal (zay a_a2 ([y4.name,(Str.mk [32])]:(List Str))) λy6=>cal (zq a_a3.fields a_k) λy8=>cal (zq a_a1.l a_k) λy9=>cal (zQ y6 y8.ty y9) λy10=>some (true,y10))
def zce:Nat->(Int->zag->zg->Val->Option (Bool × zag)) × (zag->Int->Val->Option (zag)) × (zag->Int->zg->Val->Option (zag)) × (zag->Int->Val->zg->Option (zag)) × (Int->Val->zag->zg->Option (Bool × zag))
 | 0=>(λ_ _ _ _=>none,λ_ _ _=>none,λ_ _ _ _=>none,λ_ _ _ _=>none,λ_ _ _ _=>none)
 | n + 1=>let p:=zce n;(zcX p.1 p.2.1 p.2.2.1 p.2.2.2.1 p.2.2.2.2,zdx p.1 p.2.1 p.2.2.1 p.2.2.2.1 p.2.2.2.2,zdi p.1 p.2.1 p.2.2.1 p.2.2.2.1 p.2.2.2.2,zcW p.1 p.2.1 p.2.2.1 p.2.2.2.1 p.2.2.2.2,zct p.1 p.2.1 p.2.2.1 p.2.2.2.1 p.2.2.2.2)
def zaU (n:Nat):Int->zag->zg->Val->Option (Bool × zag):=(zce n).1
def zaO (n:Nat):zag->Int->Val->Option (zag):=(zce n).2.1
def zbc (n:Nat):zag->Int->zg->Val->Option (zag):=(zce n).2.2.1
def zaL (n:Nat):zag->Int->Val->zg->Option (zag):=(zce n).2.2.2.1
def zaV (n:Nat):Int->Val->zag->zg->Option (Bool × zag):=(zce n).2.2.2.2

def zir (a_t:zZ) (a_i:Int) (a_v:Val):Option (Str × Int) :=
 cal (zea a_t a_i a_v) λy1=>br (!y1) (some ((Str.mk []),(13:Int))) (cal (zdS fuel a_v) λy2=>br (!y2) (some ((Str.mk []),(16:Int))) (cal (zaO fuel (zag.mk a_t ([]:(List UInt8))) a_i a_v) λy5=>br (decide ((8000:Int) < ((y5.b.length:Nat):Int))) (some ((Str.mk []),(5:Int))) (some ((Str.mk y5.b),(0:Int)))))
def zgN :Option (Bool) :=
 cal (zck (Str.mk [77,32,68,69,70,73,78,73,84,73,79,78,83,32,58,58,61,32,66,69,71,73,78,32,65,32,58,58,61,32,83,69,81,85,69,78,67,69,32,123,32,97,32,73,78,84,69,71,69,82,44,32,98,32,66,79,79,76,69,65,78,32,79,80,84,73,79,78,65,76,32,125,32,69,78,68])) λy1=>cal (zir y1.1 (0:Int) (Val.mk (7:Int) (0:Int) ([]:(List UInt8)) ([(Val.mk (2:Int) (5:Int) ([]:(List UInt8)) ([]:(List Val)) (0:Int) ([]:(List Raw))),(Val.mk (1:Int) (1:Int) ([]:(List UInt8)) ([]:(List Val)) (0:Int) ([]:(List Raw)))]:(List Val)) (0:Int) ([]:(List Raw)))) λy4=>jp (ι:=Bool) (λJ6=>br y1.2 (J6 ((decide (y4.2=(0:Int))))) (J6 (false))) (λq5=>jp (ι:=Bool) (λJ9=>br q5 (J9 ((decide (y4.1=(Str.mk [123,32,97,32,53,44,32,98,32,84,82,85,69,32,125]))))) (J9 (false))) (λq8=>some (q8)))
def zbZ (a_s:zN):Option (zS × zN) :=
 cal (zq a_s.stream.l a_s.stream.i) λy4=>some (y4,a_s)

def zbX (a_p:zN) (a_e:Int):Option (Bool × zN) :=
 jp (ι:=zN) (λJ2=>br (decide (a_p.e=(0:Int))) (cal (zbZ a_p) λy3=>J2 ((zN.mk y3.2.stream y3.2.t y3.1.at_ a_e))) (J2 (a_p))) (λq1=>some (false,q1))

def zcL (a_s:zN) (zaZ:Str):Option (Bool × zN) :=
 cal (zbZ a_s) λy1=>jp (ι:=Bool) (λJ4=>br (!decide (y1.1.kind=(5:Int))) (J4 ((!decide (y1.1.kind=(6:Int))))) (J4 (false))) (λq3=>jp (ι:=Bool) (λJ7=>br q3 (J7 (true)) (J7 ((!decide (y1.1.text=zaZ))))) (λq6=>br q6 (some (false,y1.2)) (ck ((y1.2.stream.i + (1:Int))) <| some (true,(zN.mk { y1.2.stream with i:=(y1.2.stream.i + (1:Int)) } y1.2.t y1.2.at_ y1.2.e)))))

def zb1 (a_p:zN) (zaZ:Str):Option (Bool × zN) :=
 cal (zcL a_p zaZ) λy1=>jp (ι:=Bool × zN) (λJ3=>br y1.1 (J3 (true,y1.2)) (cal (zbX y1.2 (7:Int)) λy5=>J3 (y5.1,y5.2))) (λq2=>some (q2.1,q2.2))

def zef (a_p:zN) (zfm:Int):Option (Str × Bool × zN) :=
 cal (zbZ a_p) λy1=>br (!decide (y1.1.kind=zfm)) (cal (zbX y1.2 (7:Int)) λy3=>some ((Str.mk []),y3.1,y3.2)) (ck ((y1.2.stream.i + (1:Int))) <| some (y1.1.text,true,(zN.mk { y1.2.stream with i:=(y1.2.stream.i + (1:Int)) } y1.2.t y1.2.at_ y1.2.e)))

def zeS (a_p:zN) (a_x:zg):Option (Int × Bool × zN) :=
 cal (zbZ a_p) λy1=>lp (ι:=Int) (λL4 q3=>br (decide (q3 < (a_x.items.length:Int))) (cal (zq a_x.items q3) λy13=>jp (ι:=Bool) (λJ16=>br (decide (y1.1.kind=(2:Int))) (J16 ((decide (y13.name=y1.1.text)))) (J16 (false))) (λq15=>br q15 (ck ((y1.2.stream.i + (1:Int))) <| some (y13.number,true,(zN.mk { y1.2.stream with i:=(y1.2.stream.i + (1:Int)) } y1.2.t y1.2.at_ y1.2.e))) (ck ((q3 + (1:Int))) <| L4 ((q3 + (1:Int)))))) (cal (zbX y1.2 (7:Int)) λy20=>some ((0:Int),y20.1,y20.2))) (((0:Int)))

def zbJ (a_c:UInt8):Option (UInt8) :=
 some ((a_c ||| (32:UInt8)))

def zed (a_s:Str) (zdR:Int) (zcK:Int):Option (UInt64 × Er) :=
 br (decide (a_s=(Str.mk []))) (none) (jp (ι:=Str × Int) (λJ2=>jp (ι:=Bool) (λJ4=>br (decide ((2:Int) <= zdR)) (J4 ((decide (zdR <= (36:Int))))) (J4 (false))) (λq3=>br q3 (J2 (a_s,zdR)) (br (decide (zdR=(0:Int))) (cal (zq a_s.b (0:Int)) λy6=>br (decide (y6=(48:UInt8))) (jp (ι:=Bool) (λJ8=>br (decide ((3:Int) <= (a_s.b.length:Int))) (cal (zq a_s.b (1:Int)) λy10=>cal (zbJ y10) λy11=>J8 ((decide (y11=(98:UInt8))))) (J8 (false))) (λq7=>br q7 (asr (decide (0 <= (2:Int)/\(2:Int) <= (a_s.b.length:Int)/\(a_s.b.length:Int) <= (a_s.b.length:Int))) <| J2 ((Str.mk ((a_s.b.take ((a_s.b.length:Int)).toNat).drop ((2:Int)).toNat)),(2:Int))) (jp (ι:=Bool) (λJ14=>br (decide ((3:Int) <= (a_s.b.length:Int))) (cal (zq a_s.b (1:Int)) λy16=>cal (zbJ y16) λy17=>J14 ((decide (y17=(111:UInt8))))) (J14 (false))) (λq13=>br q13 (asr (decide (0 <= (2:Int)/\(2:Int) <= (a_s.b.length:Int)/\(a_s.b.length:Int) <= (a_s.b.length:Int))) <| J2 ((Str.mk ((a_s.b.take ((a_s.b.length:Int)).toNat).drop ((2:Int)).toNat)),(8:Int))) (jp (ι:=Bool) (λJ20=>br (decide ((3:Int) <= (a_s.b.length:Int))) (cal (zq a_s.b (1:Int)) λy22=>cal (zbJ y22) λy23=>J20 ((decide (y23=(120:UInt8))))) (J20 (false))) (λq19=>br q19 (asr (decide (0 <= (2:Int)/\(2:Int) <= (a_s.b.length:Int)/\(a_s.b.length:Int) <= (a_s.b.length:Int))) <| J2 ((Str.mk ((a_s.b.take ((a_s.b.length:Int)).toNat).drop ((2:Int)).toNat)),(16:Int))) (asr (decide (0 <= (1:Int)/\(1:Int) <= (a_s.b.length:Int)/\(a_s.b.length:Int) <= (a_s.b.length:Int))) <| J2 ((Str.mk ((a_s.b.take ((a_s.b.length:Int)).toNat).drop ((1:Int)).toNat)),(8:Int))))))))) (J2 (a_s,(10:Int)))) (none)))) (λq1=>jp (ι:=Int) (λJ27=>br (decide (zcK=(0:Int))) (J27 ((64:Int))) (jp (ι:=Bool) (λJ29=>br (decide (zcK < (0:Int))) (J29 (true)) (J29 ((decide ((64:Int) < zcK))))) (λq28=>br q28 (none) (J27 (zcK))))) (λq26=>jp (ι:=UInt64) (λJ32=>br (decide (q1.2=(10:Int))) (J32 ((1844674407370955162:UInt64))) (br (decide (q1.2=(16:Int))) (J32 ((1152921504606846976:UInt64))) (asr (!decide ((UInt64.ofNat (q1.2 % 18446744073709551616).toNat)=0)) <| J32 ((((18446744073709551615:UInt64) / (UInt64.ofNat (q1.2 % 18446744073709551616).toNat)) + (1:UInt64)))))) (λq31=>asr (Nat.ble (UInt64.ofNat (q26 % 18446744073709551616).toNat).toNat 64) <| asr (Nat.ble q1.1.b.length 68719476736) <| lp (ι:=Bool × UInt64 × Int) (λL37 q36=>br (decide (q36.2.2 < (q1.1.b.length:Int))) (jp (ι:=Bool × UInt64) (λJ60=>cal (zq q1.1.b q36.2.2) λy61=>jp (ι:=UInt8) (λJ63=>jp (ι:=Bool) (λJ65=>br (decide (y61=(95:UInt8))) (J65 ((decide (zdR=(0:Int))))) (J65 (false))) (λq64=>br q64 (J60 (true,q36.2.1)) (jp (ι:=Bool) (λJ68=>br (decide ((48:UInt8) <= y61)) (J68 ((decide (y61 <= (57:UInt8))))) (J68 (false))) (λq67=>br q67 (J63 ((y61 - (48:UInt8)))) (cal (zbJ y61) λy70=>jp (ι:=Bool) (λJ72=>br (decide ((97:UInt8) <= y70)) (cal (zbJ y61) λy74=>J72 ((decide (y74 <= (122:UInt8))))) (J72 (false))) (λq71=>br q71 (cal (zbJ y61) λy75=>J63 (((y75 - (97:UInt8)) + (10:UInt8)))) (none))))))) (λq62=>br (decide ((UInt8.ofNat (q1.2 % 256).toNat) <= q62)) (none) (br (decide (q31 <= q36.2.1)) (none) (jp (ι:=Bool) (λJ77=>br (decide (((q36.2.1 * (UInt64.ofNat (q1.2 % 18446744073709551616).toNat)) + q62.toUInt64) < (q36.2.1 * (UInt64.ofNat (q1.2 % 18446744073709551616).toNat)))) (J77 (true)) (J77 ((decide (((zf9 (1:UInt64) (UInt64.ofNat (q26 % 18446744073709551616).toNat).toNat) - (1:UInt64)) < ((q36.2.1 * (UInt64.ofNat (q1.2 % 18446744073709551616).toNat)) + q62.toUInt64)))))) (λq76=>br q76 (none) (J60 (q36.1,((q36.2.1 * (UInt64.ofNat (q1.2 % 18446744073709551616).toNat)) + q62.toUInt64)))))))) (λq59=>ck ((q36.2.2 + (1:Int))) <| L37 (q59.1,q59.2,(q36.2.2 + (1:Int))))) (jp (ι:=Bool) (λJ81=>br q36.1 (none) (J81 (false))) (λq80=>br q80 (none) (some (q36.2.1,(Er.mk false)))))) ((false,(0:UInt64),(0:Int)))))))

def zdN (a_s:Str) (zdR:Int) (zcK:Int):Option (UInt64 × Er) :=
 cal (zed a_s zdR zcK) λy1=>br y1.2.bad (none) (some (y1.1,(Er.mk false)))

def zd2 (a_s:Str):Option ((List UInt8)) :=
 lp (ι:=(List UInt8) × Int) (λL2 q1=>ck ((q1.2 + (1:Int))) <| br (decide ((q1.2 + (1:Int)) < (a_s.b.length:Int))) (ck ((q1.2 + (2:Int))) <| asr (decide (0 <= q1.2/\q1.2 <= (q1.2 + (2:Int))/\(q1.2 + (2:Int)) <= (a_s.b.length:Int))) <| cal (zdN (Str.mk ((a_s.b.take ((q1.2 + (2:Int))).toNat).drop (q1.2).toNat)) (16:Int) (8:Int)) λy14=>asr (Nat.ble (q1.1.length + ([y14.1.toUInt8]:(List UInt8)).length) 68719476736) <| ck ((q1.2 + (2:Int))) <| L2 ((q1.1 ++ ([y14.1.toUInt8]:(List UInt8))),(q1.2 + (2:Int)))) (some (q1.1))) ((([]:(List UInt8)),(0:Int)))

def zdK (a_p:zN) (a_l:(List zaF)) (zdh:Int):Option (Int × Bool × zN) :=
 cal (zbZ a_p) λy1=>lp (ι:=Int) (λL4 q3=>jp (ι:=Bool) (λJ13=>br (decide (q3 < (a_l.length:Int))) (J13 ((decide (y1.1.kind=(2:Int))))) (J13 (false))) (λq12=>br q12 (cal (zq a_l q3) λy15=>br (decide (y15.name=y1.1.text)) (ck ((y1.2.stream.i + (1:Int))) <| some (q3,true,(zN.mk { y1.2.stream with i:=(y1.2.stream.i + (1:Int)) } y1.2.t y1.2.at_ y1.2.e))) (ck ((q3 + (1:Int))) <| L4 ((q3 + (1:Int))))) (cal (zbX y1.2 (7:Int)) λy18=>some ((0:Int),y18.1,y18.2)))) ((zdh))

def zc5 (zx:zN->zg->Int->Val->Option (Bool × zN × Val)) (zD:zN->Int->Int->Option (Val × Bool × zN)) (zG:zN->zg->Int->Val->Option (Bool × zN × Val)) (zH:zN->zg->Val->Int->Option (Bool × zN × Val)) (zw:zN->zg->Int->Int->Val->Option (Bool × zN × Int × Val)) (zs:zN->zg->Int->Int->Val->Option (Bool × zN × Int × Val)) (a_a0:zN) (a_a1:zg) (a_a2:Int) (a_a3:Val):Option (Bool × zN × Val) :=
 ck ((a_a2 + (1:Int))) <| cal (zD a_a0 a_a1.of (a_a2 + (1:Int))) λy3=>jp (ι:=Val) (λJ6=>asr (Nat.ble (a_a3.l.length + ([(Val.mk (0:Int) (0:Int) ([]:(List UInt8)) ([]:(List Val)) (0:Int) ([]:(List Raw)))]:(List Val)).length) 68719476736) <| asr (decide (0 <= ((a_a3.l.length:Nat):Int)/\((a_a3.l.length:Nat):Int) < (((a_a3.l ++ ([(Val.mk (0:Int) (0:Int) ([]:(List UInt8)) ([]:(List Val)) (0:Int) ([]:(List Raw)))]:(List Val))).length:Nat):Int))) <| cal ((a_a3.l ++ ([(Val.mk (0:Int) (0:Int) ([]:(List UInt8)) ([]:(List Val)) (0:Int) ([]:(List Raw)))]:(List Val)))[((a_a3.l.length:Nat):Int).toNat]?) λy11=>J6 ((Val.mk a_a3.kind a_a3.n a_a3.b ((a_a3.l ++ ([(Val.mk (0:Int) (0:Int) ([]:(List UInt8)) ([]:(List Val)) (0:Int) ([]:(List Raw)))]:(List Val))).set (((a_a3.l.length:Nat):Int).toNat) y3.1) a_a3.rule a_a3.more))) (λq5=>some (y3.2.1,y3.2.2,q5))
def zde (zx:zN->zg->Int->Val->Option (Bool × zN × Val)) (zD:zN->Int->Int->Option (Val × Bool × zN)) (zG:zN->zg->Int->Val->Option (Bool × zN × Val)) (zH:zN->zg->Val->Int->Option (Bool × zN × Val)) (zw:zN->zg->Int->Int->Val->Option (Bool × zN × Int × Val)) (zs:zN->zg->Int->Int->Val->Option (Bool × zN × Int × Val)) (a_p:zN) (a_i:Int) (za:Int):Option (Val × Bool × zN) :=
 br (decide ((16:Int) < za)) (cal (zbX a_p (5:Int)) λy2=>some ((Val.mk (0:Int) (0:Int) ([]:(List UInt8)) ([]:(List Val)) (0:Int) ([]:(List Raw))),y2.1,y2.2)) (jp (ι:=Bool) (λJ4=>br (decide (a_i < (0:Int))) (J4 (true)) (J4 ((decide ((a_p.t.types.length:Int) <= a_i))))) (λq3=>br q3 (cal (zbX a_p (9:Int)) λy6=>some ((Val.mk (0:Int) (0:Int) ([]:(List UInt8)) ([]:(List Val)) (0:Int) ([]:(List Raw))),y6.1,y6.2)) (cal (zq a_p.t.types a_i) λy7=>jp (ι:=Bool × Val × zN) (λJ13=>br (decide (y7.kind=(1:Int))) (cal (zcL a_p (Str.mk [84,82,85,69])) λy14=>br y14.1 (J13 (y14.1,(Val.mk y7.kind (1:Int) ([]:(List UInt8)) ([]:(List Val)) (0:Int) ([]:(List Raw))),y14.2)) (cal (zb1 y14.2 (Str.mk [70,65,76,83,69])) λy15=>J13 (y15.1,(Val.mk y7.kind (0:Int) ([]:(List UInt8)) ([]:(List Val)) (0:Int) ([]:(List Raw))),y15.2))) (br (decide (y7.kind=(4:Int))) (cal (zb1 a_p (Str.mk [78,85,76,76])) λy16=>J13 (y16.1,(Val.mk y7.kind (0:Int) ([]:(List UInt8)) ([]:(List Val)) (0:Int) ([]:(List Raw))),y16.2)) (br (decide (y7.kind=(2:Int))) (cal (zef a_p (3:Int)) λy17=>cal (zba y17.1 (10:Int) (64:Int)) λy18=>J13 (y17.2.1,(Val.mk y7.kind y18.1 ([]:(List UInt8)) ([]:(List Val)) (0:Int) ([]:(List Raw))),y17.2.2)) (br (decide (y7.kind=(3:Int))) (cal (zeS a_p y7) λy19=>J13 (y19.2.1,(Val.mk y7.kind y19.1 ([]:(List UInt8)) ([]:(List Val)) (0:Int) ([]:(List Raw))),y19.2.2)) (br (decide (y7.kind=(5:Int))) (cal (zef a_p (4:Int)) λy20=>cal (zd2 y20.1) λy21=>J13 (y20.2.1,(Val.mk y7.kind (0:Int) y21 ([]:(List Val)) (0:Int) ([]:(List Raw))),y20.2.2)) (br (decide (y7.kind=(6:Int))) (cal (zef a_p (7:Int)) λy22=>asr (Nat.ble y22.1.b.length 68719476736) <| J13 (y22.2.1,(Val.mk y7.kind (0:Int) y22.1.b ([]:(List Val)) (0:Int) ([]:(List Raw))),y22.2.2)) (br (decide (y7.kind=(10:Int))) (cal (zG a_p y7 za (Val.mk y7.kind (0:Int) ([]:(List UInt8)) ([]:(List Val)) (0:Int) ([]:(List Raw)))) λy24=>J13 (y24.1,y24.2.2,y24.2.1)) (br (decide (y7.kind=(9:Int))) (cal (zdK a_p y7.fields (0:Int)) λy26=>jp (ι:=Bool × zN) (λJ28=>br y26.2.1 (cal (zb1 y26.2.2 (Str.mk [58])) λy30=>J28 (y30.1,y30.2)) (J28 (false,y26.2.2))) (λq27=>br q27.1 (cal (zq y7.fields y26.1) λy32=>ck ((za + (1:Int))) <| cal (zD q27.2 y32.ty (za + (1:Int))) λy34=>J13 (y34.2.1,(Val.mk y7.kind y26.1 ([]:(List UInt8)) ([y34.1]:(List Val)) (0:Int) ([]:(List Raw))),y34.2.2)) (J13 (y26.2.1,(Val.mk y7.kind (0:Int) ([]:(List UInt8)) ([]:(List Val)) (0:Int) ([]:(List Raw))),q27.2)))) (jp (ι:=Bool) (λJ38=>br (decide (y7.kind=(7:Int))) (J38 ((decide (y7.kind=(7:Int))))) (J38 ((decide (y7.kind=(8:Int)))))) (λq37=>br q37 (cal (zH a_p y7 (Val.mk y7.kind (0:Int) ([]:(List UInt8)) ([]:(List Val)) (0:Int) ([]:(List Raw))) za) λy39=>J13 (y39.1,y39.2.2,y39.2.1)) (J13 (false,(Val.mk y7.kind (0:Int) ([]:(List UInt8)) ([]:(List Val)) (0:Int) ([]:(List Raw))),a_p)))))))))))) (λq12=>jp (ι:=Bool) (λJ46=>br q12.1 (J46 ((decide (q12.2.2.e=(0:Int))))) (J46 (false))) (λq45=>some (q12.2.1,q45,q12.2.2))))))
def zdC (zx:zN->zg->Int->Val->Option (Bool × zN × Val)) (zD:zN->Int->Int->Option (Val × Bool × zN)) (zG:zN->zg->Int->Val->Option (Bool × zN × Val)) (zH:zN->zg->Val->Int->Option (Bool × zN × Val)) (zw:zN->zg->Int->Int->Val->Option (Bool × zN × Int × Val)) (zs:zN->zg->Int->Int->Val->Option (Bool × zN × Int × Val)) (a_p:zN) (zU:zg) (zz:Int) (zas:Val):Option (Bool × zN × Val) :=
 cal (zb1 a_p (Str.mk [123])) λy2=>br (!y2.1) (some (false,y2.2,zas)) (cal (zcL y2.2 (Str.mk [125])) λy3=>br y3.1 (some (true,y3.2,zas)) (lp (ι:=zN × Val) (λL5 q4=>cal (zx q4.1 zU zz q4.2) λy10=>br (!y10.1) (some (false,y10.2.1,y10.2.2)) (cal (zcL y10.2.1 (Str.mk [44])) λy12=>br (!y12.1) (cal (zb1 y12.2 (Str.mk [125])) λy13=>some (y13.1,y13.2,y10.2.2)) (L5 (y12.2,y10.2.2)))) ((y3.2,zas))))
def zdz (zx:zN->zg->Int->Val->Option (Bool × zN × Val)) (zD:zN->Int->Int->Option (Val × Bool × zN)) (zG:zN->zg->Int->Val->Option (Bool × zN × Val)) (zH:zN->zg->Val->Int->Option (Bool × zN × Val)) (zw:zN->zg->Int->Int->Val->Option (Bool × zN × Int × Val)) (zs:zN->zg->Int->Int->Val->Option (Bool × zN × Int × Val)) (a_p:zN) (a_x:zg) (a_v:Val) (za:Int):Option (Bool × zN × Val) :=
 asr (decide (0 <= (a_x.fields.length:Int)/\(a_x.fields.length:Int) <= 68719476736)) <| cal (zw a_p a_x (0:Int) za (Val.mk a_v.kind a_v.n a_v.b (List.replicate ((a_x.fields.length:Int)).toNat (Val.mk (0:Int) (0:Int) ([]:(List UInt8)) ([]:(List Val)) (0:Int) ([]:(List Raw)))) a_v.rule a_v.more)) λy5=>some (y5.1,y5.2.1,y5.2.2.2)
def zdc (zx:zN->zg->Int->Val->Option (Bool × zN × Val)) (zD:zN->Int->Int->Option (Val × Bool × zN)) (zG:zN->zg->Int->Val->Option (Bool × zN × Val)) (zH:zN->zg->Val->Int->Option (Bool × zN × Val)) (zw:zN->zg->Int->Int->Val->Option (Bool × zN × Int × Val)) (zs:zN->zg->Int->Int->Val->Option (Bool × zN × Int × Val)) (a_p:zN) (zU:zg) (zz:Int) (zas:Int) (zb5:Val):Option (Bool × zN × Int × Val) :=
 cal (zb1 a_p (Str.mk [123])) λy2=>br (!y2.1) (some (false,y2.2,zz,zb5)) (cal (zcL y2.2 (Str.mk [125])) λy3=>br y3.1 (some (true,y3.2,zz,zb5)) (lp (ι:=zN × Int × Val) (λL5 q4=>cal (zs q4.1 zU q4.2.1 zas q4.2.2) λy10=>br (!y10.1) (some (false,y10.2.1,y10.2.2.1,y10.2.2.2)) (cal (zcL y10.2.1 (Str.mk [44])) λy12=>br (!y12.1) (cal (zb1 y12.2 (Str.mk [125])) λy13=>some (y13.1,y13.2,y10.2.2.1,y10.2.2.2)) (L5 (y12.2,y10.2.2.1,y10.2.2.2)))) ((y3.2,zz,zb5))))
def zcV (zx:zN->zg->Int->Val->Option (Bool × zN × Val)) (zD:zN->Int->Int->Option (Val × Bool × zN)) (zG:zN->zg->Int->Val->Option (Bool × zN × Val)) (zH:zN->zg->Val->Int->Option (Bool × zN × Val)) (zw:zN->zg->Int->Int->Val->Option (Bool × zN × Int × Val)) (zs:zN->zg->Int->Int->Val->Option (Bool × zN × Int × Val)) (a_a0:zN) (a_a1:zg) (a_a2:Int) (a_a3:Int) (a_a4:Val):Option (Bool × zN × Int × Val) :=
 cal (zdK a_a0 a_a1.fields a_a2) λy2=>br (!y2.2.1) (some (false,y2.2.2,a_a2,a_a4)) (jp (ι:=Bool × Val × zN) (λJ4=>cal (zq a_a1.fields y2.1) λy5=>ck ((a_a3 + (1:Int))) <| cal (zD y2.2.2 y5.ty (a_a3 + (1:Int))) λy7=>J4 (y7.2.1,y7.1,y7.2.2)) (λq3=>cal (zq a_a1.fields y2.1) λy10=>jp (ι:=Bool) (λJ13=>br (!y10.has) (J13 (true)) (cal (ze1 fuel q3.2.1 y10.dflt) λy15=>J13 ((!y15)))) (λq12=>jp (ι:=Val) (λJ17=>br q12 (asr (decide (0 <= y2.1/\y2.1 < ((a_a4.l.length:Nat):Int))) <| cal (a_a4.l[y2.1.toNat]?) λy19=>J17 ((Val.mk a_a4.kind a_a4.n a_a4.b (a_a4.l.set y2.1.toNat q3.2.1) a_a4.rule a_a4.more))) (J17 (a_a4))) (λq16=>ck ((y2.1 + (1:Int))) <| some (q3.1,q3.2.2,(y2.1 + (1:Int)),q16)))))
def zbM:Nat->(zN->zg->Int->Val->Option (Bool × zN × Val)) × (zN->Int->Int->Option (Val × Bool × zN)) × (zN->zg->Int->Val->Option (Bool × zN × Val)) × (zN->zg->Val->Int->Option (Bool × zN × Val)) × (zN->zg->Int->Int->Val->Option (Bool × zN × Int × Val)) × (zN->zg->Int->Int->Val->Option (Bool × zN × Int × Val))
 | 0=>(λ_ _ _ _=>none,λ_ _ _=>none,λ_ _ _ _=>none,λ_ _ _ _=>none,λ_ _ _ _ _=>none,λ_ _ _ _ _=>none)
 | n + 1=>let p:=zbM n;(zc5 p.1 p.2.1 p.2.2.1 p.2.2.2.1 p.2.2.2.2.1 p.2.2.2.2.2,zde p.1 p.2.1 p.2.2.1 p.2.2.2.1 p.2.2.2.2.1 p.2.2.2.2.2,zdC p.1 p.2.1 p.2.2.1 p.2.2.2.1 p.2.2.2.2.1 p.2.2.2.2.2,zdz p.1 p.2.1 p.2.2.1 p.2.2.2.1 p.2.2.2.2.1 p.2.2.2.2.2,zdc p.1 p.2.1 p.2.2.1 p.2.2.2.1 p.2.2.2.2.1 p.2.2.2.2.2,zcV p.1 p.2.1 p.2.2.1 p.2.2.2.1 p.2.2.2.2.1 p.2.2.2.2.2)
def zaH (n:Nat):zN->zg->Int->Val->Option (Bool × zN × Val):=(zbM n).1
def zau (n:Nat):zN->Int->Int->Option (Val × Bool × zN):=(zbM n).2.1
def zaN (n:Nat):zN->zg->Int->Val->Option (Bool × zN × Val):=(zbM n).2.2.1
def zaP (n:Nat):zN->zg->Val->Int->Option (Bool × zN × Val):=(zbM n).2.2.2.1
def zaJ (n:Nat):zN->zg->Int->Int->Val->Option (Bool × zN × Int × Val):=(zbM n).2.2.2.2.1
def zaC (n:Nat):zN->zg->Int->Int->Val->Option (Bool × zN × Int × Val):=(zbM n).2.2.2.2.2

def zgs (a_t:zZ) (a_i:Int) (zaZ:Str):Option (Val × Int × Int) :=
 cal (ziK zaZ) λy2=>br (!decide (y2.2.2=(0:Int))) (some ((Val.mk (0:Int) (0:Int) ([]:(List UInt8)) ([]:(List Val)) (0:Int) ([]:(List Raw))),y2.2.1,y2.2.2)) (jp (ι:=Bool) (λJ4=>br (decide (a_i < (0:Int))) (J4 (true)) (J4 ((decide ((a_t.types.length:Int) <= a_i))))) (λq3=>br q3 (some ((Val.mk (0:Int) (0:Int) ([]:(List UInt8)) ([]:(List Val)) (0:Int) ([]:(List Raw))),(0:Int),(9:Int))) (cal (zau fuel (zN.mk (zha.mk y2.1 (0:Int)) a_t (0:Int) (0:Int)) a_i (0:Int)) λy7=>jp (ι:=Bool × zN) (λJ10=>br y7.2.1 (cal (zbZ y7.2.2) λy12=>J10 ((!decide (y12.1.kind=(0:Int))),y12.2)) (J10 (false,y7.2.2))) (λq9=>jp (ι:=Bool × zN) (λJ14=>br q9.1 (cal (zbX q9.2 (7:Int)) λy15=>J14 (y15.1,y15.2)) (J14 (y7.2.1,q9.2))) (λq13=>br (!q13.1) (some ((Val.mk (0:Int) (0:Int) ([]:(List UInt8)) ([]:(List Val)) (0:Int) ([]:(List Raw))),q13.2.at_,q13.2.e)) (cal (zea a_t a_i y7.1) λy18=>br (!y18) (some ((Val.mk (0:Int) (0:Int) ([]:(List UInt8)) ([]:(List Val)) (0:Int) ([]:(List Raw))),(0:Int),(13:Int))) (some (y7.1,(0:Int),(0:Int)))))))))
inductive PR (α:Type)
 | ok (x:α) (r:List zS)
 | bad (p e:Int)
def isW (t:zS) (s:List UInt8):Bool:=(decide (t.kind=5) || decide (t.kind=6)) && decide (t.text=⟨s⟩)
def atp:List zS->Int
 | []=>0
 | t :: _=>t.at_
def pIs (s:List UInt8):List zS->Option (List zS)
 | []=>none
 | t :: r=>bif isW t s then some r else none
def pOf (k:Int):List zS->Option (Str × List zS)
 | []=>none
 | t :: r=>bif decide (t.kind=k) then some (t.text,r) else none
def zji (fs:List zaF) (s:Str):Nat->Nat->Option Nat
 | 0,_=>none
 | n + 1,k=>match fs[k]? with
  | some f=>bif decide (f.name=s) then some k else zji fs s n (k + 1)
  | none=>none
def zlC (fs:List zaF) (k:Nat):List zS->Option (Nat × List zS)
 | []=>none
 | t :: r=>bif decide (t.kind=2) then (zji fs t.text (fs.length - k) k).map λj=>(j,r) else none
def zkA (s:Str):List zai->Option Int
 | []=>none
 | y :: l=>bif decide (y.name=s) then some y.number else zkA s l
def znd (x:zg):List zS->Option (Int × List zS)
 | []=>none
 | t :: r=>bif decide (t.kind=2) then (zkA t.text x.items).map λj=>(j,r) else none
def zoO (s:Str):Int:=match zba s 10 64 with
 | some r=>r.1
 | none=>0
def zsi (s:Str):List UInt8:=match zd2 s with
 | some r=>r
 | none=>[]
def zhV (f:List zS->PR Val):Nat->List zS->List Val->PR (List Val)
 | 0,ts,_=>.bad (atp ts) 7
 | n + 1,ts,acc=>match f ts with
  | .bad p e=>.bad p e
  | .ok w r=>match pIs [44] r with
   | some r2=>zhV f n r2 (acc ++ [w])
   | none=>match pIs [125] r with
    | some r3=>.ok (acc ++ [w]) r3
    | none=>.bad (atp r) 7
open Classical in
/-- A field's value is laid, but for one that is the default. -/
noncomputable def zfe (x:zaF) (j:Nat) (w:Val) (acc:List Val):List Val:=if x.has=true/\w=x.dflt then acc else acc.set j w
theorem zqO {x:zaF} {j:Nat} {w:Val} {acc:List Val} (h:x.has=false):zfe x j w acc=acc.set j w:=by
 unfold zfe;rw [if_neg (by rw [h];simp)]
theorem zto {x:zaF} {j:Nat} {w:Val} {acc:List Val} (h:w ≠ x.dflt):zfe x j w acc=acc.set j w:=by
 unfold zfe;rw [if_neg λk=>h k.2]
theorem ztB {x:zaF} {j:Nat} {w:Val} {acc:List Val} (h:x.has=true) (k:w=x.dflt):zfe x j w acc=acc:=by
 unfold zfe;rw [if_pos ⟨h,k⟩]
noncomputable def zhX (fs:List zaF) (f:Int->List zS->PR Val):Nat->List zS->Nat->List Val->PR (List Val)
 | 0,ts,_,_=>.bad (atp ts) 7
 | n + 1,ts,k,acc=>match zlC fs k ts with
  | none=>.bad (atp ts) 7
  | some (j,r0)=>match fs[j]? with
   | none=>.bad (atp ts) 7
   | some x=>match f x.ty r0 with
    | .bad p e=>.bad p e
    | .ok w r=>match pIs [44] r with
     | some r2=>zhX fs f n r2 (j + 1) (zfe x j w acc)
     | none=>match pIs [125] r with
      | some r3=>.ok (zfe x j w acc) r3
      | none=>.bad (atp r) 7
def PR.map {α β:Type} (f:α->β):PR α->PR β
 | .ok x r=>.ok (f x) r
 | .bad p e=>.bad p e
def zd3 (k n:Int) (b:List UInt8) (l:List Val):Val:=Val.mk k n b l 0 []
def zsr (f:List zS->PR Val) (ts:List zS):PR (List Val):=match pIs [123] ts with
 | none=>.bad (atp ts) 7
 | some r=>match pIs [125] r with
  | some r2=>.ok [] r2
  | none=>zhV f r.length r []
noncomputable def zpX (fs:List zaF) (f:Int->List zS->PR Val) (ts:List zS):PR (List Val):=match pIs [123] ts with
 | none=>.bad (atp ts) 7
 | some r=>match pIs [125] r with
  | some r2=>.ok (List.replicate fs.length zc2) r2
  | none=>zhX fs f r.length r 0 (List.replicate fs.length zc2)
noncomputable def pvK (f:Int->List zS->PR Val) (x:zg) (ts:List zS):PR Val :=
 if x.kind=1 then (match pIs [84,82,85,69] ts with
  | some r=>.ok (zd3 1 1 [] []) r
  | none=>match pIs [70,65,76,83,69] ts with
   | some r=>.ok (zd3 1 0 [] []) r
   | none=>.bad (atp ts) 7)
 else if x.kind=4 then (match pIs [78,85,76,76] ts with
  | some r=>.ok (zd3 4 0 [] []) r
  | none=>.bad (atp ts) 7)
 else if x.kind=2 then (match pOf 3 ts with
  | some (s,r)=>.ok (zd3 2 (zoO s) [] []) r
  | none=>.bad (atp ts) 7)
 else if x.kind=3 then (match znd x ts with
  | some (n,r)=>.ok (zd3 3 n [] []) r
  | none=>.bad (atp ts) 7)
 else if x.kind=5 then (match pOf 4 ts with
  | some (s,r)=>.ok (zd3 5 0 (zsi s) []) r
  | none=>.bad (atp ts) 7)
 else if x.kind=6 then (match pOf 7 ts with
  | some (s,r)=>.ok (zd3 6 0 s.b []) r
  | none=>.bad (atp ts) 7)
 else if x.kind=10 then (PR.map (zd3 10 0 []) (zsr (f x.of) ts))
 else if x.kind=9 then (match zlC x.fields 0 ts with
  | none=>.bad (atp ts) 7
  | some (j,r)=>match pIs [58] r with
   | none=>.bad (atp r) 7
   | some r2=>match x.fields[j]? with
    | none=>.bad (atp r) 7
    | some y=>PR.map (λw=>zd3 9 (j:Int) [] [w]) (f y.ty r2))
 else (PR.map (zd3 x.kind 0 []) (zpX x.fields f ts))
noncomputable def pv:Nat->List zg->Int->List zS->PR Val
 | 0,_,_,ts=>.bad (atp ts) 5
 | h + 1,l,i,ts=>match l[i.toNat]? with
  | none=>.bad (atp ts) 9
  | some x=>pvK (pv h l) x ts
theorem zyo {h:Nat} {l:List zg} {i:Int} {x:zg} (hx:l[i.toNat]?=some x) (ts:List zS):pv (h + 1) l i ts=pvK (pv h l) x ts:=by
 show (match l[i.toNat]? with | none=>_ | some x=>_)=_
 rw [hx]

/-! ### Where it stands -/
/-- From a place on these signs stand; the last one is the end. -/
structure Sd (L:List zS) (a:Int) (ts:List zS):Prop where
 a0:0 <= a
 len:L.length <= 9000
 dr:L.drop a.toNat=ts
 ends:∃ l t,ts=l ++ [t]/\t.kind=0
theorem Sd.cons {L a ts} (h:Sd L a ts):∃ t r,ts=t :: r/\zq L a=some t/\a.toNat + ts.length=L.length/\(t.kind ≠ 0->Sd L (a + 1) r):=by
 obtain ⟨l,e,h1,h2⟩:=h.ends
 have hd:=h.dr
 cases ts with
 | nil=>cases l <;> cases h1
 | cons t r =>
  have hlen:a.toNat + (t :: r).length=L.length:=by
   have:=congrArg List.length hd
   rw [zLd,zLc] at this
   rw [zLc];omega
  refine ⟨t,r,rfl,?_,hlen,λhk=>⟨by have:=h.a0;omega,h.len,?_,?_⟩⟩
  ·have e:L[a.toNat]?=some t:=by
    have:=List.getElem?_drop (xs:=L) (i:=a.toNat) (j:=0)
    rw [hd] at this
    simpa using this.symm
   unfold zq
   have h0:=h.a0
   cases a with
   | ofNat n=>exact e
   | negSucc n=>omega
  ·have e:(a + 1).toNat=a.toNat + 1:=by have:=h.a0;omega
   rw [e,<- List.drop_drop,hd];rfl
  ·cases l with
   | nil =>
    injection h1 with h1 h3
    subst h1;exact absurd h2 hk
   | cons y l =>
    injection h1 with h1 h3
    exact ⟨l,e,h3,h2⟩
theorem zwV {s:List UInt8} {ts r:List zS} (h:pIs s ts=some r):∃ t,ts=t :: r/\isW t s=true:=by
 cases ts with
 | nil=>cases h
 | cons t r' =>
  change (bif isW t s then some r' else none)=some r at h
  cases hb:isW t s with
  | true=>rw [hb,zCt] at h;cases h;exact ⟨t,rfl,hb⟩
  | false=>rw [hb,zCf] at h;cases h
theorem zvQ {t:zS} {s:List UInt8} (h:isW t s=true):t.kind ≠ 0:=by
 unfold isW at h
 rw [zBa,Bool.or_eq_true] at h
 rcases h.1 with h | h
 ·have:=zOT h;omega
 ·have:=zOT h;omega
theorem Sd.is {L a ts r s} (h:Sd L a ts) (hs:pIs s ts=some r):Sd L (a + 1) r/\r.length + 1=ts.length:=by
 obtain ⟨t,e,hw⟩:=zwV hs
 obtain ⟨t',r',e',_,_,h2⟩:=h.cons
 subst e
 cases e'
 exact ⟨h2 (zvQ hw),rfl⟩
theorem zvf {k:Int} {s:Str} {ts r:List zS} (h:pOf k ts=some (s,r)):∃ t,ts=t :: r/\t.kind=k/\t.text=s:=by
 cases ts with
 | nil=>cases h
 | cons t r' =>
  change (bif decide (t.kind=k) then some (t.text,r') else none)=some (s,r) at h
  cases hb:decide (t.kind=k) with
  | true=>rw [hb,zCt] at h;cases h;exact ⟨t,rfl,zOT hb,rfl⟩
  | false=>rw [hb,zCf] at h;cases h
theorem Sd.next {L a ts t r} (h:Sd L a ts) (e:ts=t :: r) (hk:t.kind ≠ 0):Sd L (a + 1) r/\r.length + 1=ts.length:=by
 obtain ⟨t',r',e',_,_,h2⟩:=h.cons
 subst e
 cases e'
 exact ⟨h2 hk,rfl⟩

section small
variable {L:List zS} {a:Int} {ts:List zS} {t:zZ} {p:Int}
def st (L:List zS) (t:zZ) (p:Int) (a:Int):zN:=⟨⟨L,a⟩,t,p,0⟩
theorem zlU (h:Sd L a ts) (e:Int):zbX (st L t p a) e=some (false,⟨⟨L,a⟩,t,atp ts,e⟩):=by
 obtain ⟨y,r,e1,e2,_⟩:=h.cons
 refine T.eqs ?_
 unfold zbX
 refine T.jp0 (T.br (λ_=>T.eq (y:=(y,st L t p a)) ?_ (T.some ?_)) λh=>by cases h)
 ·unfold zbZ
  exact (T.eqs (T.eq e2 (T.some rfl)))
 ·subst e1;rfl
theorem zoB (h:Sd L a ts):∃ y r,ts=y :: r/\zbZ (st L t p a)=some (y,st L t p a):=by
 obtain ⟨y,r,e1,e2,_⟩:=h.cons
 refine ⟨y,r,e1,?_⟩
 unfold zbZ
 exact (T.eqs (T.eq e2 (T.some rfl)))
theorem zuv (h:Sd L a ts) (s:List UInt8):zcL (st L t p a) ⟨s⟩=some (match pIs s ts with | some _=>(true,st L t p (a + 1)) | none=>(false,st L t p a)):=by
 obtain ⟨y,r,e1,e2,e3,_⟩:=h.cons
 have ha:=h.a0
 have hl:=h.len
 obtain ⟨y',r',e1',e4⟩:=zoB (t:=t) (p:=p) h
 rw [e1] at e1';cases e1'
 refine T.eqs ?_
 unfold zcL
 refine T.eq e4 ?_
 have hw:isW y s=!((!decide (y.kind=5) && !decide (y.kind=6)) || !decide (y.text=⟨s⟩)):=by
  unfold isW
  cases decide (y.kind=5) <;> cases decide (y.kind=6) <;> cases decide (y.text=⟨s⟩) <;> rfl
 refine T.and' (T.or' (T.br (λhb=>?_) λhb=>?_))
 ·rw [hb] at hw
  subst e1
  have:pIs s (y :: r)=none:=by show (bif isW y s then some r else none)=_;rw [hw];rfl
  rw [this];exact T.some rfl
 ·rw [hb] at hw
  subst e1
  have:pIs s (y :: r)=some r:=by show (bif isW y s then some r else none)=_;rw [hw];rfl
  rw [this]
  refine T.ck ?_ (T.some rfl)
  show _ <= a + 1/\a + 1 <= _
  rw [zLc] at e3;omega
theorem zlO (h:Sd L a ts) (s:List UInt8):zb1 (st L t p a) ⟨s⟩=some (match pIs s ts with | some _=>(true,st L t p (a + 1)) | none=>(false,⟨⟨L,a⟩,t,atp ts,7⟩)):=by
 refine T.eqs ?_
 unfold zb1
 refine T.eq (zuv h s) ?_
 cases hp:pIs s ts with
 | some r=>exact T.jp0 (T.br (λ_=>T.some rfl) λh=>by cases h)
 | none=>exact T.jp0 (T.br (λh=>by cases h) λ_=>T.eq (zlU h 7) (T.some rfl))
theorem zzA (h:Sd L a ts) (k:Int):zef (st L t p a) k=some (match pOf k ts with | some (s,_)=>(s,true,st L t p (a + 1)) | none=>(⟨[]⟩,false,⟨⟨L,a⟩,t,atp ts,7⟩)):=by
 obtain ⟨y,r,e1,e2,e3,_⟩:=h.cons
 have ha:=h.a0
 have hl:=h.len
 obtain ⟨y',r',e1',e4⟩:=zoB (t:=t) (p:=p) h
 rw [e1] at e1';cases e1'
 refine T.eqs ?_
 unfold zef
 refine T.eq e4 (T.br (λhb=>?_) λhb=>?_)
 ·have:pOf k ts=none:=by subst e1;show (bif decide (y.kind=k) then some (y.text,r) else none)=_;rw [show decide (y.kind=k)=false by simpa using hb];rfl
  rw [this]
  exact T.eq (zlU h 7) (T.some rfl)
 ·have:pOf k ts=some (y.text,r):=by subst e1;show (bif decide (y.kind=k) then some (y.text,r) else none)=_;rw [show decide (y.kind=k)=true by simpa using hb];rfl
  rw [this]
  refine T.ck ?_ (T.some rfl)
  show _ <= a + 1/\a + 1 <= _
  rw [e1,zLc] at e3;omega
theorem znm {fs:List zaF} {s:Str}:∀ {n k j:Nat},zji fs s n k=some j->k <= j/\∃ f,fs[j]?=some f/\f.name=s:=by
 intro n
 induction n with
 | zero=>intro k j h;cases h
 | succ n ih =>
  intro k j h
  change (match fs[k]? with | some f=>(bif decide (f.name=s) then some k else zji fs s n (k + 1)) | none=>none)=some j at h
  cases hf:fs[k]? with
  | none=>rw [hf] at h;cases h
  | some f =>
   rw [hf] at h
   dsimp only at h
   cases hb:decide (f.name=s) with
   | true=>rw [hb,zCt] at h;cases h;exact ⟨zNl _,f,hf,zOT hb⟩
   | false =>
    rw [hb,zCf] at h
    obtain ⟨h1,h2⟩:=ih h
    exact ⟨by omega,h2⟩
theorem zsX (h:Sd L a ts) (fs:List zaF) (hfl:fs.length <= 1000000) (k:Nat) (hk:k <= 1000000):zdK (st L t p a) fs (k:Int)=some (match zlC fs k ts with | some (j,_)=>((j:Int),true,st L t p (a + 1)) | none=>(0,false,⟨⟨L,a⟩,t,atp ts,7⟩)):=by
 obtain ⟨y,r,e1,e2,e3,_⟩:=h.cons
 have ha:=h.a0
 have hl:=h.len
 obtain ⟨y',r',e1',e4⟩:=zoB (t:=t) (p:=p) h
 rw [e1] at e1';cases e1'
 refine T.eqs ?_
 unfold zdK
 refine T.eq e4 ?_
 by_cases hk2:y.kind=2
 ·have e5:zlC fs k ts=(zji fs y.text (fs.length - k) k).map λj=>(j,r):=by
   subst e1;show (bif decide (y.kind=2) then (zji fs y.text (fs.length - k) k).map _ else none)=_;rw [zDT hk2];rfl
  rw [e5]
  refine T.lp (ι:=Int) (λq=>∃ m:Nat,q=(m:Int)/\k <= m/\(m <= fs.length \/ m=k)/\zji fs y.text (fs.length - m) m=zji fs y.text (fs.length - k) k) (λq=>((fs.length:Int) - q).toNat) ⟨k,rfl,zNl _,.inr rfl,rfl⟩ (by omega) λJ q ⟨m,e6,hm,hm2,e7⟩ hJ=>?_
  subst e6
  rw [zDT hk2]
  refine T.and' (T.br (λhb=>?_) λhb=>?_)
  ·rw [Bool.and_true] at hb
   have hb:=zOT hb
   refine T.get (by omega) (by omega) λf hf=>?_
   rw [Int.toNat_natCast] at hf
   have e8:zji fs y.text (fs.length - m) m=bif decide (f.name=y.text) then some m else zji fs y.text (fs.length - (m + 1)) (m + 1):=by
    rw [show fs.length - m=(fs.length - (m + 1)) + 1 by omega]
    show (match fs[m]? with | some f=>_ | none=>_)=_
    rw [hf]
   refine T.br (λhn=>?_) λhn=>T.ck (by omega) (hJ _ ⟨m + 1,by omega,by omega,by omega,?_⟩ (by omega))
   ·rw [hn,zCt] at e8
    rw [<- e7,e8]
    refine T.ck ?_ (T.some rfl)
    show _ <= a + 1/\a + 1 <= _
    rw [e1,zLc] at e3;omega
   ·rw [hn,zCf] at e8
    rw [<- e7,e8]
  ·rw [Bool.and_true] at hb
   have hb:=zOF hb
   rw [<- e7,show fs.length - m=0 by omega]
   exact T.eq (zlU h 7) (T.some rfl)
 ·have e5:zlC fs k ts=none:=by subst e1;show (bif decide (y.kind=2) then (zji fs y.text (fs.length - k) k).map _ else none)=_;rw [zDF hk2];rfl
  rw [e5]
  refine T.lp (ι:=Int) (λq=>q=(k:Int)) (λq=>0) rfl (by omega) λJ q _ hJ=>?_
  rw [zDF hk2]
  refine T.and' (T.br (λhb=>by simp at hb) λhb=>?_)
  exact T.eq (zlU h 7) (T.some rfl)
theorem zzu (h:Sd L a ts) (x:zg) (hil:x.items.length <= 1000000):zeS (st L t p a) x=some (match znd x ts with | some (n,_)=>(n,true,st L t p (a + 1)) | none=>(0,false,⟨⟨L,a⟩,t,atp ts,7⟩)):=by
 obtain ⟨y,r,e1,e2,e3,_⟩:=h.cons
 have ha:=h.a0
 have hl:=h.len
 obtain ⟨y',r',e1',e4⟩:=zoB (t:=t) (p:=p) h
 rw [e1] at e1';cases e1'
 refine T.eqs ?_
 unfold zeS
 refine T.eq e4 ?_
 refine T.lp (ι:=Int) (λq=>0 <= q/\q <= (x.items.length:Int)/\(y.kind=2->zkA y.text (x.items.drop q.toNat)=zkA y.text x.items)) (λq=>((x.items.length:Int) - q).toNat) ⟨zIl _,by omega,λ_=>rfl⟩ (by omega) λJ q ⟨q0,q1,q2⟩ hJ=>T.br (λhb=>?_) λhb=>?_
 ·have hb:=zOT hb
  refine T.get q0 hb λit hit=>T.and' ?_
  have hd:x.items.drop q.toNat=it :: x.items.drop (q.toNat + 1):=by
   obtain ⟨h1,h2⟩:=List.getElem?_eq_some_iff.1 hit
   rw [List.drop_eq_getElem_cons h1,h2]
  refine T.br (λhn=>?_) λhn=>T.ck (by omega) (hJ _ ⟨by omega,by omega,λhk=>?_⟩ (by omega))
  ·rw [zBa] at hn
   have hk:=zOT hn.1
   have e5:znd x ts=some (it.number,r):=by
    subst e1;show (bif decide (y.kind=2) then (zkA y.text x.items).map _ else none)=_
    rw [hn.1,zCt,<- q2 hk,hd]
    show Option.map _ (bif decide (it.name=y.text) then _ else _)=_
    rw [hn.2];rfl
   rw [e5]
   refine T.ck ?_ (T.some rfl)
   show _ <= a + 1/\a + 1 <= _
   rw [e1,zLc] at e3;omega
  ·rw [zDT hk,Bool.true_and] at hn
   rw [<- q2 hk,hd,show (q + 1).toNat=q.toNat + 1 by omega]
   show _=(bif decide (it.name=y.text) then _ else _)
   rw [hn];rfl
 ·have hb:=zOF hb
  have e5:znd x ts=none:=by
   subst e1;show (bif decide (y.kind=2) then (zkA y.text x.items).map _ else none)=_
   cases hk:decide (y.kind=2) with
   | false=>rfl
   | true =>
    rw [zCt,<- q2 (zOT hk),zDn (by omega)];rfl
  rw [e5]
  exact T.eq (zlU h 7) (T.some rfl)
end small
structure TOk (l:List zg):Prop where
 len:l.length <= 1000
 fl:∀ x ∈ l,x.fields.length <= 1000
 il:∀ x ∈ l,x.items.length <= 100000
 kf:∀ x ∈ l,∀ f ∈ x.fields,0 <= f.ty/\f.ty < l.length
 ko:∀ x ∈ l,x.kind=10->0 <= x.of/\x.of < l.length
 kd:∀ x ∈ l,1 <= x.kind/\x.kind <= 10
structure TokG (t:zS):Prop where
 len:t.text.b.length <= 9000
 num:t.kind=3->∃ r,zba t.text 10 64=some r
 hex:t.kind=4->∃ r,zd2 t.text=some r/\r.length <= 9000
theorem zer {k n:Int} {b:List UInt8} {l:List Val} (hb:b.length <= 68719476736) (hl:l.length <= 68719476736) (hk:∀ w ∈ l,zbV w):zbV (zd3 k n b l) :=
 .mk hb hl (zNz _) (λr hr=>by cases hr) hk
theorem zgh (k n:Int) (b:List UInt8) (l:List Val):cnt (zd3 k n b l)=1 + (l.map cnt).sum:=zhv _
theorem zid:zbV zc2:=.mk (zNz _) (zNz _) (zNz _) (λr hr=>by cases hr) (λw hw=>by cases hw)
theorem zjo:cnt zc2=1:=by rw [zhv];rfl
theorem zqA:∀ {l:List Val} {j:Nat} {w y:Val},l[j]?=some y->((l.set j w).map cnt).sum + cnt y=(l.map cnt).sum + cnt w
 | [],_,_,_,h=>by simp at h
 | x :: l,0,w,y,h=>by
  simp at h;subst h
  simp only [List.set_cons_zero,List.map_cons,List.sum_cons];omega
 | x :: l,j + 1,w,y,h=>by
  have:=zqA (l:=l) (j:=j) (w:=w) (y:=y) (by simpa using h)
  simp only [List.set_cons_succ,List.map_cons,List.sum_cons];omega
theorem zrx {l:List Val} {j:Nat} {w x:Val} (h:x ∈ l.set j w):x ∈ l \/ x=w:=by
 rcases List.mem_or_eq_of_mem_set h with h | h
 ·exact .inl h
 ·exact .inr h
def VR (L:List zS) (t:zZ) (p0:Int) (ts:List zS):PR Val->(Val × Bool × zN)->Prop
 | .ok v rest,r=>∃ a',r=(v,true,st L t p0 a')/\Sd L a' rest/\zbV v/\cnt v + 1000 * rest.length <= 1000 * ts.length
 | .bad p e,r=>r.2.1=false/\r.2.2.at_=p/\r.2.2.e=e/\e ≠ 0/\zbV r.1/\cnt r.1 <= 2000 * ts.length
def KR (L:List zS) (t:zZ) (p0:Int) (ts:List zS):PR Val->(Bool × Val × zN)->Prop
 | .ok v rest,q=>∃ a',q=(true,v,st L t p0 a')/\Sd L a' rest/\zbV v/\cnt v + 1000 * rest.length <= 1000 * ts.length
 | .bad p e,q=>q.2.2.at_=p/\q.2.2.e=e/\e ≠ 0/\zbV q.2.1/\cnt q.2.1 <= 2000 * ts.length
def BX (v0:Val) (ts:List zS) (v:Val):Prop:=∃ l,v=Val.mk v0.kind v0.n v0.b l v0.rule v0.more/\(∀ w ∈ l,zbV w)/\l.length <= 10000/\(l.map cnt).sum + 1 <= 2000 * ts.length
def BR (L:List zS) (t:zZ) (p0:Int) (v0:Val) (ts:List zS) (c0:Nat):PR (List Val)->(Bool × zN × Val)->Prop
 | .ok l rest,r=>∃ a',r=(true,st L t p0 a',Val.mk v0.kind v0.n v0.b l v0.rule v0.more)/\Sd L a' rest/\(∀ w ∈ l,zbV w)/\l.length <= 10000/\(l.map cnt).sum + 1000 * rest.length + 1001 <= 1000 * ts.length + c0
 | .bad p e,r=>r.1=false/\r.2.1.at_=p/\r.2.1.e=e/\e ≠ 0/\BX v0 ts r.2.2
theorem zkm (n:Nat):zau (n + 1)=zde (zaH n) (zau n) (zaN n) (zaP n) (zaJ n) (zaC n):=rfl
theorem zmR (n:Nat):zaN (n + 1)=zdC (zaH n) (zau n) (zaN n) (zaP n) (zaJ n) (zaC n):=rfl
theorem zqb (n:Nat):zaH (n + 1)=zc5 (zaH n) (zau n) (zaN n) (zaP n) (zaJ n) (zaC n):=rfl
theorem zmG (n:Nat):zaP (n + 1)=zdz (zaH n) (zau n) (zaN n) (zaP n) (zaJ n) (zaC n):=rfl
theorem zmD (n:Nat):zaJ (n + 1)=zdc (zaH n) (zau n) (zaN n) (zaP n) (zaJ n) (zaC n):=rfl
theorem zoU (n:Nat):zaC (n + 1)=zcV (zaH n) (zau n) (zaN n) (zaP n) (zaJ n) (zaC n):=rfl
def Rd (L:List zS) (t:zZ) (p0:Int) (f:List zS->PR Val) (M:zN->Option (Val × Bool × zN)):Prop:=∀ a ts,Sd L a ts->T (VR L t p0 ts (f ts)) (M (st L t p0 a))
theorem zxk {L : List zS} {t:zZ} {p0:Int} {f:List zS->PR Val} {n:Nat} {x:zg} {d:Int} {v0:Val} (hd:0 <= d/\d <= 100) (hf:Rd L t p0 f λs=>zau n s x.of (d + 1)) {a:Int} {ts:List zS} (h:Sd L a ts) (hv:v0.l=[]) :
    T (BR L t p0 v0 ts 0 (zsr f ts)) (zaN (n + 2) (st L t p0 a) x d v0):=by
  obtain ⟨_,_,eT,_,_,_⟩:=h.cons
  have hts:1 <= ts.length:=by rw [eT,zLc];omega
  have bx0:BX v0 ts v0:=⟨[],by rw [<- hv,Val.eta],(λw hw=>by cases hw),zNz _,by simp only [List.map_nil,List.sum_nil];omega⟩
  rw [zmR]
  unfold zdC zsr
  refine T.eq (zlO h [123]) ?_
  cases h1:pIs [123] ts with
  | none=>exact T.br (λ_=>T.some ⟨rfl,rfl,rfl,by decide,bx0⟩) λh=>by cases h
  | some r =>
    obtain ⟨A1,l1⟩:=h.is h1
    refine T.br (λh=>by cases h) λ_=>T.eq (zuv A1 [125]) ?_
    dsimp only
    cases h2:pIs [125] r with
    | some r2 =>
      obtain ⟨A2,l2⟩:=A1.is h2
      refine T.br (λ_=>T.some ⟨_,by rw [<- hv,Val.eta],A2,(λw hw=>by cases hw),zNz _,?_⟩) λh=>by cases h
      simp only [List.map_nil,List.sum_nil];omega
    | none =>
      refine T.br (λh=>by cases h) λ_=>?_
      have hlen:=A1.len
      obtain ⟨_,_,_,_,hrl,_⟩:=A1.cons
      refine T.lp (ι:=zN × Val) (λq=>∃ a' ts' acc k,q=(st L t p0 a',Val.mk v0.kind v0.n v0.b acc v0.rule v0.more)/\Sd L a' ts'/\(∀ w ∈ acc,zbV w)/\acc.length + ts'.length <= r.length/\ts'.length <= k/\(acc.map cnt).sum + 1000 * ts'.length <= 1000 * r.length/\zhV f k ts' acc=zhV f r.length r [])
        (λq=>10000 - q.1.stream.i.toNat) ⟨a + 1,r,[],r.length,by rw [<- hv,Val.eta],A1,(λw hw=>by cases hw),by simp,zNl _,by simp,rfl⟩ (by dsimp only;omega) λJ q ⟨a',ts',acc,k,e1,A2,g1,g2,g3,g4,g5⟩ hJ=>?_
      subst e1
      obtain ⟨y0,r0,ey,_,hA2,_⟩:=A2.cons
      obtain ⟨k,rfl⟩:∃ k',k=k' + 1:=⟨k - 1,by rw [ey,zLc] at g3;omega⟩
      refine T.cal (Q:=λr1=>∃ w,r1.2.2=Val.mk v0.kind v0.n v0.b (acc ++ [w]) v0.rule v0.more/\zbV w/\cnt w <= 2000 * ts'.length/\match f ts' with
        | .ok w' rest=>w'=w/\∃ a2,r1.1=true/\r1.2.1=st L t p0 a2/\Sd L a2 rest/\cnt w + 1000 * rest.length <= 1000 * ts'.length
        | .bad p e=>r1.1=false/\r1.2.1.at_=p/\r1.2.1.e=e/\e ≠ 0) ?_ λr1 _ hr1=>?_
      · rw [zqb]
        unfold zc5
        refine T.ck (by omega) (T.cal (hf a' ts' A2) λy _ hy=>T.jp (λv=>v=Val.mk v0.kind v0.n v0.b (acc ++ [y.1]) v0.rule v0.more) (λJ2 k2=>?_) λv hv2=>T.some ?_)
        · refine T.abl (by simp only [Val.l_mk,zLs];omega) (T.asd (by simp only [Val.l_mk,zLa,zLs];omega) (T.eq (y:=zc2) ?_ (k2 _ ?_)))
          · simp only [Val.l_mk,Int.toNat_natCast]
            rw [List.getElem?_append_right (zNl _),Nat.sub_self];rfl
          · simp only [Val.kind_mk,Val.n_mk,Val.b_mk,Val.l_mk,Val.rule_mk,Val.more_mk,Int.toNat_natCast]
            rw [List.set_append_right _ _ (zNl _),Nat.sub_self];rfl
        · subst hv2
          cases hfr:f ts' with
          | ok w rest =>
            rw [hfr] at hy
            obtain ⟨a2,e2,A3,F1,c1⟩:=hy
            subst e2
            exact ⟨w,rfl,F1,by omega,rfl,a2,rfl,rfl,A3,c1⟩
          | bad p e =>
            rw [hfr] at hy
            obtain ⟨z1,z2,z3,z4,z5,z6⟩:=hy
            exact ⟨y.1,rfl,z5,z6,z1,z2,z3,z4⟩
      · have eP : zhV f (k + 1) ts' acc=match f ts' with
            | .bad p e=>.bad p e
            | .ok w r=>match pIs [44] r with
              | some r2=>zhV f k r2 (acc ++ [w])
              | none=>match pIs [125] r with
                | some r3=>.ok (acc ++ [w]) r3
                | none=>.bad (atp r) 7:=rfl
        obtain ⟨w,ew,F1,c0,hr1⟩:=hr1
        have gacc:∀ w' ∈ acc ++ [w],zbV w':=λw' hw'=>by
          rcases List.mem_append.1 hw' with h | h
          · exact g1 w' h
          · rw [zMo.1 h];exact F1
        have gsum:((acc ++ [w]).map cnt).sum=(acc.map cnt).sum + cnt w:=by simp
        have glen:(acc ++ [w]).length=acc.length + 1:=by rw [zLa,zLs]
        have hts':1 <= ts'.length:=by rw [ey,zLc];omega
        have hbx:BX v0 ts r1.2.2:=⟨_,ew,gacc,by omega,by rw [gsum];omega⟩
        cases hfr:f ts' with
        | bad p e =>
          rw [hfr] at hr1
          obtain ⟨z1,z2,z3,z4⟩:=hr1
          refine T.br (λ_=>T.some (by rw [<- g5,eP,hfr];exact ⟨rfl,z2,z3,z4,hbx⟩)) λh=>by rw [z1] at h;cases h
        | ok w' rest =>
          rw [hfr] at hr1
          obtain ⟨z0,a2,e2,e3,A3,c1⟩:=hr1
          subst z0
          obtain ⟨_,_,ey3,_,hA3,_⟩:=A3.cons
          refine T.br (λh=>by rw [e2] at h;cases h) λ_=>?_
          rw [e3]
          refine T.eq (zuv A3 [44]) ?_
          dsimp only
          have hcw:=zey w'
          cases h3:pIs [44] rest with
          | some r2 =>
            obtain ⟨A4,l4⟩:=A3.is h3
            have ha4:=A4.a0
            refine T.br (λh=>by cases h) λ_=>?_
            rw [ew]
            refine hJ _ ⟨a2 + 1,r2,acc ++ [w'],k,rfl,A4,gacc,by omega,by omega,by rw [gsum];omega,by rw [<- g5,eP,hfr];dsimp only;rw [h3]⟩ ?_
            have:=A3.a0
            have:=A2.a0
            show 10000 - (a2 + 1).toNat < 10000 - a'.toNat
            omega
          | none =>
            refine T.br (λ_=>T.eq (zlO A3 [125]) ?_) λh=>by cases h
            cases h4:pIs [125] rest with
            | some r3 =>
              obtain ⟨A4,l4⟩:=A3.is h4
              refine T.some ?_
              rw [<- g5,eP,hfr]
              dsimp only
              rw [h3,h4]
              exact ⟨a2 + 1,by rw [ew],A4,gacc,by omega,by rw [gsum];omega⟩
            | none =>
              refine T.some ?_
              rw [<- g5,eP,hfr]
              dsimp only
              rw [h3,h4]
              exact ⟨rfl,rfl,rfl,by decide,hbx⟩
theorem ztw {α:Type} (n c:Nat):(List.replicate n c).sum=n * c:=by
 induction n with
 | zero=>simp
 | succ n ih=>rw [List.replicate_succ,List.sum_cons,ih,Nat.succ_mul];omega
theorem zy2 {L : List zS} {t:zZ} {p0:Int} {f:Int->List zS->PR Val} {n:Nat} {x:zg} {d:Int} {v0:Val} (hd:0 <= d/\d <= 100) (hfl:x.fields.length <= 1000) (hf:∀ y ∈ x.fields,Rd L t p0 (f y.ty) λs=>zau n s y.ty (d + 1)) {a:Int} {ts:List zS} (h:Sd L a ts) :
    T (BR L t p0 v0 ts x.fields.length (zpX x.fields f ts)) (zaP (n + 3) (st L t p0 a) x v0 d):=by
  obtain ⟨_,_,eT,_,_,_⟩:=h.cons
  have hts:1 <= ts.length:=by rw [eT,zLc];omega
  have hz0:((List.replicate x.fields.length zc2).map cnt).sum=x.fields.length:=by
    rw [List.map_replicate,zjo,ztw (α:=Nat),Nat.mul_one]
  have hzf:∀ w ∈ List.replicate x.fields.length zc2,zbV w:=λw hw=>by rw [(List.mem_replicate.1 hw).2];exact zid
  have bx0:BX v0 ts (Val.mk v0.kind v0.n v0.b (List.replicate x.fields.length zc2) v0.rule v0.more):=⟨_,rfl,hzf,by rw [List.length_replicate];omega,by rw [hz0];omega⟩
  rw [zmG]
  unfold zdz
  refine T.asd (by omega) (T.cal (Q:=λr=>match (zpX x.fields f ts) with
    | .ok l rest=>∃ a' k',r=(true,st L t p0 a',k',Val.mk v0.kind v0.n v0.b l v0.rule v0.more)/\Sd L a' rest/\(∀ w ∈ l,zbV w)/\l.length <= 10000/\(l.map cnt).sum + 1000 * rest.length + 1001 <= 1000 * ts.length + x.fields.length
    | .bad p e=>r.1=false/\r.2.1.at_=p/\r.2.1.e=e/\e ≠ 0/\BX v0 ts r.2.2.2) ?_ λy _ hy=>T.some ?_)
  · rw [Int.toNat_natCast,zmD]
    unfold zdc zpX
    refine T.eq (zlO h [123]) ?_
    cases h1:pIs [123] ts with
    | none=>exact T.br (λ_=>T.some ⟨rfl,rfl,rfl,by decide,bx0⟩) λh=>by cases h
    | some r =>
      obtain ⟨A1,l1⟩:=h.is h1
      refine T.br (λh=>by cases h) λ_=>T.eq (zuv A1 [125]) ?_
      dsimp only
      cases h2:pIs [125] r with
      | some r2 =>
        obtain ⟨A2,l2⟩:=A1.is h2
        refine T.br (λ_=>T.some ⟨_,_,rfl,A2,hzf,by rw [List.length_replicate];omega,?_⟩) λh=>by cases h
        rw [hz0];omega
      | none =>
        refine T.br (λh=>by cases h) λ_=>?_
        have hlen:=A1.len
        obtain ⟨_,_,_,_,hrl,_⟩:=A1.cons
        refine T.lp (ι:=zN × Int × Val) (λq=>∃ (a':Int) (ts':List zS) (acc:List Val) (k m:Nat),q=(st L t p0 a',(m:Int),Val.mk v0.kind v0.n v0.b acc v0.rule v0.more)/\Sd L a' ts'/\(∀ w ∈ acc,zbV w)/\acc.length=x.fields.length/\m <= 1000/\ts'.length <= k/\(acc.map cnt).sum + 1000 * ts'.length <= 1000 * r.length + x.fields.length/\zhX x.fields f k ts' m acc=zhX x.fields f r.length r 0 (List.replicate x.fields.length zc2))
          (λq=>10000 - q.1.stream.i.toNat) ⟨a + 1,r,List.replicate x.fields.length zc2,r.length,0,rfl,A1,hzf,List.length_replicate,by omega,zNl _,by rw [hz0];omega,rfl⟩ (by dsimp only;omega) λJ q ⟨a',ts',acc,k,m,e1,A2,g1,g2,gm,g3,g4,g5⟩ hJ=>?_
        subst e1
        obtain ⟨y0,r0,ey,_,hA2,_⟩:=A2.cons
        obtain ⟨k,rfl⟩:∃ k',k=k' + 1:=⟨k - 1,by rw [ey,zLc] at g3;omega⟩
        have hts':ts'.length=r0.length + 1:=by rw [ey,zLc]
        have eP : zhX x.fields f (k + 1) ts' m acc=match zlC x.fields m ts' with
          | none=>.bad (atp ts') 7
          | some (j,r0)=>match x.fields[j]? with
            | none=>.bad (atp ts') 7
            | some y=>match f y.ty r0 with
              | .bad p e=>.bad p e
              | .ok w r=>match pIs [44] r with
                | some r2=>zhX x.fields f k r2 (j + 1) (zfe y j w acc)
                | none=>match pIs [125] r with
                  | some r3=>.ok (zfe y j w acc) r3
                  | none=>.bad (atp r) 7:=rfl
        -- one field
        refine T.cal (Q:=λ(r1:Bool × zN × Int × Val)=>∃ acc',r1.2.2.2=Val.mk v0.kind v0.n v0.b acc' v0.rule v0.more/\(∀ w ∈ acc',zbV w)/\acc'.length=x.fields.length/\(acc'.map cnt).sum + 1 <= 2000 * ts.length/\match zlC x.fields m ts' with
          | none=>r1.1=false/\r1.2.1.at_=atp ts'/\r1.2.1.e=7
          | some (j,r0)=>∃ y,x.fields[j]?=some y/\match f y.ty r0 with
            | .bad p e=>r1.1=false/\r1.2.1.at_=p/\r1.2.1.e=e/\e ≠ 0
            | .ok w rest=>acc'=zfe y j w acc/\∃ a2,r1.1=true/\r1.2.1=st L t p0 a2/\r1.2.2.1=((j + 1:Nat):Int)/\Sd L a2 rest/\(acc'.map cnt).sum + 1000 * rest.length + 1000 <= (acc.map cnt).sum + 1000 * ts'.length/\j + 1 <= 1000/\rest.length < ts'.length) ?_ λr1 _ hr1=>?_
        · rw [zoU]
          unfold zcV
          refine T.eq (zsX A2 x.fields (by omega) m (by omega)) ?_
          cases hp:zlC x.fields m ts' with
          | none=>exact T.br (λ_=>T.some ⟨acc,rfl,g1,g2,by omega,rfl,rfl,rfl⟩) λh=>by cases h
          | some q =>
            obtain ⟨j,r0'⟩:=q
            have hp':=hp
            rw [ey] at hp'
            change (bif decide (y0.kind=2) then (zji x.fields y0.text (x.fields.length - m) m).map (λj=>(j,r0)) else none)=some (j,r0') at hp'
            cases hk2:decide (y0.kind=2) with
            | false=>rw [hk2] at hp';cases hp'
            | true =>
              rw [hk2,zCt] at hp'
              obtain ⟨j',hj,e2⟩:=Option.map_eq_some_iff.1 hp'
              cases e2
              have hk2:=zOT hk2
              obtain ⟨_,y,hy,_⟩:=znm hj
              have hjl:=(List.getElem?_eq_some_iff.1 hy).1
              obtain ⟨A3,l3⟩:=A2.next ey (by omega)
              have hyr:=hf y (List.mem_of_getElem? hy) _ _ A3
              obtain ⟨w0,hw0⟩:∃ w,acc[j]?=some w:=⟨_,List.getElem?_eq_getElem (by omega)⟩
              have hw0c:=zey w0
              have egy:zq x.fields (j:Int)=some y:=by rw [zbm (by omega) (by omega)];exact congrArg some (List.getElem?_eq_some_iff.1 hy).2
              refine T.br (λh=>by cases h) λ_=>?_
              dsimp only
              refine T.jp (λq=>zbV q.2.1/\cnt q.2.1 <= 2000 * r0.length/\match f y.ty r0 with
                | .bad p e=>q.1=false/\q.2.2.at_=p/\q.2.2.e=e/\e ≠ 0
                | .ok w rest=>∃ a2,q=(true,w,st L t p0 a2)/\Sd L a2 rest/\cnt w + 1000 * rest.length <= 1000 * r0.length) (λJ2 k2=>T.eq egy (T.ck (by omega) (T.cal hyr λz _ hz=>k2 _ ?_))) λq hq=>T.eq egy ?_
              · cases hfr:f y.ty r0 with
                | bad p e=>rw [hfr] at hz;obtain ⟨z1,z2,z3,z4,z5,z6⟩:=hz;exact ⟨z5,z6,z1,z2,z3,z4⟩
                | ok w rest=>rw [hfr] at hz;obtain ⟨a2,z1,z2,z3,z4⟩:=hz;subst z1;exact ⟨z3,by dsimp only;omega,a2,rfl,z2,z4⟩
              obtain ⟨q1,q2,q3⟩:=hq
              have esum:=zqA (l:=acc) (j:=j) (w:=q.2.1) hw0
              have eset:∀ w ∈ acc.set j q.2.1,zbV w:=λw hw=>by
                rcases zrx hw with h | h
                · exact g1 w h
                · rw [h];exact q1
              -- the default
              refine T.jp (λb=>(b=true->zfe y j q.2.1 acc=acc.set j q.2.1)/\(b=false->zfe y j q.2.1 acc=acc)) (λJ2 k2=>T.br (λhh=>k2 _ ⟨λ_=>zqO (by simpa using hh),λh=>by cases h⟩) λhh=>T.cal (zmK (k:=20000000) (n:=fuel) (by omega) (by unfold fuel;omega) q1 y.dflt) λz _ hz=>k2 _ ?_) λb hb=>?_
              · have hh:y.has=true:=by simpa using hh
                refine ⟨λh=>?_,λh=>?_⟩
                · exact zto λe=>by rw [hz.2 e] at h;cases h
                · exact ztB hh (hz.1 (by simpa using h))
              refine T.jp (λv=>v=Val.mk v0.kind v0.n v0.b (zfe y j q.2.1 acc) v0.rule v0.more/\(∀ w ∈ zfe y j q.2.1 acc,zbV w)/\(zfe y j q.2.1 acc).length=x.fields.length/\((zfe y j q.2.1 acc).map cnt).sum <= (acc.map cnt).sum + cnt q.2.1) (λJ2 k2=>T.br (λh=>?_) λh=>?_) λv hv=>T.ck (by omega) (T.some ?_)
              · rw [hb.1 h] at k2
                refine T.asd (by simp only [Val.l_mk];omega) (T.eq (y:=w0) (by simp only [Val.l_mk,Int.toNat_natCast];exact hw0) (k2 _ ⟨?_,eset,by rw [List.length_set];exact g2,by omega⟩))
                simp only [Val.kind_mk,Val.n_mk,Val.b_mk,Val.l_mk,Val.rule_mk,Val.more_mk,Int.toNat_natCast]
              · rw [hb.2 h] at k2
                exact k2 _ ⟨rfl,g1,g2,by omega⟩
              obtain ⟨v1,v2,v3,v4⟩:=hv
              subst v1
              refine ⟨_,rfl,v2,v3,by omega,y,hy,?_⟩
              cases hfr:f y.ty r0 with
              | bad p e =>
                rw [hfr] at q3
                obtain ⟨z1,z2,z3,z4⟩:=q3
                exact ⟨z1,z2,z3,z4⟩
              | ok w rest =>
                rw [hfr] at q3
                obtain ⟨a2,z1,z2,z3⟩:=q3
                subst z1
                have v4':((zfe y j w acc).map cnt).sum <= (acc.map cnt).sum + cnt w:=v4
                have z3':cnt w + 1000 * rest.length <= 1000 * r0.length:=z3
                exact ⟨rfl,a2,rfl,rfl,by dsimp only;omega,z2,by show ((zfe y j w acc).map cnt).sum + 1000 * rest.length + 1000 <= _;omega,by omega,by have:=zey w;omega⟩
        · obtain ⟨acc',ew,gacc,glen,gsum,hr1⟩:=hr1
          have hbx:BX v0 ts r1.2.2.2:=⟨_,ew,gacc,by omega,gsum⟩
          cases hp:zlC x.fields m ts' with
          | none =>
            rw [hp] at hr1
            obtain ⟨z1,z2,z3⟩:=hr1
            refine T.br (λ_=>T.some (by rw [<- g5,eP,hp];exact ⟨rfl,z2,z3,by decide,hbx⟩)) λh=>by rw [z1] at h;cases h
          | some q =>
            obtain ⟨j,r0'⟩:=q
            rw [hp] at hr1
            obtain ⟨y,hy,hr1⟩:=hr1
            cases hfr:f y.ty r0' with
            | bad p e =>
              rw [hfr] at hr1
              obtain ⟨z1,z2,z3,z4⟩:=hr1
              refine T.br (λ_=>T.some (by rw [<- g5,eP,hp];dsimp only;rw [hy];dsimp only;rw [hfr];exact ⟨rfl,z2,z3,z4,hbx⟩)) λh=>by rw [z1] at h;cases h
            | ok w rest =>
              rw [hfr] at hr1
              obtain ⟨z0,a2,e2,e3,e4,A3,c1,hj,hrl2⟩:=hr1
              subst z0
              obtain ⟨_,_,ey3,_,hA3,_⟩:=A3.cons
              refine T.br (λh=>by rw [e2] at h;cases h) λ_=>?_
              rw [e3]
              refine T.eq (zuv A3 [44]) ?_
              dsimp only
              have eQ:zhX x.fields f r.length r 0 (List.replicate x.fields.length zc2)=match pIs [44] rest with
                | some r2=>zhX x.fields f k r2 (j + 1) (zfe y j w acc)
                | none=>match pIs [125] rest with
                  | some r3=>.ok (zfe y j w acc) r3
                  | none=>.bad (atp rest) 7:=by rw [<- g5,eP,hp];dsimp only;rw [hy];dsimp only;rw [hfr]
              cases h3:pIs [44] rest with
              | some r2 =>
                obtain ⟨A4,l4⟩:=A3.is h3
                have ha4:=A4.a0
                refine T.br (λh=>by cases h) λ_=>?_
                rw [ew,e4]
                refine hJ _ ⟨a2 + 1,r2,zfe y j w acc,k,j + 1,rfl,A4,gacc,glen,hj,by omega,by omega,by rw [eQ,h3]⟩ ?_
                have:=A3.a0
                have:=A2.a0
                show 10000 - (a2 + 1).toNat < 10000 - a'.toNat
                omega
              | none =>
                refine T.br (λ_=>T.eq (zlO A3 [125]) ?_) λh=>by cases h
                cases h4:pIs [125] rest with
                | some r3 =>
                  obtain ⟨A4,l4⟩:=A3.is h4
                  refine T.some ?_
                  rw [eQ,h3,h4]
                  exact ⟨a2 + 1,r1.2.2.1,by rw [ew],A4,gacc,by omega,by omega⟩
                | none =>
                  refine T.some ?_
                  rw [eQ,h3,h4]
                  exact ⟨rfl,rfl,rfl,by decide,hbx⟩
  · cases hR:(zpX x.fields f ts) with
    | ok l rest =>
      rw [hR] at hy
      obtain ⟨a',k',z1,z2,z3,z4,z5⟩:=hy
      subst z1
      exact ⟨a',rfl,z2,z3,z4,z5⟩
    | bad p e =>
      rw [hR] at hy
      obtain ⟨z1,z2,z3,z4,z5⟩:=hy
      exact ⟨z1,z2,z3,z4,z5⟩
section leaf
variable {L:List zS} {t:zZ} {p0 a:Int} {ts:List zS}
theorem zn7 {v:Val} {r:List zS} (h:Sd L a ts) (h2:Sd L (a + 1) r) (hl:r.length + 1=ts.length) (hf:zbV v) (hc:cnt v <= 1000):KR L t p0 ts (.ok v r) (true,v,st L t p0 (a + 1)) :=
 ⟨a + 1,rfl,h2,hf,by omega⟩
theorem zkQ {v:Val} {p e:Int} {b:Bool} {s:zha} {g:zZ} (h:Sd L a ts) (he:e ≠ 0) (hf:zbV v) (hc:cnt v <= 1000):KR L t p0 ts (.bad p e) (b,v,⟨s,g,p,e⟩):=by
 obtain ⟨_,_,eT,_,_,_⟩:=h.cons
 exact ⟨rfl,rfl,he,hf,by show cnt v <= _;rw [eT,zLc];omega⟩
theorem zfk {k n:Int} {b:List UInt8} (hb:b.length <= 9000):zbV (zd3 k n b []):=zer (by omega) (zNz _) λw hw=>by cases hw
theorem zen (k n:Int) (b:List UInt8):cnt (zd3 k n b []) <= 1000:=by rw [zgh];simp
end leaf
theorem zxG {s:Str} {r:Int × Er} (h:zba s 10 64=some r):zoO s=r.1:=by unfold zoO;rw [h]
theorem zp6 {s:Str} {r:List UInt8} (h:zd2 s=some r):zsi s=r:=by unfold zsi;rw [h]
theorem zye:∃ r,zba ⟨[]⟩ 10 64=some r:=⟨_,rfl⟩
theorem zx0:zd2 ⟨[]⟩=some []:=by
 refine T.eqs ?_
 unfold zd2
 exact T.lp (ι:=List UInt8 × Int) (λq=>q=([],0)) (λq=>0) rfl (by omega) λJ q e hJ=>by
  subst e
  exact T.ck (by decide) (T.br (λh=>by cases h) λ_=>T.some rfl)
theorem zmS {L:List zS} {a:Int} {ts:List zS} (h:Sd L a ts) {k:Int} {s:Str} {r:List zS} (e:pOf k ts=some (s,r)) (hk:k ≠ 0):∃ y ∈ L,y.kind=k/\y.text=s/\Sd L (a + 1) r/\r.length + 1=ts.length:=by
 obtain ⟨y,e1,e2,e3⟩:=zvf e
 obtain ⟨h1,h2⟩:=h.next e1 (by rw [e2];exact hk)
 have hm:y ∈ L.drop a.toNat:=by rw [h.dr,e1];exact zMs
 exact ⟨y,List.mem_of_mem_drop hm,e2,e3,h1,h2⟩
set_option maxHeartbeats 1000000 in
theorem pvP {t:zZ} (ht:TOk t.types) {L:List zS} {p0:Int} (hG:∀ y ∈ L,TokG y):∀ (h n:Nat) (i d:Int),0 <= d->d + h=17->5 * h + 5 <= n->0 <= i->i < t.types.length->Rd L t p0 (pv h t.types i) λs=>zau n s i d:=by
 intro h
 induction h with
 | zero =>
  intro n i d d0 hd hn i0 i1 a ts A
  obtain ⟨n,rfl⟩:∃ n',n=n' + 1:=⟨n - 1,by omega⟩
  rw [zkm]
  unfold zde
  refine T.br (λ_=>T.eq (zlU A 5) (T.some ⟨rfl,rfl,rfl,by decide,zid,?_⟩)) λh=>absurd (zOF h) (by omega)
  obtain ⟨_,_,eT,_,_,_⟩:=A.cons
  show cnt zc2 <= _
  rw [zjo,eT,zLc];omega
 | succ h ih =>
  intro n i d d0 hd hn i0 i1 a ts A
  obtain ⟨n,rfl⟩:∃ n',n=n' + 4:=⟨n - 4,by omega⟩
  rw [zkm]
  unfold zde
  refine T.br (λh=>absurd (zOT h) (by omega)) λ_=>T.or' (T.br (λh=>?_) λ_=>?_)
  ·rw [Bool.or_eq_true] at h
   rcases h with h | h
   ·exact absurd (zOT h) (by omega)
   ·have h:(t.types.length:Int) <= i:=zOT h
    omega
  refine T.get i0 i1 λx hx=>?_
  have hx:t.types[i.toNat]?=some x:=hx
  have hxm:x ∈ t.types:=List.mem_of_getElem? hx
  have hfl:=ht.fl x hxm
  have hil:=ht.il x hxm
  have hkd:=ht.kd x hxm
  rw [zyo hx]
  obtain ⟨R,eR⟩:∃ R,R=pvK (pv h t.types) x ts:=⟨_,rfl⟩
  rw [<- eR]
  refine T.jp (KR L t p0 ts R) (λJ k=>?_) λq hq=>?_
  ·have kk:∀ {R'},R=R'->∀ q,KR L t p0 ts R' q->T (VR L t p0 ts R) (J q):=λe q hq=>k q (e ▸ hq)
   unfold pvK at eR
   refine T.br (λhk=>?_) λh1=>?_
   ·have hk:=zOT hk
    rw [if_pos hk] at eR
    refine T.eq (zuv A _) ?_
    cases h1:pIs [84,82,85,69] ts with
    | some r =>
     obtain ⟨A1,l1⟩:=A.is h1
     rw [h1] at eR
     refine T.br (λ_=>kk eR _ ?_) λh=>by cases h
     rw [hk];exact zn7 A A1 l1 (zfk (zNz _)) (zen _ _ _)
    | none =>
     rw [h1] at eR
     refine T.br (λh=>by cases h) λ_=>T.eq (zlO A _) (kk eR _ ?_)
     rw [hk]
     cases h2:pIs [70,65,76,83,69] ts with
     | some r =>
      obtain ⟨A1,l1⟩:=A.is h2
      exact zn7 A A1 l1 (zfk (zNz _)) (zen _ _ _)
     | none=>exact zkQ A (by decide) (zfk (b:=[]) (zNz _)) (zen _ _ _)
   have h1:=zOF h1
   rw [if_neg h1] at eR
   refine T.br (λhk=>?_) λh4=>?_
   ·have hk:=zOT hk
    rw [if_pos hk] at eR
    refine T.eq (zlO A _) (kk eR _ ?_)
    rw [hk]
    cases h2:pIs [78,85,76,76] ts with
    | some r =>
     obtain ⟨A1,l1⟩:=A.is h2
     exact zn7 A A1 l1 (zfk (zNz _)) (zen _ _ _)
    | none=>exact zkQ A (by decide) (zfk (b:=[]) (zNz _)) (zen _ _ _)
   have h4:=zOF h4
   rw [if_neg h4] at eR
   refine T.br (λhk=>?_) λh2=>?_
   ·have hk:=zOT hk
    rw [if_pos hk] at eR
    refine T.eq (zzA A 3) ?_
    cases h3:pOf 3 ts with
    | some q =>
     obtain ⟨s,r⟩:=q
     obtain ⟨y,ym,y1,y2,A1,l1⟩:=zmS A h3 (by decide)
     obtain ⟨z,hz⟩:=(hG y ym).num y1
     rw [y2] at hz
     rw [h3] at eR
     refine T.eq hz (kk eR _ ?_)
     rw [hk,<- zxG hz]
     exact zn7 A A1 l1 (zfk (zNz _)) (zen _ _ _)
    | none =>
     rw [h3] at eR
     obtain ⟨z,hz⟩:=zye
     refine T.eq hz (kk eR _ ?_)
     exact zkQ A (by decide) (zfk (b:=[]) (zNz _)) (zen _ _ _)
   have h2:=zOF h2
   rw [if_neg h2] at eR
   refine T.br (λhk=>?_) λh3=>?_
   ·have hk:=zOT hk
    rw [if_pos hk] at eR
    refine T.eq (zzu A x (by omega)) (kk eR _ ?_)
    rw [hk]
    cases h3:znd x ts with
    | some q =>
     obtain ⟨m,r⟩:=q
     cases ts with
     | nil=>cases h3
     | cons y r' =>
      change (bif decide (y.kind=2) then (zkA y.text x.items).map (λj=>(j,r')) else none)=some (m,r) at h3
      cases hk2:decide (y.kind=2) with
      | false=>rw [hk2] at h3;cases h3
      | true =>
       rw [hk2,zCt] at h3
       obtain ⟨j',_,e2⟩:=Option.map_eq_some_iff.1 h3
       cases e2
       obtain ⟨A1,l1⟩:=A.next rfl (by have:=zOT hk2;omega)
       exact zn7 A A1 l1 (zfk (zNz _)) (zen _ _ _)
    | none=>exact zkQ A (by decide) (zfk (b:=[]) (zNz _)) (zen _ _ _)
   have h3:=zOF h3
   rw [if_neg h3] at eR
   refine T.br (λhk=>?_) λh5=>?_
   ·have hk:=zOT hk
    rw [if_pos hk] at eR
    refine T.eq (zzA A 4) ?_
    cases h3:pOf 4 ts with
    | some q =>
     obtain ⟨s,r⟩:=q
     obtain ⟨y,ym,y1,y2,A1,l1⟩:=zmS A h3 (by decide)
     obtain ⟨z,hz,hzl⟩:=(hG y ym).hex y1
     rw [y2] at hz
     rw [h3] at eR
     refine T.eq hz (kk eR _ ?_)
     rw [hk,<- zp6 hz]
     exact zn7 A A1 l1 (zfk (by rw [zp6 hz];exact hzl)) (zen _ _ _)
    | none =>
     rw [h3] at eR
     refine T.eq zx0 (kk eR _ ?_)
     exact zkQ A (by decide) (zfk (b:=[]) (zNz _)) (zen _ _ _)
   have h5:=zOF h5
   rw [if_neg h5] at eR
   refine T.br (λhk=>?_) λh6=>?_
   ·have hk:=zOT hk
    rw [if_pos hk] at eR
    refine T.eq (zzA A 7) ?_
    cases h3:pOf 7 ts with
    | some q =>
     obtain ⟨s,r⟩:=q
     obtain ⟨y,ym,y1,y2,A1,l1⟩:=zmS A h3 (by decide)
     have hz:=(hG y ym).len
     rw [y2] at hz
     rw [h3] at eR
     refine T.abl (by dsimp only;omega) (kk eR _ ?_)
     rw [hk]
     exact zn7 A A1 l1 (zfk hz) (zen _ _ _)
    | none =>
     rw [h3] at eR
     refine T.abl (zNz _) (kk eR _ ?_)
     exact zkQ A (by decide) (zfk (b:=[]) (zNz _)) (zen _ _ _)
   have h6:=zOF h6
   rw [if_neg h6] at eR
   refine T.br (λhk=>?_) λh10=>?_
   ·have hk:=zOT hk
    rw [if_pos hk] at eR
    obtain ⟨o0,o1⟩:=ht.ko x hxm hk
    refine T.cal (zxk (n:=n + 1) (x:=x) (d:=d) (v0:=Val.mk x.kind 0 [] [] 0 []) (by omega) (ih (n + 1) x.of (d + 1) (by omega) (by omega) (by omega) o0 o1) A rfl) λy _ hy=>kk eR _ ?_
    generalize zsr (pv h t.types x.of) ts=Q at hy ⊢
    cases Q with
    | ok l rest =>
     obtain ⟨a',e1,A1,f1,g1,c1⟩:=hy
     subst e1
     simp only [Val.kind_mk,Val.n_mk,Val.b_mk,Val.rule_mk,Val.more_mk]
     rw [hk]
     exact ⟨a',rfl,A1,zer (zNz _) (by omega) f1,by rw [zgh];omega⟩
    | bad p e =>
     obtain ⟨e1,e2,e3,e4,l,e5,f1,g1,c1⟩:=hy
     refine ⟨e2,e3,e4,?_,?_⟩
     ·show zbV y.2.2
      rw [e5];exact zer (zNz _) (by omega) f1
     ·show cnt y.2.2 <= _
      rw [e5]
      have:=zgh x.kind 0 [] l
      unfold zd3 at this
      simp only [Val.kind_mk,Val.n_mk,Val.b_mk,Val.rule_mk,Val.more_mk]
      rw [this];omega
   have h10:=zOF h10
   rw [if_neg h10] at eR
   refine T.br (λhk=>?_) λh9=>?_
   ·have hk:=zOT hk
    rw [if_pos hk] at eR
    refine T.eq (zsX A x.fields (by omega) 0 (by omega)) ?_
    cases hp:zlC x.fields 0 ts with
    | none =>
     rw [hp] at eR
     refine T.jp0 (T.br (λh=>by cases h) λ_=>T.br (λh=>by cases h) λ_=>kk eR _ ?_)
     exact zkQ A (by decide) (zfk (b:=[]) (zNz _)) (zen _ _ _)
    | some q =>
     obtain ⟨j,r⟩:=q
     rw [hp] at eR
     have hp':=hp
     obtain ⟨y0,r0,ey,_,_,_⟩:=A.cons
     rw [ey] at hp'
     change (bif decide (y0.kind=2) then (zji x.fields y0.text (x.fields.length - 0) 0).map (λj=>(j,r0)) else none)=some (j,r) at hp'
     cases hk2:decide (y0.kind=2) with
     | false=>rw [hk2] at hp';cases hp'
     | true =>
      rw [hk2,zCt] at hp'
      obtain ⟨j',hj,e2⟩:=Option.map_eq_some_iff.1 hp'
      cases e2
      obtain ⟨A1,l1⟩:=A.next ey (by have:=zOT hk2;omega)
      obtain ⟨_,y,hy,_⟩:=znm hj
      have hjl:=(List.getElem?_eq_some_iff.1 hy).1
      have egy:zq x.fields (j:Int)=some y:=by rw [zbm (by omega) (by omega)];exact congrArg some (List.getElem?_eq_some_iff.1 hy).2
      refine T.jp0 (T.br (λ_=>T.eq (zlO A1 [58]) ?_) λh=>by cases h)
      dsimp only at eR ⊢
      cases h58:pIs [58] r with
      | none =>
       rw [h58] at eR
       refine T.br (λh=>by cases h) λ_=>kk eR _ ?_
       exact zkQ A (by decide) (zfk (b:=[]) (zNz _)) (zen _ _ _)
      | some r2 =>
       obtain ⟨A2,l2⟩:=A1.is h58
       rw [h58] at eR
       dsimp only at eR
       rw [hy] at eR
       dsimp only at eR
       obtain ⟨y0',y1'⟩:=ht.kf x hxm y (List.mem_of_getElem? hy)
       refine T.br (λ_=>T.eq egy (T.ck (by omega) (T.cal (ih (n + 3) y.ty (d + 1) (by omega) (by omega) (by omega) y0' y1' _ _ A2) λz _ hz=>kk eR _ ?_))) λh=>by cases h
       rw [hk]
       cases hR:pv h t.types y.ty r2 with
       | ok w rest =>
        rw [hR] at hz
        obtain ⟨a2,e1,A3,f1,c1⟩:=hz
        subst e1
        refine ⟨a2,rfl,A3,zer (zNz _) (by simp) (λw' hw'=>by rw [zMo.1 hw'];exact f1),?_⟩
        rw [zgh,List.map_singleton,List.sum_singleton];omega
       | bad p e =>
        rw [hR] at hz
        obtain ⟨e1,e2,e3,e4,e5,e6⟩:=hz
        refine ⟨e2,e3,e4,zer (k:=9) (n:=(j:Int)) (zNz _) (by simp) (λw' hw'=>by rw [zMo.1 hw'];exact e5),?_⟩
        show cnt (zd3 9 (j:Int) [] [z.1]) <= _
        rw [zgh,List.map_singleton,List.sum_singleton];omega
   have h9:=zOF h9
   rw [if_neg h9] at eR
   refine T.jp (λb=>b=true) (λJ2 k2=>T.br (λh=>k2 _ h) λh=>k2 _ (zDT (by have:=zOF h;omega))) λb hb=>?_
   subst hb
   refine T.br (λ_=>?_) λh=>by cases h
   refine T.cal (zy2 (n:=n) (x:=x) (d:=d) (v0:=Val.mk x.kind 0 [] [] 0 []) (f:=pv h t.types) (by omega) hfl (λy hy=>by
    obtain ⟨y0,y1⟩:=ht.kf x hxm y hy
    exact ih n y.ty (d + 1) (by omega) (by omega) (by omega) y0 y1) A) λy _ hy=>kk eR _ ?_
   generalize zpX x.fields (pv h t.types) ts=Q at hy ⊢
   cases Q with
   | ok l rest =>
    obtain ⟨a',e1,A1,f1,g1,c1⟩:=hy
    subst e1
    exact ⟨a',rfl,A1,zer (zNz _) (by omega) f1,by rw [zgh];omega⟩
   | bad p e =>
    obtain ⟨e1,e2,e3,e4,l,e5,f1,g1,c1⟩:=hy
    refine ⟨e2,e3,e4,?_,?_⟩
    ·show zbV y.2.2
     rw [e5];exact zer (zNz _) (by omega) f1
    ·show cnt y.2.2 <= _
     rw [e5]
     have:=zgh x.kind 0 [] l
     unfold zd3 at this
     simp only [Val.kind_mk,Val.n_mk,Val.b_mk,Val.rule_mk,Val.more_mk]
     rw [this];omega
  ·refine T.and' (T.some ?_)
   cases R with
   | ok v rest =>
    obtain ⟨a',e1,A1,f1,c1⟩:=hq
    subst e1
    exact ⟨a',rfl,A1,f1,c1⟩
   | bad p e =>
    obtain ⟨e1,e2,e3,f1,c1⟩:=hq
    refine ⟨?_,e1,e2,e3,f1,c1⟩
    show (q.1 && decide (q.2.2.e=0))=false
    rw [e2,zDF e3,Bool.and_false]
/-! ### Octets as digits of 16 -/
def zq4 (c:UInt8):Nat:=if c.toNat <= 57 then c.toNat - 48 else c.toNat - 55
def znh:List UInt8->List UInt8
 | a :: b :: r=>UInt8.ofNat (zq4 a * 16 + zq4 b) :: znh r
 | _=>[]
def zuH:List UInt8:=[48,49,50,51,52,53,54,55,56,57,65,66,67,68,69,70]
def zvX (a b:UInt8):Bool:=match zdN ⟨[a,b]⟩ 16 8 with
 | some r=>decide (r.1.toUInt8=UInt8.ofNat (zq4 a * 16 + zq4 b))
 | none=>false
theorem zxC:(zuH.all λa=>zuH.all λb=>zvX a b)=true:=by kernel_rfl
theorem zuZ:∀ X:Fin 256,zfW (UInt8.ofNat X.val)=true->UInt8.ofNat X.val ∈ zuH:=by decide +kernel
theorem znp {c:UInt8} (h:zfW c=true):c ∈ zuH:=by
 have:=zuZ ⟨c.toNat,c.toNat_lt⟩
 simp only [UInt8.ofNat_toNat] at this
 exact this h
theorem zAj {a b:UInt8} (ha:zfW a=true) (hb:zfW b=true):T (λr=>r.1.toUInt8=UInt8.ofNat (zq4 a * 16 + zq4 b)) (zdN ⟨[a,b]⟩ 16 8):=by
 have h:=List.all_eq_true.1 (List.all_eq_true.1 zxC a (znp ha)) b (znp hb)
 unfold zvX at h
 cases hp:zdN ⟨[a,b]⟩ 16 8 with
 | none=>rw [hp] at h;cases h
 | some r=>rw [hp] at h;exact ⟨r,rfl,zOT h⟩
theorem zoa:∀ l:List UInt8,(znh l).length <= l.length
 | []=>zNl _
 | [_]=>zNz _
 | a :: b :: r=>by
  have:=zoa r
  show (znh r).length + 1 <= r.length + 1 + 1
  omega
theorem zpj {l:List UInt8} (h:l.all zfW=true) (h2:l.length % 2=0) (hl:l.length <= 1000000):zd2 ⟨l⟩=some (znh l):=by
 refine T.eqs ?_
 unfold zd2
 refine T.lp (ι:=List UInt8 × Int) (λq=>0 <= q.2/\q.2 <= (l.length:Int)/\q.2.toNat % 2=0/\q.1.length <= q.2.toNat/\q.1 ++ znh (l.drop q.2.toNat)=znh l) (λq=>((l.length:Int) - q.2).toNat) ⟨zIl _,by dsimp only;omega,rfl,zNl _,rfl⟩ (by dsimp only;omega) λJ q ⟨q0,q1,q2,q3,q4⟩ hJ=>?_
 obtain ⟨acc,k⟩:=q
 dsimp only at q0 q1 q2 q3 q4 hJ ⊢
 refine T.ck (by omega) (T.br (λhb=>?_) λhb=>?_)
 ·have hb:=zOT hb
  refine T.ck (by omega) (T.asd (by omega) ?_)
  obtain ⟨a,ha⟩:∃ a,l[k.toNat]?=some a:=⟨_,List.getElem?_eq_getElem (by omega)⟩
  obtain ⟨b,hb'⟩:∃ b,l[k.toNat + 1]?=some b:=⟨_,List.getElem?_eq_getElem (by omega)⟩
  have hd:l.drop k.toNat=a :: b :: l.drop (k.toNat + 2):=by
   obtain ⟨h1,h2⟩:=List.getElem?_eq_some_iff.1 ha
   obtain ⟨h3,h4⟩:=List.getElem?_eq_some_iff.1 hb'
   rw [List.drop_eq_getElem_cons h1,h2,List.drop_eq_getElem_cons h3,h4]
  have e1:((l.take (k + 2).toNat).drop k.toNat)=[a,b]:=by
   rw [show (k + 2).toNat=k.toNat + 2 by omega,List.drop_take,hd,show k.toNat + 2 - k.toNat=2 by omega];rfl
  rw [e1]
  have ha':=List.all_eq_true.1 h a (List.mem_of_getElem? ha)
  have hb2:=List.all_eq_true.1 h b (List.mem_of_getElem? hb')
  refine T.cal (zAj ha' hb2) λr _ hr=>T.abl (by simp only [zLs];omega) (T.ck (by omega) (hJ _ ⟨by dsimp only;omega,by dsimp only;omega,by dsimp only;omega,?_,?_⟩ (by dsimp only;omega)))
  ·dsimp only
   rw [zLa,zLs];omega
  ·dsimp only
   rw [<- q4,hd,show (k + 2).toNat=k.toNat + 2 by omega,hr,zLA];rfl
 ·have hb:=zOF hb
  refine T.some ?_
  have e:l.drop k.toNat=[]:=zDn (by omega)
  rw [<- q4,e]
  exact (List.append_nil _).symm

/-! ### What is known of the signs of a text -/
theorem zo3 (n:Nat):∀ (f:Nat) (b:List UInt8) (acc:List zS),(zjP n f b acc).1.length <= acc.length + b.length + 1
 | 0,b,acc=>by simp [zjP]
 | f + 1,b,acc=>by
  rw [ziI]
  have hwl:=zfX b .out
  cases hwh:wh .out b with
  | nil=>simp
  | cons c r =>
   rw [hwh] at hwl
   simp only
   cases ho:ziO (c :: r) with
   | none=>simp
   | some p =>
    obtain ⟨k,t,r'⟩:=p
    simp only
    have ih:=zo3 n f r' (acc ++ [⟨k,⟨t⟩,(n:Int) - ((c :: r).length:Int)⟩])
    have hol:=zmx ho
    simp only [zLa,zLs] at ih
    omega
theorem zq3 (b:List UInt8):(toks b).1.length <= 8001:=by
 unfold toks
 by_cases h:8000 < b.length
 ·rw [zDT h];simp
 ·rw [zDF h,zCf]
  have:=zo3 b.length (b.length + 1) b []
  simp only [zLn] at this
  omega
theorem znx:∀ (b:List UInt8) (f:Bool) (acc t r:List UInt8),qd f b acc=some (t,r)->t.length <= acc.length + b.length
 | [],f,acc,t,r,h=>by cases f <;> simp [qd] at h
 | c :: b,true,acc,t,r,h=>by
  simp only [qd] at h
  have:=znx b _ _ _ _ h
  rw [zLa,zLs] at this
  rw [zLc];omega
 | c :: b,false,acc,t,r,h=>by
  simp only [qd] at h
  by_cases h1:c=34
  ·simp only [zDT h1,zCt] at h
   by_cases h2:hd b=34
   ·simp only [zDT h2,zCt] at h
    have:=znx b _ _ _ _ h
    rw [zLc];omega
   ·simp only [zDF h2,zCf] at h
    cases hv:Lib.validD acc with
    | true=>rw [hv] at h;simp at h;rw [<- h.1];simp
    | false=>rw [hv] at h;cases h
  ·simp only [zDF h1,zCf] at h
   have:=znx b _ _ _ _ h
   rw [zLa,zLs] at this
   rw [zLc];omega
theorem ztp:∀ d:List UInt8,(d.take (hx d)).all zfW=true
 | []=>rfl
 | c :: r=>by
  rw [zpW]
  cases h:zfW c with
  | false=>rfl
  | true =>
   simp only [zCt,List.take_succ_cons,List.all_cons,h,ztp r];rfl
structure OneG (k:Int) (t:List UInt8) (n:Nat):Prop where
 k0:k ≠ 0
 len:t.length <= n
 hex:k=4->t.all zfW=true/\t.length % 2=0
theorem zr7 {b t r:List UInt8} {k:Int} (h:ziO b=some (k,t,r)):OneG k t b.length:=by
 unfold ziO at h
 simp only at h
 cases h1:zbv (hd b) with
 | true =>
  rw [h1,zCt] at h
  cases h2:zhI b with
  | true=>rw [h2] at h;cases h
  | false =>
   rw [h2,zCf] at h
   injection h with h;injection h with h3 h;injection h with h4 h5
   subst h3;subst h4
   refine ⟨?_,by rw [zLt];omega,?_⟩
   ·cases zi8 (List.take (nm b) b) <;> cases decide (hd b <= 90) <;> decide
   ·cases zi8 (List.take (nm b) b) <;> cases decide (hd b <= 90) <;> intro h <;> cases h
 | false =>
  rw [h1,zCf] at h
  cases h2:(za8 (hd b) || (decide (hd b=45) && za8 (hd (b.drop 1)))) with
  | true =>
   rw [h2,zCt] at h
   cases hn:ze9 b with
   | none=>rw [hn] at h;cases h
   | some n =>
    rw [hn] at h
    injection h with h;injection h with h3 h;injection h with h4 h5
    subst h3;subst h4
    exact ⟨by decide,by rw [zLt];omega,λh=>by cases h⟩
  | false =>
   rw [h2,zCf] at h
   cases h3:decide (hd b=39) with
   | true =>
    rw [h3,zCt] at h
    cases h4:zeE (b.drop 1) with
    | true=>rw [h4] at h;cases h
    | false =>
     rw [h4,zCf] at h
     injection h with h;injection h with h5 h;injection h with h6 h7
     subst h5;subst h6
     refine ⟨by decide,by rw [zLt,zLd];omega,λ_=>⟨ztp _,?_⟩⟩
     unfold zeE at h4
     rw [Bool.or_eq_false_iff,Bool.or_eq_false_iff] at h4
     have h8:hx (b.drop 1) % 2=0:=by simpa using h4.1.1
     have:=zyn (b.drop 1)
     rw [zLt];omega
   | false =>
    rw [h3,zCf] at h
    cases h4:decide (hd b=34) with
    | true =>
     rw [h4,zCt] at h
     cases hq:qd false (b.drop 1) [] with
     | none=>rw [hq] at h;cases h
     | some q =>
      obtain ⟨t',r'⟩:=q
      rw [hq] at h
      injection h with h;injection h with h5 h;injection h with h6 h7
      subst h5;subst h6
      have:=znx _ _ _ _ _ hq
      simp only [zLn,zLd] at this
      exact ⟨by decide,by omega,λh=>by cases h⟩
    | false =>
     rw [h4,zCf] at h
     cases h5:decide (0 < sg b) with
     | false=>rw [h5] at h;cases h
     | true =>
      rw [h5,zCt] at h
      injection h with h;injection h with h6 h;injection h with h7 h8
      subst h6;subst h7
      exact ⟨by decide,by rw [zLt];omega,λh=>by cases h⟩
inductive Src:List zS->Prop
 | fin {a:Int}:Src [⟨0,⟨[]⟩,a⟩]
 | cons {t:zS} {l:List zS}:OneG t.kind t.text.b 8000->Src l->Src (t :: l)
theorem zpz (n:Nat):∀ (f:Nat) (b:List UInt8) (acc:List zS),b.length < f->b.length <= 8000->(∃ l,zjP n f b acc=(acc ++ l,0,0)/\Src l) \/ (zjP n f b acc).2.2 ≠ 0
 | 0,b,acc,h,_=>by omega
 | f + 1,b,acc,h,h8=>by
  rw [ziI]
  have hwl:=zfX b .out
  cases hwh:wh .out b with
  | nil=>exact .inl ⟨_,rfl,.fin⟩
  | cons c r =>
   rw [hwh] at hwl
   simp only
   cases ho:ziO (c :: r) with
   | none=>exact .inr (by simp)
   | some q =>
    obtain ⟨k,t,r'⟩:=q
    simp only
    have hol:=zmx ho
    have hf:=zr7 ho
    rcases zpz n f r' (acc ++ [⟨k,⟨t⟩,(n:Int) - ((c :: r).length:Int)⟩]) (by omega) (by omega) with ⟨l,e,g⟩ | e
    ·exact .inl ⟨_ :: l,by rw [e,zLA];rfl,.cons ⟨hf.k0,Nat.le_trans hf.len (by omega),hf.hex⟩ g⟩
    ·exact .inr e
theorem zn6 (b:List UInt8) (h:(toks b).2.2=0):Src (toks b).1:=by
 unfold toks at h ⊢
 by_cases hl:8000 < b.length
 ·rw [zDT hl] at h;simp at h
 ·rw [zDF hl,zCf] at h ⊢
  rcases zpz b.length (b.length + 1) b [] (by omega) (by omega) with ⟨l,e,g⟩ | e
  ·rw [e];simpa using g
  ·exact absurd h e
theorem Src.ends {l:List zS} (h:Src l):∃ k t,l=k ++ [t]/\t.kind=0:=by
 induction h with
 | fin=>exact ⟨[],_,rfl,rfl⟩
 | @cons t l _ _ ih=>obtain ⟨k,u,e,h⟩:=ih;exact ⟨t :: k,u,by rw [e];rfl,h⟩
theorem zxi (s:Str) (h:s.b.length <= 9000):∃ r,zba s 10 64=some r:=by
 unfold zba
 rw [show (decide ((10:Int)=10) && decide ((64:Int)=64) && Nat.ble s.b.length 281474976710656)=true by rw [Nat.ble_eq_true_of_le (by omega)];rfl,zCt]
 cases Lib.parseIntB 64 s.b <;> exact ⟨_,rfl⟩
theorem zwn {t:zS} (h:OneG t.kind t.text.b 8000):TokG t:=by
 have hl:=h.len
 have hx:=zoa t.text.b
 exact ⟨by omega,λ_=>zxi _ (by omega),λh4=>⟨znh t.text.b,zpj (l:=t.text.b) (h.hex h4).1 (h.hex h4).2 (by omega),by omega⟩⟩
theorem Src.good {l:List zS} (h:Src l):∀ y ∈ l,TokG y:=by
 induction h with
 | fin=>intro y hy;rw [zMo.1 hy];exact ⟨zNz _,(λh=>by cases h),λh=>by cases h⟩
 | cons h1 _ ih =>
  intro y hy
  rcases List.mem_cons.1 hy with e | e
  ·rw [e];exact zwn h1
  ·exact ih y e
theorem zwN {l:List UInt8} (h:l.all zfW=true) (h2:l.length % 2=0) (hl:l.length <= 1000000):zsi ⟨l⟩=znh l:=zp6 (zpj h h2 hl)
theorem Src.sd {l:List zS} (h:Src l) (hl:l.length <= 8001):Sd l 0 l:=⟨zIl _,by omega,rfl,h.ends⟩
noncomputable def zk4 (l:List zg) (i:Int) (b:List UInt8):PR Val :=
 if (toks b).2.2 ≠ 0 then .bad (toks b).2.1 (toks b).2.2
 else match pv 17 l i (toks b).1 with
  | .bad p e=>.bad p e
  | .ok v r=>match r with
   | []=>.bad 0 7
   | t :: r'=>if t.kind=0 then .ok v [] else .bad t.at_ 7
theorem ztf {t:zZ} (ht:TOk t.types) {i:Int} (i0:0 <= i) (i1:i < t.types.length) (s:Str) {R:Val × Int × Int->Prop}
    (hb:∀ p e,zk4 t.types i s.b=.bad p e->e ≠ 0->R (zc2,p,e))
    (hk:∀ v r,zk4 t.types i s.b=.ok v r->zbV v->cnt v <= 10000000->T (λy=>if y=true then R (v,0,0) else R (zc2,0,13)) (zea t i v)):T R (zgs t i s):=by
  unfold zgs
  refine T.eq (zxb s) (T.br (λh=>?_) λh=>?_)
  · have h:¬ (toks s.b).2.2=0:=by simpa using h
    exact T.some (hb _ _ (by unfold zk4;rw [if_pos h]) h)
  have h:(toks s.b).2.2=0:=by simpa using h
  have hs:=zn6 s.b h
  have hl:=zq3 s.b
  have hA:=hs.sd hl
  unfold zk4 at hb hk
  rw [if_neg (show ¬ (toks s.b).2.2 ≠ 0 from λk=>k h)] at hb hk
  refine T.or' (T.br (λh=>?_) λ_=>?_)
  · rw [Bool.or_eq_true] at h
    rcases h with h | h
    · exact absurd (zOT h) (by omega)
    · exact absurd (zOT h) (by omega)
  refine T.cal (pvP ht (p0:=0) hs.good 17 fuel i 0 (zIl _) (by decide) (by unfold fuel;decide) i0 i1 0 _ hA) λy _ hy=>?_
  cases hR:pv 17 t.types i (toks s.b).1 with
  | bad p e =>
    rw [hR] at hy hb
    obtain ⟨y1,y2,y3,y4,_⟩:=hy
    refine T.jp (λq=>q=(false,y.2.2)) (λJ k=>T.br (λh=>by rw [y1] at h;cases h) λ_=>k _ rfl) λq hq=>?_
    subst hq
    refine T.jp (λq=>q=(false,y.2.2)) (λJ k=>T.br (λh=>by cases h) λ_=>k _ (by rw [y1])) λq hq=>?_
    subst hq
    refine T.br (λ_=>T.some ?_) λh=>by cases h
    dsimp only
    rw [y2,y3]
    exact hb _ _ rfl y4
  | ok v r =>
    rw [hR] at hy hb hk
    obtain ⟨a',e1,A1,f1,c1⟩:=hy
    subst e1
    obtain ⟨z,r',er,e2,_,_⟩:=A1.cons
    obtain ⟨z',r'',er',e4⟩:=zoB (t:=t) (p:=0) A1
    rw [er] at er';cases er'
    subst er
    dsimp only at hb hk
    have hc:cnt v <= 10000000:=by omega
    refine T.jp (λq=>q=(!decide (z.kind=0),st (toks s.b).1 t 0 a')) (λJ k=>T.br (λ_=>T.eq e4 (k _ rfl)) λh=>by cases h) λq hq=>?_
    subst hq
    by_cases hz:z.kind=0
    · rw [if_pos hz] at hb hk
      rw [zDT hz]
      refine T.jp (λq=>q=(true,st (toks s.b).1 t 0 a')) (λJ k=>T.br (λh=>by cases h) λ_=>k _ rfl) λq hq=>?_
      subst hq
      refine T.br (λh=>by cases h) λ_=>T.cal (hk _ _ rfl f1 hc) λb _ hb'=>T.br (λh=>T.some ?_) λh=>T.some ?_
      · have:b=false:=by simpa using h
        subst this
        rw [if_neg (by decide)] at hb'
        exact hb'
      · have:b=true:=by simpa using h
        subst this
        rw [if_pos rfl] at hb'
        exact hb'
    · rw [if_neg hz] at hb hk
      rw [zDF hz]
      refine T.jp (λq=>q.1=false/\q.2.at_=z.at_/\q.2.e=7) (λJ k=>T.br (λ_=>T.eq (zlU A1 7) (k _ ⟨rfl,rfl,rfl⟩)) λh=>by cases h) λq hq=>?_
      obtain ⟨q1,q2,q3⟩:=hq
      refine T.br (λ_=>T.some ?_) λh=>by rw [q1] at h;cases h
      rw [q2,q3]
      exact hb _ _ rfl (by decide)
theorem zpd {ds:List UInt8} (hd:zlq ds) (hne:ds ≠ []) (hlen:ds.length <= 19) {m:Bool} (h1:m=true->1 <= zdH ds/\zdH ds <= 9223372036854775808) (h2:m=false->zdH ds < 9223372036854775808):zfj ⟨bif m then 45 :: ds else ds⟩=some (bif m then -(zdH ds:Int) else (zdH ds:Int)):=by
 refine T.fin ?_
 unfold zfj
 have hl0:0 < ds.length:=List.length_pos_iff.2 hne
 obtain ⟨y1,hy1,hy2⟩:∃ y1,zq (bif m then 45 :: ds else ds) (0:Int)=some y1/\decide (y1=45)=m:=by
  cases m with
  | true=>exact ⟨45,rfl,rfl⟩
  | false =>
   cases ds with
   | nil=>exact absurd rfl hne
   | cons c r =>
    refine ⟨c,rfl,zDF λe=>?_⟩
    have:=zd0 (hd c (zMs ..))
    rw [e] at this
    have e:(45:UInt8).toNat=45:=rfl
    omega
 refine T.eq hy1 ?_
 rw [hy2]
 refine T.jp (ι:=Str) (λq=>q=⟨ds⟩) (λJ hJ=>T.br (λe=>?_) λe=>hJ _ ?_) λq hq=>?_
 ·subst e
  refine T.asd ⟨by omega,by simp only [zCt,zLc];omega,by omega⟩ (hJ _ ?_)
  simp
 ·subst e;rfl
 subst hq
 refine T.lp (λ(p:UInt64 × Int)=>0 <= p.2/\p.2 <= (ds.length:Int)/\p.1=zku (ds.take p.2.toNat)) (λ(p:UInt64 × Int)=>((ds.length:Int) - p.2).toNat) ⟨zIl _,by dsimp only;omega,rfl⟩ (by dsimp only;omega) λL p hp hL=>?_
 obtain ⟨v,k⟩:=p
 obtain ⟨p1,p2,p3⟩:=hp
 dsimp only at p1 p2 p3 ⊢
 refine T.br (λh1=>?_) λh3=>?_
 ·have h1:=zOT h1
  refine T.get p1 h1 λy hy=>T.ck (by omega) (hL _ ⟨by dsimp only;omega,by dsimp only;omega,?_⟩ (by dsimp only;omega))
  have e:(k + 1).toNat=k.toNat + 1:=by omega
  dsimp only
  rw [e,List.take_add_one,hy,Option.toList_some,zjE,p3]
 ·have h3:=zOF h3
  rw [zTl (by omega)] at p3
  have hn:=zlg ds hd hlen
  rw [<- p3] at hn
  refine T.br (λe=>?_) λe=>?_
  ·subst e
   have h1:=h1 rfl
   have e:(v - 1).toNat=zdH ds - 1:=by
    have e1:(1:UInt64).toNat=1:=rfl
    rw [UInt64.toNat_sub_of_le v 1 (by rw [UInt64.le_iff_toNat_le,e1];omega),e1,hn]
   rw [e]
   exact T.ck (by omega) (T.ck (by omega) (T.ck (by omega) (T.some (by simp only [zCt];omega))))
  ·subst e
   have h2:=h2 rfl
   exact T.ck (by omega) (T.some (by simp only [zCf];omega))
theorem ztj {b:List UInt8} {n:Int} (hl:b.length <= 100) (key:Lib.parseIntB 64 b=.ok n):zoO ⟨b⟩=n:=by
 unfold zoO zba
 rw [show (decide ((10:Int)=10) && decide ((64:Int)=64) && Nat.ble (Str.mk b).b.length 281474976710656)=true by rw [Nat.ble_eq_true_of_le (by dsimp only;omega)];rfl,zCt]
 dsimp only
 rw [key]
theorem zuB {b:List UInt8} (h:zpD b):zfj ⟨b⟩=some (zoO ⟨b⟩):=by
 obtain ⟨ds,hd,hne,hlen,hv⟩:=h
 have hu:=zvE _ hd hne
 rcases hv with ⟨rfl,h1⟩ | ⟨rfl,h1,h2⟩
 ·rw [if_pos (by omega)] at hu
  refine (zpd (m:=false) hd hne hlen (λh=>by cases h) λ_=>h1).trans (congrArg some (ztj (by omega) ?_).symm)
  obtain ⟨c,r,e⟩:=List.exists_cons_of_ne_nil hne
  subst e
  have hr:=zd0 (hd c (zMs ..))
  have n45:¬ c.toNat=45:=by omega
  have n43:¬ c.toNat=43:=by omega
  unfold Lib.parseIntB
  simp only [n43,n45,or_self,if_false,hu,not_false_eq_true,true_and,false_and,if_false,if_neg (show ¬ 2 ^ (64 - 1) <= zdH (c :: r) by omega),zCf]
 ·rw [if_pos (by omega)] at hu
  refine (zpd (m:=true) hd hne hlen (λ_=>⟨h1,h2⟩) λh=>by cases h).trans (congrArg some (ztj (by rw [zLc];omega) ?_).symm)
  unfold Lib.parseIntB
  simp only [show (45:UInt8).toNat=45 from rfl,or_true,if_true,hu,not_true,false_and,if_false,true_and,if_neg (show ¬ 2 ^ (64 - 1) < zdH ds by omega),zCt]
def zbR (a_x:zaE) (a_e:Int):Option (zaE) :=
 br (decide (a_x.e=(0:Int))) (cal (zq a_x.l a_x.at_) λy1=>some ({ { a_x with e:=a_e } with p:=y1.at_ })) (some (a_x))

def zb4 (a_x:zaE) (a_s:Str):Option (Bool × zaE) :=
 cal (zq a_x.l a_x.at_) λy3=>jp (ι:=Bool) (λJ6=>br (decide (a_x.e=(0:Int))) (jp (ι:=Bool) (λJ9=>br (decide (y3.kind=(5:Int))) (J9 (true)) (J9 ((decide (y3.kind=(6:Int)))))) (λq8=>J6 (q8))) (J6 (false))) (λq5=>jp (ι:=Bool) (λJ12=>br q5 (J12 ((decide (y3.text=a_s)))) (J12 (false))) (λq11=>br q11 (ck ((a_x.at_ + (1:Int))) <| some (true,{ a_x with at_:=(a_x.at_ + (1:Int)) })) (some (false,a_x))))

def zbg (a_x:zaE) (a_s:Str):Option (zaE) :=
 cal (zb4 a_x a_s) λy1=>br (!y1.1) (cal (zbR y1.2 (7:Int)) λy2=>some (y2)) (some (y1.2))

def zdO (a_x:zaE) (a_k:Int):Option (Str × zaE) :=
 cal (zq a_x.l a_x.at_) λy3=>jp (ι:=Bool) (λJ6=>br (!decide (a_x.e=(0:Int))) (J6 (true)) (J6 ((!decide (y3.kind=a_k))))) (λq5=>br q5 (cal (zbR a_x (7:Int)) λy8=>some ((Str.mk []),y8)) (ck ((a_x.at_ + (1:Int))) <| some (y3.text,{ a_x with at_:=(a_x.at_ + (1:Int)) })))

def zfd (a_x:zaE) (a_f:zg) (a_v:Val):Option (zaE × Val) :=
 cal (zq a_x.l a_x.at_) λy4=>lp (ι:=Int) (λL7 q6=>br (decide (q6 < (a_f.items.length:Int))) (jp (ι:=Bool) (λJ17=>br (decide (y4.kind=(2:Int))) (cal (zq a_f.items q6) λy19=>J17 ((decide (y19.name=y4.text)))) (J17 (false))) (λq16=>br q16 (cal (zq a_f.items q6) λy20=>ck ((a_x.at_ + (1:Int))) <| some ({ a_x with at_:=(a_x.at_ + (1:Int)) },(Val.mk a_v.kind y20.number a_v.b a_v.l a_v.rule a_v.more))) (ck ((q6 + (1:Int))) <| L7 ((q6 + (1:Int)))))) (cal (zbR a_x (7:Int)) λy23=>some (y23,a_v))) (((0:Int)))

def zd7 (a_x:zaE) (a_l:(List zaF)) (zdh:Int):Option (Int × zaE) :=
 cal (zq a_x.l a_x.at_) λy3=>lp (ι:=Int) (λL6 q5=>br (decide (q5 < (a_l.length:Int))) (jp (ι:=Bool) (λJ22=>br (decide (y3.kind=(2:Int))) (cal (zq a_l q5) λy24=>J22 ((decide (y24.name=y3.text)))) (J22 (false))) (λq21=>jp (ι:=Bool) (λJ26=>br q21 (J26 ((decide (a_x.e=(0:Int))))) (J26 (false))) (λq25=>br q25 (ck ((a_x.at_ + (1:Int))) <| some (q5,{ a_x with at_:=(a_x.at_ + (1:Int)) })) (ck ((q5 + (1:Int))) <| L6 ((q5 + (1:Int))))))) (cal (zbR a_x (7:Int)) λy30=>some ((-1:Int),y30))) ((zdh))

def zdf (zbL:zaE->zg->Val->Int->Option (zaE × Val)) (zbo:zaE->Int->Int->Option (Val × zaE)) (a_x:zaE) (a_f:zg) (a_v:Val) (za:Int):Option (zaE × Val) :=
 asr (decide (0 <= (a_f.fields.length:Int)/\(a_f.fields.length:Int) <= 68719476736)) <| cal (zbg a_x (Str.mk [123])) λy4=>cal (zb4 y4 (Str.mk [125])) λy5=>br y5.1 (some (y5.2,(Val.mk a_v.kind a_v.n a_v.b (List.replicate ((a_f.fields.length:Int)).toNat (Val.mk (0:Int) (0:Int) ([]:(List UInt8)) ([]:(List Val)) (0:Int) ([]:(List Raw)))) a_v.rule a_v.more))) (jp (ι:=zaE × Val) (λJ7=>lp (ι:=Int × zaE × Val) (λL9 q8=>br (decide (q8.2.1.e=(0:Int))) (cal (zd7 q8.2.1 a_f.fields q8.1) λy29=>br (decide (y29.1 < (0:Int))) (some (y29.2,q8.2.2)) (cal (zq a_f.fields y29.1) λy30=>ck ((za + (1:Int))) <| cal (zbo y29.2 y30.ty (za + (1:Int))) λy32=>cal (zq a_f.fields y29.1) λy34=>jp (ι:=Bool) (λJ36=>br (!y34.has) (J36 (true)) (cal (zq a_f.fields y29.1) λy38=>cal (zg4 fuel y32.1 y38.dflt) λy39=>J36 ((!y39)))) (λq35=>jp (ι:=Val) (λJ41=>br q35 (asr (decide (0 <= y29.1/\y29.1 < ((q8.2.2.l.length:Nat):Int))) <| cal (q8.2.2.l[y29.1.toNat]?) λy45=>J41 ((Val.mk q8.2.2.kind q8.2.2.n q8.2.2.b (q8.2.2.l.set y29.1.toNat y32.1) q8.2.2.rule q8.2.2.more))) (J41 (q8.2.2))) (λq40=>ck ((y29.1 + (1:Int))) <| cal (zb4 y32.2 (Str.mk [44])) λy47=>br (!y47.1) (J7 (y47.2,q40)) (L9 ((y29.1 + (1:Int)),y47.2,q40)))))) (J7 (q8.2.1,q8.2.2))) (((0:Int),y5.2,(Val.mk a_v.kind a_v.n a_v.b (List.replicate ((a_f.fields.length:Int)).toNat (Val.mk (0:Int) (0:Int) ([]:(List UInt8)) ([]:(List Val)) (0:Int) ([]:(List Raw)))) a_v.rule a_v.more)))) (λq6=>cal (zbg q6.1 (Str.mk [125])) λy49=>some (y49,q6.2)))
def zcT (zbL:zaE->zg->Val->Int->Option (zaE × Val)) (zbo:zaE->Int->Int->Option (Val × zaE)) (a_x:zaE) (a_i:Int) (za:Int):Option (Val × zaE) :=
 br (!decide (a_x.e=(0:Int))) (some ((Val.mk (0:Int) (0:Int) ([]:(List UInt8)) ([]:(List Val)) (0:Int) ([]:(List Raw))),a_x)) (br (decide ((16:Int) < za)) (cal (zbR a_x (5:Int)) λy2=>some ((Val.mk (0:Int) (0:Int) ([]:(List UInt8)) ([]:(List Val)) (0:Int) ([]:(List Raw))),y2)) (cal (zq a_x.t.types a_i) λy3=>jp (ι:=Val × zaE) (λJ9=>br (decide (y3.kind=(1:Int))) (cal (zb4 a_x (Str.mk [84,82,85,69])) λy10=>br y10.1 (J9 ((Val.mk y3.kind (1:Int) ([]:(List UInt8)) ([]:(List Val)) (0:Int) ([]:(List Raw))),y10.2)) (cal (zbg y10.2 (Str.mk [70,65,76,83,69])) λy11=>J9 ((Val.mk y3.kind (0:Int) ([]:(List UInt8)) ([]:(List Val)) (0:Int) ([]:(List Raw))),y11))) (br (decide (y3.kind=(4:Int))) (cal (zbg a_x (Str.mk [78,85,76,76])) λy12=>J9 ((Val.mk y3.kind (0:Int) ([]:(List UInt8)) ([]:(List Val)) (0:Int) ([]:(List Raw))),y12)) (br (decide (y3.kind=(2:Int))) (cal (zdO a_x (3:Int)) λy13=>br (!decide (y13.1=(Str.mk []))) (cal (zfj y13.1) λy14=>J9 ((Val.mk y3.kind y14 ([]:(List UInt8)) ([]:(List Val)) (0:Int) ([]:(List Raw))),y13.2)) (J9 ((Val.mk y3.kind (0:Int) ([]:(List UInt8)) ([]:(List Val)) (0:Int) ([]:(List Raw))),y13.2))) (br (decide (y3.kind=(3:Int))) (cal (zfd a_x y3 (Val.mk y3.kind (0:Int) ([]:(List UInt8)) ([]:(List Val)) (0:Int) ([]:(List Raw)))) λy15=>J9 (y15.2,y15.1)) (br (decide (y3.kind=(5:Int))) (cal (zdO a_x (4:Int)) λy16=>cal (zhf y16.1) λy17=>J9 ((Val.mk y3.kind (0:Int) y17 ([]:(List Val)) (0:Int) ([]:(List Raw))),y16.2)) (br (decide (y3.kind=(6:Int))) (cal (zdO a_x (7:Int)) λy18=>asr (Nat.ble y18.1.b.length 68719476736) <| J9 ((Val.mk y3.kind (0:Int) y18.1.b ([]:(List Val)) (0:Int) ([]:(List Raw))),y18.2)) (br (decide (y3.kind=(10:Int))) (cal (zbg a_x (Str.mk [123])) λy20=>cal (zb4 y20 (Str.mk [125])) λy21=>br y21.1 (J9 ((Val.mk y3.kind (0:Int) ([]:(List UInt8)) ([]:(List Val)) (0:Int) ([]:(List Raw))),y21.2)) (jp (ι:=zaE × Val) (λJ23=>lp (ι:=zaE × Val) (λL25 q24=>br (decide (q24.1.e=(0:Int))) (jp (ι:=zaE × Val) (λJ46=>ck ((za + (1:Int))) <| cal (zbo q24.1 y3.of (za + (1:Int))) λy48=>asr (Nat.ble (q24.2.l.length + ([(Val.mk (0:Int) (0:Int) ([]:(List UInt8)) ([]:(List Val)) (0:Int) ([]:(List Raw)))]:(List Val)).length) 68719476736) <| asr (decide (0 <= ((q24.2.l.length:Nat):Int)/\((q24.2.l.length:Nat):Int) < (((q24.2.l ++ ([(Val.mk (0:Int) (0:Int) ([]:(List UInt8)) ([]:(List Val)) (0:Int) ([]:(List Raw)))]:(List Val))).length:Nat):Int))) <| cal ((q24.2.l ++ ([(Val.mk (0:Int) (0:Int) ([]:(List UInt8)) ([]:(List Val)) (0:Int) ([]:(List Raw)))]:(List Val)))[((q24.2.l.length:Nat):Int).toNat]?) λy53=>J46 (y48.2,(Val.mk q24.2.kind q24.2.n q24.2.b ((q24.2.l ++ ([(Val.mk (0:Int) (0:Int) ([]:(List UInt8)) ([]:(List Val)) (0:Int) ([]:(List Raw)))]:(List Val))).set (((q24.2.l.length:Nat):Int).toNat) y48.1) q24.2.rule q24.2.more))) (λq45=>cal (zb4 q45.1 (Str.mk [44])) λy63=>br (!y63.1) (J23 (y63.2,q45.2)) (L25 (y63.2,q45.2)))) (J23 (q24.1,q24.2))) ((y21.2,(Val.mk y3.kind (0:Int) ([]:(List UInt8)) ([]:(List Val)) (0:Int) ([]:(List Raw)))))) (λq22=>cal (zbg q22.1 (Str.mk [125])) λy65=>J9 (q22.2,y65)))) (br (decide (y3.kind=(9:Int))) (cal (zd7 a_x y3.fields (0:Int)) λy66=>cal (zbg y66.2 (Str.mk [58])) λy67=>br (decide (y67.e=(0:Int))) (cal (zq y3.fields y66.1) λy68=>ck ((za + (1:Int))) <| cal (zbo y67 y68.ty (za + (1:Int))) λy70=>J9 ((Val.mk y3.kind y66.1 ([]:(List UInt8)) ([y70.1]:(List Val)) (0:Int) ([]:(List Raw))),y70.2)) (J9 ((Val.mk y3.kind (0:Int) ([]:(List UInt8)) ([]:(List Val)) (0:Int) ([]:(List Raw))),y67))) (cal (zbL a_x y3 (Val.mk y3.kind (0:Int) ([]:(List UInt8)) ([]:(List Val)) (0:Int) ([]:(List Raw))) za) λy72=>J9 (y72.2,y72.1)))))))))) (λq8=>some (q8.1,q8.2))))
def zfl:Nat->(zaE->zg->Val->Int->Option (zaE × Val)) × (zaE->Int->Int->Option (Val × zaE))
 | 0=>(λ_ _ _ _=>none,λ_ _ _=>none)
 | n + 1=>let p:=zfl n;(zdf p.1 p.2,zcT p.1 p.2)
def zdL (n:Nat):zaE->zg->Val->Int->Option (zaE × Val):=(zfl n).1
def zcm (n:Nat):zaE->Int->Int->Option (Val × zaE):=(zfl n).2

def zh5 (a_t:zZ) (a_i:Int) (a_s:Str):Option (Val × Int × Int) :=
 cal (zfb a_s) λy2=>br (!decide (y2.2.2=(0:Int))) (some ((Val.mk (0:Int) (0:Int) ([]:(List UInt8)) ([]:(List Val)) (0:Int) ([]:(List Raw))),y2.2.1,y2.2.2)) (jp (ι:=Bool) (λJ5=>br (decide (a_i < (0:Int))) (J5 (true)) (J5 ((decide ((a_t.types.length:Int) <= a_i))))) (λq4=>br q4 (some ((Val.mk (0:Int) (0:Int) ([]:(List UInt8)) ([]:(List Val)) (0:Int) ([]:(List Raw))),(0:Int),(9:Int))) (cal (zcm fuel (zaE.mk a_t y2.1 (0:Int) (0:Int) (0:Int)) a_i (0:Int)) λy7=>jp (ι:=Bool) (λJ12=>br (decide (y7.2.e=(0:Int))) (cal (zq y7.2.l y7.2.at_) λy14=>J12 ((!decide (y14.kind=(0:Int))))) (J12 (false))) (λq11=>jp (ι:=zaE) (λJ16=>br q11 (cal (zbR y7.2 (7:Int)) λy17=>J16 (y17)) (J16 (y7.2))) (λq15=>br (!decide (q15.e=(0:Int))) (some ((Val.mk (0:Int) (0:Int) ([]:(List UInt8)) ([]:(List Val)) (0:Int) ([]:(List Raw))),q15.p,q15.e)) (cal (zga a_t a_i y7.1) λy20=>br (!y20) (some ((Val.mk (0:Int) (0:Int) ([]:(List UInt8)) ([]:(List Val)) (0:Int) ([]:(List Raw))),(0:Int),(13:Int))) (some (y7.1,(0:Int),(0:Int)))))))))

def zeL (zaZ:Str) (zfS:Int) (a_s:Str):Option (Bool) :=
 cal (zck zaZ) λy1=>cal (zfK y1.1 zfS) λy3=>jp (ι:=Bool) (λJ5=>br (!y1.2) (J5 (true)) (J5 ((!y3.2)))) (λq4=>jp (ι:=Bool) (λJ8=>br q4 (J8 (true)) (J8 ((decide ((9000:Int) < (a_s.b.length:Int)))))) (λq7=>br q7 (cal (zgN ) λy10=>some (y10)) (cal (zgs y1.1 y3.1 a_s) λy11=>cal (zh5 y1.1 y3.1 a_s) λy13=>cal (zgN ) λy15=>jp (ι:=Bool) (λJ17=>br y15 (cal (zg4 fuel y11.1 y13.1) λy19=>J17 (y19)) (J17 (false))) (λq16=>jp (ι:=Bool) (λJ21=>br q16 (J21 ((decide (y11.2.1=y13.2.1)))) (J21 (false))) (λq20=>jp (ι:=Bool) (λJ24=>br q20 (J24 ((decide (y11.2.2=y13.2.2)))) (J24 (false))) (λq23=>some (q23)))))))
def Erq (t:zZ) (L:List zS) (p e:Int) (x:zaE):Prop:=∃ a y,x=⟨t,L,a,e,p⟩/\zq L a=some y/\e ≠ 0
def sr (t:zZ) (L:List zS) (a:Int):zaE:=⟨t,L,a,0,0⟩
section small
variable {L:List zS} {a:Int} {ts:List zS} {t:zZ} {p e:Int}
theorem zy4 {x:zaE} (h:Erq t L p e x) (k:Int):zbR x k=some x:=by
 obtain ⟨a,y,rfl,h1,h2⟩:=h
 refine T.eqs ?_
 unfold zbR
 exact T.br (λh=>absurd (zOT h) h2) λ_=>T.some rfl
theorem zvC {x:zaE} (h:Erq t L p e x) (s:Str):zb4 x s=some (false,x):=by
 obtain ⟨a,y,rfl,h1,h2⟩:=h
 refine T.eqs ?_
 unfold zb4
 exact T.eq h1 (T.jp (λb=>b=false) (λJ k=>T.br (λh=>absurd (zOT h) h2) λ_=>k _ rfl) λb hb=>T.jp (λb=>b=false) (λJ k=>T.br (λh=>by rw [hb] at h;cases h) λ_=>k _ rfl) λc hc=>T.br (λh=>by rw [hc] at h;cases h) λ_=>T.some rfl)
theorem zn3 {x:zaE} (h:Erq t L p e x) (s:Str):zbg x s=some x:=by
 refine T.eqs ?_
 unfold zbg
 exact T.eq (zvC h s) (T.br (λ_=>T.eq (zy4 h 7) (T.some rfl)) λh=>by cases h)
theorem zmJ (h:Sd L a ts) (k:Int):zbR (sr t L a) k=some ⟨t,L,a,k,atp ts⟩:=by
 obtain ⟨y,r,e1,e2,_⟩:=h.cons
 refine T.eqs ?_
 unfold zbR
 refine T.br (λ_=>T.eq e2 (T.some ?_)) λh=>by cases h
 subst e1;rfl
theorem zmn (h:Sd L a ts) {k:Int} (hk:k ≠ 0):Erq t L (atp ts) k ⟨t,L,a,k,atp ts⟩:=by
 obtain ⟨y,r,e1,e2,_⟩:=h.cons
 exact ⟨a,y,rfl,e2,hk⟩
theorem zui (h:Sd L a ts) (s:List UInt8):zb4 (sr t L a) ⟨s⟩=some (match pIs s ts with | some _=>(true,sr t L (a + 1)) | none=>(false,sr t L a)):=by
 obtain ⟨y,r,e1,e2,e3,_⟩:=h.cons
 have ha:=h.a0
 have hl:=h.len
 refine T.eqs ?_
 unfold zb4
 refine T.eq e2 (T.jp (λb=>b=(decide (y.kind=5) || decide (y.kind=6))) (λJ k=>T.br (λ_=>T.or' (k _ rfl)) λh=>by cases h) λb hb=>T.and' ?_)
 have ep:pIs s ts=bif b && decide (y.text=⟨s⟩) then some r else none:=by subst e1;rw [hb];rfl
 refine T.br (λh=>?_) λh=>?_
 ·rw [ep,h]
  refine T.ck ?_ (T.some rfl)
  show _ <= a + 1/\a + 1 <= _
  rw [e1,zLc] at e3;omega
 ·rw [ep,h];exact T.some rfl
theorem zlJ (h:Sd L a ts) (s:List UInt8):zbg (sr t L a) ⟨s⟩=some (match pIs s ts with | some _=>sr t L (a + 1) | none=>⟨t,L,a,7,atp ts⟩):=by
 refine T.eqs ?_
 unfold zbg
 refine T.eq (zui h s) ?_
 cases pIs s ts with
 | some r=>exact T.br (λh=>by cases h) λ_=>T.some rfl
 | none=>exact T.br (λ_=>T.eq (zmJ h 7) (T.some rfl)) λh=>by cases h
theorem zse (h:Sd L a ts) (k:Int):zdO (sr t L a) k=some (match pOf k ts with | some (s,_)=>(s,sr t L (a + 1)) | none=>(⟨[]⟩,⟨t,L,a,7,atp ts⟩)):=by
 obtain ⟨y,r,e1,e2,e3,_⟩:=h.cons
 have ha:=h.a0
 have hl:=h.len
 refine T.eqs ?_
 unfold zdO
 refine T.eq e2 (T.or' ?_)
 have ep:pOf k ts=bif decide (y.kind=k) then some (y.text,r) else none:=by subst e1;rfl
 rw [ep]
 show T _ (br (!decide (y.kind=k)) _ _)
 refine T.br (λh2=>?_) λh2=>?_
 ·rw [show decide (y.kind=k)=false by simpa using h2]
  exact T.eq (zmJ h 7) (T.some rfl)
 ·rw [show decide (y.kind=k)=true by simpa using h2]
  refine T.ck ?_ (T.some rfl)
  show _ <= a + 1/\a + 1 <= _
  rw [e1,zLc] at e3;omega
theorem ztx (h:Sd L a ts) (fs:List zaF) (hfl:fs.length <= 1000000) (k:Nat) (hk:k <= 1000000):zd7 (sr t L a) fs (k:Int)=some (match zlC fs k ts with | some (j,_)=>((j:Int),sr t L (a + 1)) | none=>(-1,⟨t,L,a,7,atp ts⟩)):=by
 obtain ⟨y,r,e1,e2,e3,_⟩:=h.cons
 have ha:=h.a0
 have hl:=h.len
 refine T.eqs ?_
 unfold zd7
 refine T.eq e2 ?_
 have e5:zlC fs k ts=bif decide (y.kind=2) then (zji fs y.text (fs.length - k) k).map (λj=>(j,r)) else none:=by subst e1;rfl
 rw [e5]
 refine T.lp (ι:=Int) (λq=>∃ m:Nat,q=(m:Int)/\k <= m/\(m <= fs.length \/ m=k)/\(y.kind=2->zji fs y.text (fs.length - m) m=zji fs y.text (fs.length - k) k)) (λq=>((fs.length:Int) - q).toNat) ⟨k,rfl,zNl _,.inr rfl,λ_=>rfl⟩ (by omega) λJ q ⟨m,e6,hm,hm2,e7⟩ hJ=>?_
 subst e6
 refine T.br (λhb=>?_) λhb=>?_
 ·have hb:=zOT hb
  obtain ⟨f,hf⟩:∃ f,fs[m]?=some f:=⟨_,List.getElem?_eq_getElem (by omega)⟩
  have e8:zji fs y.text (fs.length - m) m=bif decide (f.name=y.text) then some m else zji fs y.text (fs.length - (m + 1)) (m + 1):=by
   rw [show fs.length - m=(fs.length - (m + 1)) + 1 by omega]
   show (match fs[m]? with | some f=>_ | none=>_)=_
   rw [hf]
  refine T.jp (λb=>b=(decide (y.kind=2) && decide (f.name=y.text))) (λJ2 k2=>T.br (λh2=>T.get (by omega) (by omega) λf' hf'=>?_) λh2=>k2 _ (by rw [h2];rfl)) λb hb2=>?_
  ·rw [Int.toNat_natCast,hf] at hf';cases hf'
   exact k2 _ (by rw [h2];rfl)
  refine T.and' ?_
  show T _ (br (b && true) _ _)
  rw [Bool.and_true,hb2]
  refine T.br (λhn=>?_) λhn=>T.ck (by omega) (hJ _ ⟨m + 1,by omega,by omega,by omega,λhk2=>?_⟩ (by omega))
  ·rw [zBa] at hn
   rw [hn.1,zCt,<- e7 (zOT hn.1),e8,hn.2]
   refine T.ck ?_ (T.some rfl)
   show _ <= a + 1/\a + 1 <= _
   rw [e1,zLc] at e3;omega
  ·rw [zDT hk2,Bool.true_and] at hn
   rw [<- e7 hk2,e8,hn];rfl
 ·have hb:=zOF hb
  have:(bif decide (y.kind=2) then (zji fs y.text (fs.length - k) k).map (λj=>(j,r)) else none)=none:=by
   cases h2:decide (y.kind=2) with
   | false=>rfl
   | true=>rw [zCt,<- e7 (zOT h2),show fs.length - m=0 by omega];rfl
  rw [this]
  exact T.eq (zmJ h 7) (T.some rfl)
theorem zyT (h:Sd L a ts) (x:zg) (hil:x.items.length <= 1000000) (v:Val):zfd (sr t L a) x v=some (match znd x ts with | some (n,_)=>(sr t L (a + 1),Val.mk v.kind n v.b v.l v.rule v.more) | none=>(⟨t,L,a,7,atp ts⟩,v)):=by
 obtain ⟨y,r,e1,e2,e3,_⟩:=h.cons
 have ha:=h.a0
 have hl:=h.len
 refine T.eqs ?_
 unfold zfd
 refine T.eq e2 ?_
 have e5:znd x ts=bif decide (y.kind=2) then (zkA y.text x.items).map (λj=>(j,r)) else none:=by subst e1;rfl
 rw [e5]
 refine T.lp (ι:=Int) (λq=>0 <= q/\q <= (x.items.length:Int)/\(y.kind=2->zkA y.text (x.items.drop q.toNat)=zkA y.text x.items)) (λq=>((x.items.length:Int) - q).toNat) ⟨zIl _,by omega,λ_=>rfl⟩ (by omega) λJ q ⟨q0,q1,q2⟩ hJ=>T.br (λhb=>?_) λhb=>?_
 ·have hb:=zOT hb
  obtain ⟨it,hit⟩:∃ it,x.items[q.toNat]?=some it:=⟨_,List.getElem?_eq_getElem (by omega)⟩
  have hd:x.items.drop q.toNat=it :: x.items.drop (q.toNat + 1):=by
   obtain ⟨h1,h2⟩:=List.getElem?_eq_some_iff.1 hit
   rw [List.drop_eq_getElem_cons h1,h2]
  refine T.jp (λb=>b=(decide (y.kind=2) && decide (it.name=y.text))) (λJ2 k2=>T.br (λh2=>T.get q0 hb λf' hf'=>?_) λh2=>k2 _ (by rw [h2];rfl)) λb hb2=>?_
  ·rw [hit] at hf';cases hf'
   exact k2 _ (by rw [h2];rfl)
  rw [hb2]
  refine T.br (λhn=>T.get q0 hb λf' hf'=>?_) λhn=>T.ck (by omega) (hJ _ ⟨by omega,by omega,λhk=>?_⟩ (by omega))
  ·rw [hit] at hf';cases hf'
   rw [zBa] at hn
   rw [hn.1,zCt,<- q2 (zOT hn.1),hd,show zkA y.text (it :: x.items.drop (q.toNat + 1))=bif decide (it.name=y.text) then some it.number else zkA y.text (x.items.drop (q.toNat + 1)) from rfl,hn.2]
   refine T.ck ?_ (T.some rfl)
   show _ <= a + 1/\a + 1 <= _
   rw [e1,zLc] at e3;omega
  ·rw [zDT hk,Bool.true_and] at hn
   rw [<- q2 hk,hd,show (q + 1).toNat=q.toNat + 1 by omega]
   show _=(bif decide (it.name=y.text) then _ else _)
   rw [hn];rfl
 ·have hb:=zOF hb
  have:(bif decide (y.kind=2) then (zkA y.text x.items).map (λj=>(j,r)) else none)=none:=by
   cases h2:decide (y.kind=2) with
   | false=>rfl
   | true=>rw [zCt,<- q2 (zOT h2),zDn (by omega)];rfl
  rw [this]
  exact T.eq (zmJ h 7) (T.some rfl)
end small
def VQ (t:zZ) (L ts:List zS):PR Val->(Val × zaE)->Prop
 | .ok v rest,r=>∃ a',r=(v,sr t L a')/\Sd L a' rest/\zbV v/\cnt v + 1000 * rest.length <= 1000 * ts.length
 | .bad p e,r=>Erq t L p e r.2/\zbV r.1/\cnt r.1 <= 2000 * ts.length
def BQ (t:zZ) (L:List zS) (v0:Val) (ts:List zS) (c0:Nat):PR (List Val)->(zaE × Val)->Prop
 | .ok l rest,r=>∃ a',r=(sr t L a',Val.mk v0.kind v0.n v0.b l v0.rule v0.more)/\Sd L a' rest/\(∀ w ∈ l,zbV w)/\l.length <= 10000/\(l.map cnt).sum + 1000 * rest.length + 1001 <= 1000 * ts.length + c0
 | .bad p e,r=>Erq t L p e r.1/\BX v0 ts r.2
def Rq (t:zZ) (L:List zS) (f:List zS->PR Val) (M:zaE->Option (Val × zaE)):Prop:=∀ a ts,Sd L a ts->T (VQ t L ts (f ts)) (M (sr t L a))
theorem zzF {L : List zS} {t:zZ} {f:Int->List zS->PR Val} {F' M} {x:zg} {d:Int} {v0:Val} (hd:0 <= d/\d <= 100) (hfl:x.fields.length <= 1000) (hf:∀ y ∈ x.fields,Rq t L (f y.ty) λs=>M s y.ty (d + 1)) {a:Int} {ts:List zS} (h:Sd L a ts) :
    T (BQ t L v0 ts x.fields.length (zpX x.fields f ts)) (zdf F' M (sr t L a) x v0 d):=by
  obtain ⟨_,_,eT,_,_,_⟩:=h.cons
  have hts:1 <= ts.length:=by rw [eT,zLc];omega
  have hz0:((List.replicate x.fields.length zc2).map cnt).sum=x.fields.length:=by
    rw [List.map_replicate,zjo,ztw (α:=Nat),Nat.mul_one]
  have hzf:∀ w ∈ List.replicate x.fields.length zc2,zbV w:=λw hw=>by rw [(List.mem_replicate.1 hw).2];exact zid
  have bx0:BX v0 ts (Val.mk v0.kind v0.n v0.b (List.replicate x.fields.length zc2) v0.rule v0.more):=⟨_,rfl,hzf,by rw [List.length_replicate];omega,by rw [hz0];omega⟩
  unfold zdf zpX
  refine T.asd (by omega) (T.eq (zlJ h [123]) ?_)
  rw [Int.toNat_natCast]
  cases h1:pIs [123] ts with
  | none =>
    have hE:=zmn (t:=t) h (k:=7) (by decide)
    refine T.eq (zvC hE _) (T.br (λh=>by cases h) λ_=>T.jp0 ?_)
    refine T.lp (ι:=Int × zaE × Val) (λq=>q.2=(⟨t,L,a,7,atp ts⟩,Val.mk v0.kind v0.n v0.b (List.replicate x.fields.length zc2) v0.rule v0.more)) (λq=>0) rfl (by omega) λJ q q1 hJ=>T.brF (by rw [q1];rfl) ?_
    rw [q1]
    exact T.eq (zn3 hE _) (T.some ⟨hE,bx0⟩)
  | some r =>
    obtain ⟨A1,l1⟩:=h.is h1
    refine T.eq (zui A1 [125]) ?_
    dsimp only
    cases h2:pIs [125] r with
    | some r2 =>
      obtain ⟨A2,l2⟩:=A1.is h2
      refine T.br (λ_=>T.some ⟨_,rfl,A2,hzf,by rw [List.length_replicate];omega,?_⟩) λh=>by cases h
      rw [hz0];omega
    | none =>
      refine T.br (λh=>by cases h) λ_=>T.jp0 ?_
      have hlen:=A1.len
      obtain ⟨_,_,_,_,hrl,_⟩:=A1.cons
      refine T.lp (ι:=Int × zaE × Val) (λq=>∃ (a':Int) (ts':List zS) (acc:List Val) (k m:Nat),q=((m:Int),sr t L a',Val.mk v0.kind v0.n v0.b acc v0.rule v0.more)/\Sd L a' ts'/\(∀ w ∈ acc,zbV w)/\acc.length=x.fields.length/\m <= 1000/\ts'.length <= k/\(acc.map cnt).sum + 1000 * ts'.length <= 1000 * r.length + x.fields.length/\zhX x.fields f k ts' m acc=zhX x.fields f r.length r 0 (List.replicate x.fields.length zc2))
        (λq=>10000 - q.2.1.at_.toNat) ⟨a + 1,r,List.replicate x.fields.length zc2,r.length,0,rfl,A1,hzf,List.length_replicate,by omega,zNl _,by rw [hz0];omega,rfl⟩ (by dsimp only;omega) λJ q ⟨a',ts',acc,k,m,e1,A2,g1,g2,gm,g3,g4,g5⟩ hJ=>?_
      subst e1
      obtain ⟨y0,r0,ey,_,hA2,_⟩:=A2.cons
      obtain ⟨k,rfl⟩:∃ k',k=k' + 1:=⟨k - 1,by rw [ey,zLc] at g3;omega⟩
      have hts':ts'.length=r0.length + 1:=by rw [ey,zLc]
      have eP : zhX x.fields f (k + 1) ts' m acc=match zlC x.fields m ts' with
        | none=>.bad (atp ts') 7
        | some (j,r0)=>match x.fields[j]? with
          | none=>.bad (atp ts') 7
          | some y=>match f y.ty r0 with
            | .bad p e=>.bad p e
            | .ok w r=>match pIs [44] r with
              | some r2=>zhX x.fields f k r2 (j + 1) (zfe y j w acc)
              | none=>match pIs [125] r with
                | some r3=>.ok (zfe y j w acc) r3
                | none=>.bad (atp r) 7:=rfl
      refine T.brT rfl (T.eq (ztx A2 x.fields (by omega) m (by omega)) ?_)
      cases hp:zlC x.fields m ts' with
      | none =>
        dsimp only
        refine T.br (λ_=>T.some ?_) λh=>by cases h
        rw [<- g5,eP,hp]
        exact ⟨zmn A2 (by decide),acc,rfl,g1,by omega,by omega⟩
      | some q =>
        obtain ⟨j,r0'⟩:=q
        have hp':=hp
        rw [ey] at hp'
        change (bif decide (y0.kind=2) then (zji x.fields y0.text (x.fields.length - m) m).map (λj=>(j,r0)) else none)=some (j,r0') at hp'
        cases hk2:decide (y0.kind=2) with
        | false=>rw [hk2] at hp';cases hp'
        | true =>
          rw [hk2,zCt] at hp'
          obtain ⟨j',hj,e2⟩:=Option.map_eq_some_iff.1 hp'
          cases e2
          have hk2:=zOT hk2
          obtain ⟨_,y,hy,_⟩:=znm hj
          have hjl:=(List.getElem?_eq_some_iff.1 hy).1
          obtain ⟨A3,l3⟩:=A2.next ey (by omega)
          obtain ⟨w0,hw0⟩:∃ w,acc[j]?=some w:=⟨_,List.getElem?_eq_getElem (by omega)⟩
          have hw0c:=zey w0
          have egy:zq x.fields (j:Int)=some y:=by rw [zbm (by omega) (by omega)];exact congrArg some (List.getElem?_eq_some_iff.1 hy).2
          dsimp only
          refine T.br (λh=>absurd (zOT h) (by omega)) λ_=>T.eq egy (T.ck (by omega) (T.cal (hf y (List.mem_of_getElem? hy) _ _ A3) λz _ hz=>T.eq egy ?_))
          have hz1:zbV z.1/\cnt z.1 <= 2000 * r0.length:=by
            cases hfr:f y.ty r0 with
            | bad p e=>rw [hfr] at hz;exact hz.2
            | ok w rest=>rw [hfr] at hz;obtain ⟨a2,z1,z2,z3,z4⟩:=hz;subst z1;exact ⟨z3,by dsimp only;omega⟩
          obtain ⟨q1,q2⟩:=hz1
          have esum:=zqA (l:=acc) (j:=j) (w:=z.1) hw0
          have eset:∀ w ∈ acc.set j z.1,zbV w:=λw hw=>by
            rcases zrx hw with h | h
            · exact g1 w h
            · rw [h];exact q1
          refine T.jp (λb=>(b=true->zfe y j z.1 acc=acc.set j z.1)/\(b=false->zfe y j z.1 acc=acc)) (λJ2 k2=>T.br (λhh=>k2 _ ⟨λ_=>zqO (by simpa using hh),λh=>by cases h⟩) λhh=>T.eq egy (T.cal (zhp (k:=20000000) (n:=fuel) (by omega) (by unfold fuel;omega) q1 y.dflt) λu _ hu=>k2 _ ?_)) λb hb=>?_
          · have hh:y.has=true:=by simpa using hh
            refine ⟨λh=>?_,λh=>?_⟩
            · exact zto λe=>by rw [hu.2 e] at h;cases h
            · exact ztB hh (hu.1 (by simpa using h))
          refine T.jp (λv=>v=Val.mk v0.kind v0.n v0.b (zfe y j z.1 acc) v0.rule v0.more/\(∀ w ∈ zfe y j z.1 acc,zbV w)/\(zfe y j z.1 acc).length=x.fields.length/\((zfe y j z.1 acc).map cnt).sum <= (acc.map cnt).sum + cnt z.1) (λJ2 k2=>T.br (λh=>?_) λh=>?_) λv hv=>T.ck (by omega) ?_
          · rw [hb.1 h] at k2
            refine T.asd (by simp only [Val.l_mk];omega) (T.eq (y:=w0) (by simp only [Val.l_mk,Int.toNat_natCast];exact hw0) (k2 _ ⟨?_,eset,by rw [List.length_set];exact g2,by omega⟩))
            simp only [Val.kind_mk,Val.n_mk,Val.b_mk,Val.l_mk,Val.rule_mk,Val.more_mk,Int.toNat_natCast]
          · rw [hb.2 h] at k2
            exact k2 _ ⟨rfl,g1,g2,by omega⟩
          obtain ⟨v1,v2,v3,v4⟩:=hv
          subst v1
          cases hfr:f y.ty r0 with
          | bad p e =>
            rw [hfr] at hz
            obtain ⟨z1,_,_⟩:=hz
            refine T.eq (zvC z1 _) (T.br (λ_=>T.eq (zn3 z1 _) (T.some ?_)) λh=>by cases h)
            rw [<- g5,eP,hp];dsimp only;rw [hy];dsimp only;rw [hfr]
            exact ⟨z1,_,rfl,v2,by omega,by omega⟩
          | ok w rest =>
            rw [hfr] at hz
            obtain ⟨a2,z1,A4,z3,z4⟩:=hz
            subst z1
            have v4':((zfe y j w acc).map cnt).sum <= (acc.map cnt).sum + cnt w:=v4
            have v3':(zfe y j w acc).length=x.fields.length:=v3
            have hcw:=zey w
            obtain ⟨_,_,ey3,_,hA4,_⟩:=A4.cons
            have eQ:zhX x.fields f r.length r 0 (List.replicate x.fields.length zc2)=match pIs [44] rest with
              | some r2=>zhX x.fields f k r2 (j + 1) (zfe y j w acc)
              | none=>match pIs [125] rest with
                | some r3=>.ok (zfe y j w acc) r3
                | none=>.bad (atp rest) 7:=by rw [<- g5,eP,hp];dsimp only;rw [hy];dsimp only;rw [hfr]
            refine T.eq (zui A4 [44]) ?_
            dsimp only
            cases h3:pIs [44] rest with
            | some r2 =>
              obtain ⟨A5,l5⟩:=A4.is h3
              have ha4:=A5.a0
              refine T.br (λh=>by cases h) λ_=>hJ _ ⟨a2 + 1,r2,zfe y j w acc,k,j + 1,rfl,A5,v2,v3,by omega,by omega,by omega,by rw [eQ,h3]⟩ ?_
              have:=A4.a0
              have:=A2.a0
              show 10000 - (a2 + 1).toNat < 10000 - a'.toNat
              omega
            | none =>
              refine T.br (λ_=>T.eq (zlJ A4 [125]) ?_) λh=>by cases h
              rw [eQ,h3]
              dsimp only
              cases h4:pIs [125] rest with
              | some r3 =>
                obtain ⟨A5,l5⟩:=A4.is h4
                exact T.some ⟨a2 + 1,rfl,A5,v2,by omega,by omega⟩
              | none=>exact T.some ⟨zmn A4 (by decide),_,rfl,v2,by omega,by omega⟩
structure TokR (y:zS):Prop where
 len:y.text.b.length <= 9000
 num:y.kind=3->zpD y.text.b
 hex:y.kind=4->zhf y.text=some (zsi y.text)/\(zsi y.text).length <= 9000
theorem zom {L:List zS} {t:zZ} {a:Int} {ts r:List zS} {v:Val} (h2:Sd L (a + 1) r) (hl:r.length + 1=ts.length) (hf:zbV v) (hc:cnt v <= 1000):VQ t L ts (.ok v r) (v,sr t L (a + 1)):=⟨a + 1,rfl,h2,hf,by omega⟩
theorem zj3 {L:List zS} {t:zZ} {a:Int} {ts:List zS} {v:Val} {p e:Int} {x:zaE} (h:Sd L a ts) (hE:Erq t L p e x) (hf:zbV v) (hc:cnt v <= 1000):VQ t L ts (.bad p e) (v,x):=by
 obtain ⟨_,_,eT,_,_,_⟩:=h.cons
 exact ⟨hE,hf,by show cnt v <= _;rw [eT,zLc];omega⟩
theorem zxz:zhf ⟨[]⟩=some []:=by
 refine T.eqs ?_
 unfold zhf
 exact T.lp (ι:=List UInt8 × Int) (λq=>q=([],0)) (λq=>0) rfl (by omega) λJ q e hJ=>by
  subst e
  exact T.ck (by decide) (T.br (λh=>by cases h) λ_=>T.some rfl)
theorem zzN {L:List zS} {t:zZ} {f:List zS->PR Val} {M:zaE->Int->Int->Option (Val × zaE)} {x:zg} {d:Int} {v0:Val} (hd:0 <= d/\d <= 100) (hf:Rq t L f λs=>M s x.of (d + 1)) {a:Int} {ts:List zS} (h:Sd L a ts) (hv:v0.l=[]) {β:Type} {R:β->Prop} {J:Val × zaE->Option β} (kJ:∀ q:Val × zaE,BQ t L v0 ts 0 (zsr f ts) (q.2,q.1)->T R (J q)) :
    T R (cal (zbg (sr t L a) (Str.mk [123])) λy20=>cal (zb4 y20 (Str.mk [125])) λy21=>br y21.1 (J (v0,y21.2)) (jp (λJ23=>lp (λL25 q24=>br (decide (q24.1.e=(0:Int))) (jp (λJ46=>ck ((d + (1:Int))) <| cal (M q24.1 x.of (d + (1:Int))) λy48=>asr (Nat.ble (q24.2.l.length + [Val.mk 0 0 [] [] 0 []].length) 68719476736) <| asr (decide (0 <= ((q24.2.l.length:Nat):Int)/\((q24.2.l.length:Nat):Int) < (((q24.2.l ++ [Val.mk 0 0 [] [] 0 []]).length:Nat):Int))) <| cal ((q24.2.l ++ [Val.mk 0 0 [] [] 0 []])[((q24.2.l.length:Nat):Int).toNat]?) λy53=>J46 (y48.2,(Val.mk q24.2.kind q24.2.n q24.2.b ((q24.2.l ++ [Val.mk 0 0 [] [] 0 []]).set (((q24.2.l.length:Nat):Int).toNat) y48.1) q24.2.rule q24.2.more))) (λq45=>cal (zb4 q45.1 (Str.mk [44])) λy63=>br (!y63.1) (J23 (y63.2,q45.2)) (L25 (y63.2,q45.2)))) (J23 (q24.1,q24.2))) ((y21.2,v0))) (λq22=>cal (zbg q22.1 (Str.mk [125])) λy65=>J (q22.2,y65)))):=by
  obtain ⟨_,_,eT,_,_,_⟩:=h.cons
  have hts:1 <= ts.length:=by rw [eT,zLc];omega
  have bx0:BX v0 ts v0:=⟨[],by rw [<- hv,Val.eta],(λw hw=>by cases hw),zNz _,by simp only [List.map_nil,List.sum_nil];omega⟩
  unfold zsr at kJ
  refine T.eq (zlJ h [123]) ?_
  cases h1:pIs [123] ts with
  | none =>
    rw [h1] at kJ
    have hE:=zmn (t:=t) h (k:=7) (by decide)
    refine T.eq (zvC hE _) (T.br (λh=>by cases h) λ_=>T.jp0 ?_)
    refine T.lp (ι:=zaE × Val) (λq=>q=(⟨t,L,a,7,atp ts⟩,v0)) (λq=>0) rfl (by omega) λJ q q1 hJ=>T.brF (by rw [q1];rfl) ?_
    rw [q1]
    exact T.eq (zn3 hE _) (kJ _ ⟨hE,bx0⟩)
  | some r =>
    rw [h1] at kJ
    obtain ⟨A1,l1⟩:=h.is h1
    refine T.eq (zui A1 [125]) ?_
    dsimp only at kJ ⊢
    cases h2:pIs [125] r with
    | some r2 =>
      rw [h2] at kJ
      obtain ⟨A2,l2⟩:=A1.is h2
      refine T.br (λ_=>kJ _ ⟨_,by rw [<- hv,Val.eta],A2,(λw hw=>by cases hw),zNz _,?_⟩) λh=>by cases h
      simp only [List.map_nil,List.sum_nil];omega
    | none =>
      rw [h2] at kJ
      dsimp only at kJ ⊢
      refine T.br (λh=>by cases h) λ_=>T.jp0 ?_
      have hlen:=A1.len
      obtain ⟨_,_,_,_,hrl,_⟩:=A1.cons
      refine T.lp (ι:=zaE × Val) (λq=>∃ a' ts' acc k,q=(sr t L a',Val.mk v0.kind v0.n v0.b acc v0.rule v0.more)/\Sd L a' ts'/\(∀ w ∈ acc,zbV w)/\acc.length + ts'.length <= r.length/\ts'.length <= k/\(acc.map cnt).sum + 1000 * ts'.length <= 1000 * r.length/\zhV f k ts' acc=zhV f r.length r [])
        (λq=>10000 - q.1.at_.toNat) ⟨a + 1,r,[],r.length,by rw [<- hv,Val.eta],A1,(λw hw=>by cases hw),by simp,zNl _,by simp,rfl⟩ (by dsimp only;omega) λJ q ⟨a',ts',acc,k,e1,A2,g1,g2,g3,g4,g5⟩ hJ=>?_
      subst e1
      obtain ⟨y0,r0,ey,_,hA2,_⟩:=A2.cons
      obtain ⟨k,rfl⟩:∃ k',k=k' + 1:=⟨k - 1,by rw [ey,zLc] at g3;omega⟩
      have hts':1 <= ts'.length:=by rw [ey,zLc];omega
      have eP : zhV f (k + 1) ts' acc=match f ts' with
          | .bad p e=>.bad p e
          | .ok w r=>match pIs [44] r with
            | some r2=>zhV f k r2 (acc ++ [w])
            | none=>match pIs [125] r with
              | some r3=>.ok (acc ++ [w]) r3
              | none=>.bad (atp r) 7:=rfl
      refine T.brT rfl (T.jp (λq=>∃ w,q.2=Val.mk v0.kind v0.n v0.b (acc ++ [w]) v0.rule v0.more/\VQ t L ts' (f ts') (w,q.1)) (λJ2 k2=>T.ck (by omega) (T.cal (hf a' ts' A2) λz _ hz=>?_)) λq hq=>?_)
      · refine T.abl (by simp only [Val.l_mk,zLs];omega) (T.asd (by simp only [Val.l_mk,zLa,zLs];omega) (T.eq (y:=Val.mk 0 0 [] [] 0 []) ?_ (k2 _ ⟨z.1,?_,hz⟩)))
        · simp only [Val.l_mk,Int.toNat_natCast]
          rw [List.getElem?_append_right (zNl _),Nat.sub_self];rfl
        · simp only [Val.kind_mk,Val.n_mk,Val.b_mk,Val.l_mk,Val.rule_mk,Val.more_mk,Int.toNat_natCast]
          rw [List.set_append_right _ _ (zNl _),Nat.sub_self];rfl
      obtain ⟨w,ew,hz⟩:=hq
      have hw1:zbV w/\cnt w <= 2000 * ts'.length:=by
        cases hfr:f ts' with
        | bad p e=>rw [hfr] at hz;exact hz.2
        | ok w' rest=>rw [hfr] at hz;obtain ⟨a2,z1,z2,z3,z4⟩:=hz;injection z1 with z1;subst z1;exact ⟨z3,by omega⟩
      obtain ⟨F1,c0⟩:=hw1
      have gacc:∀ w' ∈ acc ++ [w],zbV w':=λw' hw'=>by
        rcases List.mem_append.1 hw' with h | h
        · exact g1 w' h
        · rw [zMo.1 h];exact F1
      have gsum:((acc ++ [w]).map cnt).sum=(acc.map cnt).sum + cnt w:=by simp
      have glen:(acc ++ [w]).length=acc.length + 1:=by rw [zLa,zLs]
      have hbx:BX v0 ts q.2:=⟨_,ew,gacc,by omega,by rw [gsum];omega⟩
      rw [<- g5,eP] at kJ
      cases hfr:f ts' with
      | bad p e =>
        rw [hfr] at hz kJ
        exact T.eq (zvC hz.1 _) (T.br (λ_=>T.eq (zn3 hz.1 _) (kJ _ ⟨hz.1,hbx⟩)) λh=>by cases h)
      | ok w' rest =>
        rw [hfr] at hz kJ
        obtain ⟨a2,z1,A3,z3,z4⟩:=hz
        injection z1 with z1 z2
        subst z1
        have hcw:=zey w
        obtain ⟨_,_,ey3,_,hA3,_⟩:=A3.cons
        rw [z2]
        refine T.eq (zui A3 [44]) ?_
        dsimp only at kJ ⊢
        cases h3:pIs [44] rest with
        | some r2 =>
          obtain ⟨A4,l4⟩:=A3.is h3
          have ha4:=A4.a0
          rw [h3] at kJ
          refine T.br (λh=>by cases h) λ_=>hJ _ ⟨a2 + 1,r2,acc ++ [w],k,by rw [<- ew],A4,gacc,by omega,by omega,by rw [gsum];omega,?_⟩ ?_
          · rw [<- g5,eP,hfr];dsimp only;rw [h3]
          · have:=A3.a0
            have:=A2.a0
            show 10000 - (a2 + 1).toNat < 10000 - a'.toNat
            omega
        | none =>
          rw [h3] at kJ
          refine T.br (λ_=>T.eq (zlJ A3 [125]) ?_) λh=>by cases h
          dsimp only at kJ ⊢
          cases h4:pIs [125] rest with
          | some r3 =>
            rw [h4] at kJ
            obtain ⟨A4,l4⟩:=A3.is h4
            exact kJ _ ⟨a2 + 1,by rw [ew],A4,gacc,by omega,by rw [gsum];omega⟩
          | none =>
            rw [h4] at kJ
            exact kJ _ ⟨zmn A3 (by decide),hbx⟩
set_option maxHeartbeats 1000000 in
theorem pvR {t:zZ} (ht:TOk t.types) {L:List zS} (hG:∀ y ∈ L,TokR y):∀ (h n:Nat) (i d:Int),0 <= d->d + h=17->2 * h + 2 <= n->0 <= i->i < t.types.length->Rq t L (pv h t.types i) λs=>zcm n s i d:=by
 intro h
 induction h with
 | zero =>
  intro n i d d0 hd hn i0 i1 a ts A
  obtain ⟨n,rfl⟩:∃ n',n=n' + 1:=⟨n - 1,by omega⟩
  show T _ (zcT (zdL n) (zcm n) (sr t L a) i d)
  unfold zcT
  refine T.br (λh=>by cases h) λ_=>T.br (λ_=>T.eq (zmJ A 5) (T.some ?_)) λh=>absurd (zOF h) (by omega)
  exact zj3 A (zmn A (by decide)) zid (by show cnt zc2 <= _;rw [zjo];decide)
 | succ h ih =>
  intro n i d d0 hd hn i0 i1 a ts A
  obtain ⟨n,rfl⟩:∃ n',n=n' + 2:=⟨n - 2,by omega⟩
  show T _ (zcT (zdL (n + 1)) (zcm (n + 1)) (sr t L a) i d)
  unfold zcT
  refine T.br (λh=>by cases h) λ_=>T.br (λh=>absurd (zOT h) (by omega)) λ_=>T.get i0 i1 λx hx=>?_
  have hx:t.types[i.toNat]?=some x:=hx
  have hxm:x ∈ t.types:=List.mem_of_getElem? hx
  have hfl:=ht.fl x hxm
  have hil:=ht.il x hxm
  have b0:∀ {k n:Int},zbV (zd3 k n [] []):=λ{k n}=>zfk (zNz _)
  rw [zyo hx]
  obtain ⟨R,eR⟩:∃ R,R=pvK (pv h t.types) x ts:=⟨_,rfl⟩
  rw [<- eR]
  refine T.jp (VQ t L ts R) (λJ k=>?_) λq hq=>T.some hq
  have kk:∀ {R'},R=R'->∀ q,VQ t L ts R' q->T (VQ t L ts R) (J q):=λe q hq=>k q (e ▸ hq)
  unfold pvK at eR
  refine T.br (λhk=>?_) λh1=>?_
  ·have hk:=zOT hk
   rw [if_pos hk] at eR
   refine T.eq (zui A _) ?_
   cases h1:pIs [84,82,85,69] ts with
   | some r =>
    obtain ⟨A1,l1⟩:=A.is h1
    rw [h1] at eR
    refine T.br (λ_=>kk eR _ ?_) λh=>by cases h
    rw [hk];exact zom A1 l1 b0 (zen _ _ _)
   | none =>
    rw [h1] at eR
    refine T.br (λh=>by cases h) λ_=>T.eq (zlJ A _) (kk eR _ ?_)
    rw [hk]
    cases h2:pIs [70,65,76,83,69] ts with
    | some r =>
     obtain ⟨A1,l1⟩:=A.is h2
     exact zom A1 l1 b0 (zen _ _ _)
    | none=>exact zj3 A (zmn A (by decide)) b0 (zen _ _ _)
  have h1:=zOF h1
  rw [if_neg h1] at eR
  refine T.br (λhk=>?_) λh4=>?_
  ·have hk:=zOT hk
   rw [if_pos hk] at eR
   refine T.eq (zlJ A _) (kk eR _ ?_)
   rw [hk]
   cases h2:pIs [78,85,76,76] ts with
   | some r =>
    obtain ⟨A1,l1⟩:=A.is h2
    exact zom A1 l1 b0 (zen _ _ _)
   | none=>exact zj3 A (zmn A (by decide)) b0 (zen _ _ _)
  have h4:=zOF h4
  rw [if_neg h4] at eR
  refine T.br (λhk=>?_) λh2=>?_
  ·have hk:=zOT hk
   rw [if_pos hk] at eR
   refine T.eq (zse A 3) ?_
   cases h3:pOf 3 ts with
   | some q =>
    obtain ⟨s,r⟩:=q
    obtain ⟨y,ym,y1,y2,A1,l1⟩:=zmS A h3 (by decide)
    have hz:=(hG y ym).num y1
    rw [y2] at hz
    rw [h3] at eR
    have hne:s ≠ ⟨[]⟩:=λe=>by
     rw [e] at hz
     obtain ⟨ds,_,h2,_,h4⟩:=hz
     rcases h4 with ⟨h4,_⟩ | ⟨h4,_⟩
     ·exact h2 h4.symm
     ·cases h4
    refine T.br (λ_=>T.eq (zuB (b:=s.b) hz) (kk eR _ ?_)) λh=>absurd (show s=⟨[]⟩ by simpa using h) hne
    rw [hk]
    exact zom A1 l1 b0 (zen _ _ _)
   | none =>
    rw [h3] at eR
    refine T.br (λh=>by simp at h) λ_=>kk eR _ ?_
    exact zj3 A (zmn A (by decide)) b0 (zen _ _ _)
  have h2:=zOF h2
  rw [if_neg h2] at eR
  refine T.br (λhk=>?_) λh3=>?_
  ·have hk:=zOT hk
   rw [if_pos hk] at eR
   refine T.eq (zyT A x (by omega) _) (kk eR _ ?_)
   rw [hk]
   cases h3:znd x ts with
   | some q =>
    obtain ⟨m,r⟩:=q
    cases ts with
    | nil=>cases h3
    | cons y r' =>
     change (bif decide (y.kind=2) then (zkA y.text x.items).map (λj=>(j,r')) else none)=some (m,r) at h3
     cases hk2:decide (y.kind=2) with
     | false=>rw [hk2] at h3;cases h3
     | true =>
      rw [hk2,zCt] at h3
      obtain ⟨j',_,e2⟩:=Option.map_eq_some_iff.1 h3
      cases e2
      obtain ⟨A1,l1⟩:=A.next rfl (by have:=zOT hk2;omega)
      exact zom A1 l1 b0 (zen _ _ _)
   | none=>exact zj3 A (zmn A (by decide)) b0 (zen _ _ _)
  have h3:=zOF h3
  rw [if_neg h3] at eR
  refine T.br (λhk=>?_) λh5=>?_
  ·have hk:=zOT hk
   rw [if_pos hk] at eR
   refine T.eq (zse A 4) ?_
   cases h3:pOf 4 ts with
   | some q =>
    obtain ⟨s,r⟩:=q
    obtain ⟨y,ym,y1,y2,A1,l1⟩:=zmS A h3 (by decide)
    obtain ⟨hz,hzl⟩:=(hG y ym).hex y1
    rw [y2] at hz hzl
    rw [h3] at eR
    refine T.eq hz (kk eR _ ?_)
    rw [hk]
    exact zom A1 l1 (zfk hzl) (zen _ _ _)
   | none =>
    rw [h3] at eR
    exact T.eq zxz (kk eR _ (zj3 A (zmn A (by decide)) b0 (zen _ _ _)))
  have h5:=zOF h5
  rw [if_neg h5] at eR
  refine T.br (λhk=>?_) λh6=>?_
  ·have hk:=zOT hk
   rw [if_pos hk] at eR
   refine T.eq (zse A 7) ?_
   cases h3:pOf 7 ts with
   | some q =>
    obtain ⟨s,r⟩:=q
    obtain ⟨y,ym,y1,y2,A1,l1⟩:=zmS A h3 (by decide)
    have hz:=(hG y ym).len
    rw [y2] at hz
    rw [h3] at eR
    refine T.abl (by dsimp only;omega) (kk eR _ ?_)
    rw [hk]
    exact zom A1 l1 (zfk hz) (zen _ _ _)
   | none =>
    rw [h3] at eR
    exact T.abl (zNz _) (kk eR _ (zj3 A (zmn A (by decide)) b0 (zen _ _ _)))
  have h6:=zOF h6
  rw [if_neg h6] at eR
  have put:∀ {Q:PR (List Val)} {c0 k:Int} {c:Nat} {q:zaE × Val},c <= 1000->BQ t L (Val.mk k 0 [] [] 0 []) ts c Q q->VQ t L ts (PR.map (zd3 k 0 []) Q) (q.2,q.1):=λ{Q c0 k c q} hc hq=>by
   cases Q with
   | ok l rest =>
    obtain ⟨a',e1,A1,f1,g1,c1⟩:=hq
    subst e1
    exact ⟨a',rfl,A1,zer (zNz _) (by omega) f1,by rw [zgh];omega⟩
   | bad p e =>
    obtain ⟨e1,l,e5,f1,g1,c1⟩:=hq
    have:=zgh k 0 [] l
    have e6:q.2=zd3 k 0 [] l:=e5
    refine ⟨e1,?_,?_⟩
    ·show zbV q.2
     rw [e6];exact zer (zNz _) (by omega) f1
    ·show cnt q.2 <= _
     rw [e6,this];omega
  refine T.br (λhk=>?_) λh10=>?_
  ·have hk:=zOT hk
   rw [if_pos hk] at eR
   obtain ⟨o0,o1⟩:=ht.ko x hxm hk
   exact zzN (M:=zcm (n + 1)) (by omega) (ih (n + 1) x.of (d + 1) (by omega) (by omega) (by omega) o0 o1) A rfl λq hq=>kk eR _ (by rw [hk] at hq;exact put (c0:=0) (zNz _) hq)
  have h10:=zOF h10
  rw [if_neg h10] at eR
  refine T.br (λhk=>?_) λh9=>?_
  ·have hk:=zOT hk
   rw [if_pos hk] at eR
   refine T.eq (ztx A x.fields (by omega) 0 (by omega)) ?_
   cases hp:zlC x.fields 0 ts with
   | none =>
    rw [hp] at eR
    have hE:=zmn (t:=t) A (k:=7) (by decide)
    exact T.eq (zn3 hE _) (T.br (λh=>by cases h) λ_=>kk eR _ (zj3 A hE b0 (zen _ _ _)))
   | some q =>
    obtain ⟨j,r⟩:=q
    rw [hp] at eR
    have hp':=hp
    obtain ⟨y0,r0,ey,_,_,_⟩:=A.cons
    rw [ey] at hp'
    change (bif decide (y0.kind=2) then (zji x.fields y0.text (x.fields.length - 0) 0).map (λj=>(j,r0)) else none)=some (j,r) at hp'
    cases hk2:decide (y0.kind=2) with
    | false=>rw [hk2] at hp';cases hp'
    | true =>
     rw [hk2,zCt] at hp'
     obtain ⟨j',hj,e2⟩:=Option.map_eq_some_iff.1 hp'
     cases e2
     obtain ⟨A1,l1⟩:=A.next ey (by have:=zOT hk2;omega)
     obtain ⟨_,y,hy,_⟩:=znm hj
     have hjl:=(List.getElem?_eq_some_iff.1 hy).1
     have egy:zq x.fields (j:Int)=some y:=by rw [zbm (by omega) (by omega)];exact congrArg some (List.getElem?_eq_some_iff.1 hy).2
     refine T.eq (zlJ A1 [58]) ?_
     dsimp only at eR ⊢
     cases h58:pIs [58] r with
     | none =>
      rw [h58] at eR
      exact T.br (λh=>by cases h) λ_=>kk eR _ (zj3 A (zmn A1 (by decide)) b0 (zen _ _ _))
     | some r2 =>
      obtain ⟨A2,l2⟩:=A1.is h58
      rw [h58] at eR
      dsimp only at eR
      rw [hy] at eR
      dsimp only at eR
      obtain ⟨y0',y1'⟩:=ht.kf x hxm y (List.mem_of_getElem? hy)
      refine T.br (λ_=>T.eq egy (T.ck (by omega) (T.cal (ih (n + 1) y.ty (d + 1) (by omega) (by omega) (by omega) y0' y1' _ _ A2) λz _ hz=>kk eR _ ?_))) λh=>by cases h
      rw [hk]
      have hs:∀ w,cnt (zd3 9 (j:Int) [] [w])=1 + cnt w:=λw=>by rw [zgh,List.map_singleton,List.sum_singleton]
      have hF:∀ w,zbV w->zbV (zd3 9 (j:Int) [] [w]):=λw hw=>zer (zNz _) (by simp) λw' hw'=>by rw [zMo.1 hw'];exact hw
      cases hR:pv h t.types y.ty r2 with
      | ok w rest =>
       rw [hR] at hz
       obtain ⟨a2,e1,A3,f1,c1⟩:=hz
       subst e1
       exact ⟨a2,rfl,A3,hF _ f1,by rw [hs];omega⟩
      | bad p e =>
       rw [hR] at hz
       obtain ⟨e1,e5,e6⟩:=hz
       exact ⟨e1,hF _ e5,by show cnt (zd3 9 (j:Int) [] [z.1]) <= _;rw [hs];omega⟩
  have h9:=zOF h9
  rw [if_neg h9] at eR
  show T _ (cal (zdf (zdL n) (zcm n) _ _ _ _) _)
  refine T.cal (zzF (x:=x) (d:=d) (f:=pv h t.types) (by omega) hfl (λy hy=>by
   obtain ⟨y0,y1⟩:=ht.kf x hxm y hy
   exact ih n y.ty (d + 1) (by omega) (by omega) (by omega) y0 y1) A) λy _ hy=>kk eR _ (put (c0:=0) hfl hy)
theorem zsJ (x:zg) (n:Int) (hl:x.items.length <= 1000000) (hi:∃ it ∈ x.items,it.number=n):T (λr=>0 <= r) (zgb x n):=by
 unfold zgb
 refine T.lp (ι:=Int) (λ(q:Int)=>0 <= q/\q <= (x.items.length:Int)/\∀ k:Nat,(k:Int) < q->∀ it,x.items[k]?=some it->it.number ≠ n) (λ(q:Int)=>((x.items.length:Int) - q).toNat) ⟨zIl _,by omega,λk h=>by omega⟩ (by omega) λL q ⟨q1,q2,q3⟩ hL=>T.br (λh=>?_) λh=>?_
 ·have h:=zOT h
  refine T.get q1 h λy hy=>T.br (λ_=>T.some q1) λh2=>T.ck (by omega) (hL _ ⟨by omega,by omega,λk hk it hit=>?_⟩ (by omega))
  rcases Int.lt_or_le (k:Int) q with h4 | h4
  ·exact q3 k h4 it hit
  ·have:k=q.toNat:=by omega
   rw [this,hy] at hit;cases hit
   exact zOF h2
 ·have h:=zOF h
  obtain ⟨it,h1,h2⟩:=hi
  obtain ⟨k,hk⟩:=List.mem_iff_getElem?.1 h1
  have:=(List.getElem?_eq_some_iff.1 hk).1
  exact absurd h2 (q3 k (by omega) it hk)
theorem zsv {v:Val} (hb:bare v=true):v.kind ≠ 12/\v.more=[]/\∀ w ∈ v.l,bare w=true:=by
 rw [zkc,zBa] at hb
 have hb1:(decide (v.kind=12) || decide (0 < v.more.length))=false:=by simpa using hb.1
 rw [Bool.or_eq_false_iff] at hb1
 exact ⟨zOF hb1.1,List.length_eq_zero_iff.1 (by have:=zOF hb1.2;omega),λw hw=>List.all_eq_true.1 hb.2 _ (List.mem_map.2 ⟨w,hw,rfl⟩)⟩
theorem zqq {t:zZ} (ht:zdt t) {h:Nat} {i:Int} {x:zg} {v:Val} {d:Int} {Fi Fs} (h0:0 <= i) (hx:t.types[i.toNat]?=some x) (hk:x.kind=7 \/ x.kind=8) (hf:zbV v) (hc:cnt v <= 100000) (hd:0 <= d/\d <= 17) (hm:v.more=[])
    (hp:pln v false false true true=true) (hrule:v.rule=0) (hlen:v.l.length=x.fields.length) (hfs:∀ (k:Nat) f w,x.fields[k]?=some f->v.l[k]?=some w->znk x (Fit t h) k f w) (hgs:∀ s ∈ slots x,Grp x v s)
    (ih:∀ (j:Int) w,w ∈ v.l->Fit t h j w->T (λr=>r=true) (Fi t j w (d + 1))):T (λr=>r=true) (zdW Fs Fi t i v d):=by
  unfold zdW
  have htl:=ht.types
  have hlt:=(List.getElem?_eq_some_iff.1 hx).1
  have hi:i < t.types.length:=by omega
  obtain ⟨j,hj⟩:=zbu.sub ht.kids i.toNat (by omega) (by omega)
  have hjl:=hj.inb
  obtain ⟨x',hx',hok,hkid⟩:=hj
  rw [hx] at hx';cases hx'
  have hfl:=zf7 hkid hjl (by omega)
  have hr0:=hok.root0
  have hvl:=hf.l
  have eg:zq t.types i=some x:=by rw [zbm h0 hi];exact congrArg some (List.getElem?_eq_some_iff.1 hx).2
  have er:zhe t i v=some true:=by
    unfold zhe
    rw [hm,hrule];rfl
  refine T.eq eg (T.eq (zcF v _ _ _ _) (T.or' ?_))
  rw [hp,hlen,zDT (show (x.fields.length:Int)=x.fields.length from rfl)]
  refine T.br (λh=>by cases h) λ_=>T.eq er (T.br (λh=>by cases h) λ_=>?_)
  refine T.lp (ι:=Int) (λ(q:Int)=>0 <= q/\q <= (x.fields.length:Int)) (λ(q:Int)=>((x.fields.length:Int) - q).toNat) ⟨zIl _,by omega⟩ (by omega) λL q ⟨q1,q2⟩ hL=>T.br (λhb=>?_) λhb=>?_
  · have hb:=zOT hb
    refine T.jp (ι:=Unit) (λ_=>True) (λJ kk=>?_) λ_ _=>T.ck (by omega) (hL _ ⟨by omega,by omega⟩ (by omega))
    refine T.get q1 hb λf hff=>T.or' (T.get q1 (by omega) λw hw=>?_)
    have hwm:=List.mem_of_getElem? hw
    have hg:∀ {β:Type} {R:β->Prop} {K:Val->Option β},T R (K w)->T R (Sy.cal (zq v.l q) K):=λhK=>T.get q1 (by omega) λy hy=>by rw [hw] at hy;cases hy;exact hK
    have hcw:=zc9 hwm
    have hfw:=hfs q.toNat f w hff hw
    refine T.br (λhz=>hg ?_) λhz=>hg ?_
    · obtain ⟨_,z1,z2⟩:=hfw.resolve_right λh=>h.1 (zOT hz)
      refine T.cal (zhp (k:=100000) (n:=fuel) (by omega) (by unfold fuel;omega) (hf.kid w hwm) _) λr _ hr=>T.orJ (d:=!(f.optional || f.has) && decide (q < x.root)) (λJ2 h2=>T.and' h2) (T.br (λhq=>?_) λhq=>kk _ trivial)
      rw [hr.2 z1] at hq
      rcases z2 with z2 | z2 | z2
      · rw [z2] at hq;cases hq
      · rw [z2] at hq;simp at hq
      · rw [zDF (show ¬ q < x.root by omega)] at hq;simp at hq
    · obtain ⟨_,z1,z2⟩:=hfw.resolve_left λh=>zOF hz h.1
      refine T.ck (by omega) (T.cal (ih f.ty w hwm z1) λy _ hy=>?_)
      rw [hy]
      refine T.jp (λb=>b=false) (λJ2 k2=>T.br (λh=>by cases h) λ_=>?_) λb hb2=>T.br (λh=>by rw [hb2] at h;cases h) λ_=>kk _ trivial
      refine T.jp (λb=>b=false) (λJ3 k3=>T.br (λhh=>hg (T.cal (zhp (k:=100000) (n:=fuel) (by omega) (by unfold fuel;omega) (hf.kid w hwm) _) λr _ hr=>k3 _ ?_)) λhh=>k3 _ rfl) λb hb3=>k2 _ hb3
      cases r with
      | true=>exact absurd (hr.1 rfl) (z2 hh)
      | false=>rfl
  clear hL
  refine T.eq (zj0 ht i) ?_
  rw [zld h0 hx hk]
  have hsl:=zlh hr0
  refine T.lp (ι:=Int) (λ(q:Int)=>0 <= q/\q <= ((slots x).length:Int)) (λ(q:Int)=>(((slots x).length:Int) - q).toNat) ⟨zIl _,by omega⟩ (by omega) λL q ⟨q1,q2⟩ hL=>T.br (λhb=>?_) λhb=>T.some rfl
  have hb:=zOT hb
  obtain ⟨s,hs⟩:∃ s,(slots x)[q.toNat]?=some s:=⟨_,List.getElem?_eq_getElem (by omega)⟩
  have hg:∀ {β:Type} {R:β->Prop} {K:List Int->Option β},T R (K s)->T R (Sy.cal (zq (slots x) q) K):=λhK=>T.get q1 hb λy hy=>by rw [hs] at hy;cases hy;exact hK
  have hsm:=List.mem_of_getElem? hs
  obtain ⟨k0,r,e0,e1,e2⟩:=zl7 hr0 s hsm
  have hsl2:=zkj hr0 s hsm
  refine T.lp (ι:=Bool × Bool × Int) (λp=>0 <= p.2.2/\p.2.2 <= (s.length:Int)/\p.1=(s.take p.2.2.toNat).any (thr v)/\p.2.1=(s.take p.2.2.toNat).any (lck x v)) (λp=>((s.length:Int) - p.2.2).toNat) ⟨zIl _,by dsimp only;omega,rfl,rfl⟩ (by dsimp only;omega) λL2 p ⟨p1,p2,p3,p4⟩ hL2=>hg (T.br (λhc2=>?_) λhc2=>?_)
  · obtain ⟨so,la,m⟩:=p
    dsimp only at p1 p2 p3 p4 hL2 hc2 ⊢
    have hc2:=zOT hc2
    have em:(m + 1).toNat=m.toNat + 1:=by omega
    refine hg (T.get p1 hc2 λk hk=>?_)
    obtain ⟨k1,k2⟩:=e2 k (List.mem_of_getElem? hk)
    refine T.get (by omega) k2 λf hff=>hg (T.get p1 hc2 λk' hk'=>?_)
    rw [hk] at hk';cases hk'
    refine T.get (by omega) (by omega) λw hw=>T.or' ?_
    have eth:(!decide (w.kind=0))=thr v k:=by unfold thr;rw [hw]
    have elk:(!(!decide (w.kind=0)) && (!f.optional) && (!f.has))=lck x v k:=by
      unfold lck
      rw [<- eth,hff]
      show _=(!(!decide (w.kind=0)) && !(f.optional || f.has))
      cases decide (w.kind=0) <;> cases f.optional <;> cases f.has <;> rfl
    refine T.orJ (d:=lck x v k) (λJ h2=>T.and' (T.and' ?_)) (T.ck (by omega) (hL2 _ ⟨by dsimp only;omega,by dsimp only;omega,?_,?_⟩ (by dsimp only;omega)))
    · rw [elk];exact h2
    · dsimp only;rw [em,zhJ hk,p3,eth]
    · dsimp only;rw [em,zhJ hk,p4]
  · obtain ⟨so,la,m⟩:=p
    dsimp only at p1 p2 p3 p4 hL2 hc2 ⊢
    have hc2:=zOF hc2
    rw [zTl (by omega)] at p3 p4
    refine hg (T.get (zIl _) (by rw [e0,zLc];omega) λk hk=>?_)
    have ek:k=k0:=by rw [e0] at hk;simpa using hk.symm
    subst ek
    obtain ⟨k1,k2⟩:=e2 k (by rw [e0];exact zMs)
    refine T.get (by omega) k2 λf hff=>T.and' (T.and' (T.br (λhq=>?_) λhq=>T.ck (by omega) (hL _ ⟨by omega,by omega⟩ (by omega))))
    have:=hgs s hsm
    unfold Grp at this
    have eg:grp x.fields (s.headD 0)=f.group:=by
      rw [e0]
      show grp x.fields k=_
      unfold grp
      rw [hff];rfl
    rw [eg,<- p3,<- p4,hq] at this
    cases this
theorem zsh {t:zZ} (ht:zdt t):∀ {h n:Nat} {i:Int} {v:Val} {d:Int},0 <= d->d + h=18->2 * h + 2 <= n->zbV v->cnt v <= 100000->Fit t h i v->bare v=true->T (λr=>r=true) (zex n t i v d):=by
 intro h
 induction h with
 | zero=>intro n i v d _ _ _ _ _ hF;exact hF.elim
 | succ h ih =>
  intro n i v d d0 hd hn hf hc hF hb
  obtain ⟨n,rfl⟩:∃ n',n=n' + 2:=⟨n - 2,by omega⟩
  obtain ⟨hk12,hm,hkb⟩:=zsv hb
  obtain ⟨i0,x,hx,hfk⟩:=hF
  obtain ⟨hkk,hfk⟩:=hfk.resolve_left hk12
  have hlt:=(List.getElem?_eq_some_iff.1 hx).1
  have htl:=ht.types
  have hvl:=hf.l
  obtain ⟨j,hj⟩:=zbu.sub ht.kids i.toNat (by omega) (by omega)
  have hjl:=hj.inb
  obtain ⟨x',hx',hok,hkid⟩:=hj
  rw [hx] at hx';cases hx'
  have hil:=hok.ilen
  have kid:∀ (j:Int) w,w ∈ v.l->Fit t h j w->T (λr=>r=true) (zex (n + 1) t j w (d + 1)):=λj w hw hF=>ih (by omega) (by omega) (by omega) (hf.kid w hw) (by have:=zc9 hw;omega) hF (hkb w hw)
  show T _ (ze3 (zfL (n + 1)) (zex (n + 1)) t i v d)
  unfold ze3
  refine T.or' (T.or' (T.br (λhq=>?_) λ_=>?_))
  ·rw [Bool.or_eq_true,Bool.or_eq_true] at hq
   rcases hq with (hq | hq) | hq <;> (have:=zOT hq;omega)
  refine T.get i0 (by omega) λy hy=>?_
  rw [hx] at hy;cases hy
  refine T.br (λh=>absurd (zOT h) hk12) λ_=>T.br (λh=>?_) λ_=>?_
  ·rw [hkk] at h;simp at h
  have no:∀ {β:Type} {R:β->Prop} {k:Int} {A B:Option β},x.kind ≠ k->T R B->T R (br (decide (x.kind=k)) A B):=λhn hB=>T.br (λh=>absurd (zOT h) hn) λ_=>hB
  have ys:∀ {β:Type} {R:β->Prop} {k:Int} {A B:Option β},x.kind=k->T R A->T R (br (decide (x.kind=k)) A B):=λhn hA=>T.br (λ_=>hA) λh=>absurd hn (zOF h)
  rcases hfk with ⟨k,h1,h2⟩ | ⟨k,h1,h2⟩ | ⟨k,h1,h2⟩ | ⟨k,h1⟩ | ⟨k,h1,h2,h3,h4⟩ | ⟨k,h1,h2,h3⟩ | ⟨k,h1,h2,f,w,h3,h4,h5⟩ | ⟨k,h1,h2,h3,h4,h5⟩
  ·exact ys k (T.eq (zcF v _ _ _ _) (T.andJ (d:=decide (v.n=0) || decide (v.n=1)) (λJ hh=>T.or' hh) (T.some (by rw [h1,h2];rfl))))
  ·exact no (by omega) (ys k (T.eq (zcF v _ _ _ _) (T.andJ (d:=x.con.more || ze0 x.con v.n) (λJ hh=>T.orJ (d:=ze0 x.con v.n) (λJ2 h2=>T.eq (zhz _ _) h2) hh) (T.some (by rw [h1,h2];rfl)))))
  ·refine no (by omega) (no (by omega) (ys k (T.eq (zcF v _ _ _ _) (T.jp (λb=>b=true) (λJ kk=>T.br (λ_=>?_) λh=>by rw [h1] at h;cases h) λb hb=>T.some hb))))
   exact T.cal (zsJ x v.n (by omega) h2) λr _ hr=>kk _ (zDT hr)
  ·exact no (by omega) (no (by omega) (no (by omega) (ys k (T.eq (zcF v _ _ _ _) (T.some h1)))))
  all_goals refine no (by omega) (no (by omega) (no (by omega) (no (by omega) ?_)))
  ·refine T.jp (λb=>b=true) (λJ kk=>T.br (λh=>kk _ h) λh=>kk _ (zDT (k.resolve_left (zOF h)))) λb56 hb56=>T.br (λ_=>?_) λh=>by rw [hb56] at h;cases h
   refine T.eq (zcF v _ _ _ _) (T.and' (T.andJ (d:=x.con.more || ze0 x.con (v.b.length:Int)) (λJ hh=>T.orJ (d:=ze0 x.con (v.b.length:Int)) (λJ2 h2=>T.eq (zhz _ _) h2) hh) ?_))
   rw [h1,h3,zDT h2]
   refine T.jp (λb=>b=true) (λJ kk=>T.br (λ_=>?_) λh=>by cases h) λb hb=>T.some hb
   exact T.jp (λb=>b=true) (λJ2 k2=>T.br (λh5=>k2 _ rfl) λh5=>T.eq (h4.resolve_left (zOF h5)) (k2 _ rfl)) λc hc=>kk _ hc
  all_goals refine T.jp (λb=>b=false) (λJ kk=>T.br (λh=>absurd (zOT h) (by omega)) λh=>kk _ (zDF (by omega))) λb56 hb56=>T.br (λh=>by rw [hb56] at h;cases h) λ_=>?_
  ·refine ys k (T.eq (zcF v _ _ _ _) (T.orJ (d:=!x.con.more && !ze0 x.con (v.l.length:Int)) (λJ hh=>T.andJ (d:=!ze0 x.con (v.l.length:Int)) (λJ2 h2=>T.eq (zhz _ _) h2) hh) (T.br (λh=>?_) λ_=>?_)))
   ·rw [h1] at h
    cases e1:x.con.more <;> cases e2:ze0 x.con (v.l.length:Int) <;> simp_all
   refine T.lp (ι:=Int) (λ(q:Int)=>0 <= q/\q <= (v.l.length:Int)) (λ(q:Int)=>((v.l.length:Int) - q).toNat) ⟨zIl _,by omega⟩ (by omega) λL q ⟨q1,q2⟩ hL=>T.br (λhb=>?_) λhb=>T.some rfl
   have hb:=zOT hb
   refine T.get q1 hb λw hw=>?_
   have hwm:=List.mem_of_getElem? hw
   exact T.ck (by omega) (T.cal (kid x.of w hwm (h3 w hwm)) λy _ hy=>T.br (λh=>by rw [hy] at h;cases h) λ_=>T.ck (by omega) (hL _ ⟨by omega,by omega⟩ (by omega)))
  ·have hnl:=(List.getElem?_eq_some_iff.1 h3).1
   refine no (by omega) (ys k (T.eq (zcF v _ _ _ _) (T.and' (T.and' (T.and' ?_)))))
   rw [h1,h4,zDT h2,zDT (show v.n < (x.fields.length:Int) by omega)]
   refine T.jp (λb=>b=true) (λJ kk=>T.br (λ_=>?_) λh=>by cases h) λb hb=>T.some hb
   refine T.get h2 (by omega) λf' hf'=>?_
   rw [h3] at hf';cases hf'
   exact T.eq (y:=w) rfl (T.ck (by omega) (T.cal (kid f.ty w (by rw [h4];exact zMo.2 rfl) h5) λy _ hy=>kk _ hy))
  ·refine no (by omega) (no (by omega) (T.jp (λb=>b=true) (λJ kk=>T.br (λh=>kk _ h) λh=>kk _ (zDT (k.resolve_left (zOF h)))) λb hb=>T.br (λ_=>?_) λh=>by rw [hb] at h;cases h))
   refine T.cal (Q:=λr=>r=true) ?_ λy _ hy=>T.some hy
   show T _ (zdW (zfL n) (zex n) t i v d)
   exact zqq ht i0 hx k hf hc (by omega) hm h1 (h2 hm) h3 h4 h5 λj w hw hF=>ih (by omega) (by omega) (by omega) (hf.kid w hw) (by have:=zc9 hw;omega) hF (hkb w hw)
theorem zsa {t:zZ} (ht:zdt t) {i:Int} {v:Val} (hf:zbV v) (hc:cnt v <= 5000) (hF:Fit t 17 i v) (hb:bare v=true):T (λr=>r=true) (zga t i v):=by
 unfold zga
 exact T.eq (zlR (by unfold fuel;omega) (by omega) hf) (T.jp (λb=>b=true) (λJ kk=>T.br (λh=>T.cal (zsh ht (h:=17) (by decide) (by decide) (by unfold fuel;decide) hf (by omega) hF hb) λy _ hy=>kk _ hy) λh=>absurd (show ((cnt v:Nat):Int) <= 5000 by omega) (zOF h)) λb hb=>T.some hb)
/-! ### Leaves -/
theorem zwH (p:zag) (l:List Str) (hl:l.length <= 1000) (hb:p.b.length + (l.map λs=>s.b.length).sum <= 68000000000):zay p l=some ⟨p.t,p.b ++ (l.map λs=>s.b).flatten⟩:=by
 refine T.eqs ?_
 unfold zay
 refine T.lp (ι:=Int × zag) (λq=>0 <= q.1/\q.1 <= (l.length:Int)/\q.2.t=p.t/\q.2.b ++ ((l.drop q.1.toNat).map λs=>s.b).flatten=p.b ++ (l.map λs=>s.b).flatten/\q.2.b.length + ((l.drop q.1.toNat).map λs=>s.b.length).sum <= 68000000000) (λq=>((l.length:Int) - q.1).toNat) ⟨zIl _,by dsimp only;omega,rfl,rfl,hb⟩ (by dsimp only;omega) λJ q ⟨q0,q1,q2,q3,q4⟩ hJ=>?_
 obtain ⟨k,g⟩:=q
 dsimp only at q0 q1 q2 q3 q4 hJ ⊢
 refine T.br (λhk=>?_) λhk=>T.some ?_
 ·have hk:=zOT hk
  refine T.get q0 hk λy hy=>?_
  have hd:l.drop k.toNat=y :: l.drop (k.toNat + 1):=by
   obtain ⟨h1,h2⟩:=List.getElem?_eq_some_iff.1 hy
   rw [List.drop_eq_getElem_cons h1,h2]
  rw [hd] at q3 q4
  rw [List.map_cons,List.sum_cons] at q4
  rw [List.map_cons,List.flatten_cons] at q3
  have ek:(k + 1).toNat=k.toNat + 1:=by omega
  refine T.abl (by omega) (T.ck (by omega) (hJ _ ⟨by dsimp only;omega,by dsimp only;omega,q2,?_,?_⟩ (by dsimp only;omega)))
  ·dsimp only;rw [ek,zLA];exact q3
  ·dsimp only;rw [ek,zLa];omega
 ·have hk:=zOF hk
  rw [zDn (by omega)] at q3
  simp only [List.map_nil,List.flatten_nil,List.append_nil] at q3
  obtain ⟨gt,gb⟩:=g
  dsimp only at q2 q3
  rw [q2,q3]
theorem zoR (p:zag) (s:Str) (h:p.b.length + s.b.length <= 68000000000):zay p [s]=some ⟨p.t,p.b ++ s.b⟩:=by
 rw [zwH p [s] (by simp) (by simpa using h)];simp
theorem put2 (p:zag) (s u:Str) (h:p.b.length + s.b.length + u.b.length <= 68000000000):zay p [s,u]=some ⟨p.t,p.b ++ (s.b ++ u.b)⟩:=by
 rw [zwH p [s,u] (by simp) (by simp only [List.map_cons,List.map_nil,List.sum_cons,List.sum_nil];omega)];simp
def hiD (c:UInt8):UInt8:=([48,49,50,51,52,53,54,55,56,57,65,66,67,68,69,70]:List UInt8).getD (c.toNat / 16) 0
def loD (c:UInt8):UInt8:=([48,49,50,51,52,53,54,55,56,57,65,66,67,68,69,70]:List UInt8).getD (c.toNat % 16) 0
def zoW (b:List UInt8):List UInt8:=(b.map λc=>[hiD c,loD c]).flatten
theorem zwD:∀ X:Fin 256,zq ([48,49,50,51,52,53,54,55,56,57,65,66,67,68,69,70]:List UInt8) ((zf0 (UInt8.ofNat X.val) (4:UInt64).toNat).toNat:Int)=some (hiD (UInt8.ofNat X.val))/\zq ([48,49,50,51,52,53,54,55,56,57,65,66,67,68,69,70]:List UInt8) ((UInt8.ofNat X.val &&& (15:UInt8)).toNat:Int)=some (loD (UInt8.ofNat X.val)):=by decide +kernel
theorem hexD (c:UInt8):zq ([48,49,50,51,52,53,54,55,56,57,65,66,67,68,69,70]:List UInt8) ((zf0 c (4:UInt64).toNat).toNat:Int)=some (hiD c)/\zq ([48,49,50,51,52,53,54,55,56,57,65,66,67,68,69,70]:List UInt8) ((c &&& (15:UInt8)).toNat:Int)=some (loD c):=by
 have:=zwD ⟨c.toNat,c.toNat_lt⟩
 simp only [UInt8.ofNat_toNat] at this
 exact this
theorem zv3 (b:List UInt8):(zoW b).length=2 * b.length:=by
 unfold zoW
 induction b with
 | nil=>rfl
 | cons c b ih=>rw [List.map_cons,List.flatten_cons,zLa,ih,zLc];simp;omega
theorem zuW (c:UInt8) (b:List UInt8):zoW (c :: b)=hiD c :: loD c :: zoW b:=rfl
theorem zxj (b:List UInt8) (hb:b.length <= 1000000):zib b=some ⟨39 :: (zoW b ++ [39,72])⟩:=by
 refine T.eqs ?_
 unfold zib
 refine T.lp (ι:=List UInt8 × Int) (λq=>0 <= q.2/\q.2 <= (b.length:Int)/\q.1.length <= 1 + 2 * q.2.toNat/\q.1 ++ zoW (b.drop q.2.toNat)=39 :: zoW b) (λq=>((b.length:Int) - q.2).toNat) ⟨zIl _,by dsimp only;omega,zNl _,rfl⟩ (by dsimp only;omega) λJ q ⟨q0,q1,q2,q3⟩ hJ=>?_
 obtain ⟨acc,k⟩:=q
 dsimp only at q0 q1 q2 q3 hJ ⊢
 refine T.br (λhk=>?_) λhk=>?_
 ·have hk:=zOT hk
  refine T.get q0 hk λy hy=>?_
  have hd:b.drop k.toNat=y :: b.drop (k.toNat + 1):=by
   obtain ⟨h1,h2⟩:=List.getElem?_eq_some_iff.1 hy
   rw [List.drop_eq_getElem_cons h1,h2]
  have ek:(k + 1).toNat=k.toNat + 1:=by omega
  refine T.asr rfl (T.eq (hexD y).1 (T.eq (hexD y).2 (T.abl (by simp only [zLc,zLn];omega) (T.ck (by omega) (hJ _ ⟨by dsimp only;omega,by dsimp only;omega,?_,?_⟩ (by dsimp only;omega))))))
  ·simp only [zLa,zLc,zLn];omega
  ·dsimp only
   rw [ek,<- q3,hd,zuW,zLA];rfl
 ·have hk:=zOF hk
  rw [zDn (by omega)] at q3
  have q3:acc=39 :: zoW b:=by simpa [zoW] using q3
  refine T.abl (by simp only [zLc,zLn];omega) (T.some ?_)
  rw [q3];rfl
theorem zqu:∀ (k u:Nat),u < 10 ^ (k + 1)->(Lib.decDigits u).length <= k + 1
 | 0,u,h=>by rw [Lib.decDigits_one (by simpa using h)];exact zNl _
 | k + 1,u,h=>by
  by_cases h1:u < 10
  ·rw [Lib.decDigits_one h1];simp
  ·rw [Lib.decDigits,dif_neg h1,zLa,zLs]
   rw [Nat.pow_succ] at h
   have:=zqu k (u / 10) (by omega)
   omega
theorem zrQ {n:Int} (h0:-9223372036854775808 <= n) (h1:n <= 9223372036854775807):(Lib.itoa n).length <= 20:=by
 unfold Lib.itoa
 split
 ·have:=zqu 18 n.natAbs (by have h9:(10:Nat) ^ (18 + 1)=10000000000000000000:=(by decide);omega)
  rw [zLc];omega
 ·have:=zqu 18 n.toNat (by have h9:(10:Nat) ^ (18 + 1)=10000000000000000000:=(by decide);omega)
  omega
theorem zzp {n:Int} (h0:-9223372036854775808 <= n) (h1:n <= 9223372036854775807):zdJ n 10=some ⟨Lib.itoa n⟩:=by
 unfold zdJ
 rw [zDT rfl,Nat.ble_eq_true_of_le (Nat.le_trans (zrQ h0 h1) (by decide))];rfl
theorem zs9 (s:List UInt8):Lib.index (34 :: s) [34]=0:=by
 unfold Lib.index
 rw [if_pos]
 simp [List.isPrefixOf]
theorem zrw {c:UInt8} (hc:c ≠ 34) (s:List UInt8):Lib.index (c :: s) [34]=if Lib.index s [34] == -1 then -1 else Lib.index s [34] + 1:=by
 show (if List.isPrefixOf [34] (c :: s) then 0 else _)=_
 rw [if_neg]
 have:((34:UInt8) == c)=false:=by simpa using λe=>hc e.symm
 simp [List.isPrefixOf,this]
theorem ztP {c:UInt8} (hc:c ≠ 34) (nw:List UInt8):∀ (k:Nat) (s:List UInt8),Lib.replaceK [34] nw k (c :: s)=c :: Lib.replaceK [34] nw k s
 | 0,s=>rfl
 | k + 1,s=>by
  rw [Lib.replaceK,Lib.replaceK,zrw hc]
  have hge:=Lib.index_ge s [34]
  by_cases h:Lib.index s [34]=-1
  ·rw [h];rfl
  ·have h1:(Lib.index s [34] == -1)=false:=by simpa using h
   have h2:(Lib.index s [34] + 1 == -1)=false:=by
    have:Lib.index s [34] + 1 ≠ -1:=by omega
    simpa using this
   rw [h1]
   simp only [Bool.false_eq_true,if_false]
   rw [h2]
   simp only [Bool.false_eq_true,if_false]
   have e:(Lib.index s [34] + 1).toNat=(Lib.index s [34]).toNat + 1:=by omega
   rw [e,List.take_succ_cons,show (Lib.index s [34]).toNat + 1 + [(34:UInt8)].length=((Lib.index s [34]).toNat + [(34:UInt8)].length) + 1 from rfl,List.drop_succ_cons]
   rfl
theorem zuy {c:UInt8} (hc:c ≠ 34):∀ (f:Nat) (s:List UInt8),Lib.countFrom [34] f (c :: s)=Lib.countFrom [34] f s
 | 0,s=>rfl
 | f + 1,s=>by
  rw [Lib.countFrom,Lib.countFrom,zrw hc]
  have hge:=Lib.index_ge s [34]
  by_cases h:Lib.index s [34]=-1
  ·rw [h];rfl
  ·have h1:(Lib.index s [34] == -1)=false:=by simpa using h
   have h2:(Lib.index s [34] + 1 == -1)=false:=by
    have:Lib.index s [34] + 1 ≠ -1:=by omega
    simpa using this
   rw [h1]
   simp only [Bool.false_eq_true,if_false]
   rw [h2]
   simp only [Bool.false_eq_true,if_false]
   have e:(Lib.index s [34] + 1).toNat=(Lib.index s [34]).toNat + 1:=by omega
   rw [e,show (Lib.index s [34]).toNat + 1 + [(34:UInt8)].length=((Lib.index s [34]).toNat + [(34:UInt8)].length) + 1 from rfl,List.drop_succ_cons]
theorem zp3:∀ (s:List UInt8) (f:Nat),s.length < f->Lib.replaceK [34] [34,34] (Lib.countFrom [34] f s) s=esc s/\Lib.countFrom [34] f s <= s.length
 | [],f,hf=>by
  obtain ⟨f,rfl⟩:∃ g,f=g + 1:=⟨f - 1,by omega⟩
  exact ⟨rfl,zNl _⟩
 | c :: s,f,hf=>by
  obtain ⟨f,rfl⟩:∃ g,f=g + 1:=⟨f - 1,by omega⟩
  rw [zLc] at hf ⊢
  by_cases hc:c=34
  ·subst hc
   obtain ⟨h1,h2⟩:=zp3 s f (by omega)
   have e:Lib.countFrom [34] (f + 1) (34 :: s)=Lib.countFrom [34] f s + 1:=by
    rw [Lib.countFrom,zs9]
    show 1 + Lib.countFrom [34] f s=_
    omega
   rw [e]
   refine ⟨?_,by omega⟩
   rw [Lib.replaceK,zs9]
   show [] ++ [34,34] ++ Lib.replaceK [34] [34,34] (Lib.countFrom [34] f s) s=esc (34 :: s)
   rw [h1];rfl
  ·obtain ⟨h1,h2⟩:=zp3 s (f + 1) (by omega)
   rw [zuy hc,ztP hc,h1]
   exact ⟨by show _=if c=34 then _ else _;rw [if_neg hc],by omega⟩
theorem zmm:∀ a:List UInt8,(esc a).length <= 2 * a.length
 | []=>zNl _
 | c :: s=>by
  have:=zmm s
  show (if c=34 then 34 :: 34 :: esc s else c :: esc s).length <= _
  split <;> simp only [zLc] <;> omega
theorem zxI (b:List UInt8) (hb:b.length <= 1000000):strings_ReplaceAll ⟨b⟩ ⟨[34]⟩ ⟨[34,34]⟩=some ⟨esc b⟩:=by
 obtain ⟨h1,h2⟩:=zp3 b (b.length + 1) (by omega)
 have e:Lib.replaceAll b [34] [34,34]=esc b:=by
  unfold Lib.replaceAll Lib.replace
  rw [if_neg (by decide)]
  unfold Lib.replaceNum
  rw [if_pos (.inl (by decide))]
  exact h1
 have hl:=zmm b
 unfold strings_ReplaceAll
 have hc:Lib.count b [34] <= b.length:=h2
 rw [e,Nat.ble_eq_true_of_le hb,Nat.ble_eq_true_of_le (show (1:Nat) <= ([34]:List UInt8).length from zNl _),Nat.ble_eq_true_of_le (show b.length + Lib.count b [34] * ([34,34]:List UInt8).length <= 140737488355328 by simp only [zLc,zLn];omega),Nat.ble_eq_true_of_le (show (esc b).length <= 4294967296 by omega)]
 rfl
def zpg (v:Val):List UInt8 :=
 if v.kind=1 then (if v.n=0 then [70,65,76,83,69] else [84,82,85,69])
 else if v.kind=4 then [78,85,76,76]
 else if v.kind=2 then Lib.itoa v.n
 else if v.kind=5 then 39 :: (zoW v.b ++ [39,72])
 else if v.kind=6 then 34 :: (esc v.b ++ [34])
 else []
theorem zkX {v:Val} (h0:-9223372036854775808 <= v.n) (h1:v.n <= 9223372036854775807) (hb:v.b.length <= 70000):(zpg v).length + 200 <= 150000:=by
 have:=zrQ h0 h1
 have:=zv3 v.b
 have:=zmm v.b
 unfold zpg
 split
 ·split <;> decide
 ·split
  ·decide
  ·split
   ·omega
   ·split
    ·rw [zLc,zLa];simp only [zLc,zLn];omega
    ·split
     ·rw [zLc,zLa];simp only [zLc,zLn];omega
     ·decide
theorem zxP {v:Val} (h0:-9223372036854775808 <= v.n) (h1:v.n <= 9223372036854775807) (hb:v.b.length <= 70000) (hk:v.kind ≠ 3):zgG v=some ⟨zpg v⟩:=by
 have hel:=zmm v.b
 refine T.eqs ?_
 unfold zgG zpg
 refine T.br (λh=>?_) λh=>?_
 ·rw [if_pos (zOT h)]
  refine T.br (λh=>?_) λh=>?_
  ·rw [if_neg (show ¬ v.n=0 by simpa using h)];exact T.some rfl
  ·rw [if_pos (show v.n=0 by simpa using h)];exact T.some rfl
 rw [if_neg (zOF h)]
 refine T.br (λh=>?_) λh=>?_
 ·rw [if_pos (zOT h)];exact T.some rfl
 rw [if_neg (zOF h)]
 refine T.br (λh=>?_) λh=>?_
 ·rw [if_pos (zOT h)];exact T.eq (zzp h0 h1) (T.some rfl)
 rw [if_neg (zOF h)]
 refine T.br (λh=>absurd (zOT h) hk) λ_=>T.br (λh=>?_) λh=>?_
 ·rw [if_pos (zOT h)];exact T.eq (zxj v.b (by omega)) (T.some rfl)
 rw [if_neg (zOF h)]
 refine T.br (λh=>?_) λh=>?_
 ·rw [if_pos (zOT h)]
  refine T.eq (zxI v.b (by omega)) (T.abl ?_ (T.abl ?_ (T.some rfl)))
  ·simp only [zLc,zLn];omega
  ·simp only [zLa,zLc,zLn];omega
 rw [if_neg (zOF h)]
 exact T.some rfl
def zkq:List (List UInt8)->List UInt8
 | []=>[]
 | [p]=>p
 | p :: q :: r=>p ++ 44 :: 32 :: zkq (q :: r)
theorem zoC:∀ (ps:List (List UInt8)) (p:List UInt8),zkq (ps ++ [p])=if ps=[] then p else zkq ps ++ 44 :: 32 :: p
 | [],p=>rfl
 | [q],p=>rfl
 | q :: r :: s,p=>by
  rw [if_neg (by simp)]
  have:=zoC (r :: s) p
  rw [if_neg (by simp)] at this
  show q ++ 44 :: 32 :: zkq (r :: s ++ [p])=(q ++ 44 :: 32 :: zkq (r :: s)) ++ 44 :: 32 :: p
  rw [this,zLA];rfl
theorem zm0:∀ ps:List (List UInt8),(zkq ps).length <= (ps.map λp=>p.length + 2).sum
 | []=>zNl _
 | [p]=>by simp [zkq]
 | p :: q :: r=>by
  have:=zm0 (q :: r)
  show (p ++ 44 :: 32 :: zkq (q :: r)).length <= _
  rw [zLa,zLc,zLc,List.map_cons,List.sum_cons];omega
def brc (ps:List (List UInt8)):List UInt8:=if ps=[] then [123,125] else 123 :: 32 :: (zkq ps ++ [32,125])
theorem zti (ps:List (List UInt8)):(brc ps).length <= (ps.map λp=>p.length + 2).sum + 4:=by
 have:=zm0 ps
 unfold brc
 split
 ·simp only [zLc,zLn];omega
 ·simp only [zLc,zLa,zLn];omega
def zth (x:zg) (n:Int):List UInt8:=match x.items.find? (λit=>decide (it.number=n)) with
 | some it=>it.name.b
 | none=>[]
def parts (f:Int->Val->List UInt8):List zaF->List Val->List (List UInt8)
 | y :: fs,w :: ws=>if w.kind=0 then parts f fs ws else (y.name.b ++ 32 :: f y.ty w) :: parts f fs ws
 | _,_=>[]
theorem zoc (f:Int->Val->List UInt8) (y:zaF) (w:Val):∀ (fs:List zaF) (ws:List Val),fs.length=ws.length->parts f (fs ++ [y]) (ws ++ [w])=if w.kind=0 then parts f fs ws else parts f fs ws ++ [y.name.b ++ 32 :: f y.ty w]
 | [],[],_=>by
  show (if w.kind=0 then _ else _)=_
  rfl
 | z :: fs,[],h=>by simp at h
 | [],z :: ws,h=>by simp at h
 | z :: fs,u :: ws,h=>by
  have:=zoc f y w fs ws (by simpa using h)
  show (if u.kind=0 then parts f (fs ++ [y]) (ws ++ [w]) else _ :: parts f (fs ++ [y]) (ws ++ [w]))=if w.kind=0 then (if u.kind=0 then parts f fs ws else _ :: parts f fs ws) else _
  rw [this]
  by_cases hu:u.kind=0
  ·rw [if_pos hu,if_pos hu]
   show _=if w.kind=0 then _ else (if u.kind=0 then parts f fs ws else _) ++ _
   rw [if_pos hu]
  ·rw [if_neg hu,if_neg hu]
   show _=if w.kind=0 then _ else (if u.kind=0 then parts f fs ws else _) ++ _
   rw [if_neg hu]
   split <;> rfl
def txtK (f:Int->Val->List UInt8) (x:zg) (v:Val):List UInt8 :=
 if x.kind=3 then zth x v.n
 else if x.kind=10 then brc (v.l.map (f x.of))
 else if x.kind=9 then (match x.fields[v.n.toNat]?,v.l with
  | some y,w :: _=>y.name.b ++ 32 :: 58 :: 32 :: f y.ty w
  | _,_=>[])
 else if x.kind=7 \/ x.kind=8 then brc (parts f x.fields v.l)
 else zpg v
def txt:Nat->List zg->Int->Val->List UInt8
 | 0,_,_,_=>[]
 | h + 1,l,i,v=>match l[i.toNat]? with
  | none=>[]
  | some x=>txtK (txt h l) x v
theorem zwi {h:Nat} {l:List zg} {i:Int} {x:zg} (hx:l[i.toNat]?=some x) (v:Val):txt (h + 1) l i v=txtK (txt h l) x v:=by
 show (match l[i.toNat]? with | none=>_ | some x=>_)=_
 rw [hx]
structure NmB (l:List zg):Prop where
 len:l.length <= 1000
 fl:∀ x ∈ l,x.fields.length <= 1000
 il:∀ x ∈ l,x.items.length <= 100000
 fn:∀ x ∈ l,∀ f ∈ x.fields,f.name.b.length <= 90
 inm:∀ x ∈ l,∀ it ∈ x.items,it.name.b.length <= 90
inductive zlo:Val->Prop
 | mk {v:Val}:-9223372036854775808 <= v.n->v.n <= 9223372036854775807->(∀ w ∈ v.l,zlo w)->zlo v
theorem zlo.lo {v:Val} (h:zlo v):-9223372036854775808 <= v.n:=by cases h;assumption
theorem zlo.hi {v:Val} (h:zlo v):v.n <= 9223372036854775807:=by cases h;assumption
theorem zlo.kid {v:Val} (h:zlo v):∀ w ∈ v.l,zlo w:=by cases h;assumption
theorem zjO {v:Val} (h:bare v=true):v.kind ≠ 12/\v.more=[]/\∀ w ∈ v.l,bare w=true:=by
 rw [zkc,zBa] at h
 obtain ⟨h1,h2⟩:=h
 have h1:(decide (v.kind=12) || decide (0 < v.more.length))=false:=by simpa using h1
 rw [Bool.or_eq_false_iff] at h1
 refine ⟨zOF h1.1,?_,λw hw=>?_⟩
 ·have:=zOF h1.2
  exact List.length_eq_zero_iff.1 (by omega)
 ·exact List.all_eq_true.1 h2 _ (List.mem_map.2 ⟨w,hw,rfl⟩)
theorem zpm {v:Val} {n l m:Bool} (h:pln v n false l m=true):v.b=[]:=by
 unfold pln at h
 simp only [zBa] at h
 have h:=h.1.1.2
 rw [Bool.false_or] at h
 have:=zOT h
 exact List.length_eq_zero_iff.1 (by omega)
theorem zpp {x:zg} {n:Int} (h:∃ it ∈ x.items,it.number=n):∃ it,x.items.find? (λit=>decide (it.number=n))=some it/\it ∈ x.items/\it.number=n:=by
 obtain ⟨it,h1,h2⟩:=h
 cases hf:x.items.find? (λit=>decide (it.number=n)) with
 | none =>
  have:=List.find?_eq_none.1 hf it h1
  exact absurd (zDT h2) this
 | some y =>
  have h3:=List.find?_some hf
  exact ⟨y,rfl,List.mem_of_find?_eq_some hf,zOT h3⟩
theorem ztI {n:Int} {it:zai}:∀ {l:List zai} {k:Nat},l[k]?=some it->it.number=n->(∀ j y,j < k->l[j]?=some y->y.number ≠ n)->l.find? (λit=>decide (it.number=n))=some it
 | [],k,h,_,_=>by simp at h
 | y :: l,0,h,hn,_=>by
  simp at h;subst h
  rw [List.find?_cons,zDT hn]
 | y :: l,k + 1,h,hn,hj=>by
  have h0:=hj 0 y (Nat.succ_pos _) rfl
  rw [List.find?_cons,zDF h0]
  dsimp only
  exact ztI (k:=k) (by simpa using h) hn λj z hjk hz=>hj (j + 1) z (by omega) (by simpa using hz)
theorem zwg (x:zg) (n:Int) (hl:x.items.length <= 1000000) (hi:∃ it ∈ x.items,it.number=n):T (λr=>∃ it,zq x.items r=some it/\x.items.find? (λit=>decide (it.number=n))=some it) (zeb x n):=by
 obtain ⟨it,h1,h2,h3⟩:=zpp hi
 unfold zeb
 refine T.cal (Q:=λr=>∃ it,zq x.items r=some it/\x.items.find? (λit=>decide (it.number=n))=some it) ?_ λy _ hy=>T.some hy
 unfold za7
 refine T.lp (ι:=Int) (λq=>0 <= q/\q <= (x.items.length:Int)/\∀ (j:Nat) y,(j:Int) < q->x.items[j]?=some y->y.number ≠ n) (λq=>((x.items.length:Int) - q).toNat) ⟨zIl _,by omega,λj y h=>by omega⟩ (by omega) λJ q ⟨q0,q1,q2⟩ hJ=>T.br (λhb=>?_) λhb=>?_
 ·have hb:=zOT hb
  refine T.get q0 hb λy hy=>T.eq (y:=decide (y.number=n)) ?_ (T.br (λh=>T.some ?_) λh=>T.ck (by omega) (hJ _ ⟨by omega,by omega,λj z hj hz=>?_⟩ (by omega)))
  ·unfold zgk
   rfl
  ·refine ⟨y,by rw [zbm q0 hb];exact congrArg some (List.getElem?_eq_some_iff.1 hy).2,ztI hy (zOT h) λj z hj hz=>q2 j z (by omega) hz⟩
  ·rcases Int.lt_or_le (j:Int) q with h5 | h5
   ·exact q2 j z h5 hz
   ·have:j=q.toNat:=by omega
    subst this
    rw [hy] at hz;cases hz
    exact zOF h
 ·have hb:=zOF hb
  obtain ⟨k,hk,e⟩:=List.mem_iff_getElem.1 h2
  exact absurd h3 (q2 k it (by omega) (by rw [List.getElem?_eq_getElem hk,e]))

/-! ### How long it is -/
theorem zsj {α:Type} {f g:α->Nat}:∀ {l:List α},(∀ x ∈ l,f x <= g x)->(l.map f).sum <= (l.map g).sum
 | [],_=>zNl _
 | x :: l,h=>by
  have:=zsj (f:=f) (g:=g) (l:=l) λy hy=>h y (zMm _ hy)
  have:=h x zMs
  simp only [List.map_cons,List.sum_cons];omega
theorem zp2 {α:Type} {f:α->Nat} {c:Nat}:∀ {l:List α},(l.map λx=>c * f x).sum=c * (l.map f).sum
 | []=>by simp
 | x :: l=>by
  have:=zp2 (f:=f) (c:=c) (l:=l)
  simp only [List.map_cons,List.sum_cons]
  rw [this,Nat.mul_add]
theorem zmT {f:Int->Val->List UInt8}:∀ {fs:List zaF} {ws:List Val},(∀ y ∈ fs,y.name.b.length <= 90)->fs.length=ws.length->(∀ (k:Nat) y w,fs[k]?=some y->ws[k]?=some w->w.kind ≠ 0->(f y.ty w).length + 200 <= 150000 * cnt w)->((parts f fs ws).map λp=>p.length + 2).sum <= 150000 * (ws.map cnt).sum
 | [],[],_,_,_=>zNz _
 | z :: fs,[],_,h,_=>by simp at h
 | [],z :: ws,_,h,_=>by simp at h
 | z :: fs,u :: ws,hn,h,hk=>by
  have ih:=zmT (f:=f) (fs:=fs) (ws:=ws) (λy hy=>hn y (zMm _ hy)) (by simpa using h) λk y w h1 h2=>hk (k + 1) y w (by simpa using h1) (by simpa using h2)
  rw [List.map_cons,List.sum_cons,Nat.mul_add]
  show ((if u.kind=0 then parts f fs ws else (z.name.b ++ 32 :: f z.ty u) :: parts f fs ws).map λp=>p.length + 2).sum <= _
  split
  ·omega
  ·rename_i hu
   have:=hk 0 z u rfl rfl hu
   have:=hn z zMs
   rw [List.map_cons,List.sum_cons]
   simp only [zLa,zLc]
   omega
theorem znn {t:zZ} (hB:NmB t.types):∀ {h:Nat} {i:Int} {v:Val},Fit t h i v->bare v=true->zlo v->(txt h t.types i v).length + 200 <= 150000 * cnt v:=by
 intro h
 induction h with
 | zero=>intro i v hf;exact hf.elim
 | succ h ih =>
  intro i v hf hb hI
  obtain ⟨i0,x,hx,hfk⟩:=hf
  obtain ⟨k12,hm,hkb⟩:=zjO hb
  obtain ⟨hkk,hfk⟩:=hfk.resolve_left k12
  have hxm:=List.mem_of_getElem? hx
  have hcp:=zey v
  have hcq:=zhv v
  rw [zwi hx]
  unfold txtK
  rcases hfk with ⟨k,h1,h2⟩ | ⟨k,h1,h2⟩ | ⟨k,h1,h2⟩ | ⟨k,h1⟩ | ⟨k,h1,h2,h3,h4⟩ | ⟨k,h1,h2,h3⟩ | ⟨k,h1,h2,f,w,h3,h4,h5⟩ | ⟨k,h1,h2,h3,h4,h5⟩
  ·rw [if_neg (by omega),if_neg (by omega),if_neg (by omega),if_neg (by omega)]
   have:=zkX hI.lo hI.hi (by rw [zpm h1];decide)
   omega
  ·rw [if_neg (by omega),if_neg (by omega),if_neg (by omega),if_neg (by omega)]
   have:=zkX hI.lo hI.hi (by rw [zpm h1];decide)
   omega
  ·rw [if_pos k]
   obtain ⟨it,e1,e2,e3⟩:=zpp h2
   unfold zth
   rw [e1]
   have:=hB.inm x hxm it e2
   dsimp only
   omega
  ·rw [if_neg (by omega),if_neg (by omega),if_neg (by omega),if_neg (by omega)]
   have:=zkX hI.lo hI.hi (by rw [zpm h1];decide)
   omega
  ·rw [if_neg (by omega),if_neg (by omega),if_neg (by omega),if_neg (by omega)]
   have:=zkX hI.lo hI.hi (by omega)
   omega
  ·rw [if_neg (by omega),if_pos k]
   have h6:=zti (v.l.map (txt h t.types x.of))
   have h7:((v.l.map (txt h t.types x.of)).map λp=>p.length + 2).sum <= (v.l.map λw=>150000 * cnt w).sum:=by
    rw [List.map_map]
    exact zsj λw hw=>by
     have:=ih (h3 w hw) (hkb w hw) (hI.kid w hw)
     show (txt h t.types x.of w).length + 2 <= _
     omega
   rw [zp2] at h7
   rw [hcq,Nat.mul_add];omega
  ·rw [if_neg (by omega),if_neg (by omega),if_pos k,h3,h4]
   dsimp only
   have hw:w ∈ v.l:=by rw [h4];exact zMo.2 rfl
   have:=ih h5 (hkb w hw) (hI.kid w hw)
   have:=hB.fn x hxm f (List.mem_of_getElem? h3)
   have hc:cnt w + 1 <= cnt v:=zc9 hw
   simp only [zLa,zLc]
   omega
  ·rw [if_neg (by omega),if_neg (by omega),if_neg (by omega),if_pos k]
   have h6:=zti (parts (txt h t.types) x.fields v.l)
   have h7:=zmT (f:=txt h t.types) (hB.fn x hxm) h3.symm λj y w h8 h9 h10=>by
    rcases h4 j y w h8 h9 with ⟨z,_⟩ | ⟨_,z,_⟩
    ·exact absurd z h10
    ·exact ih z (hkb w (List.mem_of_getElem? h9)) (hI.kid w (List.mem_of_getElem? h9))
   rw [hcq,Nat.mul_add];omega

/-! ### The code prints it -/
theorem zoM (n:Nat):zaO (n + 1)=zdx (zaU n) (zaO n) (zbc n) (zaL n) (zaV n):=rfl
theorem zsl (n:Nat):zaU (n + 1)=zcX (zaU n) (zaO n) (zbc n) (zaL n) (zaV n):=rfl
theorem zol (n:Nat):zaV (n + 1)=zct (zaU n) (zaO n) (zbc n) (zaL n) (zaV n):=rfl
theorem zus (n:Nat):zbc (n + 1)=zdi (zaU n) (zaO n) (zbc n) (zaL n) (zaV n):=rfl
theorem zsV (n:Nat):zaL (n + 1)=zcW (zaU n) (zaO n) (zbc n) (zaL n) (zaV n):=rfl
def zds (ps:List (List UInt8)):List UInt8:=if ps=[] then [] else 123 :: 32 :: zkq ps
theorem zpa (ps:List (List UInt8)) (p:List UInt8):zds (ps ++ [p])=(if ps=[] then [123,32] else zds ps ++ [44,32]) ++ p:=by
 unfold zds
 rw [if_neg (by simp),zoC]
 by_cases h:ps=[]
 ·rw [if_pos h,if_pos h];rfl
 ·rw [if_neg h,if_neg h,if_neg h]
  show 123 :: 32 :: (zkq ps ++ 44 :: 32 :: p)=(123 :: 32 :: zkq ps ++ [44,32]) ++ p
  simp
theorem zrD (ps:List (List UInt8)):brc ps=if ps=[] then [123,125] else zds ps ++ [32,125]:=by
 unfold brc zds
 split
 ·rfl
 ·simp
theorem zq9 (ps:List (List UInt8)):(zds ps).length <= (ps.map λp=>p.length + 2).sum + 2:=by
 have:=zm0 ps
 unfold zds
 split
 ·exact zNz _
 ·simp only [zLc];omega
theorem prP {t:zZ} (hB:NmB t.types):∀ {h n:Nat} {i:Int} {v:Val} {b:List UInt8},3 * h + 3 <= n->Fit t h i v->bare v=true->zlo v->zbV v->cnt v <= 100000->b.length + 150000 * cnt v <= 60000000000->zaO n ⟨t,b⟩ i v=some ⟨t,b ++ txt h t.types i v⟩:=by
 intro h
 induction h with
 | zero=>intro n i v b _ hf;exact hf.elim
 | succ h ih =>
  intro n i v b hn hf hb hI hF hC hL
  have hlen:=znn hB hf hb hI
  obtain ⟨n,rfl⟩:∃ n',n=n' + 3:=⟨n - 3,by omega⟩
  obtain ⟨i0,x,hx,hfk⟩:=hf
  obtain ⟨k12,hm,hkb⟩:=zjO hb
  obtain ⟨hkk,hfk⟩:=hfk.resolve_left k12
  have hxm:=List.mem_of_getElem? hx
  have hlt:=(List.getElem?_eq_some_iff.1 hx).1
  have hfl:=hB.fl x hxm
  have hil:=hB.il x hxm
  have hvl:=hF.l
  have hcl:=zxR v
  have eg:zq t.types i=some x:=by rw [zbm i0 (by omega)];exact congrArg some (List.getElem?_eq_some_iff.1 hx).2
  rw [zwi hx] at hlen ⊢
  refine T.eqs ?_
  rw [zoM]
  unfold zdx
  refine T.eq eg ?_
  unfold txtK at hlen ⊢
  have leaf:(x.kind=1 \/ x.kind=2 \/ x.kind=4 \/ x.kind=5 \/ x.kind=6)->v.b.length <= 70000->T (λr=>r=⟨t,b ++ zpg v⟩) (jp (ι:=Bool) (λJ20=>br (decide (x.kind=(7:Int))) (J20 ((decide (x.kind=(7:Int))))) (J20 ((decide (x.kind=(8:Int)))))) (λq19=>br q19 (cal (zaL (n + 2) ⟨t,b⟩ (v.l.length:Int) v x) λy21=>some (y21)) (cal (zgG v) λy23=>cal (zay ⟨t,b⟩ ([y23]:(List Str))) λy25=>some (y25)))):=λhk hbl=>by
   have hll:=zkX hI.lo hI.hi hbl
   refine T.jp (λq=>q=false) (λJ k=>T.br (λh=>absurd (zOT h) (by omega)) λ_=>k _ (zDF (by omega))) λq hq=>?_
   subst hq
   refine T.br (λh=>by cases h) λ_=>T.eq (zxP hI.lo hI.hi hbl (by omega)) (T.eq (zoR _ _ ?_) (T.some rfl))
   have:=zey v
   dsimp only
   omega
  rcases hfk with ⟨k,h1,h2⟩ | ⟨k,h1,h2⟩ | ⟨k,h1,h2⟩ | ⟨k,h1⟩ | ⟨k,h1,h2,h3,h4⟩ | ⟨k,h1,h2,h3⟩ | ⟨k,h1,h2,f,w,h3,h4,h5⟩ | ⟨k,h1,h2,h3,h4,h5⟩
  ·rw [if_neg (by omega),if_neg (by omega),if_neg (by omega),if_neg (by omega)]
   exact T.br (λh=>absurd (zOT h) (by omega)) λ_=>T.br (λh=>absurd (zOT h) (by omega)) λ_=>T.br (λh=>absurd (zOT h) (by omega)) λ_=>leaf (.inl k) (by rw [zpm h1];decide)
  ·rw [if_neg (by omega),if_neg (by omega),if_neg (by omega),if_neg (by omega)]
   exact T.br (λh=>absurd (zOT h) (by omega)) λ_=>T.br (λh=>absurd (zOT h) (by omega)) λ_=>T.br (λh=>absurd (zOT h) (by omega)) λ_=>leaf (.inr (.inl k)) (by rw [zpm h1];decide)
  ·rw [if_pos k]
   rw [if_pos k] at hlen
   refine T.br (λ_=>T.cal (zwg x v.n (by omega) h2) λr _ ⟨it,z1,z2⟩=>T.eq z1 (T.eq (zoR _ _ ?_) (T.some ?_))) λh=>absurd k (zOF h)
   ·unfold zth at hlen
    rw [z2] at hlen
    dsimp only at hlen ⊢
    omega
   ·unfold zth;rw [z2]
  ·rw [if_neg (by omega),if_neg (by omega),if_neg (by omega),if_neg (by omega)]
   exact T.br (λh=>absurd (zOT h) (by omega)) λ_=>T.br (λh=>absurd (zOT h) (by omega)) λ_=>T.br (λh=>absurd (zOT h) (by omega)) λ_=>leaf (.inr (.inr (.inl k))) (by rw [zpm h1];decide)
  ·rw [if_neg (by omega),if_neg (by omega),if_neg (by omega),if_neg (by omega)]
   exact T.br (λh=>absurd (zOT h) (by omega)) λ_=>T.br (λh=>absurd (zOT h) (by omega)) λ_=>T.br (λh=>absurd (zOT h) (by omega)) λ_=>leaf (by omega) (by omega)
  ·rw [if_neg (by omega),if_pos k]
   rw [if_neg (by omega),if_pos k] at hlen
   refine T.br (λh=>absurd (zOT h) (by omega)) λ_=>T.br (λ_=>?_) λh=>absurd k (zOF h)
   refine T.eq (y:=⟨t,b ++ brc (v.l.map (txt h t.types x.of))⟩) ?_ (T.some rfl)
   refine T.eqs ?_
   rw [zus]
   unfold zdi
   have hsum:∀ j:Nat,(((v.l.take j).map (txt h t.types x.of)).map λp=>p.length + 2).sum <= 150000 * ((v.l.take j).map cnt).sum:=λj=>by
    rw [<- zp2,List.map_map]
    exact zsj λw hw=>by
     have hw:=List.mem_of_mem_take hw
     have:=znn hB (h3 w hw) (hkb w hw) (hI.kid w hw)
     show (txt h t.types x.of w).length + 2 <= _
     omega
   have hcv:=zhv v
   have htake:∀ j:Nat,((v.l.take j).map cnt).sum <= (v.l.map cnt).sum:=λj=>by
    have:=congrArg (λl=>(l.map cnt).sum) (List.take_append_drop j v.l)
    simp only [List.map_append,List.sum_append] at this
    omega
   refine T.lp (ι:=Bool × Int × zag) (λq=>∃ j:Int,0 <= j/\j <= (v.l.length:Int)/\q=(decide ((v.l.take j.toNat)=[]),j,⟨t,b ++ zds ((v.l.take j.toNat).map (txt h t.types x.of))⟩)) (λq=>((v.l.length:Int) - q.2.1).toNat) ⟨0,zIl _,by omega,by simp [zds]⟩ (by dsimp only;omega) λJ q ⟨j,q0,q1,eq⟩ hJ=>?_
   subst eq
   dsimp only at hJ ⊢
   have hol:=zq9 ((v.l.take j.toNat).map (txt h t.types x.of))
   have hs:=hsum j.toNat
   have ht:=htake j.toNat
   rw [hcv,Nat.mul_add] at hL
   refine T.br (λhj=>?_) λhj=>?_
   ·have hj:=zOT hj
    obtain ⟨w,hw⟩:∃ w,v.l[j.toNat]?=some w:=⟨_,List.getElem?_eq_getElem (by omega)⟩
    have hwm:=List.mem_of_getElem? hw
    have hwc:cnt w <= (v.l.map cnt).sum:=znq (f:=cnt) hwm
    have egw:zq v.l j=some w:=by rw [zbm q0 hj];exact congrArg some (List.getElem?_eq_some_iff.1 hw).2
    have etk:v.l.take (j + 1).toNat=v.l.take j.toNat ++ [w]:=by
     rw [show (j + 1).toNat=j.toNat + 1 by omega,List.take_add_one,hw];rfl
    have hcs:((v.l.take j.toNat).map cnt).sum + cnt w <= (v.l.map cnt).sum:=by
     have:=htake (j + 1).toNat
     rw [etk] at this
     simpa using this
    refine T.jp (λq=>q=(false,⟨t,b ++ zds ((v.l.take (j + 1).toNat).map (txt h t.types x.of))⟩)) (λJ19 k19=>?_) λq hq=>?_
    ·refine T.jp (λg=>g=(⟨t,(b ++ (if v.l.take j.toNat=[] then [123,32] else zds ((v.l.take j.toNat).map (txt h t.types x.of)) ++ [44,32]))⟩:zag)) (λJ21 k21=>T.br (λhe=>?_) λhe=>?_) λg hg=>?_
     ·have he:=zOT he
      refine T.eq (zoR _ _ (by dsimp only;rw [zLa];simp only [zLc,zLn];omega)) (k21 _ ?_)
      rw [if_pos he,he]
      simp [zds]
     ·have he:=zOF he
      refine T.eq (zoR _ _ (by dsimp only;rw [zLa];simp only [zLc,zLn];omega)) (k21 _ ?_)
      rw [if_neg he]
      simp
     ·subst hg
      refine T.eq (y:=(true,⟨t,b ++ zds ((v.l.take (j + 1).toNat).map (txt h t.types x.of))⟩)) ?_ (T.br (λ_=>k19 _ rfl) λh=>by cases h)
      refine T.eqs ?_
      rw [zsl]
      unfold zcX
      have hpre:(if v.l.take j.toNat=[] then ([123,32]:List UInt8) else zds ((v.l.take j.toNat).map (txt h t.types x.of)) ++ [44,32]).length <= (zds ((v.l.take j.toNat).map (txt h t.types x.of))).length + 2:=by
       split
       ·simp
       ·simp
      refine T.eq egw (T.eq (ih (by omega) (h3 w hwm) (hkb w hwm) (hI.kid w hwm) (hF.kid w hwm) (by have:=zc9 hwm;omega) (by rw [zLa];omega)) (T.some ?_))
      have hif:(if (v.l.take j.toNat).map (txt h t.types x.of)=[] then ([123,32]:List UInt8) else zds ((v.l.take j.toNat).map (txt h t.types x.of)) ++ [44,32])=if v.l.take j.toNat=[] then [123,32] else zds ((v.l.take j.toNat).map (txt h t.types x.of)) ++ [44,32]:=by
       by_cases he:v.l.take j.toNat=[]
       ·rw [if_pos he,if_pos (by rw [he];rfl)]
       ·rw [if_neg he,if_neg (by simpa using he)]
      rw [etk,List.map_append,List.map_singleton,zpa,hif,zLA]
    ·subst hq
     refine T.ck (by omega) (hJ _ ⟨j + 1,by omega,by omega,?_⟩ (by dsimp only;omega))
     rw [zDF (show ¬ v.l.take (j + 1).toNat=[] by rw [etk];simp)]
   ·have hj:=zOF hj
    have et:v.l.take j.toNat=v.l:=zTl (by omega)
    rw [et] at hol hs ⊢
    rw [zrD]
    refine T.br (λhe=>?_) λhe=>?_
    ·have he:=zOT he
     rw [he]
     refine T.eq (zoR _ _ (by simp [zds];omega)) (T.some ?_)
     simp [zds]
    ·have he:=zOF he
     rw [if_neg (by simpa using he)]
     refine T.eq (zoR _ _ (by dsimp only;rw [zLa];simp only [zLc,zLn];omega)) (T.some ?_)
     rw [zLA]
  ·rw [if_neg (by omega),if_neg (by omega),if_pos k,h3,h4]
   dsimp only
   have hw:w ∈ v.l:=by rw [h4];exact zMo.2 rfl
   have hwl:=znn hB h5 (hkb w hw) (hI.kid w hw)
   have hnm:=hB.fn x hxm f (List.mem_of_getElem? h3)
   have hc:cnt w + 1 <= cnt v:=zc9 hw
   have hlt2:=(List.getElem?_eq_some_iff.1 h3).1
   refine T.br (λh=>absurd (zOT h) (by omega)) λ_=>T.br (λh=>absurd (zOT h) (by omega)) λ_=>T.br (λ_=>?_) λh=>absurd k (zOF h)
   refine T.eq (y:=f) (by rw [zbm h2 (by omega)];exact congrArg some (List.getElem?_eq_some_iff.1 h3).2) (T.eq (put2 _ _ _ (by simp only [zLc,zLn];omega)) (T.eq (y:=w) (by first | rfl | (rw [h4];rfl)) ?_))
   refine T.eq (ih (by omega) h5 (hkb w hw) (hI.kid w hw) (hF.kid w hw) (by omega) (by dsimp only;simp only [zLa,zLc,zLn];omega)) (T.some ?_)
   simp
  ·rw [if_neg (by omega),if_neg (by omega),if_neg (by omega),if_pos k]
   rw [if_neg (by omega),if_neg (by omega),if_neg (by omega),if_pos k] at hlen
   refine T.br (λh=>absurd (zOT h) (by omega)) λ_=>T.br (λh=>absurd (zOT h) (by omega)) λ_=>T.br (λh=>absurd (zOT h) (by omega)) λ_=>?_
   refine T.jp (λb=>b=true) (λJ2 k2=>T.br (λh=>k2 _ h) λh=>k2 _ (zDT (k.resolve_left (zOF h)))) λb78 hb78=>?_
   subst hb78
   refine T.br (λ_=>?_) λh=>by cases h
   refine T.eq (y:=⟨t,b ++ brc (parts (txt h t.types) x.fields v.l)⟩) ?_ (T.some rfl)
   refine T.eqs ?_
   rw [zsV]
   unfold zcW
   have hcv:=zhv v
   have htake:∀ j:Nat,((v.l.take j).map cnt).sum <= (v.l.map cnt).sum:=λj=>by
    have:=congrArg (λl=>(l.map cnt).sum) (List.take_append_drop j v.l)
    simp only [List.map_append,List.sum_append] at this
    omega
   have hpart:∀ j:Nat,((parts (txt h t.types) (x.fields.take j) (v.l.take j)).map λp=>p.length + 2).sum <= 150000 * ((v.l.take j).map cnt).sum:=λj =>
    zmT (f:=txt h t.types) (λy hy=>hB.fn x hxm y (List.mem_of_mem_take hy)) (by rw [zLt,zLt,h3]) λm y w h8 h9 h10=>by
     have e8:x.fields[m]?=some y:=by
      rw [List.getElem?_take] at h8
      split at h8
      ·exact h8
      ·cases h8
     have e9:v.l[m]?=some w:=by
      rw [List.getElem?_take] at h9
      split at h9
      ·exact h9
      ·cases h9
     rcases h4 m y w e8 e9 with ⟨z,_⟩ | ⟨_,z,_⟩
     ·exact absurd z h10
     ·exact znn hB z (hkb w (List.mem_of_getElem? e9)) (hI.kid w (List.mem_of_getElem? e9))
   refine T.lp (ι:=Bool × Int × zag) (λq=>∃ j:Int,0 <= j/\j <= (v.l.length:Int)/\q=(decide (parts (txt h t.types) (x.fields.take j.toNat) (v.l.take j.toNat)=[]),j,⟨t,b ++ zds (parts (txt h t.types) (x.fields.take j.toNat) (v.l.take j.toNat))⟩)) (λq=>((v.l.length:Int) - q.2.1).toNat) ⟨0,zIl _,by omega,by simp [zds,parts]⟩ (by dsimp only;omega) λJ q ⟨j,q0,q1,eq⟩ hJ=>?_
   subst eq
   dsimp only at hJ ⊢
   have hol:=zq9 (parts (txt h t.types) (x.fields.take j.toNat) (v.l.take j.toNat))
   have hs:=hpart j.toNat
   have htj:=htake j.toNat
   rw [hcv,Nat.mul_add] at hL
   refine T.br (λhj=>?_) λhj=>?_
   ·have hj:=zOT hj
    obtain ⟨w,hw⟩:∃ w,v.l[j.toNat]?=some w:=⟨_,List.getElem?_eq_getElem (by omega)⟩
    obtain ⟨y,hy⟩:∃ y,x.fields[j.toNat]?=some y:=⟨_,List.getElem?_eq_getElem (by omega)⟩
    have hwm:=List.mem_of_getElem? hw
    have hwc:cnt w <= (v.l.map cnt).sum:=znq (f:=cnt) hwm
    have egw:zq v.l j=some w:=by rw [zbm q0 hj];exact congrArg some (List.getElem?_eq_some_iff.1 hw).2
    have egy:zq x.fields j=some y:=by rw [zbm q0 (by omega)];exact congrArg some (List.getElem?_eq_some_iff.1 hy).2
    have hyn:=hB.fn x hxm y (List.mem_of_getElem? hy)
    have ej:(j + 1).toNat=j.toNat + 1:=by omega
    have etk:v.l.take (j + 1).toNat=v.l.take j.toNat ++ [w]:=by rw [ej,List.take_add_one,hw];rfl
    have etf:x.fields.take (j + 1).toNat=x.fields.take j.toNat ++ [y]:=by rw [ej,List.take_add_one,hy];rfl
    have hcs:((v.l.take j.toNat).map cnt).sum + cnt w <= (v.l.map cnt).sum:=by
     have:=htake (j + 1).toNat
     rw [etk] at this
     simpa using this
    have hsn:=zoc (txt h t.types) y w (x.fields.take j.toNat) (v.l.take j.toNat) (by rw [zLt,zLt,h3])
    rw [<- etk,<- etf] at hsn
    generalize parts (txt h t.types) (x.fields.take j.toNat) (v.l.take j.toNat)=ps at hsn hol hs ⊢
    refine T.jp (λq=>q=(decide (parts (txt h t.types) (x.fields.take (j + 1).toNat) (v.l.take (j + 1).toNat)=[]),⟨t,b ++ zds (parts (txt h t.types) (x.fields.take (j + 1).toNat) (v.l.take (j + 1).toNat))⟩)) (λJ19 k19=>?_) λq hq=>?_
    ·refine T.jp (λg=>g=(⟨t,(b ++ (if ps=[] then [123,32] else zds ps ++ [44,32]))⟩:zag)) (λJ21 k21=>T.br (λhe=>?_) λhe=>?_) λg hg=>?_
     ·have he:=zOT he
      refine T.eq (zoR _ _ (by dsimp only;rw [zLa];simp only [zLc,zLn];omega)) (k21 _ ?_)
      rw [if_pos he,he]
      simp [zds]
     ·have he:=zOF he
      refine T.eq (zoR _ _ (by dsimp only;rw [zLa];simp only [zLc,zLn];omega)) (k21 _ ?_)
      rw [if_neg he]
      simp
     ·subst hg
      have hpre:(if ps=[] then ([123,32]:List UInt8) else zds ps ++ [44,32]).length <= (zds ps).length + 2:=by
       split
       ·simp
       ·simp
      rcases h4 j.toNat y w hy hw with ⟨z1,z2,_⟩ | ⟨z1,z2,_⟩
      ·rw [if_pos z1] at hsn
       refine T.eq (y:=(false,(⟨t,(b ++ (if ps=[] then [123,32] else zds ps ++ [44,32]))⟩:zag))) ?_ (T.br (λh=>by cases h) λ_=>T.asd ?_ (k19 _ ?_))
       ·refine T.eqs ?_
        rw [zol]
        unfold zct
        refine T.eq egw (T.eq (zh9 w) (T.br (λ_=>T.some rfl) λh=>?_))
        rw [zmt.2 z2] at h
        cases h
       ·dsimp only
        simp only [zLa]
        have:(zds ps).length <= (if ps=[] then ([123,32]:List UInt8) else zds ps ++ [44,32]).length:=by
         split
         ·rename_i he;rw [he];simp [zds]
         ·simp
        omega
       ·rw [hsn]
        congr 2
        rw [Int.toNat_natCast,zLa]
        by_cases he:ps=[]
        ·rw [if_pos he,he]
         simp [zds]
        ·rw [if_neg he,<- zLA]
         show List.take (b.length + (zds ps).length) (b ++ zds ps ++ [44,32])=_
         rw [<- zLa,List.take_left]
      ·rw [if_neg z1] at hsn
       refine T.eq (y:=(true,⟨t,b ++ zds (parts (txt h t.types) (x.fields.take (j + 1).toNat) (v.l.take (j + 1).toNat))⟩)) ?_ (T.br (λ_=>k19 _ ?_) λh=>by cases h)
       ·refine T.eqs ?_
        rw [zol]
        unfold zct
        refine T.eq egw (T.eq (zh9 w) (T.br (λh=>?_) λ_=>?_))
        ·rw [zDF z1] at h;cases h
        refine T.eq egy (T.eq (put2 _ _ _ (by dsimp only;simp only [zLa,zLc,zLn];omega)) (T.eq egy (T.eq egw (T.eq (ih (by omega) z2 (hkb w hwm) (hI.kid w hwm) (hF.kid w hwm) (by have:=zc9 hwm;omega) (by dsimp only;simp only [zLa,zLc,zLn];omega)) (T.some ?_)))))
        rw [hsn,zpa]
        congr 2
        simp only [zLA]
        rfl
       ·rw [hsn,zDF (by simp)]
    ·subst hq
     exact T.ck (by omega) (hJ _ ⟨j + 1,by omega,by omega,rfl⟩ (by dsimp only;omega))
   ·have hj:=zOF hj
    have et:v.l.take j.toNat=v.l:=zTl (by omega)
    have et2:x.fields.take j.toNat=x.fields:=zTl (by omega)
    rw [et,et2] at hol
    rw [et] at hs
    rw [et2] at hs
    rw [et,et2,zrD]
    refine T.br (λhe=>?_) λhe=>?_
    ·have he:=zOT he
     rw [he]
     refine T.eq (zoR _ _ (by simp [zds];omega)) (T.some ?_)
     simp [zds]
    ·have he:=zOF he
     rw [if_neg he]
     refine T.eq (zoR _ _ (by dsimp only;rw [zLa];simp only [zLc,zLn];omega)) (T.some ?_)
     rw [zLA]
abbrev KS:=List (Int × List UInt8)
/-! ### Names -/
def zml (s:List UInt8):Bool:=zbv (hd s) && znc s 0 && !decide (s.getLast?=some 45) && decide (s.length <= 60) && decide (zyC s=2)
theorem zsN {c:UInt8} {r s:List UInt8} (h:c ≠ 45):zc1 c r=zc1 c s:=by
 unfold zc1
 rw [zDF h];rfl
theorem zpo:∀ {w:List UInt8} {d e:UInt8},w.getLast? ≠ some 45->znc w d=znc w e
 | [],_,_,_=>rfl
 | [c],d,e,h=>by
  have hc:c ≠ 45:=λh2=>h (by rw [h2];rfl)
  show (zc1 c [d] && true)=(zc1 c [e] && true)
  rw [zsN hc]
 | c :: a :: w,d,e,h=>by
  have ih:=zpo (w:=a :: w) (d:=d) (e:=e) (by rw [List.getLast?_cons_cons] at h;exact h)
  show (zc1 c ((a :: w) ++ [d]) && znc (a :: w) d)=(zc1 c ((a :: w) ++ [e]) && znc (a :: w) e)
  rw [ih,zps (show hd ((a :: w) ++ [d])=hd ((a :: w) ++ [e]) from rfl)]
/-! ### Values within braces -/
def cm:List KS->KS
 | []=>[]
 | [p]=>p
 | p :: q :: r=>p ++ (6,[44]) :: cm (q :: r)
structure NmW (l:List zg):Prop where
 fn:∀ x ∈ l,∀ f ∈ x.fields,zml f.name.b=true
 inm:∀ x ∈ l,∀ it ∈ x.items,zml it.name.b=true
 fd:∀ x ∈ l,(x.fields.map λf=>f.name).Nodup
 id:∀ x ∈ l,(x.items.map λit=>it.name).Nodup
theorem zeros {ws:List Val} (h:∀ w ∈ ws,w=zc2):ws=List.replicate ws.length zc2:=List.eq_replicate_iff.2 ⟨rfl,h⟩
theorem zvZ:∀ {k n:Nat} {v:Val},cnt v <= k->4 * k <= n->zbV v->zdS n v=some (bare v):=by
 intro k
 induction k with
 | zero=>intro n v h;have:=zey v;omega
 | succ k ih =>
  intro n v hk hn hf
  obtain ⟨n,rfl⟩:∃ n',n=n' + 4:=⟨n - 4,by omega⟩
  have hfl:=hf.l
  have hc:zT (n + 3) v.l=some (!(v.l.map bare).all id):=by
   refine T.eqs ?_
   show T _ (zaR (zdu (n + 2)) (zdS (n + 2)) (zT (n + 2)) (zad (n + 2)) v.l)
   unfold zaR
   refine T.cal (Q:=λ(r:Int)=>decide (0 <= r)=!(v.l.map bare).all id) ?_ λy _ hy=>T.some hy
   show T _ (za3 (zdu (n + 1)) (zdS (n + 1)) (zT (n + 1)) (zad (n + 1)) v.l)
   unfold za3
   refine T.lp (ι:=Int) (λq=>0 <= q/\q <= (v.l.length:Int)/\((v.l.take q.toNat).map bare).all id=true) (λq=>((v.l.length:Int) - q).toNat) ⟨zIl _,by omega,rfl⟩ (by omega) λL q ⟨q1,q2,q3⟩ hL=>T.br (λhb=>?_) λhb=>T.some ?_
   ·have hb:=zOT hb
    refine T.get q1 hb λy hy=>?_
    have hm:=List.mem_of_getElem? hy
    have hk:=zc9 hm
    refine T.eq (y:=!bare y) ?_ (T.br (λh2=>T.some ?_) λh2=>T.ck (by omega) (hL _ ⟨by omega,by omega,?_⟩ (by omega)))
    ·refine T.eqs ?_
     show T _ (zfc (zdu n) (zdS n) (zT n) (zad n) y)
     unfold zfc
     exact T.eq (ih (by omega) (by omega) (hf.kid y hm)) (T.some rfl)
    ·have h2:bare y=false:=by simpa using h2
     have:(v.l.map bare).all id=false:=by
      rw [List.all_eq_false]
      exact ⟨bare y,List.mem_map.2 ⟨y,hm,rfl⟩,by rw [h2];decide⟩
     rw [this,zDT q1];rfl
    ·have h2:bare y=true:=by simpa using h2
     have e:(q + 1).toNat=q.toNat + 1:=by omega
     rw [e,List.take_add_one,hy,List.map_append,List.all_append,q3]
     show (true && (bare y && true))=true
     rw [h2];rfl
   ·have hb:=zOF hb
    rw [zTl (by omega)] at q3
    rw [q3];rfl
  refine T.eqs ?_
  show T _ (zgZ (zdu (n + 3)) (zdS (n + 3)) (zT (n + 3)) (zad (n + 3)) v)
  unfold zgZ
  rw [zkc]
  have e0:(!(decide (v.kind=12) || decide (0 < v.more.length)))=(!decide (v.kind=12) && decide ((v.more.length:Int)=0)):=by
   rw [Bool.not_or]
   congr 1
   cases h:decide (0 < v.more.length) with
   | true=>have:=zOT h;rw [zDF (by omega)];rfl
   | false=>have:=zOF h;rw [zDT (by omega)];rfl
  rw [e0]
  refine T.andJ (d:=decide ((v.more.length:Int)=0)) (λJ kk=>kk) ?_
  refine T.andJ (d:=(v.l.map bare).all id) (λJ kk=>T.eq hc ?_) (T.some rfl)
  rw [Bool.not_not]
  exact kk
theorem zq6 {t:zZ} (ht:zdt t) {i:Int} {v:Val} (hF:Fit t 17 i v) (hb:bare v=true) (hf:zbV v) (hc:cnt v <= 5000):zea t i v=some true:=by
 refine T.eqs ?_
 unfold zea
 have hs:=ztY hF hb
 have h:=zwS ht (b:=false) (h:=17) (n:=fuel) (i:=i) (v:=v) (d:=1) (by decide) (by decide) (by unfold fuel;decide) hf (by omega) hF (by rw [hs];exact hb)
 rw [hs] at h
 exact T.eq h (T.jp (λb=>b=true) (λJ kk=>T.br (λ_=>T.eq (zpr (by unfold fuel;omega) (by omega) hf) (kk _ (zDT (by omega)))) λh=>by cases h) λb hb=>T.some hb)
def pTxt (l:List zg) (i:Int) (v:Val):Str × Int:=if 8000 < (txt 17 l i v).length then (⟨[]⟩,5) else (⟨txt 17 l i v⟩,0)
theorem zwO {t:zZ} (ht:zdt t) (hB:NmB t.types) {i:Int} {v:Val} (hF:Fit t 17 i v) (hb:bare v=true) (hI:zlo v) (hf:zbV v) (hc:cnt v <= 5000):zir t i v=some (pTxt t.types i v):=by
 refine T.eqs ?_
 unfold zir
 have h:=prP hB (h:=17) (n:=fuel) (b:=[]) (by unfold fuel;decide) hF hb hI hf (by omega) (by simp only [zLn];omega)
 refine T.eq (zq6 ht hF hb hf hc) (T.br (λh=>by cases h) λ_=>T.eq (zvZ (k:=5000) (by omega) (by unfold fuel;decide) hf) ?_)
 rw [hb]
 refine T.br (λh=>by cases h) λ_=>T.eq h (T.br (λhl=>T.some ?_) λhl=>T.some ?_)
 ·have hl:=zOT hl
  unfold pTxt
  rw [if_pos (by have h9:(8000:Int) < ((txt 17 t.types i v).length:Nat):=(by simpa using hl);omega)]
 ·have hl:=zOF hl
  unfold pTxt
  rw [if_neg (by have h9:((txt 17 t.types i v).length:Int) <= 8000:=(by simpa using hl);omega)];rfl
def BI (v:Val):Prop:=bare v=true/\zlo v
theorem zrH {k n:Int} {b:List UInt8} {l:List Val} (hk:k ≠ 12) (h0:-9223372036854775808 <= n/\n <= 9223372036854775807) (hl:∀ w ∈ l,BI w):BI (zd3 k n b l):=by
 refine ⟨?_,.mk h0.1 h0.2 λw hw=>(hl w hw).2⟩
 rw [zkc,zBa]
 refine ⟨?_,List.all_eq_true.2 λy hy=>?_⟩
 ·show (!(decide (k=12) || decide (0 < ([]:List Raw).length)))=true
  rw [zDF hk];rfl
 ·obtain ⟨w,hw,e⟩:=List.mem_map.1 hy
  rw [<- e];exact (hl w hw).1
theorem zs4 {w:Val}:w ∈ ([]:List Val)->BI w:=λh=>by cases h
theorem zxa:BI zc2:=zrH (by decide) (by decide) λw=>zs4
theorem zvl (s:Str):-9223372036854775808 <= zoO s/\zoO s <= 9223372036854775807:=by
 have z:zc3 0:=zk3 (by decide) (by decide)
 have key:zc3 (zoO s):=by
  unfold zoO zba
  cases decide ((10:Int)=10) && decide ((64:Int)=64) && Nat.ble s.b.length 281474976710656 with
  | false=>exact z
  | true =>
   dsimp only [zCt]
   cases h:Lib.parseIntB 64 s.b with
   | ok v=>exact zr5 h
   | range=>exact zyx _
   | _=>exact z
 unfold zc3 at key
 omega
theorem zrP {f:List zS->PR Val} (hf:∀ {ts w r},f ts=.ok w r->BI w):∀ (n:Nat) (ts:List zS) (acc:List Val) {l r},(∀ w ∈ acc,BI w)->zhV f n ts acc=.ok l r->∀ w ∈ l,BI w
 | 0,ts,acc,l,r,_,h=>by cases h
 | n + 1,ts,acc,l,r,ha,h=>by
  unfold zhV at h
  split at h
  ·cases h
  ·rename_i w r' e
   have ha2:∀ w' ∈ acc ++ [w],BI w':=λw' hw'=>(List.mem_append.1 hw').elim (ha w') λh=>by rw [zMo.1 h];exact hf e
   split at h
   ·exact zrP hf n _ _ ha2 h
   ·split at h
    ·cases h;exact ha2
    ·cases h
theorem zzj {x:zaF} {j:Nat} {w:Val} {acc:List Val} (ha:∀ w ∈ acc,BI w) (hw:BI w):∀ w' ∈ zfe x j w acc,BI w':=by
 unfold zfe
 split
 ·exact ha
 ·exact λw' h=>(List.mem_or_eq_of_mem_set h).elim (ha w') λe=>by rw [e];exact hw
theorem zs3 {fs:List zaF} {f:Int->List zS->PR Val} (hf:∀ {i ts w r},f i ts=.ok w r->BI w):∀ (n:Nat) (ts:List zS) (k:Nat) (acc:List Val) {l r},(∀ w ∈ acc,BI w)->zhX fs f n ts k acc=.ok l r->∀ w ∈ l,BI w
 | 0,ts,k,acc,l,r,_,h=>by cases h
 | n + 1,ts,k,acc,l,r,ha,h=>by
  unfold zhX at h
  split at h
  ·cases h
  ·split at h
   ·cases h
   ·split at h
    ·cases h
    ·rename_i w r' e
     have ha2:∀ x j,∀ w' ∈ zfe x j w acc,BI w':=λx j=>zzj ha (hf e)
     split at h
     ·exact zs3 hf n _ _ _ (ha2 _ _) h
     ·split at h
      ·cases h;exact ha2 _ _
      ·cases h
theorem zst {α β:Type} {f:α->β} {p:PR α} {y:β} {r:List zS} (h:p.map f=.ok y r):∃ x,p=.ok x r/\y=f x:=by
 cases p with
 | ok x r'=>cases h;exact ⟨x,rfl,rfl⟩
 | bad p e=>cases h
theorem zrk {s:Str} {n:Int}:∀ {l:List zai},zkA s l=some n->∃ it ∈ l,it.number=n
 | [],h=>by cases h
 | y :: l,h=>by
  unfold zkA at h
  cases hd:decide (y.name=s) with
  | true=>rw [hd] at h;cases h;exact ⟨y,zMs,rfl⟩
  | false =>
   rw [hd] at h
   obtain ⟨it,h1,h2⟩:=zrk h
   exact ⟨it,zMm _ h1,h2⟩
theorem zts {l:List zg} (hl:∀ x ∈ l,x.kind ≠ 12/\x.fields.length <= 1000/\∀ it ∈ x.items,-9223372036854775808 <= it.number/\it.number <= 9223372036854775807):∀ (h:Nat) {i:Int} {ts:List zS} {v:Val} {r:List zS},pv h l i ts=.ok v r->BI v
 | 0,i,ts,v,r,e=>by cases e
 | h + 1,i,ts,v,r,e=>by
  unfold pv at e
  split at e
  ·cases e
  rename_i x hx
  obtain ⟨hk,hfl,hit⟩:=hl x (List.mem_of_getElem? hx)
  have lf:∀ {k n:Int} {b:List UInt8},k ≠ 12->-9223372036854775808 <= n/\n <= 9223372036854775807->BI (zd3 k n b []):=λhk hn=>zrH hk hn λw=>zs4
  unfold pvK at e
  split at e
  ·split at e
   ·cases e;exact lf (by decide) (by decide)
   ·split at e
    ·cases e;exact lf (by decide) (by decide)
    ·cases e
  split at e
  ·split at e
   ·cases e;exact lf (by decide) (by decide)
   ·cases e
  split at e
  ·split at e
   ·cases e;exact lf (by decide) (zvl _)
   ·cases e
  split at e
  ·split at e
   ·rename_i n r' hp
    cases e
    refine lf (by decide) ?_
    cases ts with
    | nil=>cases hp
    | cons t ts =>
     change (bif decide (t.kind=2) then (zkA t.text x.items).map λj=>(j,ts) else none)=some (n,_) at hp
     cases hd:decide (t.kind=2) with
     | false=>rw [hd] at hp;cases hp
     | true =>
      rw [hd] at hp
      obtain ⟨j,hj,e2⟩:=Option.map_eq_some_iff.1 hp
      cases e2
      obtain ⟨it,h1,h2⟩:=zrk hj
      rw [<- h2];exact hit it h1
   ·cases e
  split at e
  ·split at e
   ·cases e;exact lf (by decide) (by decide)
   ·cases e
  split at e
  ·split at e
   ·cases e;exact lf (by decide) (by decide)
   ·cases e
  split at e
  ·obtain ⟨q,e1,e2⟩:=zst e
   rw [e2]
   refine zrH (by decide) (by decide) ?_
   unfold zsr at e1
   split at e1
   ·cases e1
   ·split at e1
    ·cases e1;exact λw=>zs4
    ·exact zrP (λh'=>zts hl h h') _ _ _ (λw=>zs4) e1
  split at e
  ·split at e
   ·cases e
   ·rename_i j r' hj
    split at e
    ·cases e
    ·split at e
     ·cases e
     ·rename_i y hy
      obtain ⟨q,e1,e2⟩:=zst e
      rw [e2]
      have:=(List.getElem?_eq_some_iff.1 hy).1
      exact zrH (by decide) ⟨by omega,by omega⟩ λw hw=>by rw [zMo.1 hw];exact zts hl h e1
  ·obtain ⟨q,e1,e2⟩:=zst e
   rw [e2]
   refine zrH hk (by decide) ?_
   have hz:∀ w ∈ List.replicate x.fields.length zc2,BI w:=λw hw=>by rw [(List.mem_replicate.1 hw).2];exact zxa
   unfold zpX at e1
   split at e1
   ·cases e1
   ·split at e1
    ·cases e1;exact hz
    ·exact zs3 (λh'=>zts hl h h') _ _ _ _ hz e1
def tokF (s:Str):Option (List zS × Int × Int):=some (toks s.b)
theorem zxW:zfb=tokF:=funext zla
def zlI (zaZ:Str):Option (zaA × Int × Int) :=
 cal (tokF zaZ) λy2=>br (!decide (y2.2.2=(0:Int))) (some ((zaA.mk (Str.mk []) (0:Int) ([]:(List Str)) ([]:(List Int)) ([]:(List zh))),y2.2.1,y2.2.2)) (cal (zbB (zA.mk y2.1 (0:Int) (zaA.mk (Str.mk []) (0:Int) ([]:(List Str)) ([]:(List Int)) ([]:(List zh))) (0:Int) (0:Int)) (1:Int)) λy7=>cal (zP (zA.mk y7.2.l y7.2.at_ (zaA.mk y7.1 y7.2.m.tagging y7.2.m.names y7.2.m.types y7.2.m.nodes) y7.2.e y7.2.p) (Str.mk [68,69,70,73,78,73,84,73,79,78,83])) λy10=>jp (ι:=zA) (λJ14=>cal (zE y10 (Str.mk [69,88,80,76,73,67,73,84])) λy15=>br y15.1 (cal (zP y15.2 (Str.mk [84,65,71,83])) λy18=>J14 (y18)) (cal (zE y15.2 (Str.mk [73,77,80,76,73,67,73,84])) λy21=>br y21.1 (cal (zP (zA.mk y21.2.l y21.2.at_ (zaA.mk y21.2.m.name (1:Int) y21.2.m.names y21.2.m.types y21.2.m.nodes) y21.2.e y21.2.p) (Str.mk [84,65,71,83])) λy24=>J14 (y24)) (cal (zE y21.2 (Str.mk [65,85,84,79,77,65,84,73,67])) λy27=>br y27.1 (cal (zP (zA.mk y27.2.l y27.2.at_ (zaA.mk y27.2.m.name (2:Int) y27.2.m.names y27.2.m.types y27.2.m.nodes) y27.2.e y27.2.p) (Str.mk [84,65,71,83])) λy30=>J14 (y30)) (J14 (y27.2))))) (λq13=>cal (zP q13 (Str.mk [58,58,61])) λy33=>cal (zP y33 (Str.mk [66,69,71,73,78])) λy36=>lp (ι:=zA) (λL40 q39=>jp (ι:=Bool × zA) (λJ92=>br (decide (q39.e=(0:Int))) (cal (zE q39 (Str.mk [69,78,68])) λy94=>J92 ((!y94.1),y94.2)) (J92 (false,q39))) (λq91=>br q91.1 (cal (zaD q91.2) λy97=>cal (zbB y97.2 (1:Int)) λy101=>jp (ι:=Bool) (λJ105=>br (decide (y101.2.e=(0:Int))) (J105 ((decide ((40:Int) <= (y101.2.m.names.length:Int))))) (J105 (false))) (λq104=>jp (ι:=zA) (λJ108=>br q104 (cal (za4 y101.2 (5:Int) y97.1) λy109=>J108 (y109)) (J108 (y101.2))) (λq107=>cal (zP q107 (Str.mk [58,58,61])) λy112=>cal (zaY fuel y112 (0:Int)) λy115=>asr (Nat.ble (y115.2.m.names.length + ([y101.1]:(List Str)).length) 68719476736) <| asr (Nat.ble (y115.2.m.types.length + ([y115.1]:(List Int)).length) 68719476736) <| L40 ((zA.mk y115.2.l y115.2.at_ (zaA.mk y115.2.m.name y115.2.m.tagging (y115.2.m.names ++ ([y101.1]:(List Str))) (y115.2.m.types ++ ([y115.1]:(List Int))) y115.2.m.nodes) y115.2.e y115.2.p))))) (jp (ι:=Bool × zA) (λJ126=>br (decide (q91.2.e=(0:Int))) (cal (zaD q91.2) λy128=>J126 ((!decide (y128.1.kind=(0:Int))),y128.2)) (J126 (false,q91.2))) (λq125=>jp (ι:=zA) (λJ132=>br q125.1 (cal (zaD q125.2) λy133=>cal (za4 y133.2 (7:Int) y133.1) λy136=>J132 (y136)) (J132 (q125.2))) (λq131=>br (!decide (q131.e=(0:Int))) (some ((zaA.mk (Str.mk []) (0:Int) ([]:(List Str)) ([]:(List Int)) ([]:(List zh))),q131.p,q131.e)) (some (q131.m,(0:Int),(0:Int)))))))) ((y36))))
theorem zoY:zfN=zlI:=by
 funext zaZ
 unfold zfN zlI
 rw [zxW]
def zjx (zaZ:Str):Option (zZ × Bool) :=
 br (decide ((3000:Int) < (zaZ.b.length:Int))) (some ((zZ.mk (Str.mk []) ([]:(List Str)) ([]:(List Int)) ([]:(List zg))),false)) (cal (zlI zaZ) λy2=>br (!decide (y2.2.2=(0:Int))) (some ((zZ.mk (Str.mk []) ([]:(List Str)) ([]:(List Int)) ([]:(List zg))),false)) (cal (zhl y2.1) λy4=>jp (ι:=Bool) (λJ7=>br (decide (y4.2.2=(0:Int))) (J7 ((decide ((y4.1.types.length:Int) <= (120:Int))))) (J7 (false))) (λq6=>some (y4.1,q6))))
theorem zlp:zck=zjx:=by
 funext zaZ
 unfold zck zjx
 rw [zoY]
end Go.Proofs.Q
